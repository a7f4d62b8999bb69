/- Plain laws of the scan: a source as a list of what it is made of. -/
import Derived.Test.YtafofcenphopbaaGreatDoorL1
namespace Go.Proofs.YtafofcenphopbaaGreatDoor
namespace Lx

/-- What stands ahead: a token, a comment, or a blank: how many bytes. -/
structure It where
  len : Nat
  tok : Option (Int × ByteArray)
  com : Bool
def step (l : Bs) : Option It :=
  if hd l = 32 ∨ hd l = 10 then some ⟨1, none, false⟩
  else if hd l = 47 ∧ hd (l.drop 1) = 42 then (cmt l).map fun n => ⟨n, none, true⟩
  else match nextI signList l with
    | none => none
    | some g => if g.ok = false ∨ checkI g.kind ⟨g.text.toArray⟩ = false then none else some ⟨g.len, some (g.kind, ⟨g.text.toArray⟩), false⟩
theorem step_nil : step [] = none := by
  unfold step
  rw [if_neg (by decide), if_neg (by decide)]
  have : nextI signList [] = none := by unfold nextI; simp [hd]; decide
  rw [this]
theorem step_ne {l : Bs} {it : It} (h : step l = some it) : l ≠ [] := by rintro rfl; rw [step_nil] at h; cases h
theorem step_len {l : Bs} {it : It} (h : step l = some it) : 1 ≤ it.len ∧ it.len ≤ l.length := by
  have hne := step_ne h
  have h0 : 0 < l.length := by cases l with
    | nil => exact absurd rfl hne
    | cons _ _ => simp
  unfold step at h
  split at h
  · cases h; exact ⟨Nat.le_refl _, h0⟩
  · split at h
    · rw [Option.map_eq_some_iff] at h
      obtain ⟨n, hn, rfl⟩ := h
      have := cmt_pos hn
      exact ⟨by simp only; omega, cmt_fits l n hn⟩
    · split at h
      · cases h
      · rename_i g hg
        split at h
        · cases h
        · rename_i hok
          cases h
          exact ⟨nextI_pos _ _ _ hg, nextI_fits _ _ _ hg (by simpa using fun h => hok (.inl h))⟩
/-- A step is taken again, whatever stands behind it, if it goes on alike. -/
theorem step_like {l l' : Bs} {it : It} (h : step l = some it) (hl : Like l l' it.len) : step l' = some it := by
  have hp := step_len h
  have hhd := hd_take hl.take hp.1
  unfold step at h ⊢
  rw [hhd]
  split at h
  · rename_i hb; rw [if_pos hb]; exact h
  · rename_i hb
    rw [if_neg hb]
    split at h
    · rename_i hc
      rw [Option.map_eq_some_iff] at h
      obtain ⟨n, hn, rfl⟩ := h
      have h4 := cmt_pos hn
      have h1 : hd (l'.drop 1) = hd (l.drop 1) := hd_drop hl.take (by simp only; omega)
      rw [if_pos (by rw [h1]; exact hc), cmt_like l l' n hn hl.len hl.take]; rfl
    · rename_i hc
      split at h
      · cases h
      · rename_i g hg
        split at h
        · cases h
        · rename_i hok
          cases h
          have hgo : g.ok = true := by simpa using fun h => hok (.inl h)
          rw [if_neg, nextI_like l l' g hg hgo hl]
          · simp only; rw [if_neg hok]
          · rintro ⟨a, b⟩
            rcases Nat.lt_or_ge 1 g.len with h2 | h2
            · rw [hd_drop hl.take (by exact h2)] at b; exact hc ⟨a, b⟩
            · have hlk := hl.look
              have e : g.len = 1 := by have := hp.1; simp only at this; omega
              simp only at hlk
              rw [e] at hlk
              rcases hlk with h | h
              · rw [b] at h; exact absurd h (by decide)
              · rw [h.1] at b; exact hc ⟨a, b⟩
theorem Like.cut {l : Bs} {n m : Nat} (h1 : n ≤ m) (h2 : m ≤ l.length) : Like l (l.take m) n := by
  refine ⟨by rw [List.length_take]; omega, by rw [List.take_take, Nat.min_eq_left h1], ?_⟩
  rcases Nat.lt_or_ge n m with h | h
  · right
    have e0 : ∀ k, k < m → hd ((l.take m).drop k) = hd (l.drop k) := fun k hk => hd_drop (n := m) (by rw [List.take_take, Nat.min_self]) hk
    refine ⟨e0 n h, fun _ hd' => ?_⟩
    rcases Nat.lt_or_ge (n + 1) m with h' | h'
    · rwa [e0 _ h'] at hd'
    · rw [List.drop_of_length_le (by rw [List.length_take]; omega)] at hd'; exact absurd hd' (by decide)
  · left
    rw [List.drop_of_length_le (by rw [List.length_take]; omega)]; decide
/-- More behind a blank or a line feed. -/
theorem Like.more {l : Bs} {n : Nat} (h1 : n ≤ l.length) (c : UInt8) (r : Bs) (hc : c = 32 ∨ c = 10) : Like l (l ++ c :: r) n := by
  refine ⟨by simp; omega, by rw [List.take_append_of_le_length h1], ?_⟩
  have hb : brk (c.toNat : Int) = true ∧ digI (c.toNat : Int) = false := by rcases hc with rfl | rfl <;> decide
  rcases Nat.lt_or_ge n l.length with h | h
  · right
    have e0 : ∀ k, k < l.length → hd ((l ++ c :: r).drop k) = hd (l.drop k) := fun k hk => hd_drop (n := l.length) (by simp) hk
    refine ⟨e0 n h, fun _ hd' => ?_⟩
    rcases Nat.lt_or_ge (n + 1) l.length with h' | h'
    · rwa [e0 _ h'] at hd'
    · have e : n + 1 = l.length := by omega
      rw [e, List.drop_append, List.drop_of_length_le (Nat.le_refl _), Nat.sub_self] at hd'
      rw [show hd ([] ++ (c :: r).drop 0) = (c.toNat : Int) from rfl, hb.2] at hd'; cases hd'
  · left
    have e : n = l.length := by omega
    rw [e, List.drop_append, List.drop_of_length_le (Nat.le_refl _), Nat.sub_self]
    exact hb.1

/-- What a text is made of, and what is left: nothing, or what begins wrong. -/
def run : Nat → Bs → List It × Bs
  | 0, l => ([], l)
  | f + 1, l => match step l with
    | none => ([], l)
    | some it => (it :: (run f (l.drop it.len)).1, (run f (l.drop it.len)).2)
theorem run_fuel : ∀ (f g : Nat) (l : Bs), l.length ≤ f → l.length ≤ g → run f l = run g l := by
  intro f
  induction f with
  | zero =>
    intro g l hf hg
    have : l = [] := List.eq_nil_of_length_eq_zero (by omega)
    subst this
    cases g with
    | zero => rfl
    | succ g => unfold run; rw [step_nil]
  | succ f ih =>
    intro g l hf hg
    cases g with
    | zero =>
      have : l = [] := List.eq_nil_of_length_eq_zero (by omega)
      subst this
      unfold run; rw [step_nil]
    | succ g =>
      unfold run
      rcases hs : step l with _ | it
      · rfl
      · have := step_len hs
        simp only
        rw [ih g (l.drop it.len) (by simp; omega) (by simp; omega)]
def parse (l : Bs) : List It × Bs := run l.length l
theorem parse_none {l : Bs} (h : step l = none) : parse l = ([], l) := by
  unfold parse
  cases hl : l.length with
  | zero => rfl
  | succ f => unfold run; rw [h]
theorem parse_some {l : Bs} {it : It} (h : step l = some it) : parse l = (it :: (parse (l.drop it.len)).1, (parse (l.drop it.len)).2) := by
  have hs := step_len h
  unfold parse
  obtain ⟨f, hf⟩ : ∃ f, l.length = f + 1 := ⟨l.length - 1, by omega⟩
  rw [hf]
  conv => lhs; unfold run
  rw [h]
  simp only
  rw [run_fuel f (l.drop it.len).length (l.drop it.len) (by simp; omega) (Nat.le_refl _)]
theorem parse_nil : parse [] = ([], []) := parse_none step_nil
/-- Induction along the steps. -/
theorem parse_ind {P : Bs → Prop} (h0 : ∀ l, step l = none → P l) (h1 : ∀ l it, step l = some it → P (l.drop it.len) → P l) (l : Bs) : P l := by
  induction h : l.length using Nat.strongRecOn generalizing l with
  | ind n ih =>
    rcases hs : step l with _ | it
    · exact h0 l hs
    · have := step_len hs
      exact h1 l it hs (ih (l.drop it.len).length (by simp; omega) _ rfl)
/-- How many bytes. -/
def wid : List It → Nat
  | [] => 0
  | it :: r => it.len + wid r
theorem parse_rest (l : Bs) : wid (parse l).1 ≤ l.length ∧ (parse l).2 = l.drop (wid (parse l).1) ∧ step (parse l).2 = none := by
  refine parse_ind (P := fun l => wid (parse l).1 ≤ l.length ∧ (parse l).2 = l.drop (wid (parse l).1) ∧ step (parse l).2 = none) (fun l h => ?_) (fun l it h ih => ?_) l
  · rw [parse_none h]; exact ⟨Nat.zero_le _, rfl, h⟩
  · rw [parse_some h]
    have := step_len h
    obtain ⟨a, b, c⟩ := ih
    rw [List.length_drop] at a
    refine ⟨by simp only [wid]; omega, ?_, c⟩
    simp only [wid]
    rw [b, List.drop_drop]
/-- The tokens of this, from a place on. -/
def itoks : Nat → List It → List Tok
  | _, [] => []
  | i, it :: r => match it.tok with
    | some (k, t) => ⟨k, t, i⟩ :: itoks (i + it.len) r
    | none => itoks (i + it.len) r
def icoms : Nat → List It → List (Nat × Nat)
  | _, [] => []
  | i, it :: r => if it.com = true ∧ it.tok = none then (i, i + it.len) :: icoms (i + it.len) r else icoms (i + it.len) r
theorem itoks_len (i : Nat) (r : List It) : (itoks i r).length ≤ r.length := by
  induction r generalizing i with
  | nil => exact Nat.le_refl _
  | cons it r ih => have := ih (i + it.len); unfold itoks; split <;> simp <;> omega
def scl (l : Bs) (i nt : Nat) : Res := scanU l.length l i nt
theorem scl_nil (i nt : Nat) : scl [] i nt = ⟨[], [], 0, 0⟩ := rfl
theorem scl_none {l : Bs} (h : step l = none) (hne : l ≠ []) (i nt : Nat) : scl l i nt = ⟨[], [], i, 50⟩ := by
  unfold scl
  obtain ⟨f, hf⟩ : ∃ f, l.length = f + 1 := ⟨l.length - 1, by cases l with
    | nil => exact absurd rfl hne
    | cons _ _ => simp⟩
  rw [hf, scanU_succ, if_neg hne]
  unfold step at h
  split at h
  · cases h
  · rename_i hb
    rw [if_neg hb]
    split at h
    · rename_i hc
      rw [if_pos hc]
      rw [Option.map_eq_none_iff] at h
      rw [h]
    · rename_i hc
      rw [if_neg hc]
      rcases hg : nextI signList l with _ | g
      · rfl
      · rw [hg] at h
        simp only at h ⊢
        split at h
        · rename_i ho; rw [if_pos ho]
        · cases h
theorem scl_some {l : Bs} {it : It} (h : step l = some it) (i nt : Nat) : scl l i nt = match it.tok with
    | some (k, t) => if nt = 5000 then ⟨[], [], i, 2⟩ else (scl (l.drop it.len) (i + it.len) (nt + 1)).addT ⟨k, t, i⟩
    | none => if it.com = true then (scl (l.drop it.len) (i + it.len) nt).addC (i, i + it.len) else scl (l.drop it.len) (i + it.len) nt := by
  have hs := step_len h
  have hne := step_ne h
  unfold scl
  obtain ⟨f, hf⟩ : ∃ f, l.length = f + 1 := ⟨l.length - 1, by omega⟩
  rw [hf, scanU_succ, if_neg hne]
  have hfu : ∀ j mt, scanU f (l.drop it.len) j mt = scanU (l.drop it.len).length (l.drop it.len) j mt := fun j mt => scanU_fuel _ _ _ _ _ (by simp; omega) (Nat.le_refl _)
  unfold step at h
  split at h
  · rename_i hb
    cases h
    rw [if_pos hb]
    exact hfu _ _
  · rename_i hb
    rw [if_neg hb]
    split at h
    · rename_i hc
      rw [if_pos hc]
      rw [Option.map_eq_some_iff] at h
      obtain ⟨n, hn, rfl⟩ := h
      rw [hn]
      simp only
      rw [hfu]; rfl
    · rename_i hc
      rw [if_neg hc]
      rcases hg : nextI signList l with _ | g
      · rw [hg] at h; cases h
      · rw [hg] at h
        simp only at h ⊢
        split at h
        · cases h
        · rename_i ho
          cases h
          rw [if_neg ho]
          simp only
          rw [hfu]
/-- How many tokens. -/
def ntok : List It → Nat
  | [] => 0
  | it :: r => (if it.tok = none then 0 else 1) + ntok r
theorem itoks_ntok (r : List It) : ∀ i, (itoks i r).length = ntok r := by
  induction r with
  | nil => intro i; rfl
  | cons it r ih =>
    intro i
    have := ih (i + it.len)
    unfold itoks ntok
    rcases it.tok with _ | ⟨k, t⟩
    · simp only; rw [if_pos trivial]; omega
    · simp only; rw [if_neg (by simp), List.length_cons]; omega
theorem ntok_wid (r : List It) (h : ∀ it ∈ r, 1 ≤ it.len) : ntok r ≤ wid r := by
  induction r with
  | nil => exact Nat.le_refl _
  | cons it r ih =>
    have := ih (fun x hx => h x (by simp [hx]))
    have := h it (by simp)
    unfold ntok wid; split <;> omega
theorem parse_pos (l : Bs) : ∀ it ∈ (parse l).1, 1 ≤ it.len := by
  refine parse_ind (P := fun l => ∀ it ∈ (parse l).1, 1 ≤ it.len) (fun l h => ?_) (fun l it h ih => ?_) l
  · rw [parse_none h]; intro it h; cases h
  · rw [parse_some h]
    intro x hx
    simp only [List.mem_cons] at hx
    rcases hx with rfl | hx
    · exact (step_len h).1
    · exact ih x hx
theorem scl_parse (l : Bs) : ∀ i nt, nt + ntok (parse l).1 ≤ 5000 → scl l i nt = ⟨itoks i (parse l).1, icoms i (parse l).1, if (parse l).2 = [] then 0 else i + wid (parse l).1, if (parse l).2 = [] then 0 else 50⟩ := by
  refine parse_ind (P := fun l => ∀ i nt, nt + ntok (parse l).1 ≤ 5000 → scl l i nt = ⟨itoks i (parse l).1, icoms i (parse l).1, if (parse l).2 = [] then 0 else i + wid (parse l).1, if (parse l).2 = [] then 0 else 50⟩) (fun l h => ?_) (fun l it h ih => ?_) l
  · intro i nt _
    rw [parse_none h]
    by_cases hne : l = []
    · subst hne; rfl
    · rw [scl_none h hne, if_neg hne, if_neg hne]; rfl
  · intro i nt hn
    have hs := step_len h
    rw [parse_some h] at hn ⊢
    rw [scl_some h]
    simp only [itoks, icoms, wid, ntok] at hn ⊢
    rcases ht : it.tok with _ | ⟨k, t⟩
    · rw [ht] at hn
      simp only [if_true] at hn ⊢
      have e := ih (i + it.len) nt (by omega)
      rw [e]
      by_cases hc : it.com = true
      · simp [hc, Res.addC, Nat.add_assoc]
      · simp [hc, Nat.add_assoc]
    · rw [ht] at hn
      rw [if_neg (by simp)] at hn
      simp only
      have e := ih (i + it.len) (nt + 1) (by omega)
      rw [if_neg (by omega), e]
      simp [Res.addT, Nat.add_assoc]
theorem scanR_parse' (s : ByteArray) (h : s.size ≤ 20000) (h2 : ntok (parse s.data.toList).1 ≤ 5000) : scanR s = ⟨itoks 0 (parse s.data.toList).1, icoms 0 (parse s.data.toList).1, if (parse s.data.toList).2 = [] then 0 else wid (parse s.data.toList).1, if (parse s.data.toList).2 = [] then 0 else 50⟩ := by
  unfold scanR
  rw [if_neg (by omega)]
  have := scl_parse s.data.toList 0 0 (by omega)
  unfold scl at this
  rw [show s.data.toList.length = s.size from rfl] at this
  rw [this]; simp
theorem scanR_parse (s : ByteArray) (h : s.size ≤ 5000) : scanR s = ⟨itoks 0 (parse s.data.toList).1, icoms 0 (parse s.data.toList).1, if (parse s.data.toList).2 = [] then 0 else wid (parse s.data.toList).1, if (parse s.data.toList).2 = [] then 0 else 50⟩ := by
  refine scanR_parse' s (by omega) ?_
  have h1 := ntok_wid _ (parse_pos s.data.toList)
  have h2 := (parse_rest s.data.toList).1
  rw [show s.data.toList.length = s.size from rfl] at h2
  omega
/-- What was read is read again, if what stands behind is cut off. -/
theorem parse_cut (l : Bs) : parse (l.take (wid (parse l).1)) = ((parse l).1, []) := by
  refine parse_ind (P := fun l => parse (l.take (wid (parse l).1)) = ((parse l).1, [])) (fun l h => ?_) (fun l it h ih => ?_) l
  · rw [parse_none h]; exact parse_nil
  · rw [parse_some h]
    have hs := step_len h
    have hr := parse_rest (l.drop it.len)
    rw [List.length_drop] at hr
    have hstep : step (l.take (it.len + wid (parse (l.drop it.len)).1)) = some it := step_like h (Like.cut (Nat.le_add_right _ _) (by omega))
    simp only [wid]
    rw [parse_some hstep, List.drop_take, show it.len + wid (parse (l.drop it.len)).1 - it.len = wid (parse (l.drop it.len)).1 from by omega, ih]
theorem parse_left (l : Bs) : parse (parse l).2 = ([], (parse l).2) := parse_none (parse_rest l).2.2
/-- Two sources, one behind the other. -/
theorem parse_more (a : Bs) (c : UInt8) (r : Bs) (hc : c = 32 ∨ c = 10) (ha : (parse a).2 = []) : parse (a ++ c :: r) = ((parse a).1 ++ ⟨1, none, false⟩ :: (parse r).1, (parse r).2) := by
  revert ha
  refine parse_ind (P := fun a => (parse a).2 = [] → parse (a ++ c :: r) = ((parse a).1 ++ ⟨1, none, false⟩ :: (parse r).1, (parse r).2)) (fun l h => ?_) (fun l it h ih => ?_) a
  · intro ha
    rw [parse_none h] at ha ⊢
    simp only at ha
    subst ha
    have hs : step (c :: r) = some ⟨1, none, false⟩ := by
      unfold step
      rw [if_pos]
      rcases hc with rfl | rfl
      · exact .inl rfl
      · exact .inr rfl
    rw [List.nil_append, parse_some hs]; rfl
  · intro ha
    have hs := step_len h
    rw [parse_some h] at ha ⊢
    have hstep : step (l ++ c :: r) = some it := step_like h (Like.more hs.2 c r hc)
    rw [parse_some hstep, List.drop_append_of_le_length hs.2, ih ha]; rfl
end Lx
end Go.Proofs.YtafofcenphopbaaGreatDoor
