/- Plain functions of the lexer: the scan, step by step. -/
import Derived.Test.YtafofcenphopbaaGreatDoorP3
namespace Go.Proofs.YtafofcenphopbaaGreatDoor
namespace Lx
theorem scanU_nil (f i nt : Nat) : scanU f [] i nt = ⟨[], [], 0, 0⟩ := by
  cases f with
  | zero => rfl
  | succ f => unfold scanU; rw [if_pos rfl]
theorem scanU_succ (f : Nat) (l : Bs) (i nt : Nat) : scanU (f + 1) l i nt =
    if l = [] then ⟨[], [], 0, 0⟩
    else if hd l = 32 ∨ hd l = 10 then scanU f (l.drop 1) (i + 1) nt
    else if hd l = 47 ∧ hd (l.drop 1) = 42 then
      match cmt l with
      | none => ⟨[], [], i, 50⟩
      | some n => (scanU f (l.drop n) (i + n) nt).addC (i, i + n)
    else
      match nextI signList l with
      | none => ⟨[], [], i, 50⟩
      | some g =>
        if g.ok = false ∨ checkI g.kind ⟨g.text.toArray⟩ = false then ⟨[], [], i, 50⟩
        else if nt = 5000 then ⟨[], [], i, 2⟩
        else (scanU f (l.drop g.len) (i + g.len) (nt + 1)).addT ⟨g.kind, ⟨g.text.toArray⟩, i⟩ := rfl
theorem scanU_fuel : ∀ (f g : Nat) (l : Bs) (i nt : Nat), l.length ≤ f → l.length ≤ g → scanU f l i nt = scanU g l i nt := by
  intro f
  induction f with
  | zero =>
    intro g l i nt hf hg
    have : l = [] := List.eq_nil_of_length_eq_zero (by omega)
    subst this
    rw [scanU_nil, scanU_nil]
  | succ f ih =>
    intro g l i nt hf hg
    cases g with
    | zero =>
      have : l = [] := List.eq_nil_of_length_eq_zero (by omega)
      subst this
      rw [scanU_nil, scanU_nil]
    | succ g =>
      cases l with
      | nil => rw [scanU_nil, scanU_nil]
      | cons c l =>
        simp only [List.length_cons] at hf hg
        have hne : ¬ (c :: l) = [] := by simp
        rw [scanU_succ, scanU_succ, if_neg hne, if_neg hne]
        by_cases hb : hd (c :: l) = 32 ∨ hd (c :: l) = 10
        · rw [if_pos hb, if_pos hb]
          exact ih g _ _ _ (by simp; omega) (by simp; omega)
        · rw [if_neg hb, if_neg hb]
          by_cases hc : hd (c :: l) = 47 ∧ hd ((c :: l).drop 1) = 42
          · rw [if_pos hc, if_pos hc]
            rcases hm : cmt (c :: l) with _ | n
            · rfl
            · have := cmt_pos hm
              simp only
              rw [ih g ((c :: l).drop n) (i + n) nt (by simp; omega) (by simp; omega)]
          · rw [if_neg hc, if_neg hc]
            rcases hm : nextI signList (c :: l) with _ | gt
            · rfl
            · have := nextI_pos _ _ _ hm
              simp only
              rw [ih g ((c :: l).drop gt.len) (i + gt.len) (nt + 1) (by simp; omega) (by simp; omega)]
/-- The scan of a text from a place on. -/
def scn (s : ByteArray) (i nt : Nat) : Res := scanU (s.size - i) (s.data.toList.drop i) i nt
theorem scanR_eq (s : ByteArray) (h : s.size ≤ 20000) : scanR s = scn s 0 0 := by unfold scanR scn; rw [if_neg (by omega)]; rfl
theorem scn_end (s : ByteArray) (nt : Nat) : scn s s.size nt = ⟨[], [], 0, 0⟩ := by
  unfold scn
  rw [List.drop_of_length_le (by have : s.data.toList.length = s.size := rfl; omega), scanU_nil]
theorem scn_unfold (s : ByteArray) (j nt : Nat) (hj : j < s.size) : scn s j nt =
    if atI s j = 32 ∨ atI s j = 10 then scn s (j + 1) nt
    else if atI s j = 47 ∧ atI s (j + 1) = 42 then
      match cmt (s.data.toList.drop j) with
      | none => ⟨[], [], j, 50⟩
      | some n => (scn s (j + n) nt).addC (j, j + n)
    else
      match nextI signList (s.data.toList.drop j) with
      | none => ⟨[], [], j, 50⟩
      | some g =>
        if g.ok = false ∨ checkI g.kind ⟨g.text.toArray⟩ = false then ⟨[], [], j, 50⟩
        else if nt = 5000 then ⟨[], [], j, 2⟩
        else (scn s (j + g.len) (nt + 1)).addT ⟨g.kind, ⟨g.text.toArray⟩, j⟩ := by
  have e : (j : Int) + 1 = ((j + 1 : Nat) : Int) := by omega
  rw [e, atI_nat s (j + 1), atI_nat s j]
  unfold scn
  obtain ⟨f, hf⟩ : ∃ f, s.size - j = f + 1 := ⟨s.size - j - 1, by omega⟩
  rw [hf]
  rw [scanU_succ, if_neg (by intro h; have := drop_len s j; rw [h] at this; simp at this; omega), List.drop_drop]
  by_cases hb : hd (s.data.toList.drop j) = 32 ∨ hd (s.data.toList.drop j) = 10
  · rw [if_pos hb, if_pos hb]
    exact scanU_fuel _ _ _ _ _ (by rw [drop_len]; omega) (by rw [drop_len]; omega)
  · rw [if_neg hb, if_neg hb]
    by_cases hc : hd (s.data.toList.drop j) = 47 ∧ hd (s.data.toList.drop (j + 1)) = 42
    · rw [if_pos hc, if_pos hc]
      rcases hm : cmt (s.data.toList.drop j) with _ | n
      · rfl
      · have := cmt_pos hm
        simp only [List.drop_drop]
        rw [scanU_fuel f (s.size - (j + n)) _ _ _ (by rw [drop_len]; omega) (by rw [drop_len]; omega)]
    · rw [if_neg hc, if_neg hc]
      rcases hm : nextI signList (s.data.toList.drop j) with _ | g
      · rfl
      · have := nextI_pos _ _ _ hm
        simp only [List.drop_drop]
        rw [scanU_fuel f (s.size - (j + g.len)) _ _ _ (by rw [drop_len]; omega) (by rw [drop_len]; omega)]
/-- More ahead. -/
def Res.pre (ts : List Tok) (cs : List (Nat × Nat)) (r : Res) : Res := ⟨ts ++ r.toks, cs ++ r.coms, r.at_, r.err⟩
theorem pre_pre (t1 t2 : List Tok) (c1 c2 : List (Nat × Nat)) (r : Res) : (r.pre t2 c2).pre t1 c1 = r.pre (t1 ++ t2) (c1 ++ c2) := by simp [Res.pre]
theorem addC_pre (c : Nat × Nat) (r : Res) : r.addC c = r.pre [] [c] := rfl
theorem addT_pre (t : Tok) (r : Res) : r.addT t = r.pre [t] [] := rfl
theorem cmt_le {s : ByteArray} {j n : Nat} (h : cmt (s.data.toList.drop j) = some n) : j + n ≤ s.size := by
  have h0 := h
  unfold cmt at h
  split at h
  · cases h
  · rename_i hneg
    obtain ⟨k, hk⟩ := Int.eq_ofNat_of_zero_le (by omega : 0 ≤ Lib.index ((s.data.toList.drop j).drop 2) [42, 47])
    split at h
    · simp at h
      have hr := (cmt_end s j k (by rw [extract_end, ← hk, List.drop_drop])).1
      have : n = k + 4 := by rw [List.drop_drop] at hk; rw [← h, hk]; simp
      omega
    · cases h
theorem spc_facts (s : ByteArray) : ∀ (d i : Nat), s.size - i = d → i ≤ s.size → ∀ (nt : Nat) (ok : Bool) (j : Nat) (cs : List (Nat × Nat)), spc s i = (ok, j, cs) →
    i ≤ j ∧ j ≤ s.size ∧ cs.length ≤ j - i ∧ (ok = true → ¬ (atI s j = 32 ∨ atI s j = 10) ∧ ¬ (atI s j = 47 ∧ atI s (j + 1) = 42) ∧ scn s i nt = (scn s j nt).pre [] cs) ∧ (ok = false → scn s i nt = ⟨[], cs, j, 50⟩) := by
  intro d
  induction d using Nat.strongRecOn with
  | ind d ih =>
    intro i hd hi nt ok j cs hs
    by_cases hb : atI s (i : Int) = 32 ∨ atI s (i : Int) = 10
    · have hlt := atI_lt s i (by omega)
      rw [spc_blank s i hb] at hs
      obtain ⟨h1, h2, h3, h4, h5⟩ := ih (s.size - (i + 1)) (by omega) (i + 1) rfl (by omega) nt ok j cs hs
      refine ⟨by omega, h2, by omega, fun h => ?_, fun h => ?_⟩
      · obtain ⟨a, b, c⟩ := h4 h
        exact ⟨a, b, by rw [scn_unfold s i nt hlt, if_pos hb, c]⟩
      · rw [scn_unfold s i nt hlt, if_pos hb, h5 h]
    · by_cases hc : atI s (i : Int) = 47 ∧ atI s ((i : Int) + 1) = 42
      · have hlt := atI_lt s i (by omega)
        cases hm : cmt (s.data.toList.drop i) with
        | none =>
          rw [spc_none s i hc.1 hc.2 hm] at hs
          simp only [Prod.mk.injEq] at hs
          obtain ⟨rfl, rfl, rfl⟩ := hs
          refine ⟨Nat.le_refl _, hi, by simp, (fun h => by cases h), fun _ => ?_⟩
          rw [scn_unfold s i nt hlt, if_neg hb, if_pos hc, hm]
        | some n =>
          have hn := cmt_pos hm
          have hle := cmt_le hm
          rw [spc_com s i n hc.1 hc.2 hm] at hs
          simp only [Prod.mk.injEq] at hs
          obtain ⟨e1, e2, e3⟩ := hs
          obtain ⟨h1, h2, h3, h4, h5⟩ := ih (s.size - (i + n)) (by omega) (i + n) rfl hle nt ok j (spc s (i + n)).2.2 (by rw [← e1, ← e2])
          subst e3
          refine ⟨by omega, h2, by simp; omega, fun h => ?_, fun h => ?_⟩
          · obtain ⟨a, b, c⟩ := h4 h
            refine ⟨a, b, ?_⟩
            rw [scn_unfold s i nt hlt, if_neg hb, if_pos hc, hm]
            simp only
            rw [c, addC_pre, pre_pre]; rfl
          · rw [scn_unfold s i nt hlt, if_neg hb, if_pos hc, hm]
            simp only
            rw [h5 h]; rfl
      · rw [spc_stop s i hb hc] at hs
        simp only [Prod.mk.injEq] at hs
        obtain ⟨rfl, rfl, rfl⟩ := hs
        exact ⟨Nat.le_refl _, hi, by simp, fun _ => ⟨hb, hc, by simp [Res.pre]⟩, (fun h => by cases h)⟩
theorem scn_tok (s : ByteArray) (j nt : Nat) (hj : j < s.size) (hb : ¬ (atI s j = 32 ∨ atI s j = 10)) (hc : ¬ (atI s j = 47 ∧ atI s (j + 1) = 42)) : scn s j nt =
      match nextI signList (s.data.toList.drop j) with
      | none => ⟨[], [], j, 50⟩
      | some g =>
        if g.ok = false ∨ checkI g.kind ⟨g.text.toArray⟩ = false then ⟨[], [], j, 50⟩
        else if nt = 5000 then ⟨[], [], j, 2⟩
        else (scn s (j + g.len) (nt + 1)).addT ⟨g.kind, ⟨g.text.toArray⟩, j⟩ := by
  rw [scn_unfold s j nt hj, if_neg hb, if_neg hc]
theorem nextI_text (signs : List ByteArray) (l : Bs) (g : Got) (h : nextI signs l = some g) : g.text.length ≤ l.length := by
  unfold nextI at h
  split at h
  · cases h; simp; omega
  · split at h
    · unfold quoTok at h
      rw [Option.map_eq_some_iff] at h
      obtain ⟨x, hx, rfl⟩ := h
      have := quo_len _ _ _ hx
      simp at this
      split <;> simp <;> omega
    · split at h
      · cases h; unfold numTok; simp only; split <;> simp <;> omega
      · split at h
        · cases h; simp; omega
        · split at h
          · cases h; simp; omega
          · cases h
/-- How far a token reaches. -/
theorem nextI_len (signs : List ByteArray) (s : ByteArray) (j : Nat) (g : Got) (h : nextI signs (s.data.toList.drop j) = some g) (hok : g.ok = true) (hj : j < s.size) : j + g.len ≤ s.size := by
  have hl := drop_len s j
  unfold nextI at h
  split at h
  · cases h; have := nameLen_le (s.data.toList.drop j); simp only; omega
  · split at h
    · unfold quoTok at h
      rw [Option.map_eq_some_iff] at h
      obtain ⟨x, hx, rfl⟩ := h
      have hq := quo_len _ _ _ hx
      rw [List.length_drop] at hq
      split
      · rename_i hb
        simp only
        have : x.2 + 1 < (s.data.toList.drop j).length := by
          rcases Nat.lt_or_ge (x.2 + 1) (s.data.toList.drop j).length with h' | h'
          · exact h'
          · rw [List.drop_of_length_le h'] at hb; exact absurd hb (by decide)
        omega
      · simp only; omega
    · split at h
      · cases h
        have hn := numScan_le (s.data.toList.drop j) false
        unfold numTok
        simp only
        split
        · rename_i hb
          simp only
          have : (numScan (s.data.toList.drop j) false).1 < (s.data.toList.drop j).length := by
            rcases Nat.lt_or_ge (numScan (s.data.toList.drop j) false).1 (s.data.toList.drop j).length with h' | h'
            · exact h'
            · rw [List.drop_of_length_le h'] at hb; exact absurd hb.1 (by decide)
          omega
        · simp only; omega
      · split at h
        · rename_i hb; cases h; simp only; omega
        · split at h
          · cases h; simp only; omega
          · cases h
/-- Comments one behind the other, from a place on, within a text of so many bytes. -/
def Chain (n : Nat) : Nat → List (Nat × Nat) → Prop
  | i, [] => i ≤ n
  | i, c :: cs => i ≤ c.1 ∧ c.1 < c.2 ∧ Chain n c.2 cs
theorem Chain.mono {n i j : Nat} {cs : List (Nat × Nat)} (h : Chain n j cs) (hij : i ≤ j) : Chain n i cs := by
  cases cs with
  | nil => exact Nat.le_trans hij h
  | cons c cs => exact ⟨Nat.le_trans hij h.1, h.2⟩
theorem scn_chain (s : ByteArray) : ∀ (d i nt : Nat), s.size - i = d → i ≤ s.size → (scn s i nt).err = 0 → Chain s.size i (scn s i nt).coms := by
  intro d
  induction d using Nat.strongRecOn with
  | ind d ih =>
    intro i nt hd hi he
    rcases Nat.lt_or_ge i s.size with hlt | hge
    · rw [scn_unfold s i nt hlt] at he ⊢
      by_cases hb : atI s (i : Int) = 32 ∨ atI s (i : Int) = 10
      · rw [if_pos hb] at he ⊢
        exact (ih _ (by omega) (i + 1) nt rfl (by omega) he).mono (by omega)
      · rw [if_neg hb] at he ⊢
        by_cases hc : atI s (i : Int) = 47 ∧ atI s ((i : Int) + 1) = 42
        · rw [if_pos hc] at he ⊢
          rcases hm : cmt (s.data.toList.drop i) with _ | n
          · rw [hm] at he; exact absurd (show (50 : Int) = 0 from he) (by decide)
          · rw [hm] at he
            have hp := cmt_pos hm
            have hl := cmt_le hm
            exact ⟨Nat.le_refl _, by simp only; omega, ih _ (by omega) (i + n) nt rfl hl he⟩
        · rw [if_neg hc] at he ⊢
          rcases hm : nextI signList (s.data.toList.drop i) with _ | g
          · rw [hm] at he; exact absurd (show (50 : Int) = 0 from he) (by decide)
          · rw [hm] at he
            simp only at he ⊢
            have hp := nextI_pos _ _ _ hm
            by_cases h1 : g.ok = false ∨ checkI g.kind ⟨g.text.toArray⟩ = false
            · rw [if_pos h1] at he; exact absurd (show (50 : Int) = 0 from he) (by decide)
            · rw [if_neg h1] at he ⊢
              by_cases h2 : nt = 5000
              · rw [if_pos h2] at he; exact absurd (show (2 : Int) = 0 from he) (by decide)
              · rw [if_neg h2] at he ⊢
                have hl := nextI_len _ s i g hm (by simpa using fun h => h1 (.inl h)) hlt
                exact (ih _ (by omega) (i + g.len) (nt + 1) rfl hl he).mono (by omega)
    · obtain rfl : i = s.size := by omega
      rw [scn_end]; exact Nat.le_refl _
theorem scanR_small {s : ByteArray} (h : (scanR s).err = 0) : s.size ≤ 20000 := by
  unfold scanR at h
  split at h
  · exact absurd h (by decide)
  · omega
theorem scanR_chain (s : ByteArray) (h : (scanR s).err = 0) : Chain s.size 0 (scanR s).coms := by
  have hs := scanR_small h
  rw [scanR_eq s hs] at h ⊢
  exact scn_chain s _ 0 0 rfl (Nat.zero_le _) h
/-- A text with one blank instead of each comment, from a place on. -/
def stripL (l : Bs) : Nat → List (Nat × Nat) → Bs
  | i, [] => l.drop i
  | i, c :: cs => (l.drop i).take (c.1 - i) ++ 32 :: stripL l c.2 cs
def stripR (s : ByteArray) : ByteArray := if (scanR s).err = 0 then ⟨(stripL s.data.toList 0 (scanR s).coms).toArray⟩ else ⟨#[]⟩
end Lx
end Go.Proofs.YtafofcenphopbaaGreatDoor
