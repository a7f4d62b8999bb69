/- Plain laws: the first error; without comments; side by side. -/
import Derived.Test.YtafofcenphopbaaGreatDoorL2
namespace Go.Proofs.YtafofcenphopbaaGreatDoor
namespace Lx

theorem extract_pre (s : ByteArray) (k : Nat) : (s.extract 0 k).data.toList = s.data.toList.take k := by
  simp [ByteArray.data_extract]
theorem size_list (s : ByteArray) : s.data.toList.length = s.size := rfl
theorem err_two (s : ByteArray) (h : s.size ≤ 5000) : (scanR s).err = 0 ∨ (scanR s).err = 50 := by
  rw [scanR_parse s h]
  by_cases he : (parse s.data.toList).2 = []
  · left; exact if_pos he
  · right; exact if_neg he
/-- The first error: what stands ahead is a source, what follows is wrong at once. -/
theorem law_first (s : ByteArray) (h : s.size ≤ 2000) (he : (scanR s).err ≠ 0) :
    (scanR s).err = 50 ∧ (scanR s).at_ < s.size ∧ (scanR (s.extract 0 (scanR s).at_)).err = 0 ∧ (scanR (s.extract (scanR s).at_ s.size)).err = 50 ∧ (scanR (s.extract (scanR s).at_ s.size)).at_ = 0 := by
  have hp := scanR_parse s (by omega)
  have hr := parse_rest s.data.toList
  have hne : (parse s.data.toList).2 ≠ [] := by
    intro e; rw [hp] at he; exact he (if_pos e)
  have hat : (scanR s).at_ = wid (parse s.data.toList).1 := by rw [hp]; exact if_neg hne
  have hlt : wid (parse s.data.toList).1 < s.size := by
    rcases Nat.lt_or_ge (wid (parse s.data.toList).1) s.size with h' | h'
    · exact h'
    · rw [hr.2.1, List.drop_of_length_le h'] at hne; exact absurd rfl hne
  refine ⟨by rw [hp]; exact if_neg hne, by omega, ?_⟩
  rw [hat]
  have hs1 : (s.extract 0 (wid (parse s.data.toList).1)).size ≤ 5000 := by rw [ByteArray.size_extract]; omega
  have hs2 : (s.extract (wid (parse s.data.toList).1) s.size).size ≤ 5000 := by rw [ByteArray.size_extract]; omega
  have e2 := parse_left s.data.toList
  refine ⟨?_, ?_, ?_⟩
  · rw [scanR_parse _ hs1, extract_pre, parse_cut]; rfl
  · rw [scanR_parse _ hs2, extract_end, ← hr.2.1, e2]; exact if_neg hne
  · rw [scanR_parse _ hs2, extract_end, ← hr.2.1, e2]; exact if_neg hne

/-- A text with one blank instead of each comment. -/
def stripB : Bs → List It → Bs
  | l, [] => l
  | l, it :: r => (if it.com = true ∧ it.tok = none then [32] else l.take it.len) ++ stripB (l.drop it.len) r
def bl (it : It) : It := if it.com = true ∧ it.tok = none then ⟨1, none, false⟩ else it
theorem icoms_chain (L : Bs) : ∀ (r : List It) (i : Nat), (∀ it ∈ r, 1 ≤ it.len) → i + wid r ≤ L.length → Chain L.length i (icoms i r) := by
  intro r
  induction r with
  | nil => intro i _ h; simpa [icoms, Chain, wid] using h
  | cons it r ih =>
    intro i hp h
    simp only [wid] at h
    have h1 := hp it (by simp)
    have := ih (i + it.len) (fun x hx => hp x (by simp [hx])) (by omega)
    unfold icoms
    split
    · exact ⟨Nat.le_refl _, by simp only; omega, this⟩
    · exact this.mono (by omega)
theorem stripL_skip (L : Bs) (cs : List (Nat × Nat)) (i n : Nat) (h : Chain L.length (i + n) cs) : stripL L i cs = (L.drop i).take n ++ stripL L (i + n) cs := by
  cases cs with
  | nil =>
    unfold stripL
    have : L.drop (i + n) = (L.drop i).drop n := by rw [List.drop_drop]
    rw [this, List.take_append_drop]
  | cons c cs =>
    unfold stripL
    have h1 := h.1
    obtain ⟨m, hm⟩ : ∃ m, c.1 = i + n + m := ⟨c.1 - (i + n), by omega⟩
    rw [hm, show i + n + m - i = n + m from by omega, show i + n + m - (i + n) = m from by omega, List.take_add, List.drop_drop, List.append_assoc]
theorem stripL_stripB (L : Bs) : ∀ (r : List It) (i : Nat), (∀ it ∈ r, 1 ≤ it.len) → i + wid r ≤ L.length → stripL L i (icoms i r) = stripB (L.drop i) r := by
  intro r
  induction r with
  | nil => intro i _ _; rfl
  | cons it r ih =>
    intro i hp h
    simp only [wid] at h
    have h2 : ∀ x ∈ r, 1 ≤ x.len := fun x hx => hp x (by simp [hx])
    have e := ih (i + it.len) h2 (by omega)
    have hch := icoms_chain L r (i + it.len) h2 (by omega)
    unfold icoms stripB
    split
    · simp only [stripL, Nat.sub_self, List.take_zero, List.nil_append]
      rw [e, List.drop_drop]; rfl
    · rw [stripL_skip L _ i it.len hch, e, List.drop_drop]
theorem step_com {l : Bs} {it : It} (h : step l = some it) (hc : it.com = true) : it.tok = none ∧ 4 ≤ it.len := by
  unfold step at h
  split at h
  · cases h; cases hc
  · split at h
    · rw [Option.map_eq_some_iff] at h
      obtain ⟨n, hn, rfl⟩ := h
      exact ⟨rfl, cmt_pos hn⟩
    · split at h
      · cases h
      · split at h
        · cases h
        · cases h; cases hc
/-- It goes on alike. -/
def Looks (l l' : Bs) : Prop := brk (hd l') = true ∨ (hd l' = hd l ∧ (hd l' = 46 → digI (hd (l'.drop 1)) = true → digI (hd (l.drop 1)) = true))
theorem strip_hd (l : Bs) : brk (hd (stripB l (parse l).1)) = true ∨ hd (stripB l (parse l).1) = hd l := by
  rcases hs : step l with _ | it
  · rw [parse_none hs]; exact .inr rfl
  · rw [parse_some hs]
    unfold stripB
    split
    · left; rfl
    · right
      obtain ⟨h1, h2⟩ := step_len hs
      exact hd_take (n := it.len) (by rw [List.take_append_of_le_length (by rw [List.length_take]; omega), List.take_take, Nat.min_self]) h1
theorem strip_looks (l : Bs) : Looks l (stripB l (parse l).1) := by
  rcases hs : step l with _ | it
  · rw [parse_none hs]; exact .inr ⟨rfl, fun _ => id⟩
  · rw [parse_some hs]
    unfold stripB
    split
    · left; rfl
    · right
      obtain ⟨h1, h2⟩ := step_len hs
      have htk : (l.take it.len ++ stripB (l.drop it.len) (parse (l.drop it.len)).1).take it.len = l.take it.len := by
        rw [List.take_append_of_le_length (by rw [List.length_take]; omega), List.take_take, Nat.min_self]
      refine ⟨hd_take htk h1, fun _ hd' => ?_⟩
      rcases Nat.lt_or_ge 1 it.len with h | h
      · rwa [hd_drop htk h] at hd'
      · have e1 : it.len = 1 := by omega
        rw [e1] at hd'
        rw [List.drop_append_of_le_length (by rw [List.length_take]; omega), List.drop_of_length_le (by rw [List.length_take]; omega), List.nil_append] at hd'
        rcases strip_hd (l.drop 1) with hb | hb
        · rw [brk_dig hb] at hd'; cases hd'
        · rwa [hb] at hd'
theorem parse_strip (l : Bs) : (parse l).2 = [] → parse (stripB l (parse l).1) = ((parse l).1.map bl, []) := by
  refine parse_ind (P := fun l => (parse l).2 = [] → parse (stripB l (parse l).1) = ((parse l).1.map bl, [])) (fun l h => ?_) (fun l it h ih => ?_) l
  · intro he
    rw [parse_none h] at he ⊢
    simp only at he
    subst he
    exact parse_nil
  · intro he
    rw [parse_some h] at he ⊢
    obtain ⟨h1, h2⟩ := step_len h
    simp only [List.map_cons]
    unfold stripB
    by_cases hc : it.com = true ∧ it.tok = none
    · rw [if_pos hc]
      have hs : step ([32] ++ stripB (l.drop it.len) (parse (l.drop it.len)).1) = some ⟨1, none, false⟩ := by unfold step; rw [if_pos (.inl rfl)]
      rw [parse_some hs]
      have e : bl it = ⟨1, none, false⟩ := if_pos hc
      rw [e]
      simp only [List.cons_append, List.nil_append, List.drop_succ_cons, List.drop_zero]
      rw [ih he]
    · rw [if_neg hc]
      have e : bl it = it := if_neg hc
      rw [e]
      have hdr : (l.take it.len ++ stripB (l.drop it.len) (parse (l.drop it.len)).1).drop it.len = stripB (l.drop it.len) (parse (l.drop it.len)).1 := by
        rw [List.drop_append_of_le_length (by rw [List.length_take]; omega), List.drop_of_length_le (by rw [List.length_take]; omega), List.nil_append]
      have hl : Like l (l.take it.len ++ stripB (l.drop it.len) (parse (l.drop it.len)).1) it.len := by
        refine ⟨by simp; omega, by rw [List.take_append_of_le_length (by rw [List.length_take]; omega), List.take_take, Nat.min_self], ?_⟩
        have := strip_looks (l.drop it.len)
        unfold Looks at this
        rw [← List.drop_drop, ← List.drop_drop, hdr]
        rcases this with h | h
        · exact .inl h
        · exact .inr h
      rw [parse_some (step_like h hl), hdr, ih he]
theorem icoms_bl (r : List It) : ∀ i, icoms i (r.map bl) = [] := by
  induction r with
  | nil => intro i; rfl
  | cons it r ih =>
    intro i
    simp only [List.map_cons, icoms]
    rw [if_neg, ih]
    unfold bl
    split
    · rintro ⟨h, _⟩; cases h
    · assumption
/-- Kind and text alone. -/
def kt (t : Tok) : Int × ByteArray := (t.kind, t.text)
theorem itoks_bl (r : List It) : ∀ i j, (itoks i (r.map bl)).map kt = (itoks j r).map kt := by
  induction r with
  | nil => intro i j; rfl
  | cons it r ih =>
    intro i j
    simp only [List.map_cons]
    unfold itoks
    by_cases hc : it.com = true ∧ it.tok = none
    · have e : bl it = ⟨1, none, false⟩ := if_pos hc
      rw [e, hc.2]
      simp only
      exact ih _ _
    · have e : bl it = it := if_neg hc
      rw [e]
      rcases it.tok with _ | ⟨k, t⟩
      · exact ih _ _
      · simp only [List.map_cons]
        rw [ih _ (j + it.len)]; rfl
/-- How many bytes less. -/
def less : List (Nat × Nat) → Nat
  | [] => 0
  | c :: cs => (c.2 - c.1 - 1) + less cs
theorem stripB_len : ∀ (r : List It) (l : Bs) (i : Nat), (∀ it ∈ r, 1 ≤ it.len) → wid r ≤ l.length → (stripB l r).length + less (icoms i r) = l.length := by
  intro r
  induction r with
  | nil => intro l i _ _; simp [stripB, icoms, less]
  | cons it r ih =>
    intro l i hp h
    simp only [wid] at h
    have h1 := hp it (by simp)
    have e := ih (l.drop it.len) (i + it.len) (fun x hx => hp x (by simp [hx])) (by simp; omega)
    rw [List.length_drop] at e
    unfold stripB icoms
    split
    · simp only [less, List.length_append, List.length_cons, List.length_nil]; omega
    · rw [List.length_append, List.length_take]; omega
theorem stripR_list (s : ByteArray) (h : s.size ≤ 2000) (he : (scanR s).err = 0) : (stripR s).data.toList = stripB s.data.toList (parse s.data.toList).1 ∧ (parse s.data.toList).2 = [] := by
  have hp := scanR_parse s (by omega)
  have hnil : (parse s.data.toList).2 = [] := by
    rcases Classical.em ((parse s.data.toList).2 = []) with h | h
    · exact h
    · rw [hp] at he; simp only at he; rw [if_neg h] at he; cases he
  refine ⟨?_, hnil⟩
  unfold stripR
  rw [if_pos he, hp]
  have := stripL_stripB s.data.toList (parse s.data.toList).1 0 (parse_pos _) (by have := (parse_rest s.data.toList).1; omega)
  simpa using this
theorem law_stripped (s : ByteArray) (h : s.size ≤ 2000) (he : (scanR s).err = 0) :
    (scanR (stripR s)).err = 0 ∧ (stripR (stripR s)) = stripR s ∧ ((scanR (stripR s)).toks.map kt = (scanR s).toks.map kt) ∧ (stripR s).size + less (scanR s).coms = s.size := by
  obtain ⟨h1, h2⟩ := stripR_list s h he
  have hlen := stripB_len (parse s.data.toList).1 s.data.toList 0 (parse_pos _) (parse_rest _).1
  rw [← h1] at hlen
  have hsz : (stripR s).size + less (icoms 0 (parse s.data.toList).1) = s.size := hlen
  have hp := parse_strip _ h2
  rw [← h1] at hp
  have hs2 := scanR_parse (stripR s) (by omega)
  rw [hp] at hs2
  have he2 : (scanR (stripR s)).err = 0 := by rw [hs2]; rfl
  refine ⟨he2, ?_, ?_, ?_⟩
  · generalize stripR s = t at *
    have : (stripR t).data.toList = t.data.toList := by
      unfold stripR
      rw [if_pos he2, hs2]
      simp only [icoms_bl]
      simp [stripL]
    have := congrArg List.toArray this
    simp at this
    exact ByteArray.ext this
  · rw [hs2, scanR_parse s (by omega)]
    exact itoks_bl _ _ _
  · rw [scanR_parse s (by omega)]; exact hsz

theorem itoks_app (a b : List It) : ∀ i, itoks i (a ++ b) = itoks i a ++ itoks (i + wid a) b := by
  induction a with
  | nil => intro i; rfl
  | cons it a ih =>
    intro i
    simp only [List.cons_append, itoks, wid]
    rcases it.tok with _ | ⟨k, t⟩
    · simp only; rw [ih, Nat.add_assoc]
    · simp only; rw [ih, Nat.add_assoc]; rfl
theorem itoks_shift (r : List It) : ∀ i d, itoks (i + d) r = (itoks i r).map fun t => ⟨t.kind, t.text, t.at_ + d⟩ := by
  induction r with
  | nil => intro i d; rfl
  | cons it r ih =>
    intro i d
    simp only [itoks]
    rw [show i + d + it.len = i + it.len + d from by omega, ih]
    rcases it.tok with _ | ⟨k, t⟩ <;> rfl
theorem wid_app (a b : List It) : wid (a ++ b) = wid a + wid b := by
  induction a with
  | nil => simp [wid]
  | cons it a ih => simp only [List.cons_append, wid, ih]; omega
theorem wid_all {l : Bs} (h : (parse l).2 = []) : wid (parse l).1 = l.length := by
  have hr := parse_rest l
  rw [h] at hr
  have := congrArg List.length hr.2.1
  rw [List.length_drop] at this
  simp at this; omega
theorem law_beside (a b : ByteArray) (c : UInt8) (hc : c = 32 ∨ c = 10) (ha : a.size ≤ 2000) (hb : b.size ≤ 2000) (he : (scanR a).err = 0) :
    (scanR (a ++ ⟨#[c]⟩ ++ b)).err = (scanR b).err ∧ ((scanR b).err ≠ 0 → (scanR (a ++ ⟨#[c]⟩ ++ b)).at_ = a.size + 1 + (scanR b).at_) ∧
    ((scanR b).err = 0 → (scanR (a ++ ⟨#[c]⟩ ++ b)).toks = (scanR a).toks ++ (scanR b).toks.map fun t => ⟨t.kind, t.text, t.at_ + (a.size + 1)⟩) := by
  have hpa := scanR_parse a (by omega)
  have hnil : (parse a.data.toList).2 = [] := by
    rcases Classical.em ((parse a.data.toList).2 = []) with h | h
    · exact h
    · rw [hpa] at he; simp only at he; rw [if_neg h] at he; cases he
  have hpb := scanR_parse b (by omega)
  have hl : (a ++ ⟨#[c]⟩ ++ b).data.toList = a.data.toList ++ c :: b.data.toList := by simp [ByteArray.data_append]
  have hsz : (a ++ ⟨#[c]⟩ ++ b).size ≤ 5000 := by
    rw [ByteArray.size_append, ByteArray.size_append]
    show a.size + 1 + b.size ≤ 5000; omega
  have hp := scanR_parse _ hsz
  rw [hl, parse_more _ c _ hc hnil] at hp
  have hw := wid_all hnil
  rw [size_list] at hw
  refine ⟨?_, ?_, ?_⟩
  · rw [hp, hpb]
  · intro hne
    rw [hp]
    have hne' : (parse b.data.toList).2 ≠ [] := by intro e; rw [hpb] at hne; exact hne (if_pos e)
    rw [hpb]
    simp only [if_neg hne', wid_app, wid, hw]
    omega
  · intro _
    rw [hp, hpa, hpb]
    simp only
    rw [itoks_app, hw]
    congr 1
    simp only [itoks]
    rw [show 0 + a.size + 1 = 0 + (a.size + 1) from by omega, itoks_shift]
end Lx
end Go.Proofs.YtafofcenphopbaaGreatDoor
