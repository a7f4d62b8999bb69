/- Plain laws: what is printed is read. -/
import Derived.Test.YtafofcenphopbaaGreatDoorL4
namespace Go.Proofs.YtafofcenphopbaaGreatDoor
namespace Lx

theorem scl_ok (l : Bs) : ∀ i nt, nt ≤ 5000 → (scl l i nt).err = 0 → (parse l).2 = [] ∧ nt + ntok (parse l).1 ≤ 5000 := by
  refine parse_ind (P := fun l => ∀ i nt, nt ≤ 5000 → (scl l i nt).err = 0 → (parse l).2 = [] ∧ nt + ntok (parse l).1 ≤ 5000) (fun l h => ?_) (fun l it h ih => ?_) l
  · intro i nt hnt he
    rw [parse_none h]
    by_cases hne : l = []
    · exact ⟨hne, hnt⟩
    · rw [scl_none h hne] at he; exact absurd (show (50 : Int) = 0 from he) (by decide)
  · intro i nt hnt he
    rw [parse_some h]
    rw [scl_some h] at he
    simp only [ntok]
    rcases ht : it.tok with _ | ⟨k, t⟩
    · rw [ht] at he
      simp only at he
      rw [if_pos (rfl : (none : Option (Int × ByteArray)) = none), Nat.zero_add]
      split at he
      · exact ih _ _ hnt he
      · exact ih _ _ hnt he
    · rw [ht] at he
      simp only at he
      rw [if_neg (by simp)]
      split at he
      · exact absurd (show (2 : Int) = 0 from he) (by decide)
      · have := ih _ _ (by omega) he
        exact ⟨this.1, by omega⟩
theorem scanR_ok (s : ByteArray) (h : (scanR s).err = 0) : (parse s.data.toList).2 = [] ∧ s.size ≤ 20000 ∧ ntok (parse s.data.toList).1 ≤ 5000 ∧ scanR s = ⟨itoks 0 (parse s.data.toList).1, icoms 0 (parse s.data.toList).1, 0, 0⟩ := by
  have hs := scanR_small h
  have he : (scl s.data.toList 0 0).err = 0 := by
    unfold scanR at h; rw [if_neg (by omega)] at h; exact h
  have := scl_ok _ 0 0 (by omega) he
  refine ⟨this.1, hs, by omega, ?_⟩
  rw [scanR_parse' s hs (by omega), if_pos this.1, if_pos this.1]
theorem scanR_of (s : ByteArray) (h1 : (parse s.data.toList).2 = []) (h2 : s.size ≤ 20000) (h3 : ntok (parse s.data.toList).1 ≤ 5000) : scanR s = ⟨itoks 0 (parse s.data.toList).1, icoms 0 (parse s.data.toList).1, 0, 0⟩ := by
  rw [scanR_parse' s h2 h3, if_pos h1, if_pos h1]
/-- Is this a semicolon? -/
def semiI (a : Int × ByteArray) : Bool := decide (a.1 = 6) && decide (a.2 = ⟨#[59]⟩)
def tightK (a b : Int × ByteArray) : Bool := decide ((scanR (spellI a.1 a.2 ++ spellI b.1 b.2)).err = 0) && decide ((scanR (spellI a.1 a.2 ++ spellI b.1 b.2)).toks.map kt = [a, b])
def afterI (a : Int × ByteArray) : List (Int × ByteArray) → Bs
  | [] => if semiI a then [10] else []
  | b :: _ => if semiI a then [10] else if tightK a b then [] else [32]
def printL : List (Int × ByteArray) → Bs
  | [] => []
  | a :: r => spl a ++ (afterI a r ++ printL r)
theorem afterI_cons (a b : Int × ByteArray) (r : List (Int × ByteArray)) : afterI a (b :: r) = if semiI a then [10] else if tightK a b then [] else [32] := rfl
theorem printL_cons (a : Int × ByteArray) (r : List (Int × ByteArray)) : printL (a :: r) = spl a ++ (afterI a r ++ printL r) := rfl
theorem step_head {l : Bs} {it : It} {a : Int × ByteArray} (h : step l = some it) (ha : it.tok = some a) : ¬ (hd l = 32 ∨ hd l = 10) ∧ ¬ (hd l = 47 ∧ hd (l.drop 1) = 42) ∧ ∃ g, nextI signList l = some g ∧ g.kind = a.1 := by
  unfold step at h
  split at h
  · cases h; cases ha
  · rename_i h1
    split at h
    · rw [Option.map_eq_some_iff] at h
      obtain ⟨n, hn, rfl⟩ := h
      cases ha
    · rename_i h2
      refine ⟨h1, h2, ?_⟩
      split at h
      · cases h
      · rename_i g hg
        split at h
        · cases h
        · cases h; cases ha; exact ⟨g, hg, rfl⟩
theorem spl_pos {a : Int × ByteArray} (h : okI a = true) : 1 ≤ (spl a).length := (step_len (step_spl a h)).1
theorem spl_star {b : Int × ByteArray} (h : okI b = true) (h42 : hd (spl b) = 42) : (spl b).length ≤ 2 := by
  obtain ⟨k, t⟩ := b
  have hl := spl_pos h
  obtain ⟨h1, h2, g, hg, hk⟩ := step_head (step_spl _ h) rfl
  rcases ok_cases _ h with ⟨e, hh⟩ | ⟨e, hh⟩ | ⟨e, a1, a2, a3⟩ | ⟨e, a1, a2⟩ | ⟨e, a1, a2⟩ | ⟨e, hh⟩
  · simp only at e hh; subst e
    unfold nextI at hg
    rw [h42, if_neg (by decide), if_neg (by decide), if_neg (by rintro (a | ⟨a, _⟩) <;> exact absurd a (by decide))] at hg
    split at hg
    · cases hg; exact absurd (show (6 : Int) = 1 from hk) (by decide)
    · split at hg
      · cases hg; exact absurd (show (6 : Int) = 1 from hk) (by decide)
      · cases hg
  · simp only at e hh; subst e
    obtain ⟨_, _, h3⟩ := numR_facts t hh
    rw [spl_num] at h42
    rw [h42] at h3
    rcases h3 with a | ⟨a, _⟩
    · exact absurd a (by decide)
    · exact absurd a (by decide)
  · simp only at e a1 a2 a3; subst e
    rw [spl_bin, hd_app (by exact a1)] at h42
    have := hd_all (bit_dig _ (allI_list a3)) a1
    rw [h42] at this; exact absurd this (by decide)
  · simp only at e; subst e
    rw [spl_char] at h42; exact absurd (show (39 : Int) = 42 from h42) (by decide)
  · simp only at e; subst e
    rw [spl_bit] at h42; exact absurd (show (39 : Int) = 42 from h42) (by decide)
  · simp only at e hh; subst e
    rw [spl_op]
    have : (signList.all fun t => decide (t.data.toList.length ≤ 2)) = true := by decide
    exact of_decide_eq_true (List.all_eq_true.1 this t hh)
theorem itoks_first {i : Nat} {it : It} {r : List It} {x : Int × ByteArray} (h : it.tok = some x) : (itoks i (it :: r)).map kt = x :: (itoks (i + it.len) r).map kt := by
  obtain ⟨k, t⟩ := x
  simp only [itoks, h, List.map_cons]; rfl
/-- Of two tokens side by side the first one is read first. -/
theorem tight_step {a b : Int × ByteArray} (ha : okI a = true) (hb : okI b = true) (h : tightK a b = true) : step (spl a ++ spl b) = some ⟨(spl a).length, some a, false⟩ := by
  unfold tightK at h
  simp only [Bool.and_eq_true, decide_eq_true_eq] at h
  obtain ⟨h1, h2⟩ := h
  obtain ⟨h3, _, _, h4⟩ := scanR_ok _ h1
  rw [h4] at h2
  have hl : (spellI a.1 a.2 ++ spellI b.1 b.2).data.toList = spl a ++ spl b := by simp [spl, ByteArray.data_append]
  rw [hl] at h2 h3
  have pa := spl_pos ha
  have sa := step_head (step_spl a ha) rfl
  rcases hs : step (spl a ++ spl b) with _ | it
  · rw [parse_none hs] at h2; simp [itoks] at h2
  · rcases ht : it.tok with _ | x
    · exfalso
      have hhd : hd (spl a ++ spl b) = hd (spl a) := hd_app pa
      have hsl := step_len hs
      have hs0 := hs
      unfold step at hs
      rw [hhd, if_neg sa.1] at hs
      split at hs
      · rename_i hc
        rw [Option.map_eq_some_iff] at hs
        obtain ⟨n, hn, rfl⟩ := hs
        have h4 := cmt_pos hn
        simp only at hsl
        rw [List.length_append] at hsl
        rcases Nat.lt_or_ge 1 (spl a).length with h' | h'
        · refine sa.2.1 ⟨hc.1, ?_⟩
          rw [← hc.2]
          exact (hd_drop (n := (spl a).length) (by simp) h').symm
        · have e1 : (spl a).length = 1 := by omega
          have hb42 : hd (spl b) = 42 := by
            rw [← hc.2, ← e1, List.drop_append_of_le_length (Nat.le_refl _), List.drop_length]; rfl
          have := spl_star hb hb42
          omega
      · split at hs
        · cases hs
        · split at hs
          · cases hs
          · cases hs; cases ht
    · rw [parse_some hs] at h2
      simp only at h2
      rw [itoks_first ht] at h2
      injection h2 with h2 h2'
      subst h2
      obtain ⟨w1, w2, w3⟩ := step_wid hs ht
      obtain ⟨n, o, c⟩ := it
      simp only at ht w1 w3
      subst ht; subst w1; subst w3
      rfl
theorem spl_dot {b : Int × ByteArray} (h : okI b = true) (h46 : hd (spl b) = 46) (h1 : (spl b).length = 1) : b.1 = 6 ∧ spl b = [46] ∧ semiI b = false := by
  have hl : spl b = [46] := by
    match hb : spl b, h1 with
    | [c], _ =>
      rw [hb] at h46
      have := (byte_eq c 46 (by decide)).2 h46
      rw [this]; rfl
  refine ⟨?_, hl, ?_⟩
  · obtain ⟨g1, g2, g, hg, hk⟩ := step_head (step_spl _ h) rfl
    rw [hl] at hg
    have : nextI signList [46] = some ⟨6, [46], 1, true⟩ := by
      unfold nextI
      rw [if_neg (by decide), if_neg (by decide), if_neg (by decide), if_neg (by decide), if_pos (by decide)]; rfl
    rw [this] at hg
    cases hg
    exact hk.symm
  · unfold semiI
    rw [Bool.and_eq_false_iff]
    by_cases e : b.1 = 6
    · right
      obtain ⟨k, t⟩ := b
      simp only at e; subst e
      rw [spl_op] at hl
      rw [decide_eq_false_iff_not]
      simp only
      rintro rfl
      exact absurd hl (by decide)
    · left; exact decide_eq_false e
theorem dot_dig {b c : Int × ByteArray} (hb : okI b = true) (hc : okI c = true) (h6 : b.1 = 6) (hl : spl b = [46]) (h : tightK b c = true) : digI (hd (spl c)) = false := by
  have hs := tight_step hb hc h
  rw [hl] at hs
  obtain ⟨_, _, g, hg, hk⟩ := step_head hs rfl
  rw [Bool.eq_false_iff]
  intro hd'
  have e : nextI signList ([46] ++ spl c) = some (numTok ([46] ++ spl c)) := by
    unfold nextI
    rw [if_neg (by rw [show hd ([46] ++ spl c) = 46 from rfl]; decide), if_neg (by rw [show hd ([46] ++ spl c) = 46 from rfl]; decide), if_pos (.inr ⟨rfl, hd'⟩)]
  rw [e] at hg
  cases hg
  rw [h6] at hk
  unfold numTok at hk
  simp only at hk
  split at hk
  · exact absurd (show (3 : Int) = 6 from hk) (by decide)
  · exact absurd (show (2 : Int) = 6 from hk) (by decide)
/-- The bytes behind a token that is printed. -/
theorem print_step (a : Int × ByteArray) (r : List (Int × ByteArray)) (ha : okI a = true) (hr : r.all okI = true) : step (printL (a :: r)) = some ⟨(spl a).length, some a, false⟩ := by
  have hs := step_spl a ha
  have brkcase : ∀ (c : UInt8) (X : Bs), c = 32 ∨ c = 10 → step (spl a ++ c :: X) = some ⟨(spl a).length, some a, false⟩ := fun c X hc => step_like hs (Like.more (Nat.le_refl _) c X hc)
  rw [printL_cons]
  by_cases hsm : semiI a = true
  · have e : afterI a r = [10] := by unfold afterI; cases r <;> exact if_pos hsm
    rw [e]
    exact brkcase 10 _ (.inr rfl)
  · cases r with
    | nil =>
      have e : afterI a [] = [] := by unfold afterI; exact if_neg hsm
      rw [e]
      simpa [printL] using hs
    | cons b r =>
      simp only [List.all_cons, Bool.and_eq_true] at hr
      by_cases ht : tightK a b = true
      · have e : afterI a (b :: r) = [] := by rw [afterI_cons, if_neg hsm, if_pos ht]
        rw [e, List.nil_append, printL_cons]
        have hst := tight_step ha hr.1 ht
        have pb := spl_pos hr.1
        refine step_like hst ⟨by simp, by simp, .inr ?_⟩
        simp only
        rw [List.drop_append_of_le_length (Nat.le_refl _), List.drop_append_of_le_length (Nat.le_refl _), List.drop_length, List.nil_append, List.nil_append]
        refine ⟨hd_app pb, ?_⟩
        rw [hd_app pb]
        intro h46 hdg
        rw [← List.drop_drop, List.drop_append_of_le_length (Nat.le_refl _), List.drop_length, List.nil_append] at hdg ⊢
        rcases Nat.lt_or_ge 1 (spl b).length with h' | h'
        · rwa [hd_drop (n := (spl b).length) (l := spl b) (by simp) h'] at hdg
        · exfalso
          have e1 : (spl b).length = 1 := by omega
          obtain ⟨d1, d2, d3⟩ := spl_dot hr.1 h46 e1
          rw [d2] at hdg
          have hdg : digI (hd (afterI b r ++ printL r)) = true := hdg
          cases r with
          | nil =>
            have e : afterI b [] = [] := by unfold afterI; rw [d3]; rfl
            rw [e] at hdg
            exact absurd (show digI (-1) = true from hdg) (by decide)
          | cons c r =>
            simp only [List.all_cons, Bool.and_eq_true] at hr
            rw [afterI_cons, d3] at hdg
            simp only [Bool.false_eq_true, if_false] at hdg
            by_cases htc : tightK b c = true
            · rw [if_pos htc, List.nil_append] at hdg
              rw [printL_cons, hd_app (spl_pos hr.2.1), dot_dig hr.1 hr.2.1 d1 d2 htc] at hdg
              cases hdg
            · rw [if_neg htc] at hdg; exact absurd hdg (by rw [show hd ([32] ++ printL (c :: r)) = 32 from rfl]; decide)
      · have e : afterI a (b :: r) = [32] := by rw [afterI_cons, if_neg hsm, if_neg ht]
        rw [e]
        exact brkcase 32 _ (.inl rfl)
theorem parse_print : ∀ (l : List (Int × ByteArray)), l.all okI = true → (parse (printL l)).2 = [] ∧ ∀ i, (itoks i (parse (printL l)).1).map kt = l := by
  intro l
  induction l with
  | nil => intro _; rw [show printL [] = [] from rfl, parse_nil]; exact ⟨rfl, fun i => rfl⟩
  | cons a r ih =>
    intro h
    simp only [List.all_cons, Bool.and_eq_true] at h
    have hi := ih h.2
    have hs := print_step a r h.1 h.2
    rw [parse_some hs]
    simp only
    have hd1 : (printL (a :: r)).drop (spl a).length = afterI a r ++ printL r := by
      rw [printL_cons, List.drop_append_of_le_length (Nat.le_refl _), List.drop_length, List.nil_append]
    rw [hd1]
    have haf : afterI a r = [] ∨ ∃ c, afterI a r = [c] ∧ (c = 32 ∨ c = 10) := by
      unfold afterI
      cases r with
      | nil =>
        simp only
        split
        · exact .inr ⟨10, rfl, .inr rfl⟩
        · exact .inl rfl
      | cons b r =>
        simp only
        split
        · exact .inr ⟨10, rfl, .inr rfl⟩
        · split
          · exact .inl rfl
          · exact .inr ⟨32, rfl, .inl rfl⟩
    rcases haf with e | ⟨c, e, hc⟩
    · rw [e, List.nil_append]
      refine ⟨hi.1, fun i => ?_⟩
      rw [itoks_first (x := a) rfl, hi.2]
    · rw [e]
      have hs2 : step ([c] ++ printL r) = some ⟨1, none, false⟩ := by
        unfold step; rw [if_pos]
        rcases hc with rfl | rfl
        · exact .inl rfl
        · exact .inr rfl
      rw [parse_some hs2]
      simp only
      rw [show ([c] ++ printL r).drop 1 = printL r from rfl]
      refine ⟨hi.1, fun i => ?_⟩
      rw [itoks_first (x := a) rfl]
      simp only [itoks]
      rw [hi.2]
def printR (l : List (Int × ByteArray)) : ByteArray × Int :=
  if 5000 < l.length then (⟨#[]⟩, 2)
  else if l.all okI = false then (⟨#[]⟩, 50)
  else if 20000 < (printL l).length then (⟨#[]⟩, 2)
  else (⟨(printL l).toArray⟩, 0)
theorem law_readback (l : List (Int × ByteArray)) (h : (printR l).2 = 0) : (scanR (printR l).1).err = 0 ∧ (scanR (printR l).1).at_ = 0 ∧ (scanR (printR l).1).toks.map kt = l := by
  unfold printR at h ⊢
  split at h
  · exact absurd h (by decide)
  · rename_i h1
    rw [if_neg h1]
    split at h
    · exact absurd h (by decide)
    · rename_i h2
      rw [if_neg h2]
      split at h
      · exact absurd h (by decide)
      · rename_i h3
        rw [if_neg h3]
        have hp := parse_print l (by simpa using h2)
        have hn : ntok (parse (printL l)).1 = l.length := by
          rw [← itoks_ntok _ 0, ← List.length_map (f := kt), hp.2]
        have := scanR_of ⟨(printL l).toArray⟩ (by simpa using hp.1) (by show (printL l).toArray.size ≤ _; simp; omega) (by show ntok (parse (printL l)).1 ≤ 5000; omega)
        rw [this]
        exact ⟨rfl, rfl, by simpa using hp.2 0⟩
theorem printR_err (l : List (Int × ByteArray)) : (printR l).2 = 0 ∨ (printR l).2 = 2 ∨ (printR l).2 = 50 := by
  unfold printR
  split
  · exact .inr (.inl rfl)
  · split
    · exact .inr (.inr rfl)
    · split
      · exact .inr (.inl rfl)
      · exact .inl rfl
end Lx
end Go.Proofs.YtafofcenphopbaaGreatDoor
