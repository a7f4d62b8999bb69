/- Plain laws: tokens as they are written, and read back. -/
import Derived.Test.YtafofcenphopbaaGreatDoorL3
namespace Go.Proofs.YtafofcenphopbaaGreatDoor
namespace Lx

theorem hd_app {l r : Bs} (h : 0 < l.length) : hd (l ++ r) = hd l := by cases l with
  | nil => simp at h
  | cons c l => rfl
theorem hd_all {p : Int → Bool} {t : Bs} (h : t.all (fun c => p (c.toNat : Int)) = true) (h0 : 0 < t.length) : p (hd t) = true := by
  cases t with
  | nil => simp at h0
  | cons c t => simp at h; exact h.1
theorem numGo_scan : ∀ (l : Bs) (d b : Nat) (pt : Bool) (r : Nat × Nat), numGo l d b pt = some r → (numScan l pt).1 = l.length ∧ d ≤ r.1 ∧ (d < r.1 → digI (hd l) = true ∨ (hd l = 46 ∧ digI (hd (l.drop 1)) = true)) := by
  intro l
  induction l with
  | nil => intro d b pt r h; cases h; exact ⟨rfl, Nat.le_refl _, fun h => absurd h (Nat.lt_irrefl _)⟩
  | cons c l ih =>
    intro d b pt r h
    unfold numGo at h
    rw [numScan_cons]
    split at h
    · rename_i hd'
      have hi := ih _ _ _ _ h
      have hne : ¬ ((c.toNat : Int) = 46 ∧ pt = false ∧ digI (hd l) = true) := by rintro ⟨a, _⟩; rw [a] at hd'; cases hd'
      rw [if_neg hne, if_pos hd']
      refine ⟨by simp only [hi.1, List.length_cons], by omega, fun _ => .inl hd'⟩
    · rename_i hd'
      split at h
      · rename_i hp
        have hi := ih _ _ _ _ h
        rw [if_pos hp]
        refine ⟨by simp only [hi.1, List.length_cons], hi.2.1, fun _ => .inr ⟨hp.1, by simpa using hp.2.2⟩⟩
      · cases h
theorem numR_facts (t : ByteArray) (h : (numR t).2.2 = true) : (numScan t.data.toList false).1 = t.size ∧ 1 ≤ t.size ∧ (digI (hd t.data.toList) = true ∨ (hd t.data.toList = 46 ∧ digI (hd (t.data.toList.drop 1)) = true)) := by
  unfold numR at h
  split at h
  · rename_i d b hg
    simp at h
    have := numGo_scan _ _ _ _ _ hg
    refine ⟨this.1, ?_, this.2.2 (by simp only; omega)⟩
    rcases Nat.lt_or_ge 0 t.size with h' | h'
    · exact h'
    · have hnil : t.data.toList = [] := List.eq_nil_of_length_eq_zero (by show t.size = 0; omega)
      rw [hnil] at hg
      cases hg; omega
  · cases h
theorem numScan_digits : ∀ (t : Bs) (r : Bs), t.all (fun c => digI (c.toNat : Int)) = true → digI (hd r) = false → hd r ≠ 46 → numScan (t ++ r) false = (t.length, false) := by
  intro t
  induction t with
  | nil =>
    intro r _ h1 h2
    cases r with
    | nil => rfl
    | cons c r => rw [List.nil_append, numScan_cons, if_neg (by rintro ⟨a, _⟩; exact h2 a), if_neg (by rw [show digI (c.toNat : Int) = false from h1]; decide)]; rfl
  | cons c t ih =>
    intro r h h1 h2
    simp only [List.all_cons, Bool.and_eq_true] at h
    rw [List.cons_append, numScan_cons, if_neg (by rintro ⟨a, _⟩; rw [a] at h; exact absurd h.1 (by decide)), if_pos h.1, ih r h.2 h1 h2]; rfl
theorem bit_dig (t : Bs) (h : t.all (fun c => bitI (c.toNat : Int)) = true) : t.all (fun c => digI (c.toNat : Int)) = true := by
  rw [List.all_eq_true] at h ⊢
  intro c hc
  have := h c hc
  unfold bitI at this
  unfold digI
  simp at this ⊢
  omega
theorem quo_dbl : ∀ (t : Bs) (r : Bs), t.all (fun c => shownI (c.toNat : Int)) = true → hd r ≠ 39 → quo (dbl t ++ 39 :: r) = some (t, (dbl t).length + 1) := by
  intro t
  induction t with
  | nil =>
    intro r _ h
    show quo (39 :: r) = some ([], 1)
    rw [quo_cons, if_neg (by decide), if_pos rfl]
    cases r with
    | nil => rfl
    | cons d r => simp only; rw [if_neg]; intro e; exact h ((is39 d).1 e)
  | cons c t ih =>
    intro r h hr
    simp only [List.all_cons, Bool.and_eq_true] at h
    have e := ih r h.2 hr
    rw [dbl_cons]
    by_cases hc : c = 39
    · subst hc
      rw [if_pos rfl, List.cons_append, List.cons_append, quo_cons, if_neg (by decide), if_pos rfl]
      simp only
      rw [if_pos trivial, e]; rfl
    · rw [if_neg hc, List.cons_append, quo_cons, if_neg (by rw [h.1]; decide), if_neg hc, e]; rfl
theorem quo_wid : ∀ (l : Bs) (t : Bs) (n : Nat), quo l = some (t, n) → n = (dbl t).length + 1 := by
  intro l
  induction h : l.length using Nat.strongRecOn generalizing l with
  | ind m ih =>
    intro t n hq
    match l, h with
    | [], _ => cases hq
    | c :: l, h =>
      rw [quo_cons] at hq
      split at hq
      · cases hq
      · split at hq
        · match l, h, hq with
          | [], h, hq => simp at hq; obtain ⟨rfl, rfl⟩ := hq; rfl
          | d :: r, h, hq =>
            simp only at hq
            split at hq
            · rw [Option.map_eq_some_iff] at hq
              obtain ⟨⟨t', n'⟩, hq, he⟩ := hq
              have := ih r.length (by simp at h; omega) r rfl t' n' hq
              simp at he; obtain ⟨rfl, rfl⟩ := he
              rw [dbl_cons, if_pos rfl]; simp; omega
            · simp at hq; obtain ⟨rfl, rfl⟩ := hq; rfl
        · rename_i hc
          rw [Option.map_eq_some_iff] at hq
          obtain ⟨⟨t', n'⟩, hq, he⟩ := hq
          have := ih l.length (by simp at h; omega) l rfl t' n' hq
          simp at he; obtain ⟨rfl, rfl⟩ := he
          rw [dbl_cons, if_neg hc]; simp; omega
theorem dbl_bits (t : Bs) (h : t.all (fun c => bitI (c.toNat : Int)) = true) : dbl t = t := by
  induction t with
  | nil => rfl
  | cons c t ih =>
    simp only [List.all_cons, Bool.and_eq_true] at h
    rw [dbl_cons, if_neg, ih h.2]
    rintro rfl; exact absurd h.1 (by decide)
theorem bit_shown (t : Bs) (h : t.all (fun c => bitI (c.toNat : Int)) = true) : t.all (fun c => shownI (c.toNat : Int)) = true := by
  rw [List.all_eq_true] at h ⊢
  intro c hc
  have := h c hc
  unfold bitI at this
  unfold shownI
  simp at this ⊢
  omega
theorem allI_list {p : Int → Bool} {t : ByteArray} (h : allI p t = true) : t.data.toList.all (fun c => p (c.toNat : Int)) = true := h
theorem ba_list (t : ByteArray) : (⟨t.data.toList.toArray⟩ : ByteArray) = t := by cases t; simp
theorem ba_ext {a b : ByteArray} (h : a.data.toList = b.data.toList) : a = b := by
  rw [← ba_list a, ← ba_list b, h]

/-- The bytes of a token as it is written. -/
def spl (a : Int × ByteArray) : Bs := (spellI a.1 a.2).data.toList
def okI (a : Int × ByteArray) : Bool := checkI a.1 a.2
theorem spl_name (t : ByteArray) : spl (1, t) = t.data.toList := rfl
theorem spl_num (t : ByteArray) : spl (2, t) = t.data.toList := rfl
theorem spl_bin (t : ByteArray) : spl (3, t) = t.data.toList ++ [66] := by
  show (t.data ++ #[66]).toList = _
  simp
theorem spl_char (t : ByteArray) : spl (4, t) = 39 :: (dbl t.data.toList ++ [39]) := rfl
theorem spl_bit (t : ByteArray) : spl (5, t) = 39 :: (t.data.toList ++ [39, 66]) := rfl
theorem spl_op (t : ByteArray) : spl (6, t) = t.data.toList := rfl
theorem step_tok {l : Bs} {g : Got} (h1 : ¬ (hd l = 32 ∨ hd l = 10)) (h2 : ¬ (hd l = 47 ∧ hd (l.drop 1) = 42)) (h : nextI signList l = some g) (hok : g.ok = true) (hc : checkI g.kind ⟨g.text.toArray⟩ = true) :
    step l = some ⟨g.len, some (g.kind, ⟨g.text.toArray⟩), false⟩ := by
  unfold step
  rw [if_neg h1, if_neg h2, h]
  simp only
  rw [if_neg]
  rintro (a | a)
  · rw [hok] at a; cases a
  · rw [hc] at a; cases a
theorem signs_step : ∀ t ∈ signList, step t.data.toList = some ⟨t.size, some (6, t), false⟩ := by
  have h : (signList.all fun t => decide ((step t.data.toList).isSome) && (match step t.data.toList with
      | none => false
      | some it => decide (it.len = t.size) && decide (it.tok = some (6, t)) && decide (it.com = false))) = true := by decide +kernel
  intro t ht
  have := List.all_eq_true.1 h t ht
  rcases hs : step t.data.toList with _ | ⟨n, o, c⟩
  · rw [hs] at this; simp at this
  · rw [hs] at this
    simp at this
    obtain ⟨⟨rfl, rfl⟩, rfl⟩ := this
    rfl
theorem ok_cases (a : Int × ByteArray) (h : okI a = true) : (a.1 = 1 ∧ isNameI a.2 = true) ∨ (a.1 = 2 ∧ (numR a.2).2.2 = true) ∨ (a.1 = 3 ∧ 1 ≤ a.2.size ∧ a.2.size ≤ 31 ∧ allI bitI a.2 = true) ∨ (a.1 = 4 ∧ a.2.size ≤ 255 ∧ allI shownI a.2 = true) ∨
    (a.1 = 5 ∧ a.2.size ≤ 64 ∧ allI bitI a.2 = true) ∨ (a.1 = 6 ∧ a.2 ∈ signList) := by
  unfold okI checkI at h
  split at h
  · rename_i e; exact .inl ⟨e, h⟩
  · split at h
    · rename_i e; exact .inr (.inl ⟨e, h⟩)
    · split at h
      · rename_i e; simp at h; exact .inr (.inr (.inl ⟨e, h.1.1, h.1.2, h.2⟩))
      · split at h
        · rename_i e; simp at h; exact .inr (.inr (.inr (.inl ⟨e, h.1, h.2⟩)))
        · split at h
          · rename_i e; simp at h; exact .inr (.inr (.inr (.inr (.inl ⟨e, h.1, h.2⟩))))
          · split at h
            · rename_i e; exact .inr (.inr (.inr (.inr (.inr ⟨e, (memB_iff _ _).1 h⟩))))
            · cases h
theorem upS_map {t : ByteArray} (h : upS t = t) : t.data.toList.map upC = t.data.toList := by
  have := congrArg (fun s : ByteArray => s.data.toList) h
  simpa [upS] using this
/-- Name characters begin no blank and no comment. -/
theorem part_head {c : Int} (h : partI c = true) : ¬ (c = 32 ∨ c = 10) ∧ c ≠ 47 ∧ c ≠ 39 ∧ c ≠ 46 := by
  refine ⟨?_, ?_, ?_, ?_⟩
  · rintro (rfl | rfl) <;> exact absurd h (by decide)
  · rintro rfl; exact absurd h (by decide)
  · rintro rfl; exact absurd h (by decide)
  · rintro rfl; exact absurd h (by decide)
theorem dig_part {c : Int} (h : digI c = true) : partI c = true := by unfold partI; simp [h]
theorem dig_beg {c : Int} (h : digI c = true) : begI c = false := by unfold begI; simp [h]
theorem beg_part {c : Int} (h : begI c = true) : partI c = true := by unfold begI at h; simp at h; exact h.1.1
/-- A valid token, as it is written, is read as this token alone. -/
theorem step_spl (a : Int × ByteArray) (h : okI a = true) : step (spl a) = some ⟨(spl a).length, some a, false⟩ := by
  obtain ⟨k, t⟩ := a
  have hck := h
  unfold okI at hck
  rcases ok_cases _ h with ⟨e, hh⟩ | ⟨e, hh⟩ | ⟨e, h1, h2, h3⟩ | ⟨e, h1, h2⟩ | ⟨e, h1, h2⟩ | ⟨e, hh⟩
  · simp only at e hh; subst e
    rw [spl_name]
    unfold isNameI nameI at hh
    simp at hh
    obtain ⟨⟨⟨⟨h1, h2⟩, h3⟩, h4⟩, h5⟩ := hh
    have hb : begI (hd t.data.toList) = true := by
      have : atI t 0 = hd t.data.toList := atI_nat t 0
      rwa [this] at h3
    have hn : nameLen t.data.toList = t.data.toList.length := nameLen_of _ _ (Nat.le_refl _) (by rw [List.take_length]; exact h4) (by rw [List.drop_length]; decide)
    have hx : nextI signList t.data.toList = some ⟨1, t.data.toList, t.data.toList.length, true⟩ := by
      unfold nextI
      rw [if_pos hb, hn, List.take_length, upS_map h5]
    have hp := part_head (beg_part hb)
    have := step_tok hp.1 (fun h => hp.2.1 h.1) hx rfl (by simp only; rw [ba_list]; exact hck)
    rw [this]
  · simp only at e hh; subst e
    rw [spl_num]
    obtain ⟨h1, h2, h3⟩ := numR_facts t hh
    have hx : nextI signList t.data.toList = some ⟨2, t.data.toList, t.data.toList.length, true⟩ := by
      unfold nextI
      have hh : begI (hd t.data.toList) = false ∧ hd t.data.toList ≠ 39 := by
        rcases h3 with h | ⟨h, _⟩
        · exact ⟨dig_beg h, (part_head (dig_part h)).2.2.1⟩
        · rw [h]; decide
      rw [if_neg (by rw [hh.1]; decide), if_neg hh.2, if_pos h3]
      unfold numTok
      simp only
      rw [h1, show t.size = t.data.toList.length from rfl, List.drop_length, if_neg (by rintro ⟨a, _⟩; exact absurd a (by decide)), List.take_length]
      rfl
    have hh : ¬ (hd t.data.toList = 32 ∨ hd t.data.toList = 10) ∧ hd t.data.toList ≠ 47 := by
      rcases h3 with h | ⟨h, _⟩
      · exact ⟨(part_head (dig_part h)).1, (part_head (dig_part h)).2.1⟩
      · rw [h]; decide
    have := step_tok hh.1 (fun h => hh.2 h.1) hx rfl (by simp only; rw [ba_list]; exact hck)
    rw [this]
  · simp only at e h1 h2 h3; subst e
    rw [spl_bin]
    have hdg := bit_dig _ (allI_list h3)
    have hn := numScan_digits t.data.toList [66] hdg (by decide) (by decide)
    have hlen : 0 < t.data.toList.length := h1
    have hh : digI (hd (t.data.toList ++ [66])) = true := by rw [hd_app hlen]; exact hd_all hdg hlen
    have hx : nextI signList (t.data.toList ++ [66]) = some ⟨3, t.data.toList, t.data.toList.length + 1, true⟩ := by
      unfold nextI
      rw [if_neg (by rw [dig_beg hh]; decide), if_neg (part_head (dig_part hh)).2.2.1, if_pos (.inl hh)]
      unfold numTok
      rw [hn]
      simp only
      rw [List.drop_append_of_le_length (Nat.le_refl _), List.drop_length, if_pos ⟨by decide, trivial⟩, List.take_append_of_le_length (Nat.le_refl _), List.take_length,
        List.drop_of_length_le (by simp)]
      rfl
    have hp := part_head (dig_part hh)
    have := step_tok hp.1 (fun h => hp.2.1 h.1) hx rfl (by simp only; rw [ba_list]; exact hck)
    rw [this]; simp only [List.length_append, List.length_cons, List.length_nil]
  · simp only at e h1 h2; subst e
    rw [spl_char]
    have hq := quo_dbl t.data.toList [] (allI_list h2) (by decide)
    have hx : nextI signList (39 :: (dbl t.data.toList ++ [39])) = some ⟨4, t.data.toList, (dbl t.data.toList).length + 1 + 1, true⟩ := by
      unfold nextI
      rw [if_neg (by rw [show hd (39 :: (dbl t.data.toList ++ [39])) = 39 from rfl]; decide), if_pos (show hd (39 :: (dbl t.data.toList ++ [39])) = 39 from rfl)]
      unfold quoTok
      rw [show (39 :: (dbl t.data.toList ++ [39])).drop 1 = dbl t.data.toList ++ [39] from rfl, hq]
      simp only [Option.map_some]
      rw [List.drop_of_length_le (by simp), if_neg (by decide)]
      rfl
    have := step_tok (by rw [show hd (39 :: (dbl t.data.toList ++ [39])) = 39 from rfl]; decide) (by rw [show hd (39 :: (dbl t.data.toList ++ [39])) = 39 from rfl]; rintro ⟨a, _⟩; exact absurd a (by decide)) hx rfl (by simp only; rw [ba_list]; exact hck)
    rw [this]; simp only [List.length_append, List.length_cons, List.length_nil]
  · simp only at e h1 h2; subst e
    rw [spl_bit]
    have hq := quo_dbl t.data.toList [66] (bit_shown _ (allI_list h2)) (by decide)
    rw [dbl_bits _ (allI_list h2)] at hq
    have hx : nextI signList (39 :: (t.data.toList ++ [39, 66])) = some ⟨5, t.data.toList, t.data.toList.length + 1 + 2, true⟩ := by
      unfold nextI
      rw [if_neg (by rw [show hd (39 :: (t.data.toList ++ [39, 66])) = 39 from rfl]; decide), if_pos (show hd (39 :: (t.data.toList ++ [39, 66])) = 39 from rfl)]
      unfold quoTok
      rw [show (39 :: (t.data.toList ++ [39, 66])).drop 1 = t.data.toList ++ [39, 66] from rfl, hq]
      simp only [Option.map_some]
      have e1 : (39 :: (t.data.toList ++ [39, 66])).drop (t.data.toList.length + 1 + 1) = [66] := by
        rw [List.drop_succ_cons, List.drop_append]; simp
      rw [e1, if_pos (by decide), List.drop_of_length_le (by simp)]
      rfl
    have := step_tok (by rw [show hd (39 :: (t.data.toList ++ [39, 66])) = 39 from rfl]; decide) (by rw [show hd (39 :: (t.data.toList ++ [39, 66])) = 39 from rfl]; rintro ⟨a, _⟩; exact absurd a (by decide)) hx rfl (by simp only; rw [ba_list]; exact hck)
    rw [this]; simp only [List.length_append, List.length_cons, List.length_nil]
  · simp only at e hh; subst e
    rw [spl_op, signs_step t hh]; rfl
theorem signs_only {t : Bs} (h : isSign t signList = true) : (⟨t.toArray⟩ : ByteArray) ∈ signList := by
  unfold isSign at h
  simp at h
  exact h
/-- A token that was read is as long as it is written. -/
theorem step_wid {l : Bs} {it : It} {a : Int × ByteArray} (h : step l = some it) (ha : it.tok = some a) : it.len = (spl a).length ∧ okI a = true ∧ it.com = false := by
  unfold step at h
  split at h
  · cases h; cases ha
  · split at h
    · rw [Option.map_eq_some_iff] at h
      obtain ⟨n, hn, rfl⟩ := h
      cases ha
    · split at h
      · cases h
      · rename_i g hg
        split at h
        · cases h
        · rename_i hok
          cases h
          cases ha
          have hc : checkI g.kind ⟨g.text.toArray⟩ = true := by simpa using fun h => hok (.inr h)
          refine ⟨?_, hc, rfl⟩
          simp only
          unfold nextI at hg
          split at hg
          · cases hg; rw [spl_name]; have := nameLen_le l; simp; omega
          · split at hg
            · unfold quoTok at hg
              rw [Option.map_eq_some_iff] at hg
              obtain ⟨⟨t, n⟩, hq, rfl⟩ := hg
              have hw := quo_wid _ _ _ hq
              simp only at hc ⊢
              split
              · rename_i hb
                rw [if_pos hb] at hc
                have hb5 : t.all (fun c => bitI (c.toNat : Int)) = true := by
                  rcases ok_cases (5, ⟨t.toArray⟩) hc with ⟨e, _⟩ | ⟨e, _⟩ | ⟨e, _⟩ | ⟨e, _⟩ | ⟨_, _, h⟩ | ⟨e, _⟩
                  · exact absurd (show (5 : Int) = _ from e) (by decide)
                  · exact absurd (show (5 : Int) = _ from e) (by decide)
                  · exact absurd (show (5 : Int) = _ from e) (by decide)
                  · exact absurd (show (5 : Int) = _ from e) (by decide)
                  · simpa using allI_list h
                  · exact absurd (show (5 : Int) = _ from e) (by decide)
                rw [spl_bit, hw, dbl_bits t hb5]; simp
              · rw [spl_char, hw]; simp
            · split at hg
              · cases hg
                unfold numTok
                have := numScan_le l false
                simp only
                split
                · rw [spl_bin]; simp; omega
                · rw [spl_num]; simp; omega
              · split at hg
                · rename_i hs; cases hg; rw [spl_op]; simp; omega
                · split at hg
                  · rename_i hs; cases hg; rw [spl_op]; simp; omega
                  · cases hg
end Lx
end Go.Proofs.YtafofcenphopbaaGreatDoor
