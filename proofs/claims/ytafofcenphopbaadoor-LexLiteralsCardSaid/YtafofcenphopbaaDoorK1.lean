/- Constants come back; small letters are the same: the plain law. -/
import Derived.Test.YtafofcenphopbaaDoorA28
import Derived.Test.YtafofcenphopbaaDoorL5
namespace Go.Proofs.YtafofcenphopbaaDoor
namespace Lx

theorem digL_app (b : Nat) : ∀ (m n : Nat) (acc : Bs), digL b n m acc = digL b n m [] ++ acc := by
  intro m
  induction m with
  | zero => intro n acc; rfl
  | succ m ih =>
    intro n acc
    show digL b (n / b) m _ = digL b (n / b) m [_] ++ acc
    rw [ih (n / b) (_ :: acc), ih (n / b) [_], List.append_assoc]; rfl
theorem digL_snoc (b n m : Nat) : digL b n (m + 1) [] = digL b (n / b) m [] ++ [UInt8.ofNat (48 + n % b)] := by
  show digL b (n / b) m [_] = _
  rw [digL_app]
theorem digC (b n : Nat) (hb : 2 ≤ b) (h10 : b ≤ 10) : (UInt8.ofNat (48 + n % b)).toNat = 48 + n % b := by
  have := Nat.mod_lt n (show 0 < b by omega)
  rw [UInt8.toNat_ofNat']; omega
theorem digL_dig (b : Nat) (hb : 2 ≤ b) (h10 : b ≤ 10) : ∀ (m n : Nat), ∀ c ∈ digL b n m [], 48 ≤ c.toNat ∧ c.toNat < 48 + b := by
  intro m
  induction m with
  | zero => intro n c hc; cases hc
  | succ m ih =>
    intro n c hc
    rw [digL_snoc, List.mem_append] at hc
    rcases hc with hc | hc
    · exact ih _ c hc
    · obtain rfl := List.mem_singleton.1 hc
      have := Nat.mod_lt n (show 0 < b by omega)
      rw [digC b n hb h10]; omega
theorem valL_app (b : Nat) : ∀ (l r : Bs) (n : Nat), valL b (l ++ r) n = valL b r (valL b l n) := by
  intro l
  induction l with
  | nil => intro r n; rfl
  | cons c l ih => intro r n; exact ih r _
theorem valL_digL (b : Nat) (hb : 2 ≤ b) (h10 : b ≤ 10) : ∀ (m n : Nat), n < b ^ m → valL b (digL b n m []) 0 = n := by
  intro m
  induction m with
  | zero => intro n h; simp at h; subst h; rfl
  | succ m ih =>
    intro n h
    have hq : n / b < b ^ m := by
      rw [Nat.div_lt_iff_lt_mul (by omega)]
      rwa [Nat.pow_succ] at h
    have hne : ¬ UInt8.ofNat (48 + n % b) = 46 := by
      intro e
      have h1 := digC b n hb h10
      rw [e] at h1
      have h2 : (46 : UInt8).toNat = 46 := rfl
      rw [h2] at h1
      omega
    rw [digL_snoc, valL_app, ih _ hq]
    show (if UInt8.ofNat (48 + n % b) = 46 then n / b else n / b * b + ((UInt8.ofNat (48 + n % b)).toNat - 48)) = n
    rw [if_neg hne, digC b n hb h10]
    have := Nat.div_add_mod n b
    rw [Nat.mul_comm] at this
    omega
theorem valL_point (b : Nat) (l r : Bs) (n : Nat) : valL b (l ++ 46 :: r) n = valL b (l ++ r) n := by
  rw [valL_app, valL_app]; rfl
theorem dig_mem {b : Nat} (h10 : b ≤ 10) {c : UInt8} (h : 48 ≤ c.toNat ∧ c.toNat < 48 + b) : digI (c.toNat : Int) = true := by
  unfold digI; simp; omega
theorem numGo_digs : ∀ (l r : Bs) (d b : Nat) (pt : Bool), (∀ c ∈ l, digI (c.toNat : Int) = true) → numGo (l ++ r) d b pt = numGo r (d + l.length) (if pt then b + l.length else b) pt := by
  intro l
  induction l with
  | nil => intro r d b pt _; simp
  | cons c l ih =>
    intro r d b pt h
    rw [List.cons_append]
    conv => lhs; unfold numGo
    rw [if_pos (h c (List.mem_cons_self ..)), ih r _ _ _ (fun x hx => h x (List.mem_cons_of_mem _ hx))]
    rw [List.length_cons]
    cases pt
    · simp; congr 1; omega
    · simp; congr 1 <;> omega
theorem numR_plain (l : Bs) (h : ∀ c ∈ l, digI (c.toNat : Int) = true) (h1 : 1 ≤ l.length) (h9 : l.length ≤ 9) : numR ⟨l.toArray⟩ = (l.length, 0, true) := by
  have := numGo_digs l [] 0 0 false h
  rw [List.append_nil] at this
  unfold numR
  show (match numGo l 0 0 false with | some (d, b) => (d, b, decide (1 ≤ d) && decide (d ≤ 9)) | none => (0, 0, false)) = _
  rw [this]
  simp [numGo, h1, h9]
theorem numR_point (l r : Bs) (h : ∀ c ∈ l, digI (c.toNat : Int) = true) (h' : ∀ c ∈ r, digI (c.toNat : Int) = true) (h1 : 1 ≤ r.length) (h9 : l.length + r.length ≤ 9) :
    numR ⟨(l ++ 46 :: r).toArray⟩ = (l.length + r.length, r.length, true) := by
  have e1 := numGo_digs l (46 :: r) 0 0 false h
  have e2 : numGo (46 :: r) (0 + l.length) 0 false = numGo r (0 + l.length) 0 true := by
    conv => lhs; unfold numGo
    rw [if_neg (by decide), if_pos]
    refine ⟨by decide, rfl, ?_⟩
    cases r with
    | nil => cases h1
    | cons c r => exact h' c (List.mem_cons_self ..)
  have e3 := numGo_digs r [] (0 + l.length) 0 true h'
  rw [List.append_nil] at e3
  unfold numR
  show (match numGo (l ++ 46 :: r) 0 0 false with | some (d, b) => (d, b, decide (1 ≤ d) && decide (d ≤ 9)) | none => (0, 0, false)) = _
  rw [e1]
  simp only [Bool.false_eq_true, if_false]
  rw [e2, e3]
  simp [numGo]
  omega

/-- What Literal says, read by Constant. -/
theorem lit_back (k p q : Int) (vary : Bool) (pic : ByteArray) (n : Int) (s : ByteArray) (h : (litI k p q vary pic n s).2 = 0) :
    vary = false ∧ pic.toList = [] ∧ ∃ a : Int × ByteArray, litI k p q vary pic n s = ((if n < 0 then [(6, ⟨#[45]⟩)] else []) ++ [a], 0) ∧ conI a.1 a.2 = ⟨k, p, q, n.natAbs, s, 0⟩ ∧ a.2.size ≤ 1000 ∧ -9223372036854775807 ≤ n ∧ n ≤ 9223372036854775807 := by
  unfold litI at h ⊢
  cases ht : litT k p q vary pic with
  | false => rw [ht] at h; simp at h
  | true =>
    cases hv : litV k p n s with
    | false => rw [ht, hv] at h; simp at h
    | true =>
      have hpl := litT_plain ht
      refine ⟨hpl.1, hpl.2, ?_⟩
      rw [if_neg (by decide), if_neg (by decide)]
      rcases litT_cases ht with ⟨rfl, a, b, c, d⟩ | ⟨rfl, a, b, rfl⟩ | ⟨rfl, a, b, rfl⟩ | ⟨rfl, a, b, rfl⟩
      · rw [if_neg (by decide), if_neg (by decide)]
        obtain ⟨hs, h1, h2⟩ := litV_num (.inl rfl) hv
        have hs0 : s = ⟨#[]⟩ := ba_ext (by rw [← toList_data, hs])
        have hm := mostN_le 1 p (.inl ⟨rfl, b⟩)
        have hmost : mostN 1 p = 10 ^ p.toNat := by unfold mostN; rw [if_neg (by decide)]
        refine ⟨_, rfl, ?_, ?_, by omega, by omega⟩
        · have hlt : n.natAbs < 10 ^ p.toNat := by rw [← hmost]; omega
          have hdg : ∀ c ∈ digL 10 n.natAbs p.toNat [], digI (c.toNat : Int) = true := fun c hc => dig_mem (by decide) (digL_dig 10 (by decide) (by decide) _ _ c hc)
          have hlen : (digL 10 n.natAbs p.toNat []).length = p.toNat := by rw [digL_len]; simp
          have hval := valL_digL 10 (by decide) (by decide) _ _ hlt
          generalize hL : digL 10 n.natAbs p.toNat [] = L at hdg hlen hval
          unfold numK
          rw [if_neg (by decide), hL]
          have hnum : numR (decT L p.toNat q.toNat) = (p.toNat, q.toNat, true) ∧ valL 10 (decT L p.toNat q.toNat).data.toList 0 = n.natAbs := by
            unfold decT
            by_cases hq : q.toNat = 0
            · rw [if_pos hq, numR_plain L hdg (by omega) (by omega), hlen, hq]; exact ⟨rfl, hval⟩
            · rw [if_neg hq]
              refine ⟨?_, ?_⟩
              · rw [numR_point _ _ (fun c hc => hdg c (List.mem_of_mem_take hc)) (fun c hc => hdg c (List.mem_of_mem_drop hc)) (by rw [List.length_drop]; omega) (by rw [List.length_drop, List.length_take]; omega)]
                rw [List.length_drop, List.length_take, hlen]
                rw [show min (p.toNat - q.toNat) p.toNat + (p.toNat - (p.toNat - q.toNat)) = p.toNat from by omega, show p.toNat - (p.toNat - q.toNat) = q.toNat from by omega]
              · show valL 10 (L.take _ ++ 46 :: L.drop _) 0 = _
                rw [valL_point, List.take_append_drop]; exact hval
          unfold conI
          simp only
          have hck : checkI 2 (decT L p.toNat q.toNat) = true := by unfold checkI; rw [if_neg (by decide), if_pos rfl, hnum.1]
          rw [hck, if_neg (by decide), if_pos trivial, hnum.1, hnum.2, hs0]
          simp only
          rw [show ((p.toNat : Nat) : Int) = p from by omega, show ((q.toNat : Nat) : Int) = q from by omega]
        · unfold numK
          rw [if_neg (by decide)]
          simp only
          have hlen : (digL 10 n.natAbs p.toNat []).length = p.toNat := by rw [digL_len]; simp
          unfold decT
          split
          · show (digL 10 n.natAbs p.toNat []).length ≤ 1000; omega
          · show (List.take (p.toNat - q.toNat) (digL 10 n.natAbs p.toNat []) ++ 46 :: List.drop (p.toNat - q.toNat) (digL 10 n.natAbs p.toNat [])).length ≤ 1000
            simp only [List.length_append, List.length_cons, List.length_take, List.length_drop, hlen]; omega
      · rw [if_neg (by decide), if_neg (by decide)]
        obtain ⟨hs, h1, h2⟩ := litV_num (.inr rfl) hv
        have hs0 : s = ⟨#[]⟩ := ba_ext (by rw [← toList_data, hs])
        have hm := mostN_le 2 p (.inr ⟨rfl, b⟩)
        have hmost : mostN 2 p = 2 ^ p.toNat := by unfold mostN; rw [if_pos rfl]
        have hlt : n.natAbs < 2 ^ p.toNat := by rw [← hmost]; omega
        have hdg := digL_dig 2 (by decide) (by decide) p.toNat n.natAbs
        have hlen : (digL 2 n.natAbs p.toNat []).length = p.toNat := by rw [digL_len]; simp
        have hval := valL_digL 2 (by decide) (by decide) _ _ hlt
        generalize hL : digL 2 n.natAbs p.toNat [] = L at hdg hlen hval
        have hsz : (⟨L.toArray⟩ : ByteArray).size = p.toNat := hlen
        refine ⟨_, rfl, ?_, ?_, by omega, by omega⟩
        · unfold numK
          rw [if_pos rfl, hL]
          have hck : checkI 3 ⟨L.toArray⟩ = true := by
            unfold checkI
            rw [if_neg (by decide), if_neg (by decide), if_pos rfl, hsz]
            have hall : allI bitI ⟨L.toArray⟩ = true := by
              show L.all _ = true
              rw [List.all_eq_true]
              intro c hc
              have := hdg c hc
              unfold bitI; simp; omega
            rw [hall]; simp; omega
          unfold conI
          simp only
          rw [hck, if_neg (by decide), if_neg (by decide), if_pos trivial, hsz, hs0]
          show (⟨2, ((p.toNat : Nat) : Int), 0, ((valL 2 L 0 : Nat) : Int), ⟨#[]⟩, 0⟩ : ConR) = _
          rw [hval, show ((p.toNat : Nat) : Int) = p from by omega]
        · unfold numK; rw [if_pos rfl, hL]; show L.length ≤ 1000; omega
      · rw [if_pos rfl]
        obtain ⟨h1, h2, h3⟩ := litV_text (by decide) hv
        subst h1
        refine ⟨(4, s), by rw [if_neg (by decide)]; rfl, ?_, by show s.size ≤ 1000; omega, by decide, by decide⟩
        have hck : checkI 4 s = true := by
          unfold checkI
          rw [if_neg (by decide), if_neg (by decide), if_neg (by decide), if_pos rfl]
          rw [if_pos rfl] at h3
          rw [h3]; simp; omega
        unfold conI
        simp only
        rw [hck, if_neg (by decide), if_neg (by decide), if_neg (by decide), if_pos trivial, h2]; rfl
      · rw [if_neg (by decide), if_pos rfl]
        obtain ⟨h1, h2, h3⟩ := litV_text (by decide) hv
        subst h1
        refine ⟨(5, s), by rw [if_neg (by decide)]; rfl, ?_, by show s.size ≤ 1000; omega, by decide, by decide⟩
        have hck : checkI 5 s = true := by
          unfold checkI
          rw [if_neg (by decide), if_neg (by decide), if_neg (by decide), if_neg (by decide), if_pos rfl]
          rw [if_neg (by decide)] at h3
          rw [h3]; simp; omega
        unfold conI
        simp only
        rw [hck, if_neg (by decide), if_neg (by decide), if_neg (by decide), if_neg (by decide), if_pos trivial, h2]; rfl

/-- A byte as a small letter. -/
def lowC (c : UInt8) : UInt8 := if 65 ≤ c.toNat ∧ c.toNat ≤ 90 then UInt8.ofNat (c.toNat + 32) else c
theorem lowC_val (c : UInt8) : (lowC c).toNat = if 65 ≤ c.toNat ∧ c.toNat ≤ 90 then c.toNat + 32 else c.toNat := by
  unfold lowC
  split
  · rw [UInt8.toNat_ofNat']; omega
  · rfl
theorem upC_val (c : UInt8) : (upC c).toNat = if 97 ≤ c.toNat ∧ c.toNat ≤ 122 then c.toNat - 32 else c.toNat := by
  unfold upC
  split
  · rw [UInt8.toNat_ofNat']; omega
  · rfl
theorem up_low (c : UInt8) : upC (lowC c) = upC c := by
  apply UInt8.toNat_inj.1
  rw [upC_val, upC_val, lowC_val]
  split
  · rw [if_pos (by omega), if_neg (by omega)]; omega
  · rfl
theorem part_low (c : UInt8) : partI ((lowC c).toNat : Int) = partI (c.toNat : Int) := by
  rw [lowC_val]
  split
  · rename_i h
    have h1 : partI (c.toNat : Int) = true := by unfold partI alphI; simp; omega
    have h2 : partI ((c.toNat + 32 : Nat) : Int) = true := by unfold partI alphI; simp; omega
    rw [h1, h2]
  · rfl
theorem beg_low (c : UInt8) : begI ((lowC c).toNat : Int) = begI (c.toNat : Int) := by
  rw [lowC_val]
  split
  · rename_i h
    have h1 : begI (c.toNat : Int) = true := by unfold begI partI alphI digI; simp; omega
    have h2 : begI ((c.toNat + 32 : Nat) : Int) = true := by unfold begI partI alphI digI; simp; omega
    rw [h1, h2]
  · rfl
/-- A name in small letters is read as the name. -/
theorem step_low (t : ByteArray) (h : okI (1, t) = true) : step (t.data.toList.map lowC) = some ⟨t.data.toList.length, some (1, t), false⟩ := by
  have hck := h
  unfold okI at hck
  have hh : isNameI t = true := by
    rcases ok_cases _ h with ⟨_, hh⟩ | ⟨e, _⟩ | ⟨e, _⟩ | ⟨e, _⟩ | ⟨e, _⟩ | ⟨e, _⟩
    · exact hh
    all_goals exact absurd (show (1 : Int) = _ from e) (by decide)
  unfold isNameI nameI at hh
  simp at hh
  obtain ⟨⟨⟨⟨h1, h2⟩, h3⟩, h4⟩, h5⟩ := hh
  have hb : begI (hd (t.data.toList.map lowC)) = true := by
    have e : atI t 0 = hd t.data.toList := atI_nat t 0
    rw [e] at h3
    cases hl : t.data.toList with
    | nil => rw [hl] at h3; exact absurd h3 (by decide)
    | cons c l =>
      rw [hl] at h3
      show begI ((lowC c).toNat : Int) = true
      rw [beg_low]; exact h3
  have hall : (t.data.toList.map lowC).all (fun c => partI (c.toNat : Int)) = true := by
    have h4' := allI_list h4
    rw [List.all_eq_true] at h4' ⊢
    intro c hc
    obtain ⟨d, hd, rfl⟩ := List.mem_map.1 hc
    rw [part_low]; exact h4' d hd
  have hn : nameLen (t.data.toList.map lowC) = (t.data.toList.map lowC).length := nameLen_of _ _ (Nat.le_refl _) (by rw [List.take_length]; exact hall) (by rw [List.drop_length]; decide)
  have hmm : (t.data.toList.map lowC).map upC = t.data.toList := by
    rw [List.map_map]
    rw [show (upC ∘ lowC) = upC from funext up_low]
    exact upS_map h5
  have hx : nextI signList (t.data.toList.map lowC) = some ⟨1, t.data.toList, t.data.toList.length, true⟩ := by
    unfold nextI
    rw [if_pos hb, hn, List.take_length, hmm, List.length_map]
  have hp := part_head (beg_part hb)
  have := step_tok hp.1 (fun h => hp.2.1 h.1) hx rfl (by simp only; rw [ba_list]; exact hck)
  rw [this, ba_list]
/-- A text that is one token. -/
theorem scan_one (s : ByteArray) (a : Int × ByteArray) (hs : s.size ≤ 20000) (h : step s.data.toList = some ⟨s.data.toList.length, some a, false⟩) : (scanR s).err = 0 ∧ (scanR s).at_ = 0 ∧ (scanR s).toks = [⟨a.1, a.2, 0⟩] ∧ (scanR s).coms = [] := by
  have hp := parse_some h
  simp only [List.drop_length, parse_nil] at hp
  have h3 := scanR_of s (by rw [hp]) hs (by rw [hp]; show ntok _ ≤ _; simp [ntok])
  rw [h3, hp]
  exact ⟨rfl, rfl, rfl, rfl⟩
theorem spl_size (a : Int × ByteArray) (h : okI a = true) : (spl a).length ≤ 1000 := by
  obtain ⟨k, t⟩ := a
  have hlen : t.data.toList.length = t.size := rfl
  rcases ok_cases _ h with ⟨e, hh⟩ | ⟨e, hh⟩ | ⟨e, h1, h2, h3⟩ | ⟨e, h1, h2⟩ | ⟨e, h1, h2⟩ | ⟨e, hh⟩
  · simp only at e hh; subst e
    rw [spl_name]; unfold isNameI nameI at hh; simp at hh; omega
  · simp only at e hh; subst e
    rw [spl_num]; have := (numR_chars t hh).1; omega
  · simp only at e h1 h2 h3; subst e
    rw [spl_bin, List.length_append]; simp at *; omega
  · simp only at e h1 h2; subst e
    rw [spl_char]; have := dbl_length t.data.toList; have := count_le t.data.toList
    simp only [List.length_cons, List.length_append, List.length_nil]; omega
  · simp only at e h1 h2; subst e
    rw [spl_bit]; simp only [List.length_cons, List.length_append, List.length_nil]; omega
  · simp only at e hh; subst e
    rw [spl_op]
    have hall : (signList.all fun t => decide (t.data.toList.length ≤ 2)) = true := by decide +kernel
    have := List.all_eq_true.1 hall t hh
    simp only [decide_eq_true_eq] at this; omega
/-- A valid token as it is written is this token alone; a name in small letters too. -/
theorem law_spelled (k : Int) (t : ByteArray) (h : checkI k t = true) : (spellI k t).size ≤ 1000 ∧ (scanR (spellI k t)).err = 0 ∧ (scanR (spellI k t)).at_ = 0 ∧ (scanR (spellI k t)).toks = [⟨k, t, 0⟩] := by
  have hok : okI (k, t) = true := h
  have h1 := spl_size _ hok
  have h2 := scan_one (spellI k t) (k, t) (by have : (spellI k t).data.toList.length ≤ 1000 := h1; have e : (spellI k t).data.toList.length = (spellI k t).size := rfl; omega) (step_spl _ hok)
  exact ⟨h1, h2.1, h2.2.1, h2.2.2.1⟩
theorem law_small (t : ByteArray) (h : checkI 1 t = true) (s : ByteArray) (hs : s.data.toList = t.data.toList.map lowC) : (scanR s).err = 0 ∧ (scanR s).at_ = 0 ∧ (scanR s).toks = [⟨1, t, 0⟩] := by
  have hok : okI (1, t) = true := h
  have h1 := spl_size _ hok
  rw [spl_name] at h1
  have hl : s.data.toList.length = t.data.toList.length := by rw [hs, List.length_map]
  have e : s.data.toList.length = s.size := rfl
  have h2 := scan_one s (1, t) (by omega) (by rw [hs]; have := step_low t hok; rw [this, List.length_map])
  exact ⟨h2.1, h2.2.1, h2.2.2.1⟩
end Lx
end Go.Proofs.YtafofcenphopbaaDoor
