/- Plain laws of the scan: what stands behind a token does not matter. -/
import Derived.Test.YtafofcenphopbaaGreatDoorP4
namespace Go.Proofs.YtafofcenphopbaaGreatDoor
namespace Lx

/-- The end, a blank or a line feed. -/
def brk (c : Int) : Bool := c == -1 || c == 32 || c == 10
theorem brk_cases {c : Int} (h : brk c = true) : c = -1 ∨ c = 32 ∨ c = 10 := by unfold brk at h; simp at h; omega
theorem brk_part {c : Int} (h : brk c = true) : partI c = false := by rcases brk_cases h with rfl | rfl | rfl <;> decide
theorem brk_dig {c : Int} (h : brk c = true) : digI c = false := by rcases brk_cases h with rfl | rfl | rfl <;> decide
theorem brk_B {c : Int} (h : brk c = true) : isB c = false := by rcases brk_cases h with rfl | rfl | rfl <;> decide
theorem brk_ne {c d : Int} (h : brk c = true) (hd : brk d = false) : c ≠ d := by rintro rfl; rw [h] at hd; cases hd
/-- Two texts that agree on n bytes, and go on alike as far as a token looks. -/
structure Like (l l' : Bs) (n : Nat) : Prop where
  len : n ≤ l'.length
  take : l'.take n = l.take n
  look : brk (hd (l'.drop n)) = true ∨ (hd (l'.drop n) = hd (l.drop n) ∧ (hd (l'.drop n) = 46 → digI (hd (l'.drop (n + 1))) = true → digI (hd (l.drop (n + 1))) = true))

theorem hd_take {l l' : Bs} {n : Nat} (h : l'.take n = l.take n) (hn : 1 ≤ n) : hd l' = hd l := by
  obtain ⟨n, rfl⟩ : ∃ k, n = k + 1 := ⟨n - 1, by omega⟩
  cases l <;> cases l' <;> simp_all [hd]
theorem take_le {l l' : Bs} {n m : Nat} (h : l'.take n = l.take n) (hm : m ≤ n) : l'.take m = l.take m := by
  have := congrArg (List.take m) h
  rwa [List.take_take, List.take_take, Nat.min_eq_left hm] at this
theorem take_drop_eq {l l' : Bs} {n k : Nat} (h : l'.take (k + n) = l.take (k + n)) : (l'.drop k).take n = (l.drop k).take n := by
  have := congrArg (List.drop k) h
  rwa [List.drop_take, List.drop_take, show k + n - k = n from by omega] at this
theorem hd_drop {l l' : Bs} {n k : Nat} (h : l'.take n = l.take n) (hn : k < n) : hd (l'.drop k) = hd (l.drop k) := by
  obtain ⟨m, rfl⟩ : ∃ m, n = k + (m + 1) := ⟨n - k - 1, by omega⟩
  exact hd_take (take_drop_eq h) (by omega)

theorem nameLen_all (l : Bs) : (l.take (nameLen l)).all (fun c => partI (c.toNat : Int)) = true ∧ partI (hd (l.drop (nameLen l))) = false := by
  induction l with
  | nil => exact ⟨rfl, by decide⟩
  | cons c l ih =>
    unfold nameLen
    split
    · rename_i h; simp [h]; simpa using ih
    · rename_i h; simp [hd]; simpa using h
theorem nameLen_of (l : Bs) : ∀ n, n ≤ l.length → (l.take n).all (fun c => partI (c.toNat : Int)) = true → partI (hd (l.drop n)) = false → nameLen l = n := by
  induction l with
  | nil => intro n h _ _; simp at h; subst h; rfl
  | cons c l ih =>
    intro n h1 h2 h3
    cases n with
    | zero => unfold nameLen; rw [if_neg]; rw [List.drop_zero] at h3; rw [show hd (c :: l) = (c.toNat : Int) from rfl] at h3; rw [h3]; decide
    | succ n =>
      simp only [List.take_succ_cons, List.all_cons, Bool.and_eq_true] at h2
      unfold nameLen
      rw [if_pos h2.1, ih n (by simpa using h1) h2.2 (by simpa using h3)]

theorem numScan_stop (l : Bs) : ∀ p, digI (hd (l.drop (numScan l p).1)) = false ∧ ¬ (hd (l.drop (numScan l p).1) = 46 ∧ (numScan l p).2 = false ∧ digI (hd (l.drop ((numScan l p).1 + 1))) = true) := by
  induction l with
  | nil => intro p; exact ⟨(by decide : digI (-1) = false), by rintro ⟨h, _⟩; exact absurd (show (-1 : Int) = 46 from h) (by decide)⟩
  | cons c l ih =>
    intro p
    rw [numScan_cons]
    split
    · simpa using ih true
    · split
      · simpa using ih p
      · rename_i h1 h2
        refine ⟨by simpa [hd] using h2, ?_⟩
        rintro ⟨a, b, d⟩
        exact h1 ⟨a, b, d⟩
theorem numScan_like : ∀ (l : Bs) (p : Bool) (l' : Bs), (numScan l p).1 ≤ l'.length → l'.take (numScan l p).1 = l.take (numScan l p).1 → digI (hd (l'.drop (numScan l p).1)) = false →
    ¬ (hd (l'.drop (numScan l p).1) = 46 ∧ (numScan l p).2 = false ∧ digI (hd (l'.drop ((numScan l p).1 + 1))) = true) → numScan l' p = numScan l p := by
  intro l
  have stop : ∀ (l' : Bs) (p : Bool), digI (hd l') = false → ¬ (hd l' = 46 ∧ p = false ∧ digI (hd (l'.drop 1)) = true) → numScan l' p = (0, p) := by
    intro l' p h1 h2
    cases l' with
    | nil => rfl
    | cons c r =>
      rw [numScan_cons, if_neg (by rintro ⟨a, b, d⟩; exact h2 ⟨a, b, d⟩), if_neg]
      intro h; rw [show hd (c :: r) = (c.toNat : Int) from rfl, h] at h1; cases h1
  induction l with
  | nil => intro p l' h1 h2 h3 h4; exact stop l' p h3 h4
  | cons c l ih =>
    intro p l'
    rw [numScan_cons]
    split
    · rename_i hc
      intro h1 h2 h3 h4
      simp only at h1 h2 h3 h4
      cases l' with
      | nil => simp at h1
      | cons d r =>
        simp only [List.take_succ_cons, List.cons.injEq, List.drop_succ_cons, List.length_cons] at h1 h2 h3 h4
        obtain ⟨rfl, h2⟩ := h2
        have hp := numScan_pos l true hc.2.2
        rw [numScan_cons, if_pos ⟨hc.1, hc.2.1, by rw [hd_take h2 hp]; exact hc.2.2⟩, ih true r (by omega) h2 h3 h4]
    · rename_i hc
      split
      · rename_i hd'
        intro h1 h2 h3 h4
        simp only at h1 h2 h3 h4
        cases l' with
        | nil => simp at h1
        | cons d r =>
          simp only [List.take_succ_cons, List.cons.injEq, List.drop_succ_cons, List.length_cons] at h1 h2 h3 h4
          obtain ⟨rfl, h2⟩ := h2
          rw [numScan_cons, if_neg, if_pos hd', ih p r (by omega) h2 h3 h4]
          rintro ⟨a, _⟩; rw [a] at hd'; cases hd'
      · intro h1 h2 h3 h4; exact stop l' p h3 h4

theorem quo_after : ∀ (l : Bs) (t : Bs) (n : Nat), quo l = some (t, n) → hd (l.drop n) ≠ 39 ∧ n ≤ l.length ∧ 1 ≤ n ∧ (l.take n).all (fun c => shownI (c.toNat : Int)) = true := by
  intro l
  induction h : l.length using Nat.strongRecOn generalizing l with
  | ind m ih =>
    intro t n hq
    match l, h with
    | [], _ => cases hq
    | c :: l, h =>
      rw [quo_cons] at hq
      split at hq
      · cases hq
      · rename_i hs
        have hs' : shownI (c.toNat : Int) = true := by simpa using hs
        split at hq
        · rename_i h39
          match l, h, hq with
          | [], h, hq => simp at hq; obtain ⟨rfl, rfl⟩ := hq; simp [hd, hs'] at h ⊢; omega
          | d :: r, h, hq =>
            simp only at hq
            split at hq
            · rename_i hd39
              rw [Option.map_eq_some_iff] at hq
              obtain ⟨⟨t', n'⟩, hq, he⟩ := hq
              have hi := ih r.length (by simp at h; omega) r rfl t' n' hq
              simp at he h; obtain ⟨rfl, rfl⟩ := he
              have hs2 : shownI (d.toNat : Int) = true := by rw [hd39]; decide
              simp only [List.drop_succ_cons, List.take_succ_cons, List.all_cons, hs', hs2, Bool.true_and]
              exact ⟨hi.1, by omega, by omega, hi.2.2.2⟩
            · rename_i hd39
              simp at hq h; obtain ⟨rfl, rfl⟩ := hq
              refine ⟨?_, by omega, by omega, by simp [hs']⟩
              intro e
              exact hd39 ((is39 d).2 e)
        · rw [Option.map_eq_some_iff] at hq
          obtain ⟨⟨t', n'⟩, hq, he⟩ := hq
          have hi := ih l.length (by simp at h; omega) l rfl t' n' hq
          simp at he h; obtain ⟨rfl, rfl⟩ := he
          simp only [List.drop_succ_cons, List.take_succ_cons, List.all_cons, hs', Bool.true_and]
          exact ⟨hi.1, by omega, by omega, hi.2.2.2⟩
theorem quo_like : ∀ (l : Bs) (t : Bs) (n : Nat) (l' : Bs), quo l = some (t, n) → n ≤ l'.length → l'.take n = l.take n → hd (l'.drop n) ≠ 39 → quo l' = some (t, n) := by
  intro l
  induction h : l.length using Nat.strongRecOn generalizing l with
  | ind m ih =>
    intro t n l' hq h1 h2 h3
    match l, h with
    | [], _ => cases hq
    | c :: l, h =>
      have hn := (quo_after _ _ _ hq).2.2.1
      obtain ⟨n, rfl⟩ : ∃ k, n = k + 1 := ⟨n - 1, by omega⟩
      match l' with
      | [] => simp at h1
      | c' :: l' =>
      simp only [List.take_succ_cons, List.cons.injEq, List.drop_succ_cons, List.length_cons] at h1 h2 h3 h
      obtain ⟨rfl, h2⟩ := h2
      rw [quo_cons] at hq ⊢
      split at hq
      · cases hq
      · rename_i hs
        rw [if_neg hs]
        split at hq
        · rename_i h39
          rw [if_pos h39]
          match l, h, hq, h2 with
          | [], h, hq, h2 =>
            simp at hq; obtain ⟨rfl, rfl⟩ := hq
            cases l' with
            | nil => rfl
            | cons d r =>
              simp only
              rw [if_neg]
              intro e
              exact h3 ((is39 d).1 e)
          | d :: r, h, hq, h2 =>
            simp only at hq
            split at hq
            · rename_i hd39
              rw [Option.map_eq_some_iff] at hq
              obtain ⟨⟨t', n'⟩, hqq, he⟩ := hq
              simp at he h; obtain ⟨rfl, rfl⟩ := he
              match l', h1, h2, h3 with
              | [], k1, k2, k3 => simp at k1
              | d' :: r', k1, k2, k3 =>
                simp only [List.take_succ_cons, List.cons.injEq, List.drop_succ_cons, List.length_cons] at k1 k2 k3
                obtain ⟨rfl, k2⟩ := k2
                simp only
                rw [if_pos hd39, ih r.length (by omega) r rfl t' n' r' hqq (by omega) k2 k3]; rfl
            · rename_i hd39
              simp at hq h; obtain ⟨rfl, rfl⟩ := hq
              cases l' with
              | nil => rfl
              | cons d' r' =>
                simp only
                rw [if_neg]
                intro e
                exact h3 ((is39 d').1 e)
        · rename_i h39
          rw [if_neg h39]
          rw [Option.map_eq_some_iff] at hq
          obtain ⟨⟨t', n'⟩, hq, he⟩ := hq
          simp at he; obtain ⟨rfl, rfl⟩ := he
          rw [ih l.length (by omega) l rfl t' n' l' hq (by omega) h2 h3]; rfl

theorem nextI_fits (signs : List ByteArray) (l : Bs) (g : Got) (h : nextI signs l = some g) (hok : g.ok = true) : g.len ≤ l.length := by
  have hne : 0 < l.length := by
    cases l with
    | nil =>
      have e : nextI signs [] = none := by
        unfold nextI
        rw [if_neg (by decide), if_neg (by decide), if_neg (by decide), if_neg (by simp), if_neg (by simp)]
      rw [e] at h; cases h
    | cons c l => simp
  have := nextI_len signs ⟨l.toArray⟩ 0 g (by simpa using h) hok (by simpa [ByteArray.size] using hne)
  simpa [ByteArray.size] using this
theorem sign2_brk (c : UInt8) (d : UInt8) (h : brk (d.toNat : Int) = true) : isSign [c, d] signList = false := by
  have hd : d = 32 ∨ d = 10 := by
    rcases brk_cases h with h | h | h
    · omega
    · exact .inl ((byte_eq d 32 (by decide)).2 h)
    · exact .inr ((byte_eq d 10 (by decide)).2 h)
  rcases hd with rfl | rfl <;> simp [isSign, signList]

/-- What was read as a token is read again, whatever stands behind it, if it goes on alike. -/
theorem nextI_like (l l' : Bs) (g : Got) (h : nextI signList l = some g) (hok : g.ok = true) (hl : Like l l' g.len) : nextI signList l' = some g := by
  have hpos := nextI_pos _ _ _ h
  have hhd := hd_take hl.take hpos
  have hfit := nextI_fits _ _ _ h hok
  unfold nextI at h ⊢
  rw [hhd]
  split at h
  · rename_i hb
    rw [if_pos hb]
    cases h
    have hs := nameLen_all l
    have e : nameLen l' = nameLen l := nameLen_of l' _ hl.len (by rw [hl.take]; exact hs.1) (by
      rcases hl.look with h | h
      · exact brk_part h
      · rw [h.1]; exact hs.2)
    rw [e, hl.take]
  · rename_i hb
    rw [if_neg hb]
    split at h
    · rename_i hq
      rw [if_pos hq]
      unfold quoTok at h ⊢
      rw [Option.map_eq_some_iff] at h
      obtain ⟨⟨t, n⟩, hx, rfl⟩ := h
      have ha := quo_after _ _ _ hx
      have haf : hd (l.drop (n + 1)) ≠ 39 := by have := ha.1; rwa [List.drop_drop, Nat.add_comm] at this
      simp only at hl hok hpos hfit ⊢
      by_cases hB : isB (hd (l.drop (n + 1))) = true
      · rw [if_pos hB] at hl hok hpos hfit ⊢
        simp only at hl hok hpos hfit
        have e1 : hd (l'.drop (n + 1)) = hd (l.drop (n + 1)) := hd_drop hl.take (by omega)
        have hq' : quo (l'.drop 1) = some (t, n) := quo_like _ _ _ _ hx (by have := hl.len; simp; omega) (take_drop_eq (take_le hl.take (by omega))) (by
          rw [List.drop_drop, Nat.add_comm, e1]; exact haf)
        rw [hq']
        simp only [Option.map_some]
        rw [e1, if_pos hB]
        congr 2
        rcases hl.look with h | h
        · rw [brk_part h]; simp [hok]
        · rw [h.1]
      · rw [if_neg hB] at hl hok hpos hfit ⊢
        simp only at hl hok hpos hfit
        have e0 : hd (l'.drop (n + 1)) ≠ 39 ∧ isB (hd (l'.drop (n + 1))) = false ∧ partI (hd (l'.drop (n + 1))) = false := by
          rcases hl.look with h | h
          · exact ⟨brk_ne h (by decide), brk_B h, brk_part h⟩
          · rw [h.1]; exact ⟨haf, by simpa using hB, by simpa using hok⟩
        have hq' : quo (l'.drop 1) = some (t, n) := quo_like _ _ _ _ hx (by have := hl.len; simp; omega) (take_drop_eq (by rw [Nat.add_comm]; exact hl.take)) (by
          rw [List.drop_drop, Nat.add_comm]; exact e0.1)
        rw [hq']
        simp only [Option.map_some]
        rw [if_neg (by rw [e0.2.1]; decide), e0.2.2]
        simp [hok]
    · rename_i hq
      rw [if_neg hq]
      split at h
      · rename_i hn
        cases h
        have hn1 : 2 ≤ (numTok l).len ∨ digI (hd l) = true := by
          rcases hn with hn | ⟨hn, hn2⟩
          · exact .inr hn
          · left
            cases l with
            | nil => exact absurd hn (by decide)
            | cons c r =>
              have hp := numScan_pos r true hn2
              have e : numScan (c :: r) false = _ := numScan_cons c r false
              rw [if_pos ⟨hn, rfl, hn2⟩] at e
              unfold numTok
              rw [e]
              simp only
              split
              · simp only; omega
              · simp only; omega
        have hn' : digI (hd l) = true ∨ (hd l = 46 ∧ digI (hd (l'.drop 1)) = true) := by
          rcases hn1 with h2 | h2
          · rcases hn with hn | ⟨hn, hn2⟩
            · exact .inl hn
            · exact .inr ⟨hn, by rw [hd_drop hl.take (by omega)]; exact hn2⟩
          · exact .inl h2
        rw [if_pos hn']
        have hst := numScan_stop l false
        unfold numTok at hl hok ⊢
        simp only at hl hok ⊢
        by_cases hB : isB (hd (l.drop (numScan l false).1)) = true ∧ (numScan l false).2 = false
        · rw [if_pos hB] at hl hok ⊢
          simp only at hl hok
          have e1 : hd (l'.drop (numScan l false).1) = hd (l.drop (numScan l false).1) := hd_drop hl.take (by omega)
          have hb66 : hd (l.drop (numScan l false).1) ≠ 46 := by intro e; rw [e] at hB; exact absurd hB.1 (by decide)
          have e := numScan_like l false l' (by have := hl.len; omega) (take_le hl.take (by omega)) (by rw [e1]; exact hst.1) (by rw [e1]; rintro ⟨a, _⟩; exact hb66 a)
          rw [e, e1, if_pos hB, take_le hl.take (Nat.le_succ _)]
          congr 2
          rcases hl.look with h | h
          · rw [brk_part h]; simp [hok]
          · rw [h.1]
        · rw [if_neg hB] at hl hok ⊢
          simp only at hl hok
          have e0 : digI (hd (l'.drop (numScan l false).1)) = false ∧ ¬ (hd (l'.drop (numScan l false).1) = 46 ∧ (numScan l false).2 = false ∧ digI (hd (l'.drop ((numScan l false).1 + 1))) = true) ∧
              ¬ (isB (hd (l'.drop (numScan l false).1)) = true ∧ (numScan l false).2 = false) ∧ partI (hd (l'.drop (numScan l false).1)) = false := by
            rcases hl.look with h | h
            · exact ⟨brk_dig h, by rintro ⟨a, _⟩; exact brk_ne h (by decide) a, by rw [brk_B h]; simp, brk_part h⟩
            · have h2 := h.2
              rw [h.1] at h2 ⊢
              exact ⟨hst.1, by rintro ⟨a, b, c⟩; exact hst.2 ⟨a, b, h2 a c⟩, hB, by simpa using hok⟩
          have e := numScan_like l false l' hl.len hl.take e0.1 e0.2.1
          rw [e, if_neg e0.2.2.1, hl.take, e0.2.2.2]
          simp [hok]
      · rename_i hn
        have h46 : ∀ (k : Bool), (k = true → g.len = 1) → (k = false → g.len = 2) → ¬ (digI (hd l) = true ∨ (hd l = 46 ∧ digI (hd (l'.drop 1)) = true)) := by
          rintro k h1 h2 (a | ⟨a, b⟩)
          · exact hn (.inl a)
          · cases k with
            | false => rw [hd_drop hl.take (by rw [h2 rfl]; decide)] at b; exact hn (.inr ⟨a, b⟩)
            | true =>
              have hlk := hl.look
              rw [h1 rfl] at hlk
              rcases hlk with h | h
              · rw [brk_dig h] at b; cases b
              · rw [h.1] at b; exact hn (.inr ⟨a, b⟩)
        split at h
        · rename_i hs
          cases h
          rw [if_neg (h46 false (by simp) (by simp)), if_pos ⟨hl.len, by rw [hl.take]; exact hs.2⟩, hl.take]
        · rename_i hs2
          split at h
          · rename_i hs
            cases h
            have hlk := hl.look
            have htk := hl.take
            have hln := hl.len
            simp only at hlk htk hln
            rw [if_neg (h46 true (by simp) (by simp)), if_neg, if_pos ⟨hl.len, by rw [htk]; exact hs.2⟩, htk]
            rintro ⟨a, b⟩
            match l', l, a, hs.1, htk, hlk, b, hs2 with
            | c :: d :: r, c' :: s, a, _, htk, hlk, b, hs2 =>
              simp at htk
              subst htk
              simp only [List.take_succ_cons, List.take_zero, List.drop_succ_cons, List.drop_zero] at b hlk hs2
              rcases hlk with h | h
              · rw [show hd (d :: r) = (d.toNat : Int) from rfl] at h
                rw [sign2_brk _ _ h] at b; cases b
              · cases s with
                | nil => simp [hd] at h
                | cons e s =>
                  have he : d = e := by
                    have h1 : (d.toNat : Int) = (e.toNat : Int) := h.1
                    exact UInt8.toNat_inj.1 (by omega)
                  subst he
                  exact hs2 ⟨by simp, by simpa using b⟩
          · cases h

theorem cmt_like (l l' : Bs) (n : Nat) (h : cmt l = some n) (hn : n ≤ l'.length) (ht : l'.take n = l.take n) : cmt l' = some n := by
  unfold cmt at h
  split at h
  · cases h
  · rename_i hneg
    split at h
    · rename_i hall
      cases h
      rcases Lib.index_spec (l.drop 2) [42, 47] with ⟨h1, _⟩ | ⟨i, h1, h2, h3, h4⟩
      · omega
      · rw [h1, Int.toNat_natCast] at hall hn ht ⊢
        have hocc : ∀ j, j + 2 ≤ i + 2 → Lib.occAt (l'.drop 2) [42, 47] j = Lib.occAt (l.drop 2) [42, 47] j := by
          intro j hj
          have e : (l'.drop (2 + j)).take 2 = (l.drop (2 + j)).take 2 := take_drop_eq (take_le ht (by omega))
          unfold Lib.occAt
          rw [List.drop_drop, List.drop_drop]
          generalize l'.drop (2 + j) = x at e
          generalize l.drop (2 + j) = y at e
          match x, y with
          | [], [] => rfl
          | [], _ :: _ => simp at e
          | _ :: _, [] => simp at e
          | [a], [b] => simp at e; subst e; rfl
          | [a], _ :: _ :: _ => simp at e
          | _ :: _ :: _, [b] => simp at e
          | a :: b :: x, c :: d :: y => simp at e; obtain ⟨rfl, rfl⟩ := e; simp [List.isPrefixOf]
        have e : Lib.index (l'.drop 2) [42, 47] = i := Lib.index_first (by simp; omega) (by rw [hocc i (by omega)]; exact h3) (fun j hj => by rw [hocc j (by omega)]; exact h4 j hj)
        unfold cmt
        rw [e, if_neg (by omega), Int.toNat_natCast, ht, if_pos hall]
    · cases h
theorem cmt_fits (l : Bs) (n : Nat) (h : cmt l = some n) : n ≤ l.length := by
  have := cmt_le (s := ⟨l.toArray⟩) (j := 0) (n := n) (by simpa using h)
  simpa [ByteArray.size] using this
end Lx
end Go.Proofs.YtafofcenphopbaaGreatDoor
