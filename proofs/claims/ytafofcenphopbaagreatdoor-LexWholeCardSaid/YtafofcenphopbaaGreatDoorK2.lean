/- The tokens and comments of a source, in order: the plain law. -/
import Derived.Test.YtafofcenphopbaaGreatDoorL5
import Derived.Lib.SlTrimSet
namespace Go.Proofs.YtafofcenphopbaaGreatDoor
namespace Lx

/-- A blank or a line feed. -/
def blk (c : UInt8) : Bool := ([32, 10] : Bs).contains c
theorem blk_iff (c : UInt8) : blk c = true ↔ (c.toNat : Int) = 32 ∨ (c.toNat : Int) = 10 := by
  unfold blk
  rw [List.contains_iff_mem]
  simp only [List.mem_cons, List.not_mem_nil, or_false]
  constructor
  · rintro (rfl | rfl)
    · exact .inl rfl
    · exact .inr rfl
  · rintro (h | h)
    · exact .inl ((byte_eq c 32 (by decide)).2 h)
    · exact .inr ((byte_eq c 10 (by decide)).2 h)
theorem drop_all {p : UInt8 → Bool} : ∀ (l : Bs), (∀ c ∈ l, p c = true) → l.dropWhile p = [] := by
  intro l
  induction l with
  | nil => intro _; rfl
  | cons c l ih => intro h; rw [List.dropWhile_cons_of_pos (h c (List.mem_cons_self ..))]; exact ih fun x hx => h x (List.mem_cons_of_mem _ hx)
theorem trim_all (l : Bs) (h : l.all blk = true) : Lib.trimS l [32, 10] = [] := by
  unfold Lib.trimS Lib.trimLeftS Lib.trimRightS
  have h1 : l.reverse.dropWhile (([32, 10] : Bs).contains ·) = [] := by
    refine drop_all _ fun x hx => ?_
    exact List.all_eq_true.1 h x (List.mem_reverse.1 hx)
  rw [h1]; rfl
theorem trim_right (x y : Bs) (c : UInt8) (hx : x.getLast? = some c) (hc : blk c = false) (hy : y.all blk = true) : Lib.trimRightS (x ++ y) [32, 10] = x := by
  unfold Lib.trimRightS
  have h1 : (x ++ y).reverse.dropWhile (([32, 10] : Bs).contains ·) = x.reverse := by
    rw [List.reverse_append, List.dropWhile_append_of_pos]
    · cases hr : x.reverse with
      | nil => rfl
      | cons d r =>
        have : x.getLast? = some d := by rw [← List.head?_reverse, hr]; rfl
        rw [hx] at this
        have e0 : c = d := Option.some.inj this
        rw [List.dropWhile_cons_of_neg]
        intro e
        have e' : blk d = true := e
        rw [← e0, hc] at e'; cases e'
    · intro a ha
      exact List.all_eq_true.1 hy a (List.mem_reverse.1 ha)
  rw [h1, List.reverse_reverse]

/-- Where the tokens and comments begin and end, in order. -/
def pcs : Nat → List It → List (Nat × Nat)
  | _, [] => []
  | i, it :: r => if it.com = true ∨ it.tok ≠ none then (i, i + it.len) :: pcs (i + it.len) r else pcs (i + it.len) r
/-- The tokens alone. -/
def tps : Nat → List It → List (Nat × Nat)
  | _, [] => []
  | i, it :: r => match it.tok with
    | some _ => (i, i + it.len) :: tps (i + it.len) r
    | none => tps (i + it.len) r
/-- Where the next token or comment begins. -/
def endB : Nat → List It → Nat
  | i, [] => i
  | i, it :: r => if it.com = true ∨ it.tok ≠ none then i else endB (i + it.len) r
/-- The places of the tokens' blanks' ends. -/
def tes : Nat → List It → List Nat
  | _, [] => []
  | i, it :: r => match it.tok with
    | some _ => endB (i + it.len) r :: tes (i + it.len) r
    | none => tes (i + it.len) r
def endC (a e : Nat) (cs : List (Nat × Nat)) : Nat := cs.foldl (fun e c => if a ≤ c.1 ∧ c.1 < e then c.1 else e) e
def nxt (n : Nat) : List Tok → Nat
  | [] => n
  | t :: _ => t.at_

theorem parse_inv {l : Bs} {it : It} {r : List It} (h : parse l = (it :: r, [])) : step l = some it ∧ parse (l.drop it.len) = (r, []) := by
  rcases hs : step l with _ | jt
  · rw [parse_none hs] at h; cases h
  · rw [parse_some hs] at h
    have h1 := congrArg Prod.fst h
    have h2 := congrArg Prod.snd h
    simp only [List.cons.injEq] at h1 h2
    obtain ⟨rfl, h1⟩ := h1
    exact ⟨rfl, by rw [← h1, ← h2]⟩
/-- A step's three kinds. -/
theorem step_kind {l : Bs} {it : It} (h : step l = some it) : (it = ⟨1, none, false⟩ ∧ (hd l = 32 ∨ hd l = 10)) ∨ (it.com = true ∧ it.tok = none) ∨ (∃ a, it.tok = some a ∧ it.com = false) := by
  unfold step at h
  split at h
  · rename_i hb; cases h; exact .inl ⟨rfl, hb⟩
  · split at h
    · rw [Option.map_eq_some_iff] at h
      obtain ⟨n, _, rfl⟩ := h
      exact .inr (.inl ⟨rfl, rfl⟩)
    · split at h
      · cases h
      · split at h
        · cases h
        · cases h; exact .inr (.inr ⟨_, rfl, rfl⟩)
theorem endB_ge (r : List It) : ∀ i, i ≤ endB i r := by
  induction r with
  | nil => intro i; exact Nat.le_refl _
  | cons it r ih =>
    intro i
    unfold endB
    split
    · exact Nat.le_refl _
    · exact Nat.le_trans (Nat.le_add_right _ _) (ih _)
theorem endB_le (r : List It) : ∀ i, endB i r ≤ i + wid r := by
  induction r with
  | nil => intro i; exact Nat.le_refl _
  | cons it r ih =>
    intro i
    unfold endB
    simp only [wid]
    split
    · omega
    · have := ih (i + it.len)
      omega
theorem itoks_ge (r : List It) : ∀ i, ∀ t ∈ itoks i r, i ≤ t.at_ := by
  induction r with
  | nil => intro i t h; cases h
  | cons it r ih =>
    intro i t h
    unfold itoks at h
    split at h
    · rcases List.mem_cons.1 h with rfl | h
      · exact Nat.le_refl _
      · exact Nat.le_trans (Nat.le_add_right _ _) (ih _ t h)
    · exact Nat.le_trans (Nat.le_add_right _ _) (ih _ t h)
theorem icoms_ge (r : List It) : ∀ i, ∀ c ∈ icoms i r, i ≤ c.1 := by
  induction r with
  | nil => intro i t h; cases h
  | cons it r ih =>
    intro i t h
    unfold icoms at h
    split at h
    · rcases List.mem_cons.1 h with rfl | h
      · exact Nat.le_refl _
      · exact Nat.le_trans (Nat.le_add_right _ _) (ih _ t h)
    · exact Nat.le_trans (Nat.le_add_right _ _) (ih _ t h)
theorem pcs_ge (r : List It) : ∀ i, ∀ c ∈ pcs i r, i ≤ c.1 := by
  induction r with
  | nil => intro i t h; cases h
  | cons it r ih =>
    intro i t h
    unfold pcs at h
    split at h
    · rcases List.mem_cons.1 h with rfl | h
      · exact Nat.le_refl _
      · exact Nat.le_trans (Nat.le_add_right _ _) (ih _ t h)
    · exact Nat.le_trans (Nat.le_add_right _ _) (ih _ t h)
theorem endC_skip (a e : Nat) : ∀ (cs : List (Nat × Nat)), (∀ c ∈ cs, c.1 < a ∨ e ≤ c.1) → endC a e cs = e := by
  intro cs
  induction cs with
  | nil => intro _; rfl
  | cons c cs ih =>
    intro h
    unfold endC
    rw [List.foldl_cons, if_neg (by have := h c (List.mem_cons_self ..); omega)]
    exact ih fun c hc => h c (List.mem_cons_of_mem _ hc)
theorem endC_app (a e : Nat) (xs ys : List (Nat × Nat)) : endC a e (xs ++ ys) = endC a (endC a e xs) ys := by
  unfold endC; rw [List.foldl_append]
theorem nxt_ge (n : Nat) (r : List It) (i : Nat) (h : i ≤ n) : i ≤ nxt n (itoks i r) := by
  have := itoks_ge r i
  revert this
  cases itoks i r with
  | nil => intro _; exact h
  | cons t ts => intro h; exact h t (List.mem_cons_self ..)
/-- What the comments leave of the place where the next token begins. -/
theorem endC_B (n i : Nat) : ∀ (r : List It) (j : Nat), (∀ it ∈ r, 1 ≤ it.len) → i ≤ j → j + wid r = n → (∀ it ∈ r, it.com = true → it.tok = none) → endC i (nxt n (itoks j r)) (icoms j r) = endB j r := by
  intro r
  induction r with
  | nil => intro j _ _ hw _; exact hw.symm
  | cons it r ih =>
    intro j hp hij hw hct
    have h1 := hp it (List.mem_cons_self ..)
    have hp' : ∀ it ∈ r, 1 ≤ it.len := fun x hx => hp x (List.mem_cons_of_mem _ hx)
    have hct' : ∀ it ∈ r, it.com = true → it.tok = none := fun x hx => hct x (List.mem_cons_of_mem _ hx)
    simp only [wid] at hw
    cases ht : it.tok with
    | some a =>
      have hc : it.com = false := by
        cases hcc : it.com with
        | false => rfl
        | true => have := hct it (List.mem_cons_self ..) hcc; rw [ht] at this; cases this
      unfold itoks icoms endB
      rw [ht, hc, if_neg (by simp), if_pos (.inr (by simp))]
      simp only [nxt]
      exact endC_skip _ _ _ fun c hc' => .inr (by have := icoms_ge r _ c hc'; omega)
    | none =>
      unfold itoks icoms endB
      rw [ht]
      simp only
      cases hc : it.com with
      | true =>
        rw [if_pos ⟨rfl, trivial⟩, if_pos (.inl rfl)]
        have hn := nxt_ge n r (j + it.len) (by omega)
        unfold endC
        rw [List.foldl_cons, if_pos ⟨by simpa using hij, by simp only; omega⟩]
        exact endC_skip _ _ _ fun c hc' => .inr (by have := icoms_ge r _ c hc'; simp only; omega)
      | false =>
        rw [if_neg (by simp), if_neg (by simp)]
        exact ih (j + it.len) hp' (by omega) (by omega) hct'
/-- The bytes up to the next token or comment are blanks. -/
theorem endB_blank (L : Bs) : ∀ (r : List It) (j : Nat), parse (L.drop j) = (r, []) → ((L.drop j).take (endB j r - j)).all blk = true := by
  intro r
  induction r with
  | nil => intro j _; simp [endB]
  | cons it r ih =>
    intro j hp
    obtain ⟨hs, hp'⟩ := parse_inv hp
    unfold endB
    rcases step_kind hs with ⟨rfl, hb⟩ | ⟨hc, _⟩ | ⟨a, ha, _⟩
    · rw [if_neg (by simp)]
      have := ih (j + 1) (by rw [List.drop_drop] at hp'; exact hp')
      have hge := endB_ge r (j + 1)
      have hne := step_ne hs
      cases hl : L.drop j with
      | nil => exact absurd hl hne
      | cons c l =>
        rw [hl] at hb
        have e : L.drop (j + 1) = l := by rw [← List.drop_drop, hl]; rfl
        rw [e] at this
        rw [show endB (j + 1) r - j = (endB (j + 1) r - (j + 1)) + 1 from by omega, List.take_succ_cons, List.all_cons, this, (blk_iff c).2 hb]; rfl
    · rw [if_pos (.inl hc)]; simp
    · rw [if_pos (.inr (by rw [ha]; simp))]; simp
/-- The last byte of what was scanned of a constant of digits. -/
theorem numScan_last : ∀ (l : Bs) (p : Bool), 1 ≤ (numScan l p).1 → ∃ c, (l.take (numScan l p).1).getLast? = some c ∧ digI (c.toNat : Int) = true := by
  intro l
  induction l with
  | nil => intro p h; simp [numScan] at h
  | cons c l ih =>
    intro p h
    rw [numScan_cons] at h ⊢
    split at h
    · rename_i hc
      rw [if_pos hc]
      have h1 := numScan_pos l true hc.2.2
      obtain ⟨d, hd1, hd2⟩ := ih true h1
      refine ⟨d, ?_, hd2⟩
      simp only
      rw [List.take_succ_cons, List.getLast?_cons, hd1]; rfl
    · rename_i hc
      rw [if_neg hc]
      split at h
      · rename_i hdg
        rw [if_pos hdg]
        simp only
        rw [List.take_succ_cons]
        rcases Nat.eq_zero_or_pos (numScan l p).1 with h0 | h0
        · rw [h0]; exact ⟨c, rfl, hdg⟩
        · obtain ⟨d, hd1, hd2⟩ := ih p h0
          exact ⟨d, by rw [List.getLast?_cons, hd1]; rfl, hd2⟩
      · cases h
theorem quo_last : ∀ (l : Bs) (t : Bs) (n : Nat), quo l = some (t, n) → (l.take n).getLast? = some 39 ∧ 1 ≤ n := by
  intro l
  induction h : l.length using Nat.strongRecOn generalizing l with
  | ind m ih =>
    intro t n hq
    match l, h with
    | [], _ => cases hq
    | c :: l, h =>
      rw [quo_cons] at hq
      split at hq
      · cases hq
      · split at hq
        · rename_i h39
          subst h39
          match l, h, hq with
          | [], h, hq => simp at hq; obtain ⟨rfl, rfl⟩ := hq; exact ⟨rfl, Nat.le_refl _⟩
          | d :: r, h, hq =>
            simp only at hq
            split at hq
            · rw [Option.map_eq_some_iff] at hq
              obtain ⟨⟨t', n'⟩, hq, he⟩ := hq
              have := ih r.length (by simp at h; omega) r rfl t' n' hq
              simp at he; obtain ⟨rfl, rfl⟩ := he
              refine ⟨?_, by omega⟩
              rw [List.take_succ_cons, List.take_succ_cons, List.getLast?_cons, List.getLast?_cons, this.1]; rfl
            · simp at hq; obtain ⟨rfl, rfl⟩ := hq; exact ⟨rfl, Nat.le_refl _⟩
        · rw [Option.map_eq_some_iff] at hq
          obtain ⟨⟨t', n'⟩, hq, he⟩ := hq
          have := ih l.length (by simp at h; omega) l rfl t' n' hq
          simp at he; obtain ⟨rfl, rfl⟩ := he
          refine ⟨?_, by omega⟩
          rw [List.take_succ_cons, List.getLast?_cons, this.1]; rfl
theorem take_last (l : Bs) (n : Nat) (h : 0 ≤ hd (l.drop n)) : ∃ c, (l.take (n + 1)).getLast? = some c ∧ (c.toNat : Int) = hd (l.drop n) := by
  rcases Nat.lt_or_ge n l.length with h' | h'
  · refine ⟨l[n], ?_, ?_⟩
    · rw [List.take_succ_eq_append_getElem h', List.getLast?_append]; simp
    · rw [List.drop_eq_getElem_cons h']; rfl
  · rw [List.drop_of_length_le h'] at h; exact absurd h (by decide)
theorem isB_hd {x : Int} (h : isB x = true) : x = 66 ∨ x = 98 := by unfold isB at h; simpa using h
theorem name_last : ∀ (l : Bs), 1 ≤ nameLen l → ∃ c, (l.take (nameLen l)).getLast? = some c ∧ partI (c.toNat : Int) = true := by
  intro l
  induction l with
  | nil => intro h; simp [nameLen] at h
  | cons c l ih =>
    intro h
    unfold nameLen at h ⊢
    split at h
    · rename_i hp
      rw [if_pos hp, List.take_succ_cons]
      rcases Nat.eq_zero_or_pos (nameLen l) with h0 | h0
      · rw [h0]; exact ⟨c, rfl, hp⟩
      · obtain ⟨d, hd1, hd2⟩ := ih h0
        exact ⟨d, by rw [List.getLast?_cons, hd1]; rfl, hd2⟩
    · cases h
theorem sign_last : ∀ t ∈ signList, ∃ c, t.data.toList.getLast? = some c ∧ blk c = false := by
  have h : (signList.all fun t => match t.data.toList.getLast? with | some c => !blk c | none => false) = true := by decide +kernel
  intro t ht
  have := List.all_eq_true.1 h t ht
  revert this
  cases t.data.toList.getLast? with
  | none => intro h; cases h
  | some c => intro h; exact ⟨c, rfl, by simpa using h⟩
theorem part_blk {c : UInt8} (h : partI (c.toNat : Int) = true) : blk c = false := by
  cases hb : blk c with
  | false => rfl
  | true => exact absurd ((blk_iff c).1 hb) (part_head h).1
/-- A token's last byte is no blank. -/
theorem tok_last {l : Bs} {it : It} {a : Int × ByteArray} (h : step l = some it) (ha : it.tok = some a) : ∃ c, (l.take it.len).getLast? = some c ∧ blk c = false := by
  have hlen := step_len h
  unfold step at h
  split at h
  · cases h; cases ha
  · split at h
    · rw [Option.map_eq_some_iff] at h
      obtain ⟨n, hn, rfl⟩ := h
      cases ha
    · split at h
      · cases h
      · rename_i g hg
        split at h
        · cases h
        · cases h
          simp only at hlen ⊢
          unfold nextI at hg
          split at hg
          · cases hg
            obtain ⟨c, h1, h2⟩ := name_last l hlen.1
            exact ⟨c, h1, part_blk h2⟩
          · split at hg
            · rename_i h39
              unfold quoTok at hg
              rw [Option.map_eq_some_iff] at hg
              obtain ⟨⟨t, n⟩, hq, rfl⟩ := hg
              have hl := quo_last _ _ _ hq
              simp only
              split
              · rename_i hb
                have hb' := isB_hd hb
                obtain ⟨c, h1, h2⟩ := take_last l (n + 1) (by rcases hb' with e | e <;> omega)
                refine ⟨c, h1, ?_⟩
                cases hk : blk c with
                | false => rfl
                | true => have := (blk_iff c).1 hk; omega
              · refine ⟨39, ?_, by decide⟩
                cases l with
                | nil => exact absurd h39 (by decide)
                | cons c l =>
                  simp only [List.drop_succ_cons, List.drop_zero] at hl
                  rw [List.take_succ_cons, List.getLast?_cons, hl.1]; rfl
            · split at hg
              · cases hg
                unfold numTok at hlen ⊢
                simp only at hlen ⊢
                split at hlen
                · rename_i hb
                  rw [if_pos hb]
                  have hb' := isB_hd hb.1
                  obtain ⟨c, h1, h2⟩ := take_last l (numScan l false).1 (by rcases hb' with e | e <;> omega)
                  refine ⟨c, h1, ?_⟩
                  cases hk : blk c with
                  | false => rfl
                  | true => have := (blk_iff c).1 hk; omega
                · rename_i hb
                  rw [if_neg hb]
                  obtain ⟨c, h1, h2⟩ := numScan_last l false hlen.1
                  exact ⟨c, h1, part_blk (dig_part h2)⟩
              · split at hg
                · rename_i hs
                  cases hg
                  have := sign_last _ (signs_only hs.2)
                  simpa using this
                · split at hg
                  · rename_i hs
                    cases hg
                    have := sign_last _ (signs_only hs.2)
                    simpa using this
                  · cases hg

theorem items_ct {l : Bs} {r : List It} {x : Bs} (h : parse l = (r, x)) : ∀ it ∈ r, it.com = true → it.tok = none := by
  revert r x
  suffices H : ∀ r x, parse l = (r, x) → ∀ it ∈ r, it.com = true → it.tok = none from fun {r x} h => H r x h
  refine parse_ind (P := fun l => ∀ r x, parse l = (r, x) → ∀ it ∈ r, it.com = true → it.tok = none) (fun l h => ?_) (fun l it h ih => ?_) l
  · intro r x hp; rw [parse_none h] at hp; cases hp; intro it hi; cases hi
  · intro r x hp jt hj hc
    rw [parse_some h] at hp
    cases hp
    rcases List.mem_cons.1 hj with rfl | hj
    · exact (step_com h hc).1
    · exact ih _ _ rfl jt hj hc
/-- What is said of each token: where the next one begins, the comments, the blanks. -/
theorem tok_facts (L : Bs) (cs : List (Nat × Nat)) : ∀ (r : List It) (i : Nat) (C0 : List (Nat × Nat)), parse (L.drop i) = (r, []) → i + wid r = L.length → cs = C0 ++ icoms i r → (∀ c ∈ C0, c.1 < i) →
    (tps i r).length = (itoks i r).length ∧ (tes i r).length = (itoks i r).length ∧
    ∀ k (h : k < (itoks i r).length) (h1 : k < (tps i r).length) (h2 : k < (tes i r).length), ((tps i r)[k]'h1).1 = ((itoks i r)[k]'h).at_ ∧
      endC ((itoks i r)[k]'h).at_ (nxt L.length ((itoks i r).drop (k + 1))) cs = (tes i r)[k]'h2 ∧ ((tps i r)[k]'h1).1 < ((tps i r)[k]'h1).2 ∧ ((tps i r)[k]'h1).2 ≤ (tes i r)[k]'h2 ∧ (tes i r)[k]'h2 ≤ L.length ∧
      Lib.trimRightS ((L.drop ((tps i r)[k]'h1).1).take ((tes i r)[k]'h2 - ((tps i r)[k]'h1).1)) [32, 10] = (L.drop ((tps i r)[k]'h1).1).take (((tps i r)[k]'h1).2 - ((tps i r)[k]'h1).1) := by
  intro r
  induction r with
  | nil => intro i C0 _ _ _ _; exact ⟨rfl, rfl, fun k h => by cases h⟩
  | cons it r ih =>
    intro i C0 hp hw hcs hC0
    have hct := items_ct hp
    have hpos := parse_pos (L.drop i)
    rw [hp] at hpos
    simp only at hpos
    obtain ⟨hs, hp'⟩ := parse_inv hp
    rw [List.drop_drop] at hp'
    simp only [wid] at hw
    have h1 := hpos it (List.mem_cons_self ..)
    cases ht : it.tok with
    | none =>
      have e1 : itoks i (it :: r) = itoks (i + it.len) r := by conv => lhs; unfold itoks; rw [ht]
      have e2 : tps i (it :: r) = tps (i + it.len) r := by conv => lhs; unfold tps; rw [ht]
      have e3 : tes i (it :: r) = tes (i + it.len) r := by conv => lhs; unfold tes; rw [ht]
      simp only [e1, e2, e3]
      by_cases hc : it.com = true
      · have e4 : icoms i (it :: r) = (i, i + it.len) :: icoms (i + it.len) r := by conv => lhs; unfold icoms; rw [if_pos ⟨hc, ht⟩]
        refine ih (i + it.len) (C0 ++ [(i, i + it.len)]) hp' (by omega) (by rw [hcs, e4]; simp) ?_
        intro c hc'
        rcases List.mem_append.1 hc' with hc' | hc'
        · have := hC0 c hc'; omega
        · obtain rfl := List.mem_singleton.1 hc'; simp only; omega
      · have e4 : icoms i (it :: r) = icoms (i + it.len) r := by conv => lhs; unfold icoms; rw [if_neg (fun h => hc h.1)]
        exact ih (i + it.len) C0 hp' (by omega) (by rw [hcs, e4]) fun c hc' => by have := hC0 c hc'; omega
    | some a =>
      have hc : it.com = false := by
        cases hcc : it.com with
        | false => rfl
        | true => have := hct it (List.mem_cons_self ..) hcc; rw [ht] at this; cases this
      have e1 : itoks i (it :: r) = ⟨a.1, a.2, i⟩ :: itoks (i + it.len) r := by conv => lhs; unfold itoks; rw [ht]
      have e2 : tps i (it :: r) = (i, i + it.len) :: tps (i + it.len) r := by conv => lhs; unfold tps; rw [ht]
      have e3 : tes i (it :: r) = endB (i + it.len) r :: tes (i + it.len) r := by conv => lhs; unfold tes; rw [ht]
      have e4 : icoms i (it :: r) = icoms (i + it.len) r := by conv => lhs; unfold icoms; rw [if_neg (fun h => by rw [hc] at h; cases h.1)]
      obtain ⟨hl1, hl2, hk⟩ := ih (i + it.len) C0 hp' (by omega) (by rw [hcs, e4]) fun c hc' => by have := hC0 c hc'; omega
      simp only [e1, e2, e3]
      refine ⟨by simp [hl1], by simp [hl2], ?_⟩
      intro k h h1' h2'
      cases k with
      | zero =>
        simp only [List.getElem_cons_zero, List.drop_succ_cons, List.drop_zero]
        have hb := endB_blank L r (i + it.len) hp'
        have hge := endB_ge r (i + it.len)
        have hle := endB_le r (i + it.len)
        refine ⟨trivial, ?_, by omega, hge, by omega, ?_⟩
        · rw [hcs, e4, endC_app, endC_skip _ _ C0 fun c hc' => .inl (hC0 c hc')]
          exact endC_B L.length i r (i + it.len) (fun x hx => hpos x (List.mem_cons_of_mem _ hx)) (by omega) (by omega) (fun x hx => hct x (List.mem_cons_of_mem _ hx))
        · obtain ⟨c, hc1, hc2⟩ := tok_last hs ht
          have hsplit : (L.drop i).take (endB (i + it.len) r - i) = (L.drop i).take it.len ++ (L.drop (i + it.len)).take (endB (i + it.len) r - (i + it.len)) := by
            rw [show endB (i + it.len) r - i = it.len + (endB (i + it.len) r - (i + it.len)) from by omega, List.take_add, List.drop_drop]
          rw [hsplit, trim_right _ _ c hc1 hc2 hb, show i + it.len - i = it.len from by omega]
      | succ k =>
        simp only [List.getElem_cons_succ, List.drop_succ_cons]
        exact hk k (by simpa using h) (by simpa using h1') (by simpa using h2')
theorem pieces_perm : ∀ (r : List It) (i : Nat), (∀ it ∈ r, it.com = true → it.tok = none) → (icoms i r ++ tps i r).Perm (pcs i r) := by
  intro r
  induction r with
  | nil => intro i _; exact List.Perm.refl _
  | cons it r ih =>
    intro i hct
    have hi := ih (i + it.len) fun x hx => hct x (List.mem_cons_of_mem _ hx)
    have hc0 := hct it (List.mem_cons_self ..)
    unfold icoms tps pcs
    cases ht : it.tok with
    | none =>
      simp only
      by_cases hc : it.com = true
      · rw [if_pos ⟨hc, trivial⟩, if_pos (.inl hc)]
        exact hi.cons _
      · rw [if_neg (fun h => hc h.1), if_neg (by simp [hc])]; exact hi
    | some a =>
      simp only
      rw [if_neg (by simp), if_pos (.inr (by simp))]
      exact List.perm_middle.trans (hi.cons _)
/-- They lie one behind the other, with blanks between. -/
theorem pcs_chain (L : Bs) : ∀ (r : List It) (i : Nat), parse (L.drop i) = (r, []) → i + wid r = L.length →
    (pcs i r).Pairwise (fun a b => a.1 < b.1) ∧
    (∀ k (h : k < (pcs i r).length), (if k = 0 then i else ((pcs i r)[k - 1]'(by omega)).2) ≤ ((pcs i r)[k]'h).1 ∧ ((pcs i r)[k]'h).1 < ((pcs i r)[k]'h).2 ∧ ((pcs i r)[k]'h).2 ≤ L.length ∧
      ((L.drop (if k = 0 then i else ((pcs i r)[k - 1]'(by omega)).2)).take (((pcs i r)[k]'h).1 - (if k = 0 then i else ((pcs i r)[k - 1]'(by omega)).2))).all blk = true) ∧
    (L.drop (match (pcs i r).getLast? with | none => i | some x => x.2)).all blk = true := by
  intro r
  induction r with
  | nil =>
    intro i hp hw
    simp only [wid] at hw
    refine ⟨List.Pairwise.nil, fun k h => absurd h (Nat.not_lt_zero k), ?_⟩
    simp [pcs, List.drop_of_length_le (show L.length ≤ i by omega)]
  | cons it r ih =>
    intro i hp hw
    have hpos := parse_pos (L.drop i)
    rw [hp] at hpos
    simp only at hpos
    have hb0 := endB_blank L (it :: r) i hp
    obtain ⟨hs, hp'⟩ := parse_inv hp
    rw [List.drop_drop] at hp'
    simp only [wid] at hw
    have h1 := hpos it (List.mem_cons_self ..)
    obtain ⟨i1, i2, i3⟩ := ih (i + it.len) hp' (by omega)
    rcases step_kind hs with ⟨rfl, hb⟩ | hk
    · have e1 : pcs i (⟨1, none, false⟩ :: r) = pcs (i + 1) r := by conv => lhs; unfold pcs; rw [if_neg (by simp)]
      simp only at i1 i2 i3
      have hne := step_ne hs
      obtain ⟨c, l, hl⟩ : ∃ c l, L.drop i = c :: l := by
        cases hl : L.drop i with
        | nil => exact absurd hl hne
        | cons c l => exact ⟨c, l, rfl⟩
      have hbc : blk c = true := (blk_iff c).2 (by rw [hl] at hb; exact hb)
      have hl' : L.drop (i + 1) = l := by rw [← List.drop_drop, hl]; rfl
      simp only [e1]
      refine ⟨i1, fun k h => ?_, ?_⟩
      · obtain ⟨j1, j2, j3, j4⟩ := i2 k h
        rcases Nat.eq_zero_or_pos k with rfl | hk0
        · simp only [if_true] at j1 j4 ⊢
          refine ⟨by omega, j2, j3, ?_⟩
          rw [hl] 
          rw [hl'] at j4
          rw [show ((pcs (i + 1) r)[0]).1 - i = (((pcs (i + 1) r)[0]).1 - (i + 1)) + 1 from by omega, List.take_succ_cons, List.all_cons, j4, hbc]; rfl
        · rw [if_neg (by omega)] at j1 ⊢
          simp only [if_neg (show ¬ k = 0 by omega)] at j4 ⊢
          exact ⟨j1, j2, j3, j4⟩
      · cases hg : (pcs (i + 1) r).getLast? with
        | none =>
          rw [hg] at i3
          simp only at i3 ⊢
          rw [hl'] at i3
          rw [hl, List.all_cons, i3, hbc]; rfl
        | some x => rw [hg] at i3; exact i3
    · have hcond : it.com = true ∨ it.tok ≠ none := by
        rcases hk with ⟨hc, _⟩ | ⟨a, ha, _⟩
        · exact .inl hc
        · exact .inr (by rw [ha]; simp)
      have e1 : pcs i (it :: r) = (i, i + it.len) :: pcs (i + it.len) r := by conv => lhs; unfold pcs; rw [if_pos hcond]
      simp only [e1]
      refine ⟨List.pairwise_cons.2 ⟨fun x hx => by have := pcs_ge r _ x hx; simp only; omega, i1⟩, fun k h => ?_, ?_⟩
      · cases k with
        | zero => simp; omega
        | succ k =>
          obtain ⟨j1, j2, j3, j4⟩ := i2 k (by simpa using h)
          simp only [Nat.add_one_ne_zero, if_false, List.getElem_cons_succ, Nat.add_sub_cancel]
          cases k with
          | zero =>
            simp only [if_true, List.getElem_cons_zero] at j1 j4 ⊢
            exact ⟨j1, j2, j3, j4⟩
          | succ k =>
            simp only [Nat.add_one_ne_zero, if_false, List.getElem_cons_succ, Nat.add_sub_cancel] at j1 j4 ⊢
            exact ⟨j1, j2, j3, j4⟩
      · rw [List.getLast?_cons]
        cases hg : (pcs (i + it.len) r).getLast? with
        | none => rw [hg] at i3; simp only at i3; simpa using i3
        | some x => rw [hg] at i3; simp only at i3; simpa using i3
/-- A piece by itself. -/
theorem piece_own (L : Bs) : ∀ (r : List It) (i : Nat), parse (L.drop i) = (r, []) → i + wid r = L.length → ∀ x ∈ pcs i r, ∃ it, step (L.drop x.1) = some it ∧ x.2 = x.1 + it.len ∧ x.2 ≤ L.length ∧
    (∀ t ∈ itoks i r, t.at_ = x.1 → it.tok = some (t.kind, t.text)) ∧ ((∀ t ∈ itoks i r, t.at_ ≠ x.1) → it.tok = none) := by
  intro r
  induction r with
  | nil => intro i _ _ x hx; cases hx
  | cons it r ih =>
    intro i hp hw x hx
    have hpos := parse_pos (L.drop i)
    rw [hp] at hpos
    simp only at hpos
    obtain ⟨hs, hp'⟩ := parse_inv hp
    rw [List.drop_drop] at hp'
    simp only [wid] at hw
    have h1 := hpos it (List.mem_cons_self ..)
    have hrest : ∀ x ∈ pcs (i + it.len) r, ∃ jt, step (L.drop x.1) = some jt ∧ x.2 = x.1 + jt.len ∧ x.2 ≤ L.length ∧ (∀ t ∈ itoks i (it :: r), t.at_ = x.1 → jt.tok = some (t.kind, t.text)) ∧ ((∀ t ∈ itoks i (it :: r), t.at_ ≠ x.1) → jt.tok = none) := by
      intro x hx
      obtain ⟨jt, a1, a2, a3, a4, a5⟩ := ih (i + it.len) hp' (by omega) x hx
      have hge := pcs_ge r _ x hx
      refine ⟨jt, a1, a2, a3, ?_, ?_⟩
      · intro t ht he
        unfold itoks at ht
        split at ht
        · rcases List.mem_cons.1 ht with rfl | ht
          · simp only at he; omega
          · exact a4 t ht he
        · exact a4 t ht he
      · intro hno
        refine a5 fun t ht => hno t ?_
        unfold itoks
        split
        · exact List.mem_cons_of_mem _ ht
        · exact ht
    unfold pcs at hx
    split at hx
    · rcases List.mem_cons.1 hx with rfl | hx
      · refine ⟨it, hs, rfl, by simp only; omega, ?_, ?_⟩
        · intro t ht he
          simp only at he
          unfold itoks at ht
          split at ht
          · rename_i k tx hk
            rcases List.mem_cons.1 ht with rfl | ht
            · exact hk
            · have := itoks_ge r _ t ht; omega
          · have := itoks_ge r _ t ht; omega
        · intro hno
          cases ht : it.tok with
          | none => rfl
          | some a =>
            refine absurd rfl (hno ⟨a.1, a.2, i⟩ ?_)
            unfold itoks; rw [ht]; exact List.mem_cons_self ..
      · exact hrest x hx
    · exact hrest x hx
theorem one_item {l : Bs} {it : It} (h : step l = some it) (hl : l.length = it.len) : parse l = ([it], []) := by
  rw [parse_some h, List.drop_of_length_le (by omega), parse_nil]
theorem extract_list (s : ByteArray) (a b : Nat) : (s.extract a b).data.toList = (s.data.toList.drop a).take (b - a) := by
  simp [ByteArray.data_extract, List.take_drop]
end Lx
end Go.Proofs.YtafofcenphopbaaGreatDoor
