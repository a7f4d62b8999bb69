/- LexWhole, LexLongest: what is said of each piece. -/
import Derived.Test.YtafofcenphopbaaGreatDoorK4
namespace Go.Proofs.YtafofcenphopbaaGreatDoor
open Go.RowKit Lx

/-- Where the piece ahead ends. -/
def prevE (P : List (Nat × Nat)) (k : Nat) : Nat := if k = 0 then 0 else (P[k - 1]!).2
structure WholeF (s : ByteArray) (us : List T3) (P : List (Nat × Nat)) : Prop where
  len : P.length ≤ s.size
  ul : us.length ≤ 5000
  lo : ∀ k, k < P.length → prevE P k ≤ (P[k]!).1 ∧ (P[k]!).1 < (P[k]!).2 ∧ (P[k]!).2 ≤ s.size
  gap : ∀ k, k < P.length → Lib.trimS (s.extract (prevE P k) (P[k]!).1).data.toList [32, 10] = []
  last : prevE P P.length ≤ s.size ∧ Lib.trimS (s.extract (prevE P P.length) s.size).data.toList [32, 10] = []
  err : ∀ k, k < P.length → (scanR (s.extract (P[k]!).1 (P[k]!).2)).err = 0
  own : ∀ k, k < P.length → (fAt (P[k]!).1 us 0 = -1 ∧ (scanR (s.extract (P[k]!).1 (P[k]!).2)).toks = []) ∨
    ∃ j, j < us.length ∧ fAt (P[k]!).1 us 0 = (j : Int) ∧ ((scanR (s.extract (P[k]!).1 (P[k]!).2)).toks.map Tok.t3).map T3.z = [us[j]!].map T3.z
  more : ∀ k, k < P.length → 0 ≤ fAt (P[k]!).1 us 0 → ∀ K, (P[k]!).2 < K → K ≤ s.size → (scanR (s.extract (P[k]!).1 K)).err = 0 → ∀ t, (scanR (s.extract (P[k]!).1 K)).toks = [t] →
    checkI t.kind t.text = true ∧ (spellI t.kind t.text).size = (P[k]!).2 - (P[k]!).1
theorem whole_facts (s : ByteArray) (hs : s.size ≤ 2000) (he : (scanR s).err = 0) : WholeF s ((scanR s).toks.map Tok.t3) (pcs 0 (parse s.data.toList).1) := by
  have htl := toks_le' s he
  obtain ⟨h1, h2, h3, h4⟩ := scanR_ok s he
  have hp : parse (s.data.toList.drop 0) = ((parse s.data.toList).1, []) := by rw [List.drop_zero, ← h1]
  have hw : 0 + wid (parse s.data.toList).1 = s.data.toList.length := by rw [Nat.zero_add]; exact wid_all h1
  have hch := pcs_chain s.data.toList (parse s.data.toList).1 0 hp hw
  have how := piece_own s.data.toList (parse s.data.toList).1 0 hp hw
  have hsz : s.data.toList.length = s.size := rfl
  have htk : (scanR s).toks = itoks 0 (parse s.data.toList).1 := by rw [h4]
  rw [htk] at htl ⊢
  generalize (parse s.data.toList).1 = r at hch how htl ⊢
  generalize itoks 0 r = ts at how htl ⊢
  obtain ⟨c1, c2, c3⟩ := hch
  have lo : ∀ k, k < (pcs 0 r).length → prevE (pcs 0 r) k ≤ ((pcs 0 r)[k]!).1 ∧ ((pcs 0 r)[k]!).1 < ((pcs 0 r)[k]!).2 ∧ ((pcs 0 r)[k]!).2 ≤ s.size ∧ ((s.data.toList.drop (prevE (pcs 0 r) k)).take (((pcs 0 r)[k]!).1 - prevE (pcs 0 r) k)).all blk = true := by
    intro k hk
    obtain ⟨a1, a2, a3, a4⟩ := c2 k hk
    have e : prevE (pcs 0 r) k = (if k = 0 then 0 else ((pcs 0 r)[k - 1]'(by omega)).2) := by
      unfold prevE
      by_cases h0 : k = 0
      · rw [if_pos h0, if_pos h0]
      · rw [if_neg h0, if_neg h0, getElem!_pos (pcs 0 r) (k - 1) (by omega)]
    rw [e, getElem!_pos (pcs 0 r) k hk]
    exact ⟨a1, a2, by omega, a4⟩
  have c4 : (s.data.toList.drop (prevE (pcs 0 r) (pcs 0 r).length)).all blk = true := by
    cases hg : (pcs 0 r).getLast? with
    | none =>
      rw [hg] at c3
      have h0 : pcs 0 r = [] := List.getLast?_eq_none_iff.1 hg
      rw [h0]; exact c3
    | some x =>
      rw [hg] at c3
      have h0 : 0 < (pcs 0 r).length := by
        cases hp : pcs 0 r with
        | nil => rw [hp] at hg; cases hg
        | cons _ _ => simp
      rw [List.getLast?_eq_getElem?, List.getElem?_eq_getElem (by omega)] at hg
      have e : prevE (pcs 0 r) (pcs 0 r).length = x.2 := by
        unfold prevE
        rw [if_neg (by omega), getElem!_pos (pcs 0 r) _ (by omega)]
        rw [Option.some.inj hg]
      rw [e]; exact c3
  clear c1 c2 c3
  generalize pcs 0 r = P at lo c4 how ⊢
  have hown : ∀ k, k < P.length → ∃ it, Lx.step (s.data.toList.drop (P[k]!).1) = some it ∧ (P[k]!).2 = (P[k]!).1 + it.len ∧ (∀ t ∈ ts, t.at_ = (P[k]!).1 → it.tok = some (t.kind, t.text)) ∧ ((∀ t ∈ ts, t.at_ ≠ (P[k]!).1) → it.tok = none) := by
    intro k hk
    obtain ⟨it, b1, b2, b3, b4, b5⟩ := how P[k] (List.getElem_mem hk)
    rw [getElem!_pos P k hk]
    exact ⟨it, b1, b2, b4, b5⟩
  have hscan : ∀ k, k < P.length → ∃ it, Lx.step (s.data.toList.drop (P[k]!).1) = some it ∧ (P[k]!).2 = (P[k]!).1 + it.len ∧ (∀ t ∈ ts, t.at_ = (P[k]!).1 → it.tok = some (t.kind, t.text)) ∧ ((∀ t ∈ ts, t.at_ ≠ (P[k]!).1) → it.tok = none) ∧
      scanR (s.extract (P[k]!).1 (P[k]!).2) = ⟨itoks 0 [it], icoms 0 [it], 0, 0⟩ := by
    intro k hk
    obtain ⟨it, b1, b2, b4, b5⟩ := hown k hk
    obtain ⟨_, l2, l3, _⟩ := lo k hk
    refine ⟨it, b1, b2, b4, b5, ?_⟩
    have hle := step_len b1
    have hst : Lx.step ((s.data.toList.drop (P[k]!).1).take it.len) = some it := step_like b1 (Like.cut (Nat.le_refl _) hle.2)
    have hpa : parse (s.extract (P[k]!).1 (P[k]!).2).data.toList = ([it], []) := by
      rw [extract_list, show (P[k]!).2 - (P[k]!).1 = it.len from by omega]
      exact one_item hst (by rw [List.length_take]; omega)
    have := scanR_of (s.extract (P[k]!).1 (P[k]!).2) (by rw [hpa]) (by rw [ByteArray.size_extract]; omega) (by rw [hpa]; simp only [ntok]; split <;> omega)
    rw [this, hpa]
  have hat : ∀ (x : Nat) t, t ∈ ts.map Tok.t3 → (t.at_ = (x : Int) ↔ ∃ u ∈ ts, (Tok.t3 u) = t ∧ u.at_ = x) := by
    intro x t ht
    obtain ⟨u, hu, rfl⟩ := List.mem_map.1 ht
    constructor
    · intro h; exact ⟨u, hu, rfl, by simp only [Tok.t3] at h; omega⟩
    · rintro ⟨v, hv, hvu, hx⟩
      have : ((Tok.t3 v)).at_ = ((Tok.t3 u)).at_ := by rw [hvu]
      simp only [Tok.t3] at this ⊢
      omega
  have htok : ∀ k, k < P.length → (fAt (P[k]!).1 (ts.map Tok.t3) 0 = -1 ∧ ∀ t ∈ ts, t.at_ ≠ (P[k]!).1) ∨ ∃ j u, j < (ts.map Tok.t3).length ∧ fAt (P[k]!).1 (ts.map Tok.t3) 0 = (j : Int) ∧ u ∈ ts ∧ (ts.map Tok.t3)[j]! = (Tok.t3 u) ∧ u.at_ = (P[k]!).1 := by
    intro k hk
    rcases fAt_spec (P[k]!).1 (ts.map Tok.t3) 0 with ⟨f1, f2⟩ | ⟨j, f1, f2, f3⟩
    · exact .inl ⟨f1, fun t ht h => f2 (Tok.t3 t) (List.mem_map_of_mem ht) ((hat _ _ (List.mem_map_of_mem ht)).2 ⟨t, ht, rfl, h⟩)⟩
    · have hm : (ts.map Tok.t3)[j]! ∈ ts.map Tok.t3 := by rw [getElem!_pos _ j f1]; exact List.getElem_mem f1
      obtain ⟨u, hu, he', hx⟩ := (hat _ _ hm).1 f3
      exact .inr ⟨j, u, f1, by rw [f2]; simp, hu, he'.symm, hx⟩
  refine ⟨?_, by rw [List.length_map]; exact htl, fun k hk => ⟨(lo k hk).1, (lo k hk).2.1, (lo k hk).2.2.1⟩, fun k hk => ?_, ?_, fun k hk => ?_, fun k hk => ?_, ?_⟩
  · -- as many as bytes
    have : ∀ k, k ≤ P.length → k ≤ prevE P k := by
      intro k
      induction k with
      | zero => intro _; exact Nat.zero_le _
      | succ k ih =>
        intro hk
        have := ih (by omega)
        have h2 := lo k (by omega)
        unfold prevE
        rw [if_neg (by omega), Nat.add_sub_cancel]; omega
    have h := this P.length (Nat.le_refl _)
    rcases Nat.eq_zero_or_pos P.length with h0 | h0
    · omega
    · have h2 := lo (P.length - 1) (by omega)
      unfold prevE at h
      rw [if_neg (by omega)] at h; omega
  · rw [extract_list]; exact trim_all _ (lo k hk).2.2.2
  · refine ⟨?_, ?_⟩
    · rcases Nat.eq_zero_or_pos P.length with h0 | h0
      · unfold prevE; rw [if_pos h0]; exact Nat.zero_le _
      · have := lo (P.length - 1) (by omega)
        unfold prevE; rw [if_neg (by omega)]; omega
    · rw [extract_list]
      refine trim_all _ ?_
      rw [List.all_eq_true] at c4 ⊢
      exact fun x hx => c4 x (List.mem_of_mem_take hx)
  · obtain ⟨it, _, _, _, _, h⟩ := hscan k hk
    rw [h]
  · obtain ⟨it, b1, b2, b4, b5, h⟩ := hscan k hk
    rw [h]
    rcases htok k hk with ⟨f1, f2⟩ | ⟨j, u, f1, f2, f3, f4, f5⟩
    · exact .inl ⟨f1, by have := b5 f2; simp [itoks, this]⟩
    · refine .inr ⟨j, f1, f2, ?_⟩
      have := b4 u f3 f5
      rw [f4]
      simp [itoks, this, Tok.t3, T3.z]
  · intro k hk hge K hK1 hK2 he' t ht
    obtain ⟨it, b1, b2, b4, b5, h⟩ := hscan k hk
    rcases htok k hk with ⟨f1, f2⟩ | ⟨j, u, f1, f2, f3, f4, f5⟩
    · rw [f1] at hge; exact absurd hge (by decide)
    · have hit := b4 u f3 f5
      have hle := step_len b1
      have hdl : (s.data.toList.drop (P[k]!).1).length = s.size - (P[k]!).1 := by rw [List.length_drop]; rfl
      have hst : Lx.step ((s.data.toList.drop (P[k]!).1).take (K - (P[k]!).1)) = some it := step_like b1 (Like.cut (by omega) (by omega))
      obtain ⟨_, _, _, r4⟩ := scanR_ok _ he'
      rw [r4] at ht
      simp only at ht
      rw [extract_list, parse_some hst] at ht
      unfold itoks at ht
      rw [hit] at ht
      simp only [List.cons.injEq] at ht
      obtain ⟨rfl, _⟩ := ht
      obtain ⟨w1, w2, _⟩ := step_wid b1 hit
      refine ⟨w2, ?_⟩
      have : (spellI u.kind u.text).size = (spl (u.kind, u.text)).length := rfl
      simp only
      omega
end Go.Proofs.YtafofcenphopbaaGreatDoor
