/- LexMoved: the walk, joined with the plain law. -/
import Derived.Test.YtafofcenphopbaaDoorW5
namespace Go.Proofs.YtafofcenphopbaaDoor
open Go.RowKit Lx

theorem posF_le (l : Bs) : ∀ a b, 1 ≤ b → (posF l a b).1 ≤ a + l.length ∧ (posF l a b).2 ≤ b + l.length := by
  induction l with
  | nil => intro a b _; simp [posF]
  | cons c l ih =>
    intro a b hb
    simp only [posF]
    split
    · have := ih (a + 1) 1 (Nat.le_refl _)
      simp only [List.length_cons]; omega
    · have := ih a (b + 1) (by omega)
      simp only [List.length_cons]; omega
theorem posN_le (s : ByteArray) (i : Nat) (h : i ≤ s.size) : (posN s i).1 ≤ i + 1 ∧ (posN s i).2 ≤ i + 1 := by
  have := posF_le (s.data.toList.take i) 1 1 (Nat.le_refl _)
  rw [List.length_take] at this
  unfold posN; omega
theorem where_at (s : ByteArray) (i : Nat) (x : Int) (l c : Int) (hx : x = (i : Int)) (h : i ≤ s.size) (hs : s.size ≤ 20000) (hl : ((posN s i).1 : Int) = l) (hc : ((posN s i).2 : Int) = c) : ∀ W, Calls Tryd.prog 32 #[.string s, .int .i64 x] W fun e w' => e = .returned (.tuple #[.agg #[.int .i64 l, .int .i64 c], .int .i64 0]) ∧ Below W.heap.size W w' := by
  intro W
  subst hx hl hc
  have := Where_any s (i : Int) W
  rw [(where_pos s i h hs).1] at this
  exact this
theorem at_at (s : ByteArray) (i : Nat) (x : Int) (l c : Int) (hx : x = (i : Int)) (h : i ≤ s.size) (hs : s.size ≤ 20000) (hl : ((posN s i).1 : Int) = l) (hc : ((posN s i).2 : Int) = c) : ∀ W, Calls Tryd.prog 33 #[.string s, .agg #[.int .i64 l, .int .i64 c]] W fun e w' => e = .returned (.tuple #[.int .i64 x, .int .i64 0]) ∧ Below W.heap.size W w' := by
  intro W
  subst hx hl hc
  have := At_any s ((posN s i).1 : Int) ((posN s i).2 : Int) W
  rw [at_pos s i h hs] at this
  exact this
theorem LexMoved_walk (s : ByteArray) (i a : Int) (w : World) (hml : ML w) : Calls Tryd.prog 8 #[.string s, .int .i64 i, .int .i64 a] w fun e w' => e = .returned (.bool true) ∧ Below w.heap.size w w' := by
  by_cases hout : 2000 < s.size ∨ i < 0 ∨ (s.size : Int) < i ∨ a < 0 ∨ i < a
  · exact LexMoved_out s i a w hml hout
  obtain ⟨n, rfl⟩ : ∃ n : Nat, a = (n : Int) := ⟨a.toNat, by omega⟩
  obtain ⟨d, rfl⟩ : ∃ d : Nat, i = (n : Int) + (d : Int) := ⟨(i - n).toNat, by omega⟩
  have hs : s.size ≤ 2000 := by omega
  have hd : n + d ≤ s.size := by omega
  obtain ⟨z1, z2, z3, z4, _⟩ := law_moved s (n + d) n hs hd (by omega) _ 32 (ins_list s n 32 (by omega))
  obtain ⟨y1, _, _, _, y5⟩ := law_moved s (n + d) n hs hd (by omega) _ 10 (ins_list s n 10 (by omega))
  have z4 := z4 rfl
  have y5 := y5 rfl
  have hi1 := posN_le s (n + d) hd
  have ha1 := posN_le s n (by omega)
  by_cases he : (posN s n).1 = (posN s (n + d)).1
  · have z3 := z3 he
    rw [if_pos he] at z4 y5
    refine LexMoved_same s n d (posN s n).1 (posN s n).2 w hml hs (by omega) (by omega) hd ?_ ?_ ?_ ?_ ?_
    · exact where_at s (n + d) _ _ _ (by omega) hd (by omega) (by omega) (by omega)
    · exact at_at s (n + d) _ _ _ (by omega) hd (by omega) (by omega) (by omega)
    · exact where_at s n _ _ _ rfl (by omega) (by omega) rfl rfl
    · exact where_at _ (n + d + 1) _ _ _ (by omega) (by omega) (by omega) (by omega) (by omega)
    · exact where_at _ (n + d + 1) _ _ _ (by omega) (by omega) (by omega) (by omega) (by omega)
  · rw [if_neg he] at z4 y5
    refine LexMoved_other s n d (posN s n).1 (posN s n).2 (posN s (n + d)).1 (posN s (n + d)).2 w hml hs (by omega) (by omega) (by omega) (by omega) (by omega) hd ?_ ?_ ?_ ?_ ?_
    · exact where_at s (n + d) _ _ _ (by omega) hd (by omega) (by omega) (by omega)
    · exact at_at s (n + d) _ _ _ (by omega) hd (by omega) (by omega) (by omega)
    · exact where_at s n _ _ _ rfl (by omega) (by omega) rfl rfl
    · exact where_at _ (n + d + 1) _ _ _ (by omega) (by omega) (by omega) (by omega) (by omega)
    · exact where_at _ (n + d + 1) _ _ _ (by omega) (by omega) (by omega) (by omega) (by omega)
end Go.Proofs.YtafofcenphopbaaDoor
