/- value. -/
import Derived.Test.YtafofcenphopbaaDoorA23
import Derived.Laws.RangeString
namespace Go.Proofs.YtafofcenphopbaaDoor
open Go.RowKit Lx

/-- The number of digits in a base; a point is passed over. -/
def valL (base : Nat) : Bs → Nat → Nat
  | [], n => n
  | c :: l, n => valL base l (if c = 46 then n else n * base + (c.toNat - 48))
theorem valL_bound (base m d pos size : Nat) (hb : 2 ≤ base) (hm : m < base ^ pos) (hd : d < base) (hp : pos < size) (hs : base ^ size ≤ 10000000000) : m * base + d < base ^ (pos + 1) ∧ m < base ^ (pos + 1) ∧ m * base + d ≤ 10000000000 ∧ m * base ≤ 10000000000 := by
  have h1 : base ^ (pos + 1) ≤ base ^ size := Nat.pow_le_pow_right (by omega) (by omega)
  have h2 : m * base + base ≤ base ^ pos * base := by
    have := Nat.mul_le_mul_right base (show m + 1 ≤ base ^ pos from hm)
    rw [Nat.add_mul, Nat.one_mul] at this; exact this
  have h3 : m ≤ m * base := Nat.le_mul_of_pos_right m (by omega)
  rw [Nat.pow_succ] at h1 ⊢
  omega
set_option maxHeartbeats 1000000 in
set_option maxRecDepth 100000 in
theorem value_any (s : ByteArray) (base : Nat) (hb : 2 ≤ base) (hb2 : base ≤ 10) (hs : base ^ s.size ≤ 10000000000) (hd : ∀ c ∈ s.data.toList, c = 46 ∨ (48 ≤ c.toNat ∧ c.toNat < 48 + base)) (w : World) :
    Calls Tryd.prog 76 #[.string s, .int .i64 base] w fun e w' => e = .returned (.int .i64 (valL base s.data.toList 0)) ∧ Below w.heap.size w w' := by
  have HS := Lib.hid hs
  have HD := Lib.hid hd
  clear hs hd
  go_enter Tryd.func76, Tryd.ntmps76
  go_wp2
  go_loopw [5] (fun n wr => ∃ pos m : Nat, pos ≤ s.size ∧ wr = w.iter s pos ∧ n = .int .i64 m ∧ m < base ^ pos ∧ valL base s.data.toList 0 = valL base (s.data.toList.drop pos) m) (fun _ wr => s.size - wr.iterPos w.heap.size)
  case atStart => exact ⟨0, 0, Nat.zero_le _, rfl, rfl, by simp, rfl⟩
  case round =>
    obtain ⟨pos, m, hpos, rfl, rfl, hm, hv⟩ := hrel
    by_cases hp : pos < s.size
    · have hmem := HD.out s[pos] (by simp [ByteArray.getElem_eq_getElem_data])
      have hstep : valL base (s.data.toList.drop pos) m = valL base (s.data.toList.drop (pos + 1)) (if s[pos] = 46 then m else m * base + (s[pos].toNat - 48)) := by rw [drop_cons s pos hp]; rfl
      rw [hstep] at hv
      have hasc : (s[pos]'hp).toNat < 128 := by
        rcases hmem with h | h
        · rw [h]; decide
        · omega
      have h46 : s[pos] = 46 ↔ ((s[pos].toNat : Nat) : Int) = 46 := byte_eq s[pos] 46 (by decide)
      have hnx : ∀ ty, (Instr.next (.pointer (some ⟨w.heap.size, 0, none⟩)) true ty).run Tryd.prog (w.iter s pos) = _ := fun ty => run_next_ascii w s pos ty hp hasc
      clear hstep
      generalize (s[pos]'hp) = c at *
      have hbd := fun d hd' => valL_bound base m d pos s.size hb hm hd' hp HS.out
      by_cases hc : c = 46
      · subst hc
        rw [if_pos rfl] at hv
        have HV := Lib.hid hv
        have hbd0 := hbd 0 (by omega)
        have hm1 := hbd0.2.1
        clear hv hmem h46 hbd hbd0 hm hasc
        go_wp2
        go_roundw
        case rel => exact ⟨pos + 1, m, hp, rfl, rfl, hm1, HV.out⟩
        case measure => simp; omega
      · rw [if_neg hc] at hv
        have hmem' : 48 ≤ c.toNat ∧ c.toNat < 48 + base := by
          rcases hmem with h | h
          · exact absurd h hc
          · exact h
        have HV := Lib.hid hv
        obtain ⟨g1, g2, g3, g4⟩ := hbd (c.toNat - 48) (by omega)
        have hne : (((c.toNat : Nat) : Int) != 46) = true := by rw [bne_iff_ne]; exact fun e => hc (h46.2 e)
        have c1 := hmem'.1
        have c2 := hmem'.2
        have c3 : c.toNat < 58 := by omega
        clear hv hmem h46 hbd hm hc hmem' hasc
        generalize c.toNat = k at *
        have G4 : ((m : Int) * (base : Int)) ≤ 10000000000 := by rw [← Int.natCast_mul]; omega
        have G0 : 0 ≤ ((m : Int) * (base : Int)) := by rw [← Int.natCast_mul]; omega
        clear hb hb2 g4
        go_wp2
        go_roundw
        case rel =>
          refine ⟨pos + 1, m * base + (k - 48), hp, rfl, ?_, g1, HV.out⟩
          congr 1
          have e : ((m * base + (k - 48) : Nat) : Int) = (m : Int) * (base : Int) + ((k : Int) - 48) := by rw [Int.natCast_add, Int.natCast_mul]; omega
          rw [e]
        case measure => simp; omega
    · have hnx : ∀ ty, (Instr.next (.pointer (some ⟨w.heap.size, 0, none⟩)) true ty).run Tryd.prog (w.iter s pos) = _ := fun ty => run_next_end w s pos ty hp
      rw [List.drop_of_length_le (by have := size_list s; omega)] at hv
      have HV := Lib.hid hv
      clear hv
      go_wp2
      go_ret
      exact ⟨by rw [HV.out]; rfl, (Below.refl _ _).alloc (Nat.le_refl _) _⟩
end Go.Proofs.YtafofcenphopbaaDoor
