/- LexFirst: the walk. -/
import Derived.Test.YtafofcenphopbaaDoorA36
namespace Go.Proofs.YtafofcenphopbaaDoor
open Go.RowKit Lx

/-- Tokens: its place and its error. -/
theorem Tokens_err (s : ByteArray) (hs : s.size ≤ 140737488351232) (a e : Int) (ha : ((scanR s).at_ : Int) = a) (he : (scanR s).err = e) (w : World) (hml : ML w) : Calls Tryd.prog 14 #[.string s] w fun en w' =>
    ∃ lv, en = .returned (.tuple #[lv, .int .i64 a, .int .i64 e]) ∧ Below w.heap.size w w' := by
  subst ha; subst he
  refine (Tokens_row s hs w hml).mono ?_
  rintro en w' ⟨lv, rfl, _, hb⟩
  exact ⟨lv, rfl, hb⟩
set_option maxHeartbeats 1000000 in
set_option maxRecDepth 100000 in
theorem LexFirst_walk (s : ByteArray) (w : World) (hs : s.size ≤ 140737488351232) (hml : ML w) : Calls Tryd.prog 3 #[.string s] w fun e w' => e = .returned (.bool true) ∧ Below w.heap.size w w' := by
  by_cases hbig : 2000 < s.size
  · have hb' : (2000 : Int) < (s.size : Int) := by omega
    go_enter Tryd.func3, Tryd.ntmps3
    go_wp2_with (go_at_call 13; refine (sane_any _ hml).mono ?_; rintro e w1 ⟨rfl, hb⟩)
    go_ret
    exact ⟨rfl, hb⟩
  · have hb' : ¬ (2000 : Int) < (s.size : Int) := by omega
    by_cases he : (scanR s).err = 0
    · have hc := fun W h => Tokens_err s hs 0 0 (by rw [scanR_at0 s he]; rfl) he W h
      have HC := Lib.hid hc
      clear hc he
      go_enter Tryd.func3, Tryd.ntmps3
      go_wp2_with (go_at_call 13; refine (sane_any _ hml).mono ?_; rintro e w1 ⟨rfl, hb⟩)
      refine (HC.out _ (hml.below hb)).mono ?_
      rintro e w2 ⟨lv, rfl, hb2⟩
      go_wp2_with fail
      go_ret
      exact ⟨rfl, hb.trans (hb2.mono hb.size)⟩
    · obtain ⟨h1, h2, h3, h4, h5⟩ := law_first s (by omega) he
      obtain ⟨i, hi⟩ : ∃ i, (scanR s).at_ = i := ⟨_, rfl⟩
      rw [hi] at h2 h3 h4 h5
      have z1 : (s.extract 0 i).size ≤ 140737488351232 := by rw [ByteArray.size_extract]; omega
      have z2 : (s.extract i s.size).size ≤ 140737488351232 := by rw [ByteArray.size_extract]; omega
      have hc := fun W h => Tokens_err s hs i 50 (by rw [hi]) h1 W h
      have hc1 := fun W h => Tokens_err (s.extract 0 i) z1 0 0 (by rw [scanR_at0 _ h3]; rfl) h3 W h
      have hc2 := fun W h => Tokens_err (s.extract i s.size) z2 0 50 (by rw [h5]; rfl) h4 W h
      have HC := Lib.hid hc
      have HC1 := Lib.hid hc1
      have HC2 := Lib.hid hc2
      have x1 : (0 : Int) ≤ (i : Int) := by omega
      have x2 : (i : Int) < (s.size : Int) := by omega
      clear hc hc1 hc2 h1 h3 h4 h5 hi he z1 z2
      go_enter Tryd.func3, Tryd.ntmps3
      go_wp2_with (go_at_call 13; refine (sane_any _ hml).mono ?_; rintro e w1 ⟨rfl, hb⟩)
      refine (HC.out _ (hml.below hb)).mono ?_
      rintro e w2 ⟨lv, rfl, hb2⟩
      have bb := hb.trans (hb2.mono hb.size)
      go_wp2_with fail
      refine (HC1.out _ (hml.below bb)).mono ?_
      rintro e w3 ⟨lv1, rfl, hb3⟩
      have bb := bb.trans (hb3.mono bb.size)
      go_wp2_with fail
      refine (HC2.out _ (hml.below bb)).mono ?_
      rintro e w4 ⟨lv2, rfl, hb4⟩
      have bb := bb.trans (hb4.mono bb.size)
      go_wp2_with fail
      go_ret
      exact ⟨rfl, bb⟩
end Go.Proofs.YtafofcenphopbaaDoor
