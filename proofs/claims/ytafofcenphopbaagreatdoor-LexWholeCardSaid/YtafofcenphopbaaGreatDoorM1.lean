/- Memory words of this proof: a map of strings to true; rows that are read. No program in sight. -/
import Derived.WalkKit
import Derived.Carry
import Derived.Lib.Hide
import Derived.Test.YtafofcenphopbaaGreatDoorP1
namespace Go.Proofs.YtafofcenphopbaaGreatDoor
open Go.RowKit Lx

/-- Block b is a map whose entries are these strings, each to true. -/
def SignMap (w : World) (b : Nat) (ks : List ByteArray) : Prop :=
  ∃ es clk, w.heap[b]? = some (.map es clk) ∧ es.toList.map (fun e => (e.key, e.val)) = ks.map (fun s => (Value.string s, Value.bool true))

theorem ba_beq (k s : ByteArray) : (k == s) = decide (k = s) := by
  rw [Bool.eq_iff_iff]
  show (k.data == s.data) = true ↔ _
  simp [ByteArray.ext_iff]

theorem findNow_none (k : ByteArray) : ∀ (es : List MapEntry) (ks : List ByteArray) (i : Nat), es.map (fun e => (e.key, e.val)) = ks.map (fun s => (Value.string s, Value.bool true)) → k ∉ ks →
    Instr.findNow .string (.string k) es i = some none := by
  intro es
  induction es with
  | nil => intro ks i _ _; rfl
  | cons e es ih =>
    intro ks i h hk
    match ks, h with
    | s :: ks, h =>
      simp only [List.map_cons, List.cons.injEq, Prod.mk.injEq] at h
      simp only [List.mem_cons, not_or] at hk
      unfold Instr.findNow
      rw [h.1.1]
      have : (k == s) = false := by rw [ba_beq]; simpa using hk.1
      simp only [Instr.sameNow, this]
      exact ih ks _ h.2 hk.2

theorem findNow_some (k : ByteArray) : ∀ (es : List MapEntry) (ks : List ByteArray) (i : Nat), es.map (fun e => (e.key, e.val)) = ks.map (fun s => (Value.string s, Value.bool true)) → k ∈ ks →
    ∃ j, Instr.findNow .string (.string k) es i = some (some (j, .bool true)) := by
  intro es
  induction es with
  | nil => intro ks i h hk; match ks, h with | [], _ => cases hk
  | cons e es ih =>
    intro ks i h hk
    match ks, h with
    | s :: ks, h =>
      simp only [List.map_cons, List.cons.injEq, Prod.mk.injEq] at h
      unfold Instr.findNow
      rw [h.1.1, h.1.2]
      by_cases he : k = s
      · have : (k == s) = true := by rw [ba_beq]; simpa using he
        simp only [Instr.sameNow, this]
        exact ⟨i, rfl⟩
      · have : (k == s) = false := by rw [ba_beq]; simpa using he
        simp only [Instr.sameNow, this]
        exact ih ks _ h.2 (by simpa [he] using hk)

theorem SignMap.lt {w : World} {b : Nat} {ks : List ByteArray} (h : SignMap w b ks) : b < w.heap.size := by
  obtain ⟨es, clk, hb, _⟩ := h
  exact (Array.getElem?_eq_some_iff.1 hb).1
theorem SignMap.below {w w' : World} {b : Nat} {ks : List ByteArray} (h : SignMap w b ks) {B : Nat} (hb : Below B w w') (hB : b < B) : SignMap w' b ks := by
  obtain ⟨es, clk, h1, h2⟩ := h
  exact ⟨es, clk, (hb.block b hB).trans h1, h2⟩

/-- A new key laid into such a map. -/
theorem wpList_insert_sign {P : Program} (w : World) {ops : Array Oper} {rest : List Oper} {o : Oper} {a : Act} {Q : Exit → Act → World → Prop}
    (hg : o.guard = none) (m x v : Operand) (t : TypeId) (hop : o.op = Op.insert t m x v) (k e : TypeId) (ht : P.underlying t = some (.map k e)) (hk : P.underlying k = some .string)
    (b : Nat) (ks : List ByteArray) (hm : a.eval m = .map (some b)) (hmap : SignMap w b ks) (key : ByteArray) (hx : a.eval x = .string key) (hv : a.eval v = .bool true) (hnew : key ∉ ks)
    (hK : ∀ w', SignMap w' b (ks ++ [key]) → w.grownBy w' (some b) → wpList P ops Q rest (a.put o.dst undef) w') :
    wpList P ops Q (o :: rest) a w := by
  refine wpList_plain hg fun K' hK' => ?_
  obtain ⟨es, clk, hb, hes⟩ := hmap
  have hf := findNow_none key es.toList ks 0 hes hnew
  have hrun : (Instr.mapUpdate t (.map (some b)) (.string key) (.bool true)).run P w = .ok () { w with heap := w.heap.setIfInBounds b (.map (es.push { key := .string key, val := .bool true, born := clk }) (clk + 1)) } := by
    have hc : (Instr.checkKey false 10000 k (.string key)).run P w = .ok () w := MapKept.run_checkKey (k := .string key) hk (by simp [MapKept.IsKey]) false 9999
    simp [Instr.mapUpdate, run_underlying ht, MapKept.run_getObj_map hb, hc, MapKept.run_findKey hk hf, MapKept.run_setObj_map _ hb, Result.andThen]
  have hlt : b < w.heap.size := (Array.getElem?_eq_some_iff.1 hb).1
  have hres := hK { w with heap := w.heap.setIfInBounds b (.map (es.push { key := .string key, val := .bool true, born := clk }) (clk + 1)) }
    ⟨es.push { key := .string key, val := .bool true, born := clk }, clk + 1, by simp [hlt], by simp [hes]⟩
    ⟨rfl, rfl, rfl, by simp, fun j _ hne => by
      have : b ≠ j := fun h => hne (by rw [h])
      simp [this]⟩
  unfold Oper.wp
  simp [execOp, hop, hm, hx, hv, hrun, Result.andThen]
  exact hK' _ _ hres

/-- .. and what lay below the map's block stands. -/
def SignMapB (w0 w : World) (b : Nat) (ks : List ByteArray) : Prop := SignMap w b ks ∧ Below b w0 w
theorem wpList_insert_signB {P : Program} (w0 w : World) {ops : Array Oper} {rest : List Oper} {o : Oper} {a : Act} {Q : Exit → Act → World → Prop}
    (hg : o.guard = none) (m x v : Operand) (t : TypeId) (hop : o.op = Op.insert t m x v) (k e : TypeId) (ht : P.underlying t = some (.map k e)) (hk : P.underlying k = some .string)
    (b : Nat) (ks : List ByteArray) (hm : a.eval m = .map (some b)) (hmap : SignMapB w0 w b ks) (key : ByteArray) (hx : a.eval x = .string key) (hv : a.eval v = .bool true) (hnew : memB key ks = false)
    (hK : ∀ w', SignMapB w0 w' b (ks ++ [key]) → wpList P ops Q rest (a.put o.dst undef) w') :
    wpList P ops Q (o :: rest) a w :=
  wpList_insert_sign w hg m x v t hop k e ht hk b ks hm hmap.1 key hx hv (fun h => by rw [(memB_iff key ks).2 h] at hnew; cases hnew) fun w' h g =>
    hK w' ⟨h, hmap.2.grown g (Nat.le_of_lt hmap.1.lt) (fun j hj => by cases hj; exact Nat.le_refl _)⟩

theorem run_lookup_sign {P : Program} (w : World) (t k e : TypeId) (ht : P.underlying t = some (.map k e)) (hk : P.underlying k = some .string)
    (hz : ∀ W, (zeroValue e).run P W = .ok (.bool false) W) (b : Nat) (ks : List ByteArray) (hmap : SignMap w b ks) (key : ByteArray) :
    (Instr.lookup t (.map (some b)) (.string key) false).run P w = .ok (.bool (memB key ks)) w := by
  obtain ⟨es, clk, hb, hes⟩ := hmap
  have hc : (Instr.checkKey es.isEmpty 10000 k (.string key)).run P w = .ok () w := MapKept.run_checkKey (k := .string key) hk (by simp [MapKept.IsKey]) es.isEmpty 9999
  by_cases hin : key ∈ ks
  · obtain ⟨j, hf⟩ := findNow_some key es.toList ks 0 hes hin
    simp [Instr.lookup, run_underlying ht, MapKept.run_getObj_map hb, hc, MapKept.run_findKey hk hf, Result.andThen, (memB_iff key ks).2 hin]
  · have hf := findNow_none key es.toList ks 0 hes hin
    have hin' : memB key ks = false := by rw [Bool.eq_false_iff]; exact fun h => hin ((memB_iff key ks).1 h)
    simp [Instr.lookup, run_underlying ht, MapKept.run_getObj_map hb, hc, MapKept.run_findKey hk hf, Result.andThen, hin', hz]

/-- A string asked for in such a map. -/
theorem wpList_lookup_sign {P : Program} (w : World) {ops : Array Oper} {rest : List Oper} {o : Oper} {a : Act} {Q : Exit → Act → World → Prop}
    (hg : o.guard = none) (m x : Operand) (t : TypeId) (hop : o.op = Op.lookup t m x false) (k e : TypeId) (ht : P.underlying t = some (.map k e)) (hk : P.underlying k = some .string)
    (hz : ∀ W, (zeroValue e).run P W = .ok (.bool false) W)
    (b : Nat) (ks : List ByteArray) (hm : a.eval m = .map (some b)) (hmap : SignMap w b ks) (key : ByteArray) (hx : a.eval x = .string key)
    (hK : wpList P ops Q rest (a.put o.dst (.bool (memB key ks))) w) :
    wpList P ops Q (o :: rest) a w := by
  refine wpList_plain hg fun K' hK' => ?_
  have hrun := run_lookup_sign (P := P) w t k e ht hk hz b ks hmap key
  unfold Oper.wp
  simp [execOp, hop, hm, hx, hrun, Result.andThen]
  exact hK' _ _ hK
end Go.Proofs.YtafofcenphopbaaGreatDoor
