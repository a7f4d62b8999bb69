/- ParseWhole, part 43: what it stands on. -/
import Derived.Test.YtfdlmcgcckkkdaaGreatDoorV42
set_option linter.all false
set_option maxHeartbeats 40000000
set_option maxRecDepth 100000
namespace Go.Proofs.YtfdlmcgcckkkdaaGreatDoor
section
open Go.RowKit Lx Px
theorem EN (B4 B5 B6 : Nat) (x y z u v : Value) (p : Value) (b0 : Bool) (a : Int) (older : List PanicEntry) (w : World) (h4 : TV w B4 x y z u v) (h5 : w.heap[B5]? = some (.cells #[p] 3 (0, 0))) (h6 : w.heap[B6]? = some (.cells #[.bool b0] 4 (0, 0))) (h45 : B4 ≠ B5) (h46 : B4 ≠ B6) (h56 : B5 ≠ B6) (N : Nat) (hN4 : N ≤ B4) (hN5 : N ≤ B5) (hN6 : N ≤ B6) : CallsD Tryz.prog 85 #[pq B4, pq B5, pq B6] (.panicking ({ v := .iface 120 (.agg #[.int .i64 a]), recovered := false } :: older)) w fun e u' w' => e = .returned (.tuple #[]) ∧ u' = .panicking ({ v := .iface 120 (.agg #[.int .i64 a]), recovered := true } :: older) ∧ Below N w w' ∧ TV w' B4 (.int .i64 0) (.int .i64 0) (.int .i64 0) (.string ⟨#[]⟩) (.slice none 0 0) ∧ w'.cell? ⟨B5, 0, none⟩ = some (.int .i64 a) ∧ w'.cell? ⟨B6, 0, none⟩ = some (.bool false) := by
  have h1 := EO
  refine callsD_of_wpS Tryz.func85 rfl fun c₀ cs hu => ?_
  apply wpS_seq
  apply wpS_region
  simp [wpOpsS, go_sem, recoverD, hu, Tryz.ntmps85, Exit.thenS]
  refine wpS_of_wp ?_
  go_upto_region 7 with fail
  have hb := aC w (.cells #[.int .i64 a] 120)
  have n0 := heap_alloc_new w (.cells #[.int .i64 a] 120)
  have hlt4 := h4.lt
  have hlt5 := (Array.getElem?_eq_some_iff.1 h5).1
  have hlt6 := (Array.getElem?_eq_some_iff.1 h6).1
  replace h4 := h4.below hb
  replace h5 := (hb.block _ hlt5).trans h5
  replace h6 := (hb.block _ hlt6).trans h6
  replace hb := hb.mono (show N ≤ w.heap.size by omega)
  generalize World.alloc w _ = w1 at h4 h5 h6 hb n0 ⊢
  have hBn : w.heap.size ≠ B4 := by omega
  have c0 : w1.cell? ⟨w.heap.size, 0, none⟩ = some (.int .i64 a) := cell_of_row w1 _ 0 _ _ _ n0
  have c5 : w1.cell? ⟨B5, 0, none⟩ = some p := cell_of_row w1 _ 0 _ _ _ h5
  have f5 := Lib.frozen_of_heap h5 0
  have c6 : w1.cell? ⟨B6, 0, none⟩ = some (.bool b0) := cell_of_row w1 _ 0 _ _ _ h6
  have f6 := Lib.frozen_of_heap h6 0
  have := TV.facts h4
  have d5 := (On h45 w1 0 (.int .i64 0) (.int .i64 0) (.int .i64 0) (.string ⟨#[]⟩) (.slice none 0 0)).trans c5
  have d6 := (On h46 w1 0 (.int .i64 0) (.int .i64 0) (.int .i64 0) (.string ⟨#[]⟩) (.slice none 0 0)).trans c6
  have t2 := h4.set (.int .i64 0) (.int .i64 0) (.int .i64 0) (.string ⟨#[]⟩) (.slice none 0 0)
  have P : Below N w ((((((((w1.setCell ⟨B4, 0, none⟩ (.int .i64 0)).setCell ⟨B4, 1, none⟩ (.int .i64 0)).setCell ⟨B4, 2, none⟩ (.int .i64 0)).setCell ⟨B4, 3, none⟩ (.string ⟨#[]⟩)).setCell ⟨B4, 4, none⟩ (.slice none 0 0)).setCell ⟨B5, 0, none⟩ (.int .i64 a)).setCell ⟨B6, 0, none⟩ (.bool false)).drew) ∧
      TV ((((((((w1.setCell ⟨B4, 0, none⟩ (.int .i64 0)).setCell ⟨B4, 1, none⟩ (.int .i64 0)).setCell ⟨B4, 2, none⟩ (.int .i64 0)).setCell ⟨B4, 3, none⟩ (.string ⟨#[]⟩)).setCell ⟨B4, 4, none⟩ (.slice none 0 0)).setCell ⟨B5, 0, none⟩ (.int .i64 a)).setCell ⟨B6, 0, none⟩ (.bool false)).drew) B4 (.int .i64 0) (.int .i64 0) (.int .i64 0) (.string ⟨#[]⟩) (.slice none 0 0) ∧
      ((((((((w1.setCell ⟨B4, 0, none⟩ (.int .i64 0)).setCell ⟨B4, 1, none⟩ (.int .i64 0)).setCell ⟨B4, 2, none⟩ (.int .i64 0)).setCell ⟨B4, 3, none⟩ (.string ⟨#[]⟩)).setCell ⟨B4, 4, none⟩ (.slice none 0 0)).setCell ⟨B5, 0, none⟩ (.int .i64 a)).setCell ⟨B6, 0, none⟩ (.bool false)).drew).cell? ⟨B5, 0, none⟩ = some (.int .i64 a) ∧
      ((((((((w1.setCell ⟨B4, 0, none⟩ (.int .i64 0)).setCell ⟨B4, 1, none⟩ (.int .i64 0)).setCell ⟨B4, 2, none⟩ (.int .i64 0)).setCell ⟨B4, 3, none⟩ (.string ⟨#[]⟩)).setCell ⟨B4, 4, none⟩ (.slice none 0 0)).setCell ⟨B5, 0, none⟩ (.int .i64 a)).setCell ⟨B6, 0, none⟩ (.bool false)).drew).cell? ⟨B6, 0, none⟩ = some (.bool false) := by
    have b5 := bO hb hN4 (.int .i64 0) (.int .i64 0) (.int .i64 0) (.string ⟨#[]⟩) (.slice none 0 0)
    generalize ((((w1.setCell ⟨B4, 0, none⟩ (.int .i64 0)).setCell ⟨B4, 1, none⟩ (.int .i64 0)).setCell ⟨B4, 2, none⟩ (.int .i64 0)).setCell ⟨B4, 3, none⟩ (.string ⟨#[]⟩)).setCell ⟨B4, 4, none⟩ (.slice none 0 0) = w2 at d5 d6 t2 b5 ⊢
    have e5 : (w2.setCell ⟨B5, 0, none⟩ (.int .i64 a)).cell? ⟨B5, 0, none⟩ = some (.int .i64 a) := World.cell?_setCell_same _ _ _ d5
    have e6 : (w2.setCell ⟨B5, 0, none⟩ (.int .i64 a)).cell? ⟨B6, 0, none⟩ = some (.bool b0) := (World.cell?_setCell_far _ _ _ _ (by simpa using h56)).trans d6
    refine ⟨((b5.setCell (p := ⟨B5, 0, none⟩) hN5 _).setCell (p := ⟨B6, 0, none⟩) hN6 _).drew, ?_, ?_, World.cell?_setCell_same _ _ _ e6⟩
    · exact (Below.heap_setCell _ _ _ _ (by simpa using h46)).trans ((Below.heap_setCell _ _ _ _ (by simpa using h45)).trans t2)
    · exact (World.cell?_setCell_far _ _ _ _ (by simpa using h56.symm)).trans e5
  clear d5 d6 t2
  go_region
  all_goals
    go_wp2_with fail
    generalize World.drew _ = wz at P ⊢
    simp [bodyPostS, results, Tryz.results85]
    exact P
theorem Kd(B4 B5 B6:Nat)(w:World):CallsD Tryz.prog 85 #[pq B4,pq B5,pq B6] .returning w fun e u' w'=>e=.returned (.tuple #[])∧u'=.returning∧w'=w:=by
 have h1:=MC;refine callsD_of_wpS Tryz.func85 rfl fun c₀ cs hu=>?_
 apply wpS_seq
 apply wpS_region
 simp[wpOpsS,go_sem,recoverD,hu,Tryz.ntmps85,Exit.thenS]
 refine wpS_of_wp ?_;go_wp2_with fail
 cases c₀
 simp_all [bodyPostS,results,Tryz.results85]
def PW(w:World)(r:Except Nat T)(e:Ending)(w':World):Prop:=Below w.heap.size w w'∧match r with
 | .ok t=>∃ k n a s ao m c,e=.returned (.tuple #[tg k n a s ao m c,.int .i64 0,.bool true])∧TrC (Fr w) w' t (vT k n a s ao m c)
 | .error x=>e=.returned (.tuple #[tg 0 0 0 ⟨#[]⟩ none 0 0,.int .i64 x,.bool false])
theorem PS.fresh{w w1:World}{v:Value}{L:List T3}(hT:cK w v L)(hbd:L.length≤1000000)(b:Below w.heap.size w w1):PS (w1.alloc (.cells #[v,.int .i64 0] 122)) w1.heap.size L 0:=by
 obtain⟨ao,cap,rfl,h⟩:=hT;refine⟨⟨ao,cap,heap_alloc_new w1 _,fun hne=>?_⟩,Nat.zero_le _,hbd⟩;obtain⟨bl,off,rfl,hlt,hc⟩:=h hne;have:=b.size;refine⟨bl,off,rfl,by simp;omega,by omega,fun j hj i u hu=>?_⟩;exact((aC w1 _).cell (p:=⟨bl,off+j*3+i,none⟩) (show bl<w1.heap.size by omega)).trans ((b.cell (p:=⟨bl,off+j*3+i,none⟩) hlt).trans (hc j hj i u hu))
theorem NZ(pb i:Nat)(w:World)(k1:w.cell? ⟨pb,1,none⟩=some (.int .i64 i)):Calls Tryz.prog 86 #[pq pb] w fun e w'=>e=pan i∧w'=w:=by
 go_enter Tryz.func86,Tryz.ntmps86;go_wp2_with fail;exact⟨rfl,rfl,rfl⟩
theorem Ik(K:FuncId)(hK:∀ args w,(callFunc K args).run Tryz.prog w=.ok (.enter K args) w)(L:List T3)(read:Nat→R T)(hR:∀ pb w,PS w pb L 0→Calls Tryz.prog K #[pq pb] w (aD pb L w (read 0)))(v:Value)(w:World)(hT:cK w v L)(hbd:L.length≤1000000):Calls Tryz.prog 54 #[v,.func (.func K) #[] #[]] w (PW w (Bb (lk L) read)):=by
 have HA:=hdq (show Bb (lk L) read=match read 0 with | .ok (t,j)=>if j<(lk L).length then .error j else .ok t | .error e=>.error e from rfl);have hmf:∀ (fn:Fn) (first cap:Array Value) (w:World),(Instr.makeFunc fn first cap).run Tryz.prog w=.ok (.func fn first cap) w:=fun _ _ _ _=>rfl
 have hfm:=hT;obtain⟨ao,cap,rfl,-⟩:=hfm;have hfr:=fun (w1:World) (b:Below w.heap.size w w1)=>PS.fresh hT hbd b
 have HF:=hdq hfr;clear hfr hT
 go_enter_defers Tryz.func54,Tryz.ntmps54
 go_upto_region 1 with fail;have b0:Below w.heap.size w (((w.alloc (.cells z5q 24)).alloc (.cells #[.int .i64 0] 3)).alloc (.cells #[.bool false] 4)):=by
  have h1:=aC w (.cells z5q 24);have h2:=aC (w.alloc (.cells z5q 24)) (.cells #[.int .i64 0] 3);have h3:=aC ((w.alloc (.cells z5q 24)).alloc (.cells #[.int .i64 0] 3)) (.cells #[.bool false] 4);exact(h1.trans (h2.mono h1.size)).trans (h3.mono (Nat.le_trans h1.size h2.size))
 have n4:TV (((w.alloc (.cells z5q 24)).alloc (.cells #[.int .i64 0] 3)).alloc (.cells #[.bool false] 4)) w.heap.size (.int .i64 0) (.int .i64 0) (.int .i64 0) (.string ⟨#[]⟩) (.slice none 0 0):=
  (Below.heap_alloc _ _ _ (by simp;omega)).trans ((Below.heap_alloc _ _ _ (by simp)).trans (heap_alloc_new w _))
 have n5:(((w.alloc (.cells z5q 24)).alloc (.cells #[.int .i64 0] 3)).alloc (.cells #[.bool false] 4)).heap[w.heap.size+1]?=some (.cells #[.int .i64 0] 3 (0,0)):=by
  rw[Below.heap_alloc _ _ _ (by simp)];have:=heap_alloc_new (w.alloc (.cells z5q 24)) (.cells #[.int .i64 0] 3)
  rwa[show (w.alloc (.cells z5q 24)).heap.size=w.heap.size+1 by simp]at this
 have n6:(((w.alloc (.cells z5q 24)).alloc (.cells #[.int .i64 0] 3)).alloc (.cells #[.bool false] 4)).heap[w.heap.size+1+1]?=some (.cells #[.bool false] 4 (0,0)):=by
  have:=heap_alloc_new ((w.alloc (.cells z5q 24)).alloc (.cells #[.int .i64 0] 3)) (.cells #[.bool false] 4)
  rwa[show ((w.alloc (.cells z5q 24)).alloc (.cells #[.int .i64 0] 3)).heap.size=w.heap.size+1+1 by simp]at this
 have hz:(((w.alloc (.cells z5q 24)).alloc (.cells #[.int .i64 0] 3)).alloc (.cells #[.bool false] 4)).heap.size=w.heap.size+1+1+1:=by simp
 generalize World.alloc (World.alloc (World.alloc w _) _) _=w1 at b0 n4 n5 n6 hz ⊢;have hq:=HF.out w1 b0;rw[hz]at hq;go_upto_region 3 with fail;have b1:=aC w1 (.cells #[.slice ao L.length cap,.int .i64 0] 122);replace n4:=n4.below b1;replace n5:=(b1.block _ (by omega)).trans n5;replace n6:=(b1.block _ (by omega)).trans n6;have B2:=b0.trans (b1.mono b0.size);have hz2:w.heap.size+1+1+1<(w1.alloc (.cells #[.slice ao L.length cap,.int .i64 0] 122)).heap.size:=by simp;omega
 generalize World.alloc w1 _=w2 at hq n4 n5 n6 B2 hz2 ⊢;clear b0 b1 hz;have h45:w.heap.size≠w.heap.size+1:=by omega
 have h46:w.heap.size≠w.heap.size+1+1:=by omega
 have h47:w.heap.size≠w.heap.size+1+1+1:=by omega
 have h56:w.heap.size+1≠w.heap.size+1+1:=by omega
 have h57:w.heap.size+1≠w.heap.size+1+1+1:=by omega
 have h67:w.heap.size+1+1≠w.heap.size+1+1+1:=by omega
 have hN5:w.heap.size≤w.heap.size+1:=by omega
 have hN6:w.heap.size≤w.heap.size+1+1:=by omega
 generalize hB7:w.heap.size+1+1+1=pb at hq hz2 h47 h57 h67 ⊢;generalize hB6:w.heap.size+1+1=B6 at n6 h46 h56 h67 hN6 ⊢;generalize hB5:w.heap.size+1=B5 at n5 h45 h56 h57 hN5 ⊢;have l4:w.heap.size<w2.heap.size:=by omega
 have l5:B5<w2.heap.size:=by omega
 have l6:B6<w2.heap.size:=by omega
 have lpb:w.heap.size≤pb:=by omega
 clear hB5 hB6 hB7 hz2;go_upto_block 3 with fail;refine(hR pb w2 hq).mono ?_;intro e w3 hp
 rcases hp.split with ⟨t,j,k,n,a,s,o3,m,c,hr1,rfl,ht,hok⟩|⟨x,hr1,rfl,hg⟩
 ·have g3:=hok.1;have B3:Below w.heap.size w w3:=B2.grown g3 B2.size (fun j hj=>by cases hj;exact lpb);have hs3:=g3.size;replace n4:TV w3 _ _ _ _ _ _:=(g3.block _ l4 (fun e=>by cases e;exact h47 rfl)).trans n4;replace n5:=(g3.block _ l5 (fun e=>by cases e;exact h57 rfl)).trans n5;replace n6:=(g3.block _ l6 (fun e=>by cases e;exact h67 rfl)).trans n6;have hjl:=hok.2.le;have HR:=hdq hr1;obtain⟨k1,_⟩:=hok.2.cells;have k2:=(On h47 w3 1 k n a s (.slice o3 m c)).trans k1;have t4:=n4.set k n a s (.slice o3 m c);have n5':=(nV h45 w3 k n a s (.slice o3 m c)).trans n5;have n6':=(nV h46 w3 k n a s (.slice o3 m c)).trans n6;have B4:=bO B3 (Nat.le_refl _) k n a s (.slice o3 m c);have hsz4:w3.heap.size≤(((((w3.setCell ⟨w.heap.size,0,none⟩ (.int .i64 k)).setCell ⟨w.heap.size,1,none⟩ (.int .i64 n)).setCell ⟨w.heap.size,2,none⟩ (.int .i64 a)).setCell ⟨w.heap.size,3,none⟩ (.string s)).setCell ⟨w.heap.size,4,none⟩ (.slice o3 m c)).heap.size:=by simp[World.setCell]
  have htr:TrC (fun b=>w2.heap.size≤b) (((((w3.setCell ⟨w.heap.size,0,none⟩ (.int .i64 k)).setCell ⟨w.heap.size,1,none⟩ (.int .i64 n)).setCell ⟨w.heap.size,2,none⟩ (.int .i64 a)).setCell ⟨w.heap.size,3,none⟩ (.string s)).setCell ⟨w.heap.size,4,none⟩ (.slice o3 m c)) t (vT k n a s o3 m c):=
   ht.kept (fun b hb _=>hb) hsz4 (fun b hb _=>nV (by unfold Fr at hb;omega) _ _ _ _ _ _)
  have:=TV.facts n4;clear hok ht hq k1 hp hr1 n5 n6;go_upto_region 4 with fail;generalize World.setCell _ ⟨w.heap.size,4,none⟩ _=w4 at k2 t4 n5' n6' B4 htr hsz4 ⊢;have hs4:w2.heap.size≤w4.heap.size:=Nat.le_trans hs3 hsz4
  by_cases hlt:j<L.length
  ·have x1:(j:Int)<(L.length:Int):=by omega
   have HE:=hdq (show Bb (lk L) read=.error j by rw[HA.out,HR.out];show (if j<(L.map T3.tk).length then _ else _)=_;rw[List.length_map,if_pos hlt]);clear HA HR;go_upto_block 5 with fail;refine(NZ pb j w4 k2).mono ?_;rintro e w5 ⟨rfl,rfl⟩;unfold pan;go_wp2_with fail;refine leaves_cons (f:=85) (args:=#[pq w.heap.size,pq B5,pq B6]) (by simp) (by simp[go_sem]) ?_;refine(EN w.heap.size B5 B6 _ _ _ _ _ _ _ j [] w5 t4 n5' n6' h45 h46 h56 w.heap.size (Nat.le_refl _) hN5 hN6).mono ?_;rintro e u' w6 ⟨rfl,rfl,hb,ht,hc5,hc6⟩;have:=TV.facts ht;have P:PW w (Bb (lk L) read) (.returned (.tuple #[tg 0 0 0 ⟨#[]⟩ none 0 0,.int .i64 j,.bool false])) w6:=by
    rw[HE.out];exact⟨B4.trans hb,rfl⟩
   simp_all [Leaves,settle,results,Tryz.results54,go_sem]
  ·have x1:¬ (j:Int)<(L.length:Int):=by omega
   have HE:=hdq (show Bb (lk L) read=.ok t by rw[HA.out,HR.out];show (if j<(L.map T3.tk).length then _ else _)=_;rw[List.length_map,if_neg hlt]);clear HA HR;have c5:w4.cell? ⟨B5,0,none⟩=some (.int .i64 0):=cell_of_row w4 _ 0 _ _ _ n5';have f5:=Lib.frozen_of_heap n5' 0;have c6:w4.cell? ⟨B6,0,none⟩=some (.bool false):=cell_of_row w4 _ 0 _ _ _ n6';have f6:=Lib.frozen_of_heap n6' 0;have d5:=(On h45 w4 0 k n a s (.slice o3 m c)).trans c5;have d6:=(On h46 w4 0 k n a s (.slice o3 m c)).trans c6;have t5:=t4.set k n a s (.slice o3 m c);have B5w:=bO B4 (Nat.le_refl _) k n a s (.slice o3 m c);have ht5:TrC (fun b=>w2.heap.size≤b) (((((w4.setCell ⟨w.heap.size,0,none⟩ (.int .i64 k)).setCell ⟨w.heap.size,1,none⟩ (.int .i64 n)).setCell ⟨w.heap.size,2,none⟩ (.int .i64 a)).setCell ⟨w.heap.size,3,none⟩ (.string s)).setCell ⟨w.heap.size,4,none⟩ (.slice o3 m c)) t (vT k n a s o3 m c):=
    htr.kept (fun b hb _=>hb) (by simp[World.setCell]) (fun b hb _=>nV (by omega) _ _ _ _ _ _)
   have:=TV.facts t4;go_wp2_with fail;generalize World.setCell (World.setCell (World.setCell (World.setCell (World.setCell w4 _ _) _ _) _ _) _ _) _ _=w5 at d5 d6 t5 B5w ht5 ⊢;have q5:(w5.setCell ⟨B5,0,none⟩ (.int .i64 0)).cell? ⟨B5,0,none⟩=some (.int .i64 0):=World.cell?_setCell_same _ _ _ d5;have q6:(w5.setCell ⟨B5,0,none⟩ (.int .i64 0)).cell? ⟨B6,0,none⟩=some (.bool false):=(World.cell?_setCell_far _ _ _ _ (by simpa using h56)).trans d6;have r5:((w5.setCell ⟨B5,0,none⟩ (.int .i64 0)).setCell ⟨B6,0,none⟩ (.bool true)).cell? ⟨B5,0,none⟩=some (.int .i64 0):=(World.cell?_setCell_far _ _ _ _ (by simpa using h56.symm)).trans q5;have r6:((w5.setCell ⟨B5,0,none⟩ (.int .i64 0)).setCell ⟨B6,0,none⟩ (.bool true)).cell? ⟨B6,0,none⟩=some (.bool true):=World.cell?_setCell_same _ _ _ q6;have r4:TV ((w5.setCell ⟨B5,0,none⟩ (.int .i64 0)).setCell ⟨B6,0,none⟩ (.bool true)) w.heap.size k n a s (.slice o3 m c):=
    (Below.heap_setCell _ _ _ _ (by simpa using h46)).trans ((Below.heap_setCell _ _ _ _ (by simpa using h45)).trans t5)
   have P:PW w (Bb (lk L) read) (.returned (.tuple #[tg k n a s o3 m c,.int .i64 0,.bool true])) ((w5.setCell ⟨B5,0,none⟩ (.int .i64 0)).setCell ⟨B6,0,none⟩ (.bool true)):=by
    rw[HE.out];refine⟨(B5w.setCell (p:=⟨B5,0,none⟩) hN5 _).setCell (p:=⟨B6,0,none⟩) hN6 _,k,n,a,s,o3,m,c,rfl,ht5.kept (fun b hb _=>by unfold Fr;omega) (by simp[World.setCell]) (fun b hb _=>?_)⟩;rw[Below.heap_setCell _ _ _ _ (show b≠B6 by omega),Below.heap_setCell _ _ _ _ (show b≠B5 by omega)]
   generalize (w5.setCell ⟨B5,0,none⟩ (.int .i64 0)).setCell ⟨B6,0,none⟩ (.bool true)=w6 at r4 r5 r6 P ⊢;clear ht5 B5w t5 d5 d6 htr t4 n5' n6' c5 c6 f5 f6;refine leaves_cons (f:=85) (args:=#[pq w.heap.size,pq B5,pq B6]) (by simp) (by simp[go_sem]) ?_;refine(Kd w.heap.size B5 B6 w6).mono ?_;rintro e u' w7 ⟨rfl,rfl,rfl⟩;have:=TV.facts r4
   simp_all [Leaves,settle,results,Tryz.results54,go_sem]
 ·have B3:Below w.heap.size w w3:=B2.grown hg B2.size (fun j hj=>by cases hj;exact lpb);have n4:TV w3 _ _ _ _ _ _:=(hg.block _ l4 (fun e=>by cases e;exact h47 rfl)).trans n4;have n5:=(hg.block _ l5 (fun e=>by cases e;exact h57 rfl)).trans n5;have n6:=(hg.block _ l6 (fun e=>by cases e;exact h67 rfl)).trans n6;have HE:=hdq (show Bb (lk L) read=.error x by rw[HA.out,hr1]);clear HA hp hr1 hq;unfold pan;go_wp2_with fail;refine leaves_cons (f:=85) (args:=#[pq w.heap.size,pq B5,pq B6]) (by simp) (by simp[go_sem]) ?_;refine(EN w.heap.size B5 B6 _ _ _ _ _ _ _ x [] w3 n4 n5 n6 h45 h46 h56 w.heap.size (Nat.le_refl _) hN5 hN6).mono ?_;rintro e u' w6 ⟨rfl,rfl,hb,ht,hc5,hc6⟩;have:=TV.facts ht;have P:PW w (Bb (lk L) read) (.returned (.tuple #[tg 0 0 0 ⟨#[]⟩ none 0 0,.int .i64 x,.bool false])) w6:=by
   rw[HE.out];exact⟨B3.trans hb,rfl⟩
  simp_all [Leaves,settle,results,Tryz.results54,go_sem]
end
end Go.Proofs.YtfdlmcgcckkkdaaGreatDoor
