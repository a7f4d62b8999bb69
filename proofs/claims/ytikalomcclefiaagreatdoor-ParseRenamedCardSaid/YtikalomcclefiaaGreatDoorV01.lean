/- Part 01. -/
import Derived.Lib.QuietBelow
import Derived.BigQuiet
import Derived.Deep.AppendLies
import Derived.Deep.AppendSrc
import Derived.Deep.DeepCutAuto
import Derived.Deep.Fields
import Derived.Deep.Onto
import Derived.Deep.RegionHeld3
import Derived.Deep.RegionHeldLaw
import Derived.Deep.RegionLawGrows
import Derived.HandedShaped
import Derived.LaidMore
import Derived.LaidOnce
import Derived.LaidSub
import Derived.Lay
import Derived.OpenShut
import Derived.ProofKit
import Derived.RegionDies
import Derived.StillTailTactics
import Derived.Stop.Joined
import Derived.WalkLawsBesides
import Derived.WalkSpells
import Derived.Test.YtikalomcclefiaaGreatDoorProg
import Derived.Shelf.Small.Utf8
import Derived.Shelf.Strconv.Itoa3
import Derived.Shelf.Strconv.ErrVarAll
import Derived.Shelf.Strings.Shaped
import Derived.Shelf.Strings.SplitShaped
import Derived.Shelf.Strings.Runes
import Derived.Shelf.Unicode.DecodeAny
import Derived.Shelf.Strings.BuilderCap
import Derived.Shelf.Slices.Turned
import Derived.Shelf.Slices.Clone
import Derived.Shelf.Slices.Empties2
import Derived.Shelf.SlicesE.Index
import Derived.Shelf.SlicesE.Equal
import Derived.Shelf.SlicesE.Clone
set_option linter.all false
set_option maxHeartbeats 0
set_option maxRecDepth 100000
namespace Go.Proofs
structure AAC where
def AAA:AAC:=⟨⟩
instance:CoeFun AAC λ_=>FuncId->Array Value->World->(Ending->World->Prop)->Prop:=⟨λ_=>Calls Tryz.prog⟩
instance{b o:Nat}:CoeDep (Nat×Nat) (b,o) Addr:=⟨⟨b,o,none⟩⟩
structure AAG where(b o:Nat)
def AAF(b o:Nat):AAG:=⟨b,o⟩
instance(b o:Nat):CoeDep AAG (AAF b o) Addr:=⟨⟨b,o,none⟩⟩
def AAB{α:Type}{a b:α}(h:a=b:=by kernel_rfl):some a=some b:=congrArg some h
abbrev AAE:=ByteArray
end Go.Proofs
namespace Go.Proofs.YtikalomcclefiaaGreatDoor
section
abbrev aG:=@Nat.le_refl
abbrev aC:=@if_neg
abbrev aO:=@List.length_append
abbrev aX:=@Array.getElem?_eq_some_iff
abbrev aF:=@if_pos
abbrev aK:=@Go.cell_of_row
abbrev aY:=@Go.Lib.frozen_of_heap
abbrev aV:=@List.length_cons
abbrev aP:=@Go.heap_alloc_new
abbrev bA:=@Bool.and_eq_true
abbrev dH:=@List.getD_eq_getElem?_getD
abbrev bD:=@List.append_nil
abbrev aS:=@Nat.zero_le
abbrev bT:=@List.append_assoc
abbrev aM:=@Go.Lib.hid
abbrev aZ:=@Nat.le_trans
abbrev bN:=@List.length_map
abbrev cO:=@List.mem_singleton
abbrev dQ:=@List.getElem?_eq_getElem
abbrev dR:=@beq_eq_false_iff_ne
abbrev dJ:=@Go.RowKit.Below.heap_setCell
abbrev bO:=@List.mem_cons
abbrev bX:=@decide_eq_false
abbrev dI:=@List.nil_append
abbrev dD:=@List.length_nil
abbrev dX:=@decide_eq_true_eq
abbrev jY:=@List.take_succ_eq_append_getElem
abbrev eW:=@List.mem_cons_self
abbrev dC:=@List.map_cons
abbrev dZ:=@Go.Value.slice.injEq
abbrev bU:=@Nat.le_succ
abbrev eJ:=@List.getElem_mem
abbrev gY:=@Option.map_eq_some_iff
abbrev cY:=@Nat.lt_or_ge
abbrev fW:=@Go.wp_region_held_drew
abbrev iF:=@List.drop_of_length_le
abbrev kU:=@List.eq_nil_of_length_eq_zero
abbrev bH:=@Go.RowKit.Below.refl
abbrev gH:=@Nat.lt_of_lt_of_le
abbrev fP:=@List.mem_append
abbrev fE:=@List.drop_drop
abbrev gD:=@Go.Lib.cell_of_heap
abbrev lS:=@List.getElem?_eq_some_iff
abbrev kY:=@Go.World.cell?_setCell_far
abbrev jZ:=@List.mem_cons_of_mem
abbrev eQ:=@decide_eq_true
abbrev fL:=@List.cons.injEq
abbrev dT:=@Nat.zero_add
abbrev lN:=@List.mem_of_getElem?
abbrev nN:=@List.length_eq_zero_iff
abbrev iX:=@List.map_append
abbrev gJ:=@Nat.add_assoc
abbrev kE:=@List.cons_append
abbrev nQ:=@List.take_of_length_le
abbrev iV:=@Go.IntWalk.i64_in
abbrev jP:=@List.take_length
abbrev jV:=@List.length_take
abbrev mP:=@Option.some.injEq
abbrev iH:=@Nat.le_of_lt
abbrev pK:=@Array.getElem?_modify
abbrev lP:=@Go.RowKit.Below.heap_alloc
abbrev iJ:=@List.all_eq_true
abbrev iW:=@Go.bodyPost_ret
abbrev lV:=@List.getElem?_map
abbrev tC:=@List.getElem!_eq_getElem?_getD
abbrev nS:=@Bool.eq_iff_iff
abbrev Ac:=@List.drop_append_of_le_length
abbrev pE:=@List.length_pos_iff
abbrev sJ:=@List.drop_succ_cons
abbrev lE:=@Nat.add_zero
abbrev iL:=@List.mem_map
abbrev sH:=@Go.ByteArray.toList_eq
abbrev vM:=@Go.World.cell?_setCell_same
abbrev dY:=@Go.Calls.mono
abbrev sB:=@List.pairwise_cons
abbrev pC:=@Nat.lt_succ_self
abbrev fD:=@true_and
abbrev Ad:=@List.getElem?_append_right
abbrev tD:=@List.take_succ_cons
abbrev vX:=@Go.MapKept.run_getObj_map
abbrev zF:=@List.drop_eq_getElem_cons
abbrev tG:=@Go.World.news_of_block
abbrev tQ:=@Go.Calls.quiet_of_same
abbrev tB:=@List.getElem?_eq_none
abbrev pB:=@Prod.mk.injEq
abbrev pH:=@List.all_cons
abbrev tR:=@Go.World.cell?_of_block
abbrev nR:=@Nat.ne_of_lt
abbrev kW:=@beq_iff_eq
abbrev tN:=@Go.World.ownsRow_nil
abbrev vO:=@Go.MapKept.run_findKey
abbrev kZ:=@getElem!_pos
abbrev qV:=@Bool.true_and
abbrev qW:=@Go.wp_region_any
abbrev qS:=@Go.AllReadyH.nil
abbrev zU:=@List.mem_of_mem_drop
abbrev tE:=@Option.map_some
abbrev oY:=@List.map_nil
abbrev sE:=@List.map_take
abbrev vL:=@Go.WideShapes.add_plain
abbrev vZ:=@List.drop_length
abbrev zI:=@List.getElem_cons_zero
abbrev nU:=@Go.info_parts
abbrev vD:=@Go.Value.string.injEq
abbrev iG:=@of_decide_eq_true
abbrev zG:=@List.getElem?_set
abbrev CQ:=@List.mem_append_left
abbrev Gc:=@List.getElem?_append_left
abbrev Gj:=@Decidable.byContradiction
abbrev zV:=@List.length_drop
abbrev CZ:=@Go.Lib.byteCells_length
abbrev CM:=@Go.Lib.byteCells_append
abbrev vH:=@Go.run_underlying
abbrev tP:=@Nat.lt_trans
abbrev vF:=@List.map_drop
abbrev Gv:=@Int.eq_ofNat_of_zero_le
abbrev CD:=@Go.World.block_lt_of_cell?
abbrev vE:=@Go.Value.int.injEq
abbrev CG:=@Int.toNat_natCast
abbrev Ln:=@Array.getElem?_setIfInBounds_ne
abbrev GA:=@List.mem_append_right
abbrev Dd:=@List.drop_append
abbrev zP:=@Go.DataW.trod_int
abbrev FE:=@List.mem_of_mem_take
abbrev mM:=@and_true
abbrev Gu:=@Go.MapKept.run_checkKey
abbrev Gp:=@List.map_congr_left
abbrev FB:=@List.flatten_append
abbrev KQ:=@List.setIfInBounds_toArray
abbrev FJ:=@List.set_cons_zero
abbrev Fv:=@List.set_cons_succ
abbrev vR:=@List.map_map
abbrev FY:=@Bool.false_eq_true
abbrev KZ:=@List.pairwise_iff_getElem
abbrev yY:=@Go.cell_regrown
abbrev Ft:=@Nat.lt_of_succ_lt
abbrev Ga:=@List.foldl_append
abbrev Gx:=@Bool.not_eq_true'
abbrev Fq:=@Bool.eq_false_iff
abbrev LH:=@Option.bind_eq_some_iff
abbrev vV:=@Go.wpS_region
abbrev GB:=@Go.wpList_append_own
abbrev Cs:=@Go.World.cells?_some
abbrev FV:=@List.cons_ne_nil
abbrev LC:=@List.getElem_cons_succ
abbrev qT:=@Ne.symm
abbrev Da:=@Nat.zero_mul
abbrev FW:=@Nat.min_eq_left
abbrev CV:=@Nat.add_comm
abbrev Lr:=@List.take_append_drop
abbrev Cy:=@Array.getElem?_toList
abbrev Ls:=@List.getElem_toArray
abbrev Ly:=@List.getElem?_of_mem
abbrev Co:=@List.take_zero
abbrev FP:=@Go.Exit.noGoto_ret
abbrev FL:=@Bool.false_and
abbrev Lg:=@List.mem_map_of_mem
abbrev KS:=@decide_eq_true_iff
abbrev Gi:=@Nat.lt_irrefl
abbrev CO:=@List.getElem?_take
abbrev UR:=@ByteArray.getElem_eq_getElem_data
abbrev Ck:=@Go.leaves_cons
abbrev KV:=@List.flatten_cons
open Go.RowKit
section
variable{p:Prop}
include p
theorem aB(h:p:=by omega):p:=h
theorem aD(h:p:=by decide):p:=h
theorem Ht(h:p:=by unfold kK;simp[*]):p:=h
theorem PF(h:p:=by rw[show ((j+1:Nat):Int)=(j:Int)+1 from by omega];omega):p:=h
theorem IK(h:p:=by rw[HQ.out,hst.out,List.append_nil]):p:=h
theorem dW(h:p:=by simp;omega):p:=h
theorem aI(h:p:=by simp):p:=h
theorem qA(h:p:=by simpa using h):p:=h
theorem iS(h:p:=by assumption):p:=h
theorem Ds(h:p:=by rw[List.length_map,<- Xq];exact hown):p:=h
theorem aQ(h:p:=by kernel_rfl):p:=h
theorem AG(h:p:=by rw[h1];decide):p:=h
theorem tT(h:p:=by simpa using hp):p:=h
theorem AM(h:p:=by rw[List.length_map];omega):p:=h
theorem Dq(h:p:=by rw[HN.out];exact hlt):p:=h
theorem AR(h:p:=by intro e;injection e with e;omega):p:=h
theorem AQ(h:p:=by intro c fz e;injection e with e1 e2 e3;exact absurd e2 (by decide)):p:=h
theorem OF(h:p:=by rw[Lib.byteCells_length]at *; rw[List.length_append];omega):p:=h
theorem oM(h:p:=by rw[List.length_map,HN.out];omega):p:=h
theorem Dn(h:p:=by rw[HGOOD.out];decide):p:=h
theorem Ty(h:p:=by simp[results,Tryz.results142,go_sem,q0,q1,q2]):p:=h
theorem wK(h:p:=by simpa using hi):p:=h
theorem Hs(h:p:=by simp[results,Tryz.results141,go_sem,q0,q1,q2]):p:=h
theorem Au(h:p:=by simp[results,Tryz.results122,go_sem,q0,q1,q2]):p:=h
theorem Qd(h:p:=by rintro⟨_,h⟩;rw[<- ex2 hA]at h;exact hM h):p:=h
theorem Su(h:p:=by rintro⟨_,h⟩;rw[<- ex1]at h;exact hM1 h):p:=h
theorem wX(h:p:=by simpa using h1):p:=h
theorem wN(h:p:=by simp at h;omega):p:=h
theorem Al(h:p:=by simp only;rw[ZH];exact hck):p:=h
theorem Tl(h:p:=by rw[show hd (39::(Np t.data.toList++[39]))=39 from rfl];decide):p:=h
theorem Sr(h:p:=by rw[show hd (39::(t.data.toList++[39,66]))=39 from rfl];decide):p:=h
theorem SF(h:p:=by rw[show hd ([46]++qO c)=46 from rfl];decide):p:=h
theorem wZ(h:p:=by simp[MapKept.IsKey]):p:=h
theorem AI(h:p:=by simpa using hk):p:=h
theorem Hn(h:p:=by rw[<- hg,h];decide):p:=h
theorem rP(h:p:=by simp[hd]):p:=h
theorem nI(h:p:=by rw[EK];omega):p:=h
theorem Ay(h:p:=by intro x hx;cases hx):p:=h
theorem aE(h:p:=by decide +kernel):p:=h
theorem lH(h:p:=by unfold Ci;decide +kernel):p:=h
theorem rS(h:p:=by simp[W]):p:=h
theorem Dr(h:p:=by rw[List.map_map,List.map_map];exact List.map_congr_left λx _=>eV b x):p:=h
theorem IM(h:p:=by rw[eZ h1.1];decide +kernel):p:=h
theorem Ig(h:p:=by rw[eZ g1];decide +kernel):p:=h
theorem fZ(h:p:=by simp[T.kind]):p:=h
theorem Dh(h:p:=by simp at hn;omega):p:=h
theorem fF(h:p:=by rcases hw with rfl|rfl<;>decide +kernel):p:=h
theorem rO(h:p:=by rw[e];rfl):p:=h
theorem DZ(h:p:=by rw[eZ h2.1];decide +kernel):p:=h
theorem pX(h:p:=by rcases hk with rfl|rfl<;>decide +kernel):p:=h
theorem xC(h:p:=by rcases hk with rfl|rfl|rfl<;>decide +kernel):p:=h
theorem DL(h:p:=by rw[ha];decide):p:=h
theorem Ra(h:p:=by rcases hkw with e|e<;>(rw[e];decide +kernel)):p:=h
theorem Py(h:p:=by rcases hw with rfl|rfl|rfl<;>decide +kernel):p:=h
theorem dF(h:p:=by first|omega|exact nwA):p:=h
theorem dE(h:p:=by exact nwA):p:=h
theorem oU(h:p:=by cases h):p:=h
theorem Az(h:p:=by rcases hk' with rfl|rfl<;>rfl):p:=h
theorem Jz(h:p:=by rw[aiH,avW];exact .inl (e ▸ h)):p:=h
theorem qC(h:p:=by rw[h];decide):p:=h
theorem Dt(h:p:=by rw[tU,qQ rfl,dG]):p:=h
theorem Rn(h:p:=by rw[Ai,hK,bP,dG,(show uK x=[]from hx)];rfl):p:=h
theorem QX(h:p:=by rw[bP,dG,(show uK x=[]from hx)];rfl):p:=h
theorem Jq(h:p:=by rw[tU,mL rfl,dG]):p:=h
theorem Jx(h:p:=by rw[tU,qQ rfl,bP,dG,(show uK x=[]from hx)];rfl):p:=h
theorem Iy(h:p:=by rcases h with rfl|rfl<;>decide +kernel):p:=h
theorem rR(h:p:=by simp[isRef,T.kind]):p:=h
theorem tJ(h:p:=by unfold maxLen;omega):p:=h
theorem Ax(h:p:=by cases hq):p:=h
theorem DE(h:p:=by intro e;rw[e]at hi;simp at hi):p:=h
theorem AD(h:p:=by rw[hs];decide):p:=h
theorem Qc(h:p:=by rw[HQ3.out,show aW (lk L) j dA=_ from hr2];rfl):p:=h
theorem Ie(h:p:=by rw[HQ2.out,hr1];rfl):p:=h
theorem mX(h:p:=by rfl):p:=h
theorem AN(h:p:=by simp[World.setCell]):p:=h
theorem kF(h:p:=by intro e;rw[e]at hlt;simp at hlt):p:=h
theorem wV(h:p:=by with_reducible exact hA):p:=h
theorem Dl(h:p:=by with_reducible exact hB):p:=h
theorem Dk(h:p:=by simp[results,Tryz.results149,go_sem]):p:=h
theorem Qw(h:p:=by rw[show cD (lk L) jj [dA]=false from hb2];decide):p:=h
theorem DP(h:p:=by with_reducible exact hP):p:=h
theorem DC(h:p:=by with_reducible exact hR):p:=h
theorem PN(h:p:=by rw[show cD (lk L) jj [cJ]=false from hb1];decide):p:=h
theorem AO(h:p:=by simp[go_sem]):p:=h
theorem Rc(h:p:=by simp[results,Tryz.results113,go_sem,q0,q1,q2]):p:=h
theorem Ar(h:p:=by simp[HU.out,aH,hr]):p:=h
theorem Sk(h:p:=by simp[HU.out,aH,bK,Hz.out]<;>rfl):p:=h
theorem PV(h:p:=by rw[HU1,show cD (lk L) i [cJ]=true from hs0,hs2,decide_eq_true hn1,decide_eq_true hn2];simp[hcn]):p:=h
theorem SH(h:p:=by rcases List.mem_cons.1 hq with rfl|hq;exact .head _;exact .tail _ (.tail _ hq)):p:=h
theorem Dv(h:p:=by rw[<- Le,e,ByteArray.toList_eq]):p:=h
theorem Sm(h:p:=by first|exact .tail _ (.head _)|exact .tail _ (.tail _ (.head _))):p:=h
theorem oL(h:p:=by first|exact .head _|exact .tail _ (.head _)):p:=h
theorem Dz(h:p:=by cases e;rfl):p:=h
theorem GU(h:p:=by rw[HK.out];decide):p:=h
theorem OU(h:p:=by rw[List.length_append,List.length_map,List.length_take];omega):p:=h
theorem RN(h:p:=by simp only[List.length_append,List.length_cons,List.length_nil];omega):p:=h
theorem tS(h:p:=by simp only[List.length_append,List.length_map,List.length_cons,List.length_nil];omega):p:=h
theorem Ii(h:p:=by simp only[List.length_cons,List.length_nil];omega):p:=h
theorem Di(h:p:=by first|omega|(simp only[List.length_append,List.length_map,List.length_cons,List.length_nil];omega)):p:=h
theorem DI(h:p:=by rw[HR.out,hr1]):p:=h
theorem Qk(h:p:=by rw[HP5.out,show aW (lk L) j' dA=_ from hr2];rfl):p:=h
theorem wW(h:p:=by rw[HU.out,hr]):p:=h
theorem xA(h:p:=by rw[HU.out,HA.out]):p:=h
theorem RA(h:p:=by intro u hu;simp[vT]at hu;rcases hu with rfl|rfl|rfl|rfl|rfl<;>rfl):p:=h
theorem PX(h:p:=by
 go_wp2_with fail
 go_quiet ((go_at_call 93;exact Calls.quiet_of_same (iA _ _ _)))
 go_wp2_with fail
 go_quiet ((go_at_call 93;exact nF (iA _ _ _)))
 go_wp2_with fail;rw[Exit.noGoto_ret];go_ret;exact OA IK sc own ((hleft.drewN _).drewN _)):p:=h
theorem SX(h:p:=by unfold Aa at *; simp[World.setCell,Array.getElem?_modify,h]):p:=h
theorem Rr(h:p:=by
 go_wp2_with (first|(go_at_call 121;refine(HSP.out).mono ?_;rintro e w2 ⟨rfl,v2,sc2,ownT,hm2,ownC,hb2⟩;obtain⟨k0,k1,k2,k3⟩:=sc2.cell)|(go_at_call 122;refine(HNX.out w2 v2 sc2 hm2).mono ?_;rintro e w3 ⟨rfl,hb3⟩;have sc3:=sc2.below hb3;have a1:∀ o,(w3.alloc o).cell? (AAF b 1)=some (.int .i64 j):=λo=>(sc3.below (aJ w3 o)).cell.2.1)|(go_at_call 44;refine(HCK.out _).mono ?_;rintro e w4 ⟨rfl,hb4⟩;have sc4:=(sc3.below (aJ w3 (.cells #[.int .i64 g.kind,.string ⟨g.text.toArray⟩,.int .i64 j] 47))).below hb4;have n4:=(hb4.block w3.heap.size aI).trans (heap_alloc_new w3 (.cells #[.int .i64 g.kind,.string ⟨g.text.toArray⟩,.int .i64 j] 47));have a1':w4.cell? (AAF b 1)=some (.int .i64 j):=sc4.cell.2.1))
 go_quiet (fail)
 go_wp2_with fail;refine bodyPost_ret (yH rfl _ _ _) rfl ?_;exact JA HR.out aD (below_drewN ((hb2.trans (hb3.mono hb2.size)).trans ((eU _ _ _ hb4).mono (Nat.le_trans hb2.size hb3.size))) _)):p:=h
theorem Si(h:p:=by
 go_wp2_with (first|(go_at_call 121;refine(HSP.out).mono ?_;rintro e w2 ⟨rfl,v2,sc2,ownT,hm2,ownC,hb2⟩;obtain⟨k0,k1,k2,k3⟩:=sc2.cell)|(go_at_call 122;refine(HNX.out w2 v2 sc2 hm2).mono ?_;rintro e w3 ⟨rfl,hb3⟩;have sc3:=sc2.below hb3;have a1:∀ o,(w3.alloc o).cell? (AAF b 1)=some (.int .i64 j):=λo=>(sc3.below (aJ w3 o)).cell.2.1))
 go_quiet (fail)
 go_wp2_with fail;refine bodyPost_ret (yH rfl _ _ _) rfl ?_;exact JA HR.out aD (below_drewN ((hb2.trans (hb3.mono hb2.size)).alloc (by have:=hb2.size;have:=hb3.size;omega) _) _)):p:=h
theorem RY(h:p:=by
 rcases h.2 with ⟨rfl,rfl⟩|⟨g,cap,cur,rfl,_⟩
 ·exact⟨_,_,rfl⟩
 ·exact⟨_,_,rfl⟩):p:=h
theorem Rk(h:p:=by
 have e:∀ n,((AAF g 0):Addr).add n=⟨g,n,none⟩:=λn=>by unfold Addr.add;split<;>simp_all
 rw[e]at this;rw[Nat.zero_add];exact this):p:=h
theorem RV(h:p:=by
 have:=(List.getElem?_eq_some_iff.1 hu).1
 simpa[Bh]using this):p:=h
theorem DF(h:p:=by exact⟨0,Nat.zero_le _,by omega,rfl,Below.refl _ w,λj hj=>absurd hj (Nat.not_lt_zero _)⟩):p:=h
theorem OT(h:p:=by
 go_in
 go_wp2
 go_ret;exact⟨eI hf.out.symm,0,rfl⟩):p:=h
theorem QD(h:p:=by
 rw[hq]at HCK;go_wp2_with fail;refine(HCK.out _).mono ?_;rintro e w' ⟨rfl,hb'⟩;go_wp2_with fail
 go_roundg (n - (kk+1))
 case measure=>omega
 case rel=>
  refine⟨kk+1,by omega,by omega,by go_num,bw1.trans (hb'.mono bw1.size),(show Aside _ from λj hj=>?_)⟩
  by_cases e:j=kk
  ·subst e;rw[X.out];exact hq
  ·exact A.out j aB):p:=h
theorem PW(h:p:=by rw[getElem!_pos l kk Dq];exact HS.out _ (List.getElem_mem _)):p:=h
theorem Pr(h:p:=by
 rw[hnn]at hln;have HLN:=Lib.hid hln;have HNN:=Lib.hid hnn;clear hln hnn;go_wp2_with fail;refine(HLN.out).mono ?_;rintro e w9 ⟨rfl,hw9⟩;rw[hw9];clear hw9
 by_cases hbig:20000<nn
 ·have hbz:(20000:Int)<(nn:Int):=by omega
  have hpr:gX (l.map oK)=(⟨#[]⟩,2):=by
   have h1:=Hl (l.map oK) (kk - (k+1)) (k+1) oM;have e:(l.map oK).take (k+1+(kk - (k+1)))=l.map oK:=List.take_of_length_le oM;rw[e,HCUM.out,HNN.out]at h1;unfold gX;rw[if_neg oM,if_neg Dn,if_pos aB]
  have HPR:=Lib.hid hpr;clear hpr hbig;go_wp2_with fail
  go_ret2
  exact⟨by rw[HPR.out];rfl,hb2.trans (bel8.mono hBw)⟩
 ·have hbz:¬ (20000:Int)<(nn:Int):=by omega
  go_wp2_with fail
  go_roundg (kk - (k+1))
  case rel=>exact⟨k+1,by omega,by omega,by go_num,by rw[HCUM.out];exact .inr hat8,bel8,by rw[HCUM.out,HNN.out];omega⟩
  case measure=>omega):p:=h
theorem Rj(h:p:=by
 have hnl:nlB (oK x)=[]:=by unfold nlB;rw[X3];rfl
 have HNL:=Lib.hid hnl;clear hnl X3;have t0:w5.cell? (AAF B2 0)=some (.int .i64 x.kind):=cell_of_row _ _ 0 _ _ _ Nd.out;have t1:w5.cell? (AAF B2 1)=some (.string x.text):=cell_of_row _ _ 1 _ _ _ Nd.out;have t2:w5.cell? (AAF B2 2)=some (.int .i64 x.at_):=cell_of_row _ _ 2 _ _ _ Nd.out;have hzd:=beld.size;go_wp2_with fail;refine(HSP.out _ (hml.below (hb2.trans (beld.mono hBw)))).mono ?_;rintro e w6 ⟨rfl,hb6⟩;have bld6:=bldd.below hb6;have bel6:=beld.trans (hb6.mono aB);have hz6:=bel6.size;have N6:=(hb6.block B2 (Array.getElem?_eq_some_iff.1 Nd.out).1).trans Nd.out;clear t0 t1 t2 bldd beld;go_wp2_with fail;refine(vA B B (Lib.byteCells (A0++[32])) (eY x.kind x.text) w6 bld6 (by have:(eY x.kind x.text).size=(qO (oK x)).length:=rfl;omega) aB).mono ?_;rintro e w7 ⟨rfl,hat,hb7,hk7⟩;rw[show Lib.byteCells (A0++[32])++Lib.strCells (eY x.kind x.text)=Lib.byteCells ((A0++[32])++qO (oK x))from by rw[Lib.byteCells_append ((A0++[32])) (qO (oK x)),Lib.strCells_eq];rfl]at hat;have N7:=hk7 _ _ N6 AR AQ;have bel7:=bel6.trans hb7;have t0:w7.cell? (AAF B2 0)=some (.int .i64 x.kind):=cell_of_row _ _ 0 _ _ _ N7;have t1:w7.cell? (AAF B2 1)=some (.string x.text):=cell_of_row _ _ 1 _ _ _ N7;have hz7:=bel7.size;clear hk7 hb7 N6 bld6 bel6 hb6;go_wp2_with fail;have hat8:=hat;have bel8:=bel7;have hacc:iK ((l.map oK).take (k+1))=(A0++[32])++qO (oK x):=by rw[HFIN.out,HNL.out];simp
 have HCUM:=Lib.hid hacc;clear hacc;have hln:=Tryz.Builder_Len_f B B (Lib.byteCells ((A0++[32])++qO (oK x))) w7 (.inr hat8);rw[Lib.byteCells_length]at hln;obtain⟨nn,hnn⟩:∃ nn,((A0++[32])++qO (oK x)).length=nn:=⟨_,rfl⟩
 rw[hnn]at hln;have HLN:=Lib.hid hln;have HNN:=Lib.hid hnn;clear hln hnn;go_wp2_with fail;refine(HLN.out).mono ?_;rintro e w9 ⟨rfl,hw9⟩;rw[hw9];clear hw9
 by_cases hbig:20000<nn
 ·have hbz:(20000:Int)<(nn:Int):=by omega
  have hpr:gX (l.map oK)=(⟨#[]⟩,2):=by
   have h1:=Hl (l.map oK) (kk - (k+1)) (k+1) oM;have e:(l.map oK).take (k+1+(kk - (k+1)))=l.map oK:=List.take_of_length_le oM;rw[e,HCUM.out,HNN.out]at h1;unfold gX;rw[if_neg oM,if_neg Dn,if_pos aB]
  have HPR:=Lib.hid hpr;clear hpr hbig;go_wp2_with fail
  go_ret2
  exact⟨by rw[HPR.out];rfl,hb2.trans (bel8.mono hBw)⟩
 ·have hbz:¬ (20000:Int)<(nn:Int):=by omega
  go_wp2_with fail
  go_roundg (kk - (k+1))
  case rel=>exact⟨k+1,by omega,by omega,by go_num,by rw[HCUM.out];exact .inr hat8,bel8,by rw[HCUM.out,HNN.out];omega⟩
  case measure=>omega):p:=h
theorem RE(h:p:=by
 have hnl:nlB (oK x)=[]:=by unfold nlB;rw[X3];rfl
 have HNL:=Lib.hid hnl;clear hnl X3;have t0:wc.cell? (AAF B2 0)=some (.int .i64 x.kind):=cell_of_row _ _ 0 _ _ _ Nd.out;have t1:wc.cell? (AAF B2 1)=some (.string x.text):=cell_of_row _ _ 1 _ _ _ Nd.out;have t2:wc.cell? (AAF B2 2)=some (.int .i64 x.at_):=cell_of_row _ _ 2 _ _ _ Nd.out;have hzd:=beld.size;go_wp2_with fail;refine(HSP.out _ (hml.below (hb2.trans (beld.mono hBw)))).mono ?_;rintro e w6 ⟨rfl,hb6⟩;have bld6:=bldd.below hb6;have bel6:=beld.trans (hb6.mono aB);have hz6:=bel6.size;have N6:=(hb6.block B2 (Array.getElem?_eq_some_iff.1 Nd.out).1).trans Nd.out;clear t0 t1 t2 bldd beld;go_wp2_with fail;refine(vA B B (Lib.byteCells A0) (eY x.kind x.text) w6 bld6 (by have:(eY x.kind x.text).size=(qO (oK x)).length:=rfl;omega) aB).mono ?_;rintro e w7 ⟨rfl,hat,hb7,hk7⟩;rw[show Lib.byteCells A0++Lib.strCells (eY x.kind x.text)=Lib.byteCells (A0++qO (oK x))from by rw[Lib.byteCells_append (A0) (qO (oK x)),Lib.strCells_eq];rfl]at hat;have N7:=hk7 _ _ N6 AR AQ;have bel7:=bel6.trans hb7;have t0:w7.cell? (AAF B2 0)=some (.int .i64 x.kind):=cell_of_row _ _ 0 _ _ _ N7;have t1:w7.cell? (AAF B2 1)=some (.string x.text):=cell_of_row _ _ 1 _ _ _ N7;have hz7:=bel7.size;clear hk7 hb7 N6 bld6 bel6 hb6;go_wp2_with fail;have hat8:=hat;have bel8:=bel7;have hacc:iK ((l.map oK).take (k+1))=A0++qO (oK x):=by rw[HFIN.out,HNL.out];simp
 have HCUM:=Lib.hid hacc;clear hacc;have hln:=Tryz.Builder_Len_f B B (Lib.byteCells (A0++qO (oK x))) w7 (.inr hat8);rw[Lib.byteCells_length]at hln;obtain⟨nn,hnn⟩:∃ nn,(A0++qO (oK x)).length=nn:=⟨_,rfl⟩
 rw[hnn]at hln;have HLN:=Lib.hid hln;have HNN:=Lib.hid hnn;clear hln hnn;go_wp2_with fail;refine(HLN.out).mono ?_;rintro e w9 ⟨rfl,hw9⟩;rw[hw9];clear hw9
 by_cases hbig:20000<nn
 ·have hbz:(20000:Int)<(nn:Int):=by omega
  have hpr:gX (l.map oK)=(⟨#[]⟩,2):=by
   have h1:=Hl (l.map oK) (kk - (k+1)) (k+1) oM;have e:(l.map oK).take (k+1+(kk - (k+1)))=l.map oK:=List.take_of_length_le oM;rw[e,HCUM.out,HNN.out]at h1;unfold gX;rw[if_neg oM,if_neg Dn,if_pos aB]
  have HPR:=Lib.hid hpr;clear hpr hbig;go_wp2_with fail
  go_ret2
  exact⟨by rw[HPR.out];rfl,hb2.trans (bel8.mono hBw)⟩
 ·have hbz:¬ (20000:Int)<(nn:Int):=by omega
  go_wp2_with fail
  go_roundg (kk - (k+1))
  case rel=>exact⟨k+1,by omega,by omega,by go_num,by rw[HCUM.out];exact .inr hat8,bel8,by rw[HCUM.out,HNN.out];omega⟩
  case measure=>omega):p:=h
theorem RH(h:p:=by
 refine wp_region_quiet_below aQ aQ ?_
 repeat (go_big_quiet_step (exact CT.out _ _))
 refine wpQuiet_nil ?_;intro _ hw';obtain⟨⟨dq,osq⟩,hw''⟩:=hw';subst hw'';go_wp2_with fail;go_meet;exact⟨by rw[FIN.out],below_regrown w1 dq osq⟩):p:=h
theorem QE(h:p:=by
 go_in;go_wp2_with (go_at_call 69;refine(aEH _ hs _).mono ?_;rintro e w' ⟨rfl,rfl⟩)
 all_goals
  go_ret;exact⟨by unfold eP;simp_all [GG]<;>omega,aJ _ _⟩):p:=h
theorem QC(h:p:=by
 go_in
 go_wp2
 go_ret;exact⟨aoZ (KN (by simp[eY])),aJ _ _⟩):p:=h
theorem Qu(h:p:=by ·exact qU (below_drewN (b1.trans (B3.out.mono b1.size)) _) _ _ _):p:=h
theorem OR(h:p:=by rw[HNT.out];exact IZ (by rw[uC s i j hij hj]) aB rfl):p:=h
theorem SG(h:p:=by ·exact qU (below_drewN (b1.trans ((hbc.trans (B3.out.mono hbc.size)).mono b1.size)) _) _ _ _):p:=h
theorem TA(h:p:=by rw[HT.out,HIS.out];exact IZ rfl (by have:=HQE.out;omega) (by have:=HQE.out;rfl)):p:=h
theorem SN(h:p:=by
 intro jj u hj
 match jj,hj with
 | 0,hj=>simp at hj;subst hj;simp[Addr.add]):p:=h
theorem IE(h:p:=by refine bodyPost_ret (v:=.tuple #[.agg #[.int .i64 kk,.string t,.int .i64 a],.int .i64 m,.bool ok]) Au rfl ⟨by rw[HN.out,HG.out],qU (b2.trans ((below_drewN (Below.refl _ _) _).trans (hb.mono (Nat.le_of_lt hB2)))) _ _ _⟩):p:=h
theorem RR(h:p:=by intro n;rw[<- hg];exact VS b r s i v hi hs (w2.drewN n) sc2):p:=h
theorem Ph(h:p:=by
 go_upto_region 15 with fail
 go_quiet (fail)
 go_upto_region 13 with fail;rw[rounds_succ];go_upto_region 15 with fail
 go_quiet (fail)
 go_upto_region 13 with fail;rw[rounds_succ];go_wp2_with fail;refine bodyPost_ret (v:=.tuple #[.agg #[.int .i64 0,.string ⟨#[]⟩,.int .i64 0],.int .i64 0,.bool false]) Au rfl ⟨by rw[HN.out,HR.out];rfl,qU (below_drewN b4 _) _ _ _⟩):p:=h
theorem Tj(h:p:=by
 go_upto_region 15 with fail
 go_quiet (fail)
 go_upto_region 13 with fail;rw[rounds_succ];go_upto_region 15 with fail
 go_quiet (fail)
 go_upto_region 16 with fail;have z1:(i:Int)<=(i:Int)+1:=by omega
 have z2:(0:Int)<=(i:Int)+1:=by omega
 have z3:IntKind.i64.wrap ((i:Int)+1)=(i:Int)+1:=IntWalk.i64_in _ aB;have z4:((i:Int)+1).toNat=i+1:=by omega
 go_region_held3 (λw'=>w'.cell? (AAF b 0)=some (.string s)/\w'.cell? (AAF b 1)=some (.int .i64 i)) (go_keep) (first|fail)
 clear z3 z4;go_wp2_with fail;refine bodyPost_ret (v:=.tuple #[.agg #[.int .i64 6,.string (s.extract i (i+1)),.int .i64 i],.int .i64 ((i:Int)+1),.bool true]) Au rfl ⟨?_,qU (below_drewN b4 _) _ _ _⟩;rw[HN.out,HR.out];exact IZ (by rw[uC s i (i+1) aB aB];simp) aB rfl):p:=h
theorem Rl(h:p:=by have:s.data.toList.length=s.size:=rfl;rw[List.length_drop,this]):p:=h
theorem OL(h:p:=by
 go_quiet ((first|(go_at_call 93;exact Calls.quiet_of_same (iA _ _ _))|(go_at_call 110;exact Calls.quiet_of_same (lW _ _))))
 go_wp2_with fail;go_meet
 case rel=>exact⟨rfl,_,rfl⟩):p:=h
theorem TE(h:p:=by
 congr 2
 rcases hl.look with h|h
 ·rw[MA h];simp[hok]
 ·rw[h.1]):p:=h
theorem mW(h:p:=by exact absurd h aD):p:=h
theorem AH(h:p:=by exact absurd (show (5:Int)=_ from e) aD):p:=h
theorem Tt(h:p:=by
 rw[Option.map_eq_some_iff]at h;obtain⟨n,hn,rfl⟩:=h
 cases ha):p:=h
theorem Jr(h:p:=by rw[this];simp only[List.length_append,List.length_cons,List.length_nil]):p:=h
theorem IT(h:p:=by rintro rfl;exact absurd h aD):p:=h
theorem rQ(h:p:=by exact absurd this aD):p:=h
theorem Pv(h:p:=by cases hg;exact absurd (show (6:Int)=1 from hk) aD):p:=h
theorem RO(h:p:=by
 unfold Oper.wp
 simp[execOp,hop,hm,hx,hv,hrun,Result.andThen]
 exact hK' _ _ hres):p:=h
theorem SE(h:p:=by
 have hc:(Instr.checkKey false 10000 k (.string key)).run P w=.ok () w:=MapKept.run_checkKey (k:=.string key) hk wZ false 9999
 simp[Instr.mapUpdate,run_underlying ht,MapKept.run_getObj_map hb,hc,MapKept.run_findKey hk hf,MapKept.run_setObj_map _ hb,Result.andThen]):p:=h
theorem afN(h:p:=by rw[List.drop_of_length_le (by have:s.data.toList.length=s.size:=rfl;omega)];rfl):p:=h
theorem Hq(h:p:=by ·rw[List.drop_of_length_le (by have:s.data.toList.length=s.size:=rfl;omega)];rfl):p:=h
theorem Re(h:p:=by
 rcases Nat.lt_or_ge k s.size with h|h
 ·exact h
 ·rw[Du s k aB]at h1;cases h1):p:=h
theorem QB(h:p:=by have:l=[]:=List.eq_nil_of_length_eq_zero aB;subst this;rw[EG,EG]):p:=h
theorem DA(h:p:=by
 intro y hy
 rcases List.mem_append.1 hy with hy|hy
 ·exact hacc y hy
 ·rw[List.mem_singleton.1 hy];exact hx):p:=h
theorem oQ(h:p:=by exact⟨by unfold Ci;decide +kernel,by decide +kernel⟩):p:=h
theorem Tv(h:p:=by
 unfold cD at hs;simp only[Bool.and_eq_true]at hs
 have:=(eX _ _).1 hs.2
 simpa using this):p:=h
theorem HY(h:p:=by intro i;unfold hJ;exact .err _):p:=h
theorem DR(h:p:=by intro i;unfold fN;exact .err _):p:=h
theorem Dg(h:p:=by unfold pZ;exact .err _):p:=h
theorem QU(h:p:=by ·obtain⟨h1,h2,h3⟩:=hl;rw[List.length_append,List.length_singleton]at h2 h3;exact⟨h1,by omega,by omega⟩):p:=h
theorem Ap(h:p:=by
 split
 ·exact h ‹_›
 ·exact g ‹_›):p:=h
theorem Ta(h:p:=by
 intro y l e
 cases r with
 | error a=>cases e
 | ok xj=>obtain⟨x,j⟩:=xj;exact hf x j (h x j rfl) y l e):p:=h
theorem Dw(h:p:=by unfold jE;exact .err _):p:=h
theorem Jv(h:p:=by intro hr;exact absurd hr rR):p:=h
theorem Sc(h:p:=by
 induction ps with
 | nil=>intro _;exact nW.nil
 | cons p r ih=>
  intro h
  cases r with
  | nil=>exact h p (List.mem_cons_self ..)
  | cons q r=>exact(h p (List.mem_cons_self ..)).app (nW.cons (λ_=>by decide +kernel) (ih (λx hx=>h x (List.mem_cons_of_mem _ hx))))):p:=h
theorem wH(h:p:=by exact List.cons_ne_nil _ _):p:=h
theorem GX(h:p:=by
 have:=(cW.app (hst b)).2
 rwa[eV]at this):p:=h
theorem Qa(h:p:=by rcases hc with ⟨k,a',w,rfl,hk⟩|⟨a',w,c',rfl,hw,k,a2,w2,rfl,hk⟩<;>rfl):p:=h
theorem RW(h:p:=by
 induction ps with
 | nil=>intro _;trivial
 | cons p r ih=>
  intro h
  cases r with
  | nil=>exact h p (List.mem_cons_self ..)
  | cons q r=>exact xH.sep aD (h p (List.mem_cons_self ..)) (ih (λx hx=>h x (List.mem_cons_of_mem _ hx)))):p:=h
theorem Sj(h:p:=by (iterate 15 rw[if_neg fF]);rw[if_pos hw]):p:=h
theorem Tu(h:p:=by (iterate 21 rw[if_neg aE]);rw[if_pos rfl]):p:=h
theorem Iw(h:p:=by exact .inr (.inr ⟨_,_,EM b _ _ _ _ _ _ hk,by rcases hk with rfl|rfl<;>decide +kernel⟩)):p:=h
theorem Qx(h:p:=by exact .inr (.inr ⟨_,_,Vh b _ _ _ _ _,by decide +kernel⟩)):p:=h
theorem Qn(h:p:=by
 show some (aH (gL (L b) oW j) _)=_
 rw[show gL (L b) oW j=_ from hx2 b]
 show some (bK (L b) _ _)=_
 unfold bK;rw[dV (hs3 b).one.1];rfl):p:=h
theorem Pf(h:p:=by
 rw[hx2 b]
 show some (bK (L b) _ _)=_
 unfold bK;rw[dV (hs3 b).one.1,hlen]
 show some (Except.ok (_,_))=_
 congr 3;omega):p:=h
theorem wO(h:p:=by
 show some (Except.ok (_,_))=_
 congr 3;omega):p:=h
theorem Ih(h:p:=by
 unfold bK;rw[dV (hs2 b).one.1,hlen]
 show some (Except.ok (_,_))=_
 congr 3;omega):p:=h
theorem Jt(h:p:=by unfold bK;rw[dV h2.1,hlen];rfl):p:=h
theorem Jl(h:p:=by rw[if_pos (sS (hst b).cons.1 (by simp[eH])),h2 b]):p:=h
theorem ID(h:p:=by rw[if_neg (by rw[Aq (hz b _ _ (hst b))];decide)];rfl):p:=h
theorem Tp(h:p:=by
 rw[h4 b]
 show aH (aW (L b) (i+1+len x) dA) _=_
 rw[dV (h5 b).one.1]
 show Except.ok (x',i+1+len x+1)=_
 congr 2;omega):p:=h
theorem Sl(h:p:=by
 split
 ·exact FT.cons h1
 ·split
  ·exact FT.cons h2
  ·exact hz):p:=h
theorem GS(h:p:=by
 show Except.ok (_,_)=_
 congr 2;omega):p:=h
theorem Ji(h:p:=by
 show some (aH (aW (L b) _ aT) _)=_
 rw[dV (hg2 b)]
 show some (aH (iO (L b) (cH (L b) (jG (L b) f) false) label _) _)=_
 rw[hg3 f aB b label,hlen]
 show some (Except.ok (_,_))=_
 congr 3;omega):p:=h
theorem Sg(h:p:=by simp only[List.length_cons,List.length_append,Me];omega):p:=h
theorem SJ(h:p:=by
 show (if 0+len t<len t then _ else _)=_
 rw[if_neg aB]):p:=h
theorem Ho(h:p:=by ·exact Gd.cons aE (Gd.cons Ru (Gd.cons (aoW h0 aB) (Gd.one St)))):p:=h
theorem Jp(h:p:=by exact Gd.cons aE (Gd.cons Ru (Gd.W (hw.resolve_left λe=>hs rO) (Gd.one St)))):p:=h
theorem QH(h:p:=by exact Gd.cons aE (Gd.one aE)):p:=h
theorem OP(h:p:=by exact Gd.cons aE (Gd.group (dU ih))):p:=h
theorem Tf(h:p:=by
 induction ps with
 | nil=>intro _;exact Gd.nil
 | cons x r ih=>
  intro h
  cases r with
  | nil=>exact h x (List.mem_cons_self ..)
  | cons y r=>exact(h x (List.mem_cons_self ..)).app (Gd.cons aE (ih λp hp=>h p (List.mem_cons_of_mem _ hp)))):p:=h
theorem QM(h:p:=by cases ht;rcases hk with h|h|h<;>exact absurd h aD):p:=h
theorem rU(h:p:=by cases ht;rcases hk with h|h<;>exact absurd h aD):p:=h
theorem IJ(h:p:=by
 rcases List.mem_cons.1 h with rfl|h
 ·omega
 ·have:=ih h;omega):p:=h
theorem oP(h:p:=by unfold dK at h;cases h):p:=h
theorem AT(h:p:=by rcases hk with rfl|rfl<;>simp[T.kind]):p:=h
theorem RZ(h:p:=by have hp:aL false t'=Eu t:=Uy h2;have h5:=h5 false;rw[hp]at h5;have hx:=Fx h4 h2;exact⟨x,UW hl (hp ▸ Nt false hv) h5 (by rw[OQ hx];exact h1),hx⟩):p:=h
theorem QR(h:p:=by
 obtain⟨k,n,a,w,l⟩:=t;have h1:=JR (show x∈l from h);have e2:depth (T.mk k n a w l)=1+jX l:=by rw[depth]
 omega):p:=h
theorem Qg(h:p:=by
 split
 ·exact h1 iS
 ·exact h2 iS):p:=h
theorem IG(h:p:=by simp only[Option.map_some,Option.getD_some];omega):p:=h
theorem IW(h:p:=by exact h p (List.mem_of_getElem? e)):p:=h
theorem Rv(h:p:=by
 induction ps with
 | nil=>intro _;exact Tx.nil
 | cons x r ih=>
  intro h
  cases r with
  | nil=>exact h x (.head _)
  | cons z r=>exact(h x (.head _)).app (.cons aD (ih λp hp=>h p (.tail _ hp)))):p:=h
theorem Ti(h:p:=by rw[ih];exact⟨λh x hx=>by rcases List.mem_cons.1 hx with rfl|hx;exact h.1;exact h.2 x hx,λh=>⟨h y (.head _),λx hx=>h x (.tail _ hx)⟩⟩):p:=h
theorem OS(h:p:=by exact(Wq L _ i).bind λc j hj hj'=>JY L _ _ dE):p:=h
theorem Sb(h:p:=by
 by_cases hc:c
 ·rw[if_pos hc]at h;exact .inl (Option.some.inj h)
 ·rw[if_neg hc]at h;exact .inr h):p:=h
theorem AE(h:p:=by rw[List.getD_eq_getElem?_getD,List.getElem?_eq_none h']at h;cases h):p:=h
theorem GW(h:p:=by
 conv=>lhs;unfold ev
 rw[abO];rfl):p:=h
theorem Pk(h:p:=by
 intro b
 by_cases hne:r=[]
 ·rw[hlen,if_pos hne,Nat.add_zero]at hS;exact(hS b).1
 ·rw[(hrest hne b).cons.1];exact hc):p:=h
theorem Qm(h:p:=by
 intro hne b;have h:=hst b
 cases r with
 | nil=>exact absurd rfl hne
 | cons y r=>
  have:=(cW.app h).2;rw[eV]at this;exact this):p:=h
theorem Tn(h:p:=by
 intro b;have h:=hst b
 cases r with
 | nil=>exact h
 | cons y r=>exact(cW.app h).1):p:=h
theorem SD(h:p:=by
 intro hne b;have h:=(hst b).cons.2.1
 cases r with
 | nil=>exact absurd rfl hne
 | cons y r=>
  have:=(cW.app h).2;rw[eV]at this;exact this):p:=h
theorem PO(h:p:=by
 intro b;have h:=(hst b).cons.2.1
 cases r with
 | nil=>exact h
 | cons y r=>exact(cW.app h).1):p:=h
theorem Ro(h:p:=by intro t h;obtain⟨k,n,a,w,l⟩:=t;unfold depth at h;omega):p:=h
theorem IP(h:p:=by
 rw[List.getD_eq_getElem?_getD,List.getD_eq_getElem?_getD,List.getElem?_map]
 cases ps[i]?<;>rfl):p:=h
theorem To(h:p:=by rw[List.length_append,List.length_append,List.length_cons,List.length_cons,ih _ h.2,h.1]):p:=h
theorem Tz(h:p:=by exact absurd h.2 aI):p:=h
theorem PH(h:p:=by
 cases qs with
 | nil=>exact h.1
 | cons _ _=>exact absurd h.2 aI):p:=h
theorem Ja(h:p:=by exact absurd hi (Nat.not_lt_zero _)):p:=h
theorem Rq(h:p:=by exact lX hV hU ha (by unfold jT;exact rF)):p:=h
theorem Qq(h:p:=by exact lX hV hU ha (by unfold iQ;exact rF)):p:=h
theorem Ea(h:p:=by exact uE λx hx=>ih x hx rfl):p:=h
theorem DK(h:p:=by exact rN (eG ix kJ)):p:=h
theorem DD(h:p:=by exact rN (eG ix (eG iy kJ))):p:=h
theorem IF(h:p:=by cases hq;rcases hk with h|h<;>exact absurd h aD):p:=h
theorem Rs(h:p:=by
 unfold lvT
 split
 ·rename_i hk
  have:¬ level t.word<(m:Int):=λh=>hb ⟨hk,h⟩
  omega
 ·omega):p:=h
theorem Qz(h:p:=by
 by_cases hc:c
 ·rw[if_pos hc,if_pos hc];exact h hc
 ·rw[if_neg hc,if_neg hc];exact g hc):p:=h
theorem Qy(h:p:=by
 rw[apH]
 split
 ·next g=>subst g;exact absurd aE h
 split
 ·next g=>subst g;exact absurd aE h
 split
 ·next g=>subst g;exact absurd aE h
 split
 ·next g=>subst g;exact absurd aE h
 rfl):p:=h
theorem DT(h:p:=by exact absurd aE h):p:=h
theorem QA(h:p:=by exact List.mem_append.2 ((List.mem_append.1 ha).imp (h a) id)):p:=h
theorem RS(h:p:=by
 obtain⟨⟨z,g1,g2,g3⟩,hk⟩:=hf x (List.mem_cons_self ..);refine⟨z,λb=>?_,g2,λ_=>g3 (.inr hk)⟩;obtain⟨s,hs⟩:=g1 b;rw[Ge]
 cases r with
 | nil=>exact⟨s,hs⟩
 | cons y r=>exact⟨s++O lI::jN ((y::r).map (aL b)),by show aL b x++_=_;rw[hs];rfl⟩):p:=h
theorem Sa(h:p:=by refine⟨z,λb=>?_,h2,λ_=>h3 (.inl hr)⟩;obtain⟨r,hr⟩:=h1 b;exact⟨r++O fT::aL b y,by rw[Ic,hr];rfl⟩):p:=h
theorem Hv(h:p:=by ·intro h;exact absurd h fZ):p:=h
theorem Jd(h:p:=by intro h;exact absurd h rR):p:=h
theorem Tw(h:p:=by
 rcases hw with e|e|e
 ·exact .inl e
 ·exact .inr (.inl e)
 ·exact .inr (.inr (.inl e))):p:=h
theorem QL(h:p:=by exact Up.ite (λ_=>(h (j+1)).bind λx j' hj=>(ih _ j').le aB) (λ_=>.ok (Nat.le_refl _))):p:=h
theorem RJ(h:p:=by exact(Ex L true i).bind λc j hj=>(jU L _ j).le aB):p:=h
theorem SS(h:p:=by ·unfold gM;go_wp2_with fail;exact⟨rfl,aU.err a (by rw[HU.out,hr1];rfl) ((bS _ b0).trans hg)⟩):p:=h
theorem Ri(h:p:=by
 intro e w4 hp
 rcases hp.split with ⟨t,j,k,n,a,s,ao,m,c,hr1,rfl,ht,hok⟩|⟨a,hr1,rfl,hg⟩
 ·have t4:=t3.step hne hok.1;have:=AAD t4;clear hp;go_wp2_with fail;refine nX (t4.set _ _ _ _ _) Tryz.results111 ?_;exact aU.ok DI (vT k n a s ao m c) rfl ((ht.uQ (λb hb hl=>by unfold Fr at hb;omega) _ _ _ _ _).since hO3.1.size) ((hO3.trans hok).uQ hpl (Nat.le_refl _) _ _ _ _ _)
 ·unfold gM;go_wp2_with fail;exact⟨rfl,aU.err a DI (hO3.1.trans hg)⟩):p:=h
theorem QN(h:p:=by
 go_roundg (i - (j+1))
 case measure=>rw[HG2.out];exact Nat.sub_lt_sub_left hlj (Nat.lt_succ_self _)
 case rel=>exact⟨j+1,by go_num,by omega,rfl,_,rfl⟩):p:=h
theorem IA(h:p:=by go_wp2_with fail;go_ret;exact⟨by rw[HFIN.out];rfl,b1⟩):p:=h
theorem TF(h:p:=by
 have y8:(0:Int)<(t.l.length:Int):=by omega
 clear hfin ht hT2 h1 h2 h3 h4;go_wp2_with fail;go_ret;exact⟨by rw[HFIN.out];rfl,b1⟩):p:=h
theorem PC(h:p:=by clear HFIN h7;go_wp2_with fail;go_ret;exact⟨by rw[HF.out];rfl,b1⟩):p:=h
theorem Sv(h:p:=by go_wp2_with fail;exact⟨rfl,aU.err a HR.out (hO1.1.trans hg)⟩):p:=h
theorem Rh(h:p:=by
 go_roundg (L.length - ((jj+1)+1))
 case measure=>rw[HG.out];omega
 case rel=>exact⟨(jj+1)+1,f,congrArg (Value.int .i64) aB,rfl,by omega,by omega,rfl,by omega,HR.out⟩):p:=h
theorem Pc(h:p:=by
 go_roundg (L.length - ((m+1)+1))
 case measure=>rw[HG.out];omega
 case rel=>exact⟨(m+1)+1,f,congrArg (Value.int .i64) aB,rfl,by omega,by omega,rfl,by omega,HR.out⟩):p:=h
theorem Qh(h:p:=by go_wp2_with fail;refine bodyPost_ret (v:=.tuple #[iq 0,.bool false]) Dk rfl ?_;rw[HR.out];exact⟨rfl,b1⟩):p:=h
theorem PJ(h:p:=by refine h.mono ?_;rintro e w' ⟨h1,h2⟩;exact⟨h1,S.below h2⟩):p:=h
theorem OJ(h:p:=by obtain⟨s,j'⟩:=sj;exact .inr ⟨s,j',rfl,hp.1,S.step hp.2⟩):p:=h
theorem DO(h:p:=by rintro e w' ⟨rfl,h⟩;exact⟨by rw[hb],S'.below h⟩):p:=h
theorem Jh(h:p:=by ·exact .inl ⟨a,h1,h2,S.ok.1.trans h3⟩):p:=h
theorem jQ(h:p:=by unfold gM;go_wp2_with fail;exact⟨rfl,aU.err x Ar hg⟩):p:=h
theorem Jy(h:p:=by exact S4.res (.head _) (by simp[HU.out,aH,HS.out,H1.out]<;>rfl) rfl):p:=h
theorem rV(h:p:=by unfold gM;go_wp2_with fail;exact⟨rfl,aU.err x (by simp[HU.out,aH,HS.out,hr]) hg⟩):p:=h
theorem Jf(h:p:=by exact S4.res (.head _) (by simp[HU.out,aH,HS.out]<;>rfl) rfl):p:=h
theorem RF(h:p:=by exact S4.res (.head _) (by simp[HU.out,aH,bK,H3.out]<;>rfl) rfl):p:=h
theorem iU(h:p:=by unfold gM;go_wp2_with fail;exact⟨rfl,aU.err x (by simp[HU.out,aH,bK,hr]) hg⟩):p:=h
theorem RP(h:p:=by exact Sy.res (.head _) (by simp[HU.out,aH,bK,HS.out,Hz.out]<;>rfl) rfl):p:=h
theorem DY(h:p:=by unfold gM;go_wp2_with fail;exact⟨rfl,aU.err x (by simp[HU.out,aH,bK,HS.out,hr]) hg⟩):p:=h
theorem PM(h:p:=by exact Sy.res (.head _) (by simp[HU.out,aH,bK,HS.out,H6.out,Hz.out]<;>rfl) rfl):p:=h
theorem QI(h:p:=by unfold gM;go_wp2_with fail;exact⟨rfl,aU.err x (by simp[HU.out,aH,bK,HS.out,H6.out,hr]) hg⟩):p:=h
theorem Dj(h:p:=by exact Sy.res (.head _) (by simp[HU.out,aH,bK,H2.out,H3.out,H4.out,Hz.out]<;>rfl) rfl):p:=h
theorem DX(h:p:=by unfold gM;go_wp2_with fail;exact⟨rfl,aU.err x (by simp[HU.out,aH,bK,H2.out,H3.out,H4.out,hr]) hg⟩):p:=h
theorem AL(h:p:=by unfold gM;go_wp2_with fail;exact⟨rfl,aU.err x (by simp[HU.out,aH,bK,H2.out,H3.out,hr]) hg⟩):p:=h
theorem xD(h:p:=by unfold gM;go_wp2_with fail;exact⟨rfl,aU.err x (by simp[HU.out,aH,bK,H2.out,hr]) hg⟩):p:=h
theorem Dx(h:p:=by exact Sy.res (.head _) (by simp[HU.out,aH,bK,H1.out,Hz.out]<;>rfl) rfl):p:=h
theorem AB(h:p:=by unfold gM;go_wp2_with fail;exact⟨rfl,aU.err x (by simp[HU.out,aH,bK,H1.out,hr]) hg⟩):p:=h
theorem Ts(h:p:=by clear HU hb;go_in;go_upto_block 3 with (first|(go_at_call 113;refine(S1.eT (E:=λe=>∃ p:Int,e=_) hT).mono ?_;rintro e w2 ⟨⟨p,rfl⟩,S2⟩)|(go_at_call 231;refine(S2.eT (E:=λe=>e=_) (hW p w2)).mono ?_;rintro e w3 ⟨rfl,S3⟩));refine S3.QW.mono ?_;rintro e wf ⟨rfl,hg⟩;unfold gM;go_wp2_with fail;exact⟨rfl,Pg.err i HE.out hg⟩):p:=h
theorem Qf(h:p:=by exact this ((lk L).length+1) 0 AM):p:=h
theorem RB(h:p:=by unfold gM;go_wp2_with fail;exact⟨rfl,aU.err x (by simp[HU.out,aH,HK.out,hr]) hg⟩):p:=h
theorem Pm(h:p:=by
 obtain⟨x,j1⟩:=xj;rw[hr]at h;have:=ih _ _ _ _ h;rw[List.length_append]at this
 simp at this;omega):p:=h
theorem RT(h:p:=by
 go_upto_block 6 with fail;refine(S7.eK (tX pb L i w7 (Nat.zero_le _) S7.ps)).mono ?_;rintro e wA (⟨x,hr,rfl,hg⟩|⟨tA,jA,kA,nA,aA,sA,oA,mA,cA,hr,rfl,SA⟩)
 ·unfold gM;go_wp2_with fail;exact⟨rfl,aU.err x wW hg⟩
 have HA:=aN hr;clear hr;have:=AAD (SA.facts 0 rfl);go_wp2_with fail;have SB:=SA.fY 0 rfl kA nA aA sA (.slice oA mA cA);refine nX (SB.facts 0 rfl) Tryz.results225 ?_;exact SB.res (.head _) xA rfl):p:=h
theorem PY(h:p:=by
 go_upto_block 5 with fail;refine gU (S4.oN 0 aD [cJ] aD #[.string ⟨#[40]⟩] rfl 1 rfl true HS0.out) λw5 S5=>?_;go_upto_block 5 with fail;refine gU (S5.oN 2 aD [dA] aD #[.string ⟨#[41]⟩] rfl 1 rfl false HS2.out) λw6 S6=>?_;go_upto_block 6 with fail;refine(S6.eK (tX pb L i w6 (Nat.zero_le _) S6.ps)).mono ?_;rintro e wA (⟨x,hr,rfl,hg⟩|⟨tA,jA,kA,nA,aA,sA,oA,mA,cA,hr,rfl,SA⟩)
 ·unfold gM;go_wp2_with fail;exact⟨rfl,aU.err x wW hg⟩
 have HA:=aN hr;clear hr;have:=AAD (SA.facts 0 rfl);go_wp2_with fail;have SB:=SA.fY 0 rfl kA nA aA sA (.slice oA mA cA);refine nX (SB.facts 0 rfl) Tryz.results225 ?_;exact SB.res (.head _) xA rfl):p:=h
theorem Hk(h:p:=by
 have hbd:=h.bd;unfold wE at hW;have hnot:∀ (x:Bool) (w:World),(Op.unary .not (.bool x)).run Tryz.prog w=.ok (.bool (!x)) w:=λ_ _=>rfl
 have HSG:=aN hsg;clear hsg;have HU:=aN HU0;clear HU0;have HS0:=aN hs0;clear hs0;go_in;go_upto_region 1 with fail;have S1:=SV.new h;generalize World.alloc w _=w1 at S1 ⊢;go_upto_block 1 with fail;refine(S1.eT (E:=λe=>∃ p:Int,e=_) (fS pb L i 1 aD w1 S1.ps)).mono ?_;rintro e w2 ⟨⟨p,rfl⟩,S2⟩;go_upto_block 1 with fail;refine gU (S2.eT (E:=λe=>e=_) (hW p w2)) λw3 S3=>?_;clear hW;go_upto_block 3 with fail;refine gU (S3.oN 3 aD [jR,gG,rA] aD #[.string ⟨#[43]⟩,.string ⟨#[45]⟩,.string ⟨#[94]⟩] rfl 3 rfl false HSG.out) λw4 S4=>?_;go_upto_block 5 with fail;refine gU (S4.oN 0 aD [cJ] aD #[.string ⟨#[40]⟩] rfl 1 rfl true HS0.out) λw5 S5=>?_;go_upto_block 6 with fail;refine(S5.eK (tX pb L i w5 (Nat.zero_le _) S5.ps)).mono ?_;rintro e wA (⟨x,hr,rfl,hg⟩|⟨tA,jA,kA,nA,aA,sA,oA,mA,cA,hr,rfl,SA⟩)
 ·unfold gM;go_wp2_with fail;exact⟨rfl,aU.err x wW hg⟩
 have HA:=aN hr;clear hr;have:=AAD (SA.facts 0 rfl);go_wp2_with fail;have SB:=SA.fY 0 rfl kA nA aA sA (.slice oA mA cA);refine nX (SB.facts 0 rfl) Tryz.results225 ?_;exact SB.res (.head _) xA rfl):p:=h
theorem Sp(h:p:=by
 have hbd:=h.bd;unfold wE at hW;have hnot:∀ (x:Bool) (w:World),(Op.unary .not (.bool x)).run Tryz.prog w=.ok (.bool (!x)) w:=λ_ _=>rfl
 have HSG:=aN hsg;clear hsg;have HU:=aN HU0;clear HU0;have HS0:=aN hs0;clear hs0;go_in;go_upto_region 1 with fail;have S1:=SV.new h;generalize World.alloc w _=w1 at S1 ⊢;go_upto_block 1 with fail;refine(S1.eT (E:=λe=>∃ p:Int,e=_) (fS pb L i 1 aD w1 S1.ps)).mono ?_;rintro e w2 ⟨⟨p,rfl⟩,S2⟩;go_upto_block 1 with fail;refine gU (S2.eT (E:=λe=>e=_) (hW p w2)) λw3 S3=>?_;clear hW;go_upto_block 3 with fail;refine gU (S3.oN 3 aD [jR,gG,rA] aD #[.string ⟨#[43]⟩,.string ⟨#[45]⟩,.string ⟨#[94]⟩] rfl 3 rfl false HSG.out) λw4 S4=>?_;go_upto_block 5 with fail;refine gU (S4.oN 0 aD [cJ] aD #[.string ⟨#[40]⟩] rfl 1 rfl false HS0.out) λw5 S5=>?_;go_upto_block 6 with fail;refine(S5.eK (tX pb L i w5 (Nat.zero_le _) S5.ps)).mono ?_;rintro e wA (⟨x,hr,rfl,hg⟩|⟨tA,jA,kA,nA,aA,sA,oA,mA,cA,hr,rfl,SA⟩)
 ·unfold gM;go_wp2_with fail;exact⟨rfl,aU.err x wW hg⟩
 have HA:=aN hr;clear hr;have:=AAD (SA.facts 0 rfl);go_wp2_with fail;have SB:=SA.fY 0 rfl kA nA aA sA (.slice oA mA cA);refine nX (SB.facts 0 rfl) Tryz.results225 ?_;exact SB.res (.head _) xA rfl):p:=h
theorem Hx(h:p:=by
 have hbd:=h.bd;unfold wE at hW;have hnot:∀ (x:Bool) (w:World),(Op.unary .not (.bool x)).run Tryz.prog w=.ok (.bool (!x)) w:=λ_ _=>rfl
 have HSG:=aN hsg;clear hsg;have HU:=aN HU0;clear HU0;have HS0:=aN hs0;clear hs0;go_in;go_upto_region 1 with fail;have S1:=SV.new h;generalize World.alloc w _=w1 at S1 ⊢;go_upto_block 1 with fail;refine(S1.eT (E:=λe=>∃ p:Int,e=_) (fS pb L i 1 aD w1 S1.ps)).mono ?_;rintro e w2 ⟨⟨p,rfl⟩,S2⟩;go_upto_block 1 with fail;refine gU (S2.eT (E:=λe=>e=_) (hW p w2)) λw3 S3=>?_;clear hW;go_upto_block 3 with fail;refine gU (S3.oN 3 aD [jR,gG,rA] aD #[.string ⟨#[43]⟩,.string ⟨#[45]⟩,.string ⟨#[94]⟩] rfl 3 rfl true HSG.out) λw4 S4=>?_;go_upto_block 5 with fail;refine gU (S4.oN 0 aD [cJ] aD #[.string ⟨#[40]⟩] rfl 1 rfl true HS0.out) λw5 S5=>?_;go_upto_block 6 with fail;refine(S5.eK (tX pb L i w5 (Nat.zero_le _) S5.ps)).mono ?_;rintro e wA (⟨x,hr,rfl,hg⟩|⟨tA,jA,kA,nA,aA,sA,oA,mA,cA,hr,rfl,SA⟩)
 ·unfold gM;go_wp2_with fail;exact⟨rfl,aU.err x wW hg⟩
 have HA:=aN hr;clear hr;have:=AAD (SA.facts 0 rfl);go_wp2_with fail;have SB:=SA.fY 0 rfl kA nA aA sA (.slice oA mA cA);refine nX (SB.facts 0 rfl) Tryz.results225 ?_;exact SB.res (.head _) xA rfl):p:=h
theorem RU(h:p:=by
 have hbd:=h.bd;unfold wE at hW;have hnot:∀ (x:Bool) (w:World),(Op.unary .not (.bool x)).run Tryz.prog w=.ok (.bool (!x)) w:=λ_ _=>rfl
 have HSG:=aN hsg;clear hsg;have HU:=aN HU0;clear HU0;have HS0:=aN hs0;clear hs0;go_in;go_upto_region 1 with fail;have S1:=SV.new h;generalize World.alloc w _=w1 at S1 ⊢;go_upto_block 1 with fail;refine(S1.eT (E:=λe=>∃ p:Int,e=_) (fS pb L i 1 aD w1 S1.ps)).mono ?_;rintro e w2 ⟨⟨p,rfl⟩,S2⟩;go_upto_block 1 with fail;refine gU (S2.eT (E:=λe=>e=_) (hW p w2)) λw3 S3=>?_;clear hW;go_upto_block 3 with fail;refine gU (S3.oN 3 aD [jR,gG,rA] aD #[.string ⟨#[43]⟩,.string ⟨#[45]⟩,.string ⟨#[94]⟩] rfl 3 rfl true HSG.out) λw4 S4=>?_;go_upto_block 5 with fail;refine gU (S4.oN 0 aD [cJ] aD #[.string ⟨#[40]⟩] rfl 1 rfl false HS0.out) λw5 S5=>?_;go_upto_block 6 with fail;refine(S5.eK (tX pb L i w5 (Nat.zero_le _) S5.ps)).mono ?_;rintro e wA (⟨x,hr,rfl,hg⟩|⟨tA,jA,kA,nA,aA,sA,oA,mA,cA,hr,rfl,SA⟩)
 ·unfold gM;go_wp2_with fail;exact⟨rfl,aU.err x wW hg⟩
 have HA:=aN hr;clear hr;have:=AAD (SA.facts 0 rfl);go_wp2_with fail;have SB:=SA.fY 0 rfl kA nA aA sA (.slice oA mA cA);refine nX (SB.facts 0 rfl) Tryz.results225 ?_;exact SB.res (.head _) xA rfl):p:=h
theorem oR(h:p:=by exact⟨_,rfl,by decide,rfl⟩):p:=h
theorem SW(h:p:=by go_in;go_wp2_with fail;exact⟨rfl,rfl,rfl⟩):p:=h
theorem Qb(h:p:=by clear hb h;go_wp2_with fail;go_ret;rw[hq];exact⟨rfl,b1,h1⟩):p:=h
theorem Rz(h:p:=by clear hb h;go_wp2_with fail;go_ret;rw[hq];exact⟨rfl,b1.trans (mN _ _ _ _),h1.set (i+1) aB⟩):p:=h
theorem Tm(h:p:=by
 simp only[Bool.and_eq_true,beq_iff_eq]at h
 exact FO (by rw[h.1];decide)):p:=h
theorem QO(h:p:=by ·go_wp2_with fail;go_ret;refine⟨eI ?_,b2⟩;rw[HQ,beq_eq_false_iff_ne.2 hk];simp):p:=h
theorem Pz(h:p:=by go_wp2_with (go_at_call 30;refine(Ae v ss t.text _ s2 aB).mono ?_;rintro e w' ⟨rfl,rfl⟩);go_ret;refine⟨eI ?_,b2⟩;rw[HQ,hk];simp):p:=h
theorem SL(h:p:=by refine nX (S9.facts 1 rfl) Tryz.results203 ?_;exact S9.res (.head _) (by simp[HU.out,aH,HP.out,HQ.out,HS.out]<;>rfl) rfl):p:=h
theorem Rx(h:p:=by refine nX (S12.facts 1 rfl) Tryz.results203 ?_;exact S12.res (.head _) (by simp[HU.out,aH,HP.out,HQ.out,HS.out,HT.out,H9.out,H11.out]<;>rfl) rfl):p:=h
theorem RX(h:p:=by unfold gM;go_wp2_with fail;exact⟨rfl,aU.err x (by simp[HU.out,aH,HP.out,HQ.out,HS.out,HT.out,H9.out,hr]) hg⟩):p:=h
theorem Qj(h:p:=by unfold gM;go_wp2_with fail;exact⟨rfl,aU.err x (by simp[HU.out,aH,HP.out,HQ.out,HS.out,HT.out,hr]) hg⟩):p:=h
theorem QK(h:p:=by refine nX (S9.facts 1 rfl) Tryz.results203 ?_;exact S9.res (.head _) (by simp[HU.out,aH,HP.out,HQ.out,HS.out,HT.out]<;>rfl) rfl):p:=h
theorem Ql(h:p:=by
 rintro e w7 (⟨x,hr,rfl,hg⟩|⟨t7,j7,k7,n7,a7,s7,o7,m7,c7,hr,rfl,S7⟩)
 ·unfold gM;go_wp2_with fail;exact⟨rfl,aU.err x (by simp[HU.out,aH,HP.out,HQ.out,HPL.out,hr]) hg⟩
 have H7:=aN hr;clear hr;have S8:=S7.lit (dO.one (S7.tr _ (.head _))) (tg k7 n7 a7 s7 o7 m7 c7) rfl 50 0 i uH 1 1 rfl;have:=AAD (S8.facts 0 rfl);have S9:=S8.put 0 rfl 4 (.slice (some (AAF w7.heap.size 0)) 1 1) aI;go_upto_region 18 with fail;generalize World.setCell _ (AAF B3 4) _=w9 at S9 ⊢;have:=AAD (S9.facts 0 rfl);have:=AAD (S9.facts 1 rfl);go_wp2_with fail;have S10:=S9.fY 1 rfl (iq 50) (iq 0) i uH (.slice (some (AAF w7.heap.size 0)) 1 1);refine nX (S10.facts 1 rfl) Tryz.results203 ?_;exact S10.res (.head _) (by simp[HU.out,aH,HP.out,HQ.out,HPL.out,H7.out]<;>rfl) rfl):p:=h
theorem Ss(h:p:=by
 by_cases hk4:(tok (lk L) j2).kind=4
 ·rw[show (tok (L.map T3.tk) (j2+0)).kind=4 from hk4]at hT;have HP:=aN (show (⟨#[80,73,67,84,85,82,69]⟩:ByteArray)=iC from rfl);have HK4:=aN hk4;clear hk4;go_upto_block 10 with (go_at_call 113;refine(S5.eT (E:=λe=>∃ p:Int,e=_) hT).mono ?_;rintro e w6 ⟨⟨p,rfl⟩,S6⟩);refine(S6.eK (uD pb L j2 w6 S6.ps)).mono ?_;rintro e w7 (⟨x,hr,rfl,hg⟩|⟨t7,j7,k7,n7,a7,s7,o7,m7,c7,hr,rfl,S7⟩)
  ·unfold gM;go_wp2_with fail;exact⟨rfl,aU.err x (by simp[HU.out,aH,HP.out,HK4.out,hr]) hg⟩
  have H7:=aN hr;clear hr;have S8:=S7.lit (dO.one (S7.tr _ (.head _))) (tg k7 n7 a7 s7 o7 m7 c7) rfl 50 0 i iC 1 1 rfl;have:=AAD (S8.facts 0 rfl);have S9:=S8.put 0 rfl 4 (.slice (some (AAF w7.heap.size 0)) 1 1) aI;go_upto_region 18 with fail;generalize World.setCell _ (AAF B3 4) _=w9 at S9 ⊢;have:=AAD (S9.facts 0 rfl);have:=AAD (S9.facts 1 rfl);go_wp2_with fail;have S10:=S9.fY 1 rfl (iq 50) (iq 0) i iC (.slice (some (AAF w7.heap.size 0)) 1 1);refine nX (S10.facts 1 rfl) Tryz.results203 ?_;exact S10.res (.head _) (by simp[HU.out,aH,HP.out,HK4.out,H7.out]<;>rfl) rfl
 ·generalize hkk:(tok (lk L) j2).kind=tk4 at hk4;rw[show (tok (L.map T3.tk) (j2+0)).kind=tk4 from hkk]at hT;have HP:=aN (show (⟨#[80,73,67,84,85,82,69]⟩:ByteArray)=iC from rfl);have HK4:=aN (show ¬ (tok (lk L) j2).kind=4 by rw[hkk];exact hk4);clear hkk;go_upto_block 9 with (go_at_call 113;refine(S5.eT (E:=λe=>∃ p:Int,e=_) hT).mono ?_;rintro e w6 ⟨⟨p,rfl⟩,S6⟩);refine S6.QW.mono ?_;rintro e wf ⟨rfl,hg⟩;unfold gM;go_wp2_with fail;exact⟨rfl,aU.err _ (by simp[HU.out,aH,HP.out,HK4.out]) hg⟩):p:=h
theorem Hc(h:p:=by unfold gM;go_wp2_with fail;exact⟨rfl,aU.err x (by simp[HU.out,aH,H2.out,hr]) hg⟩):p:=h
theorem IU(h:p:=by ·unfold gM;go_wp2_with fail;exact⟨rfl,An.err a' Ie (hO3.1.trans hg4)⟩):p:=h
theorem Te(h:p:=by
 clear hw;go_upto_block 3 with (go_at_call 124;refine hC.mono ?_;rintro e w3 ⟨rfl,S3⟩);refine(S3.kG aT).mono ?_;rintro e w4 (⟨x,hr,rfl,hg⟩|⟨j4,hr,rfl,S4⟩)
 ·unfold gM;go_wp2_with fail;exact⟨rfl,Ao.err x (by rw[HE.out,hr]) hg⟩
 have H4:=aN hr;clear hr
 go_wp2
 go_end0;exact Ao.ok (by rw[HE.out,H4.out]) S4.ok):p:=h
theorem afP(h:p:=by unfold gM;go_wp2_with fail;exact⟨rfl,Ao.err x (by rw[HE.out,hr]) hg⟩):p:=h
theorem DQ(h:p:=by exact S4.res (.head _) H3.out rfl):p:=h
theorem ON(h:p:=by clear HQ;go_wp2_with fail;go_ret;exact An.ok HQ2.out hL hO):p:=h
theorem Qp(h:p:=by unfold gM;go_wp2_with fail;exact⟨rfl,aU.err x (by simp[HU.out,aH,OC,HS.out,hr]) hg⟩):p:=h
theorem Rf(h:p:=by exact Nat.le_trans (Cb aD H7.out) aD):p:=h
theorem Rb(h:p:=by
 unfold keyword at hs;simp only[Bool.and_eq_true]at hs
 exact VD hs.1.1):p:=h
theorem Se(h:p:=by
 unfold TV at *
 simp[World.setCell,Array.getElem?_modify,h]):p:=h
theorem PA(h:p:=by exact⟨rfl,aU.err x (by simp[HU.out,aH,onQ,bK,H3.out,HS.out,hr]) hg⟩):p:=h
theorem Qv(h:p:=by
 simp at hp
 subst hp;clear hs4
 go_wp2
 go_meet
 case rel=>exact⟨rfl,S5⟩):p:=h
theorem IL(h:p:=by
 go_meet
 case rel=>exact⟨rfl,S4⟩):p:=h
theorem OG(h:p:=by exact⟨190,by kernel_rfl,agA,λw h=>acI pb L hX a lab i w h⟩):p:=h
theorem OK(h:p:=by exact⟨182,by kernel_rfl,abZ,λw h=>aaK pb L a lab i w h⟩):p:=h
theorem OI(h:p:=by exact⟨167,by kernel_rfl,Xn,λw h=>Xx pb L hX lo stmt hS upS a lab i hi w h⟩):p:=h
theorem DH(h:p:=by go_upto_block 14 with fail;refine S8s.QW.mono ?_;rintro e wf ⟨rfl,hg⟩;unfold gM;go_wp2_with fail;exact⟨rfl,aU.err _ (by simp[HU.out,aH]) hg⟩):p:=h
theorem Ry(h:p:=by
 go_upto_region 15 with fail;obtain⟨c1,f1⟩:=S8.s.ps.cells;go_upto_region 16 with fail;have S10:=S8.s.go (i+1) aB (iq ((i:Int)+1)) rfl;generalize World.setCell w8 _ _=w10 at S10 ⊢;clear c1 f1;go_upto_block 16 with fail;refine(S10.eK (hcall w10 S10.ps)).mono ?_;rintro e w11 (⟨x,hr,rfl,hg⟩|⟨t11,j11,k11,n11,a11,s11,o11,m11,c11,hr,rfl,S11⟩)
 ·unfold gM;go_wp2_with fail;exact⟨rfl,aU.err x Ar hg⟩
 have H11:=aN hr;clear hr;have:=AAD (S11.facts 0 rfl);go_wp2_with fail;have S12:=S11.fY 0 rfl k11 n11 a11 s11 (.slice o11 m11 c11);refine nX (S12.facts 0 rfl) Tryz.results137 ?_;exact S12.res (.head _) (by simp[HU.out,aH,H11.out]<;>rfl) rfl):p:=h
theorem Pu(h:p:=by
 refine aMB _ _ ?_;clear aMB Kx;refine aIU 3 λKx aMB=>?_;go_simp;refine aMB _ _ ?_;clear aMB Kx;refine tkA 4 ?_;refine aJJ ?_
 go_wp2
 go_meet
 case rel=>exact⟨rfl,S8⟩):p:=h
theorem Pn(h:p:=by
 subst hcc;clear ha;go_wp2_with (go_at_call 135;refine(S2.eT (E:=λe=>e=_) hA).mono ?_;rintro e w3 ⟨rfl,S3⟩);go_meet
 case rel=>exact⟨rfl,S3⟩):p:=h
theorem Sf(h:p:=by obtain⟨⟨d⟩⟩:=s;have:d.length=0:=h;rw[List.length_eq_zero_iff]at this;rw[this]):p:=h
theorem Rt(h:p:=by
 simp only[Value.ownBlock,ne_eq,Option.some.injEq]
 exact hgq):p:=h
theorem QP(h:p:=by
 rcases hown.2 with h0|⟨g',cap',cur,hv,hB,hg,rest⟩
 ·exact absurd h0.2 aB
 ·refine .inr ⟨g',cap',cur,hv,hB,?_,rest⟩;have e:g=g':=by
   simp only[Value.slice.injEq,Option.some.injEq,Addr.mk.injEq]at hv
   exact hv.1.1
  rw[Below.heap_setCell _ _ _ _ (by rw[<- e];simpa using hgq)];exact hg):p:=h
theorem Pw(h:p:=by have:=h.hq;have:=h.low.size;refine(hkeep j aB aB (λe=>?_)).trans (h.low.block j hj);have:=(h.own.lt j e).1;omega):p:=h
theorem tI(h:p:=by rintro e w' ⟨rfl,v',g1,g2⟩;exact⟨rfl,SP.step v h2 h3 g1 g2⟩):p:=h
theorem SK(h:p:=by
 have HT:=aN htk;clear htk;generalize ss[k]'hlt=s at c0 hput HT;go_wp2_with (go_at_call 96;refine hput.mono ?_;rintro e w2 ⟨rfl,v2,hP2,hM2⟩)
 go_roundg (ss.length - (k+1))
 case measure=>rw[HG.out];omega
 case rel=>exact⟨k+1,v2,by go_num,hlt,rfl,by rw[HT.out,<- List.append_assoc];exact hP2,hMk.trans hM2⟩):p:=h
theorem PE(h:p:=by exact⟨0,v,rfl,Nat.zero_le _,rfl,by simpa using hP,.refl _ _ _⟩):p:=h
theorem PI(h:p:=by
 have:=ih (k+1) qA;simp only[List.length_append,List.length_cons]
 omega):p:=h
theorem Is(h:p:=by simp_all [Leaves,settle,results,Tryz.results47,go_sem]):p:=h
theorem PL(h:p:=by
 refine gU (S1.eK hty hTr tS) λw3 S2=>?_;obtain⟨v3,hP3,hM3,_⟩:=S2.ex;clear S1 S2 hty;go_wp2_with fail
 go_roundg (lt.length - (k+1))
 case measure=>rw[HG.out];omega
 case rel => exact ⟨k + 1, v3, by go_num, hlt, rfl, by
   rw [HTK.out, List.flatten_append, HCX.out]
   simpa only [List.append_assoc, List.flatten_cons, List.flatten_nil, List.append_nil] using hP3, hMk.trans hM3⟩):p:=h
theorem QT(h:p:=by intro vs h i;unfold dO at h;subst h;simp;unfold dO;rfl):p:=h
theorem AS(h:p:=by
 clear hl h h1 b1 S0 S1 S2
 go_wp2
 go_end0;exact P):p:=h
theorem AK(h:p:=by
 clear hl h h1 b1 S0 S1 S2 S3 S4
 go_wp2
 go_end0;exact P):p:=h
theorem xG(h:p:=by
 clear hl h h1 b1 S0 S1 S2 S3 S4 S5 S6 S7
 go_wp2
 go_end0;exact P):p:=h
theorem wJ(h:p:=by
 clear hl h h1 b1 S0 S1
 go_wp2
 go_end0;exact P):p:=h
theorem Sw(h:p:=by
 go_in;go_upto_region 1 with fail;generalize World.alloc (World.alloc w _) _=w1 at b1 n1 n2 h1 hz hz2 ⊢;generalize w.heap.size+1=B3 at n1 ho hq hz ⊢;generalize w.heap.size=B2 at n2 ho2 hq2 hz2 ⊢;obtain⟨KT,S0,HZ,HN,KP,HP2⟩:=OX h1 hz hq ho n1 hz2 hq2 ho2 n2;have HX:=aN hX;clear hX;have:=oS KT S0;have kq0:=KP.out _ _ _ S0;go_upto_block 39 with fail;refine gU (S0.call λv' hv=>HX.out _ v' _ hv fO) λx1 S1=>?_;have P:=Bb S1 b1 l (X);clear hl h h1 b1 S0 S1
 go_wp2
 go_end0;exact P):p:=h
theorem OD(h:p:=by
 go_in;go_upto_region 1 with fail;generalize World.alloc w _=w1 at b1 n1 h1 hz ⊢;generalize w.heap.size=B3 at n1 ho hq hz ⊢;obtain⟨KT,S0,HZ,HN⟩:=kt1 h1 hz hq ho n1;have:=oS KT S0;go_upto_block 16 with fail;refine gU (S0.kS [s] fO #[.string s] rfl 1 rfl) λx1 S1=>?_;have:=oS KT S1;have:=oS KT S1;go_upto_block 18 with fail;refine gU (S1.pA (mH.tree S1.low ht) D.n D.l fO) λx2 S2=>?_;have P:=Bb S2 b1 l ([s].map W++(bI (t.l.map (aL false))));clear hl h h1 b1 S0 S1 S2
 go_wp2
 go_end0;exact P):p:=h
theorem Qt(h:p:=by
 go_wp2_with fail
 go_roundg 0
 case measure=>rw[HG.out];omega
 case rel=>exact .inr (.inr ⟨by go_num,rfl,by rw[HP.out];simpa only[List.append_assoc,List.append_nil]using SZ⟩)):p:=h
theorem QJ(h:p:=by
 go_wp2_with fail
 go_roundg 1
 case measure=>rw[HG.out];omega
 case rel=>exact .inr (.inl ⟨by go_num,rfl,by rw[HP.out];simpa only[List.append_assoc,List.append_nil]using SZ⟩)):p:=h
theorem TG(h:p:=by
 have P:lJ wB qb w v l ([aT].map O) (.returned (.tuple #[])) _:=lJ.pre (SP.KX (by simpa only[List.append_assoc,List.append_nil]using S1)) b1;clear hl h h1 b1 S0 S1
 go_wp2
 go_end0;exact P):p:=h
theorem mF(h:p:=by
 simp only[List.map_cons,List.map_nil,List.cons_append,List.nil_append,List.append_assoc,List.length_cons,List.length_nil,List.length_append]at X hl ⊢
 exact X aB):p:=h
theorem Pj(h:p:=by
 by_cases e:j=q
 ·subst e;exact h
 ·exact A.out j h1 h2 aB):p:=h
theorem PU(h:p:=by exact⟨0,rfl,Nat.zero_le _,rfl,Below.refl _ _,λj _ _ h=>absurd h (Nat.not_lt_zero _)⟩):p:=h
theorem Th(h:p:=by ·have HF:=aN (show dM t u=false by rw[HSP.out];simp[hk]);go_wp2_with fail;go_ret;exact⟨by rw[HF.out];rfl,hB2⟩):p:=h
theorem Td(h:p:=by ·have HF:=aN (show dM t u=false by rw[HSP.out];simp[hn]);subst hk;go_wp2_with fail;go_ret;exact⟨by rw[HF.out];rfl,hB2⟩):p:=h
theorem Qo(h:p:=by ·have HF:=aN (show dM t u=false by rw[HSP.out];simp[hs]);have hs2:(s.toList==s'.toList)=false:=beq_eq_false_iff_ne.2 (by rw[ne_eq,Le];exact hs);have hs3:decide (s=s')=false:=decide_eq_false hs;subst hk hn;go_wp2_with fail;go_ret;exact⟨by rw[HF.out];rfl,hB2⟩):p:=h
theorem RC(h:p:=by go_wp2_with fail;go_ret;exact⟨by rw[HZ.out];rfl,g3,λh=>by rw[HZ.out]at h;cases h⟩):p:=h
theorem OY(h:p:=by
 go_upto_region 1 with fail;generalize World.alloc w _=w1 at b1 n1 ⊢;have c0:w1.cell? (AAF w.heap.size 0)=some (.int .i64 k):=cell_of_row w1 _ 0 _ _ _ n1;have c1:w1.cell? (AAF w.heap.size 1)=some (.string t):=cell_of_row w1 _ 1 _ _ _ n1;have c2:w1.cell? (AAF w.heap.size 2)=some (.int .i64 a):=cell_of_row w1 _ 2 _ _ _ n1
 cases hq:eP k t with
 | true=>
  rw[hq]at hc;have HQ:=aN hq;clear hq;go_wp2_with (go_at_call 44;refine(hc _).mono ?_;rintro e w2 ⟨rfl,hb⟩;unfold GG);go_ret;exact⟨by rw[HQ.out];rfl,b1.trans (hb.mono b1.size)⟩
 | false=>
  rw[hq]at hc;have HQ:=aN hq;clear hq;go_wp2_with (go_at_call 44;refine(hc _).mono ?_;rintro e w2 ⟨rfl,hb⟩;unfold GG);go_ret;exact⟨by rw[HQ.out];rfl,b1.trans (hb.mono b1.size)⟩):p:=h
theorem QF(h:p:=by go_wp2_with fail;refine kN (.tuple #[tg 0 0 0 ⟨#[]⟩ none 0 0,iq 0,iq 2]) (tr5.set _ _ _ _ _) (λq0 q1 q2 q3 q4=>by simp[results,Tryz.results51,go_sem,q0,q1,q2,q3,q4]) rfl ?_;exact TQ.mk HU2.out (jH B5 (Nat.le_refl _) _ _ _ _ _) (iB.leaf _ _ _ _ _ _ _)):p:=h
theorem DV(h:p:=by subst h;exact⟨b,k,n,a,s,ao,m,c,rfl,ht⟩):p:=h
theorem Pq(h:p:=by clear hNone HA HU;have:=AAD tq;have:=AAD rq;go_wp2_with fail;refine kN (.tuple #[tg 0 0 0 ⟨#[]⟩ Option.none 0 0,iq 4]) (rq.set _ _ _ _ _) (λq0 q1 q2 q3 q4=>by simp[results,Tryz.results25,go_sem,q0,q1,q2,q3,q4]) rfl ?_;exact EQ.mk HN.out (jH hB (Nat.le_succ _) _ _ _ _ _) (Tr.zero _)):p:=h
theorem Hh(h:p:=by refine TQ.mk HR.out (jH B2 (Nat.le_refl _) _ _ _ _ _) ?_;exact(htr.Yg _ (λb hb=>by unfold Fr at hb;omega) _ _ _ _ _).kept (λb hb _=>by unfold Fr at hb ⊢; omega) (Nat.le_refl _) (λ_ _ _=>rfl)):p:=h
theorem OO(h:p:=by unfold TV at *; simp[World.setCell,Array.getElem?_modify,h]):p:=h
theorem SC(h:p:=by refine RQ.mk HU.out (jH B4 (Nat.le_refl _) _ _ _ _ _) ?_;exact(htr4.Yg _ (λb hb=>by unfold Fr at hb;omega) _ _ _ _ _).kept (λb hb _=>by unfold Fr at hb ⊢; omega) (Nat.le_refl _) (λ_ _ _=>rfl)):p:=h
theorem QY(h:p:=by ·have HU:=aN (HUU.out.trans (if_neg hx));generalize (fX s).err=x at h1 hx HU;generalize (fX s).at_=sa at h1 HU;clear HUU;go_upto_region 3 with (go_at_call 50;refine h1.mono ?_;rintro e w2 ⟨lv,rfl,hown,b2⟩);have t2:=t1.below b2;have B2:=b1.trans (b2.mono b1.size);clear hown h1 t1 b1 b2;have:=AAD t2;go_wp2_with fail;refine kN (.tuple #[tg 0 0 0 ⟨#[]⟩ none 0 0,iq sa,iq x]) (t2.set _ _ _ _ _) (λq0 q1 q2 q3 q4=>by simp[results,Tryz.results33,go_sem,q0,q1,q2,q3,q4]) rfl ?_;exact TQ.mk HU.out (jH B2 (Nat.le_refl _) _ _ _ _ _) (iB.leaf _ _ _ _ _ _ _)):p:=h
theorem QS(h:p:=by have B4:=B2.trans (b3.mono B2.size);refine kN (.tuple #[tg k1 n1 a1 s1 o1 m1 c1,iq rx,iq ry]) (tr4.set _ _ _ _ _) (λq0 q1 q2 q3 q4=>by simp[results,Tryz.results33,go_sem,q0,q1,q2,q3,q4]) rfl ?_;refine TQ.mk HU.out (jH B4 (Nat.le_refl _) _ _ _ _ _) ?_;exact(htr4.Yg _ (λb hb=>by unfold Fr at hb;omega) _ _ _ _ _).kept (λb hb _=>by unfold Fr at hb ⊢; omega) (Nat.le_refl _) (λ_ _ _=>rfl)):p:=h
theorem Pp(h:p:=by
 rw[Nat.zero_add,cell_of_row w g j _ _ _ hg,<- Array.getElem?_toList];have h1:(List.take (ss.length*1) cur.toList)[j]?=(ss.map Value.string)[j]?:=by rw[htk]
 rw[List.getElem?_take,if_pos aB]at h1;rw[h1,List.getElem?_map,getElem!_pos ss j hj,List.getElem?_eq_getElem hj];rfl):p:=h
theorem Qr(h:p:=by
 rw[HFIN.out];refine Ot.other hst9 (P2.mono hlowB) (P2.size) (λj hj=>P3 j ?_)
 rcases hj with rfl|hj
 ·exact .inl aB
 ·rcases hown9 j hj with h1|h1
  ·exact .inl (HV9.out j h1)
  ·exact .inr h1):p:=h
theorem Jc(h:p:=by
 have hF5:FSs wB ob w2 v w5 v' (Ev (decide (k=48)) (t.l.take q) (ss)) lv q:=hF4;have hbd5:(Ev (decide (k=48)) (t.l.take q) (ss)).length+2*nodes y<=1000000:=by have:=HB1.out;omega
 have x5:=x4;clear hF4 x4;have:=AAD tb5;have hcall:=H.out y hmem w5 v' _ hF5.st hbd5 k1 n1' a1 s1 o1 m1 c1 hTr;have:=AAD x5;go_upto_block 9 with fail;refine hcall.mono ?_;rintro e w6 ⟨⟨k6,n6,a6,s6,o6,m6,c6,rfl⟩,v6,hs6,hm6⟩;have hF6:=hF5.call hs6 hm6;clear hcall x5 hF5 hs6 hm6;obtain⟨vs,hown6⟩:=hF6.own;obtain⟨i0,hi0,hz0,hz1,hz2⟩:=info_parts ZX;have hw26:=hF6.mv.size;go_wp2_with (at_builtin;go_loud (refine wpList_append_lies _ rfl _ _ 22 rfl w2.heap.size 24 i0 _ 5 64 RM hi0 hz0 hz1 hz2 rfl aD lv q vs rfl (hown6.alloc _) (AAF w6.heap.size 0) 1 1 (vT k6 n6 a6 s6 o6 m6 c6) rfl rfl (World.news_of_block (heap_alloc_new w6 (.cells (tg k6 n6 a6 s6 o6 m6 c6) 24))) RA aD tJ aB dW _ rfl ?_));intro g cap w7 hown hgrow hor hlt7;have hF7:=hF6.app (aJ w6 (.cells (tg k6 n6 a6 s6 o6 m6 c6) 24)) hown hgrow (hor.imp id (λe=>by rw[e];simp));clear hown hgrow hor hlt7 hF6 hown6 hz0 hz1 hz2 hi0;go_wp2_with fail
 go_roundg (t.l.length - (q+1))
 case measure=>rw[HG.out];omega
 case rel=>exact⟨q+1,v6,.slice (some (AAF g 0)) (q+1) cap,by go_num,rfl,hlt,rfl,by rw[TK.out,HSN.out];exact hF7⟩):p:=h
theorem agO(h:p:=by exact⟨q+1,v6,.slice (some (AAF g 0)) (q+1) cap,by go_num,rfl,hlt,rfl,by rw[TK.out,HSN.out];exact hF7⟩):p:=h
theorem PT(h:p:=by exact⟨0,_,_,rfl,rfl,Nat.zero_le _,rfl,by rw[List.take_zero,Ev];exact hF3⟩):p:=h
theorem Hr(h:p:=by
 split
 ·exact MO _ _
 ·omega):p:=h
theorem RL(h:p:=by rw[List.getElem?_take,if_pos aB]at h6;rw[h6,List.getElem?_map,List.getElem?_eq_getElem hi];rfl):p:=h
theorem RD(h:p:=by (iterate 19 rw[if_neg aE]);rw[if_pos rfl]):p:=h
theorem PB(h:p:=by
 have:=AAD x5;go_upto_block 9 with fail;refine hcall.mono ?_;rintro e w6 ⟨⟨k6,n6,a6,s6,o6,m6,c6,rfl⟩,v6,hs6,hm6⟩;have hF6:=hF5.call hs6 hm6;clear hcall x5 hF5 hs6 hm6;obtain⟨vs,hown6⟩:=hF6.own;obtain⟨i0,hi0,hz0,hz1,hz2⟩:=info_parts ZX;have hw26:=hF6.mv.size;go_wp2_with (at_builtin;go_loud (refine wpList_append_lies _ rfl _ _ 22 rfl w2.heap.size 24 i0 _ 5 64 RM hi0 hz0 hz1 hz2 rfl aD lv q vs rfl (hown6.alloc _) (AAF w6.heap.size 0) 1 1 (vT k6 n6 a6 s6 o6 m6 c6) rfl rfl (World.news_of_block (heap_alloc_new w6 (.cells (tg k6 n6 a6 s6 o6 m6 c6) 24))) RA aD tJ aB dW _ rfl ?_));intro g cap w7 hown hgrow hor hlt7;have hF7:=hF6.app (aJ w6 (.cells (tg k6 n6 a6 s6 o6 m6 c6) 24)) hown hgrow (hor.imp id (λe=>by rw[e];simp));clear hown hgrow hor hlt7 hF6 hown6 hz0 hz1 hz2 hi0;go_wp2_with fail
 go_roundg (t.l.length - (q+1))
 case measure=>rw[HG.out];omega
 case rel=>exact agO):p:=h
theorem Qi(h:p:=by (iterate 17 rw[if_neg aE]);rw[if_pos rfl]):p:=h
theorem TC(h:p:=by (iterate 14 rw[if_neg aE]);rw[if_pos rfl]):p:=h
end
end
section
namespace Lx
abbrev Bs:= List UInt8
def hd: Bs->Int
 | [] => -1
 | c::_=>(c.toNat:Int)
def fR(s:AAE)(i:Int):Int:=if 0<=i then hd (s.data.toList.drop i.toNat)else -1
def gI(c:Int):Bool:=decide (48<=c)&&decide (c<=57)
def acM(c:Int):Bool:=(decide (65<=c)&&decide (c<=90))||(decide (97<=c)&&decide (c<=122))
def aEK(c:Int):Bool:=c==95||c==36||c==35||c==64
def kK(c:Int):Bool:=acM c||gI c||aEK c
def AF(c:Int):Bool:=kK c&&!gI c&&c != 95
def aDo(l:Bs) : -1<=hd l/\hd l<=255:=by
 cases l with
 | nil=>simp[hd]
 | cons c l=>have:=c.toNat_lt;simp[hd];omega
def pV(s:AAE)(i:Int) : -1<=fR s i/\fR s i<=255:=by
 unfold fR;split
 ·exact aDo _
 ·omega
def Du(s:AAE)(i:Int)(h:i<0\/(s.size:Int)<=i):fR s i = -1:=by
 unfold fR
 split
 ·exact afN
 ·rfl
def drop_cons(s:AAE)(k:Nat)(h:k<s.size):s.data.toList.drop k=s[k]::s.data.toList.drop (k+1):=by
 rw[List.drop_eq_getElem_cons (by exact h)];rfl
def Hp(s:AAE)(i:Int)(h0:0<=i)(h:i.toNat<s.size):fR s i=((s[i.toNat]'h).toNat:Int):=by
 unfold fR;rw[if_pos h0,drop_cons s i.toNat h];rfl
def kP(s:AAE)(k:Nat):fR s (k:Int)=hd (s.data.toList.drop k):=by
 unfold fR;rw[if_pos aB];simp
def aiA(s:AAE):∀ n i (r:List UInt8),s.size - i=n->ByteArray.toList.loop s i r=r.reverse++s.data.toList.drop i:=by
 intro n
 induction n with
 | zero=>
  intro i r h;unfold ByteArray.toList.loop;rw[if_neg aB,List.drop_of_length_le (by have:s.data.toList.length=s.size:=rfl;omega)];simp
 | succ n ih=>
  intro i r h;unfold ByteArray.toList.loop;have hi:i<s.size:=by omega
  rw[if_pos hi,ih (i+1) _ aB,List.drop_eq_getElem_cons (l:=s.data.toList) (i:=i) (by exact hi)];have:s.get! i=s.data.toList[i]'(by exact hi):=by
   obtain⟨d⟩:=s
   show d[i]! = _
   rw[getElem!_pos d i hi];simp
  simp[this]
def toList_data(s:AAE):s.toList=s.data.toList:=by
 unfold ByteArray.toList;rw[aiA s s.size 0 [] aB];simp
def toList_nil(s:AAE):s.toList=[]↔s.size=0:=by
 rw[toList_data];obtain⟨⟨l⟩⟩:=s
 cases l<;>simp[ByteArray.size]
def allI(p:Int->Bool)(s:AAE):Bool:=s.data.toList.all λc=>p (c.toNat:Int)
def sQ(s:AAE)(k:Nat)(h:k<s.size):s.data.toList.take (k+1)=s.data.toList.take k++[s[k]]:=by
 rw[List.take_succ_eq_append_getElem qA];rfl
section
variable(p:Int->Bool)(s:AAE)(k:Nat)
include p s k
theorem Eg(h:k<s.size)(hk:(s.data.toList.take k).all (λc=>p (c.toNat:Int))=true)(hp:p (s[k].toNat:Int)=true):(s.data.toList.take (k+1)).all (λc=>p (c.toNat:Int))=true:=by
 rw[sQ s k h,List.all_append,hk];simp[hp]
theorem Lt(h:k<s.size)(hp:p (s[k].toNat:Int)=false):allI p s=false:=by
 unfold allI;rw[List.all_eq_false];exact⟨s[k],by simp[ByteArray.getElem_eq_getElem_data],by simp[hp]⟩
theorem NJ(h:s.size<=k)(hk:(s.data.toList.take k).all (λc=>p (c.toNat:Int))=true):allI p s=true:=by
 unfold allI
 rwa[List.take_of_length_le qA]at hk
end
def xE(s:AAE):Bool:=decide (1<=s.size)&&decide (s.size<=31)&&AF (fR s 0)&&allI kK s
def upC(c:UInt8):UInt8:=if 97<=c.toNat/\c.toNat<=122 then UInt8.ofNat (c.toNat - 32)else c
def upS(s:AAE):ByteArray:=⟨(s.data.toList.map upC).toArray⟩
def oI(s:AAE):Bool:=xE s&&decide (upS s=s)
def uO: Bs->Nat->Nat->Bool->Option (Nat×Nat)
 | [],d,b,_=>some (d,b)
 | c::l,d,b,pt=>
  if gI (c.toNat:Int)then uO l (d+1) (if pt then b+1 else b) pt
  else if (c.toNat:Int)=46/\pt=false/\gI (hd l)=true then uO l d b true
  else none
def Ns(s:AAE):Nat×Nat×Bool:=
 match uO s.data.toList 0 0 false with
 | some (d,b)=>(d,b,decide (1<=d)&&decide (d<=9))
 | none=>(0,0,false)
def FI(c:Int):Bool:=c==48||c==49
def jI(c:Int):Bool:=decide (32<=c)&&decide (c<=126)
def eH(key:AAE)(ks:List ByteArray):Bool:=ks.any λs=>decide (s=key)
def eX(key:AAE)(ks:List ByteArray):eH key ks=true↔key∈ks:=by simp[eH]
def bF: List ByteArray:=[⟨#[43]⟩,⟨#[45]⟩,⟨#[42]⟩,⟨#[47]⟩,⟨#[61]⟩,⟨#[94,61]⟩,⟨#[60]⟩,⟨#[60,61]⟩,⟨#[62]⟩,⟨#[62,61]⟩,⟨#[94,60]⟩,⟨#[94,62]⟩,⟨#[38]⟩,⟨#[124]⟩,⟨#[94]⟩,⟨#[124,124]⟩,⟨#[45,62]⟩,⟨#[40]⟩,⟨#[41]⟩,⟨#[44]⟩,⟨#[59]⟩,⟨#[58]⟩,⟨#[46]⟩,⟨#[37]⟩]
def eP(k:Int)(t:AAE):Bool:=
 if k=1 then oI t
 else if k=2 then(Ns t).2.2
 else if k=3 then decide (1<=t.size)&&decide (t.size<=31)&&allI FI t
 else if k=4 then decide (t.size<=255)&&allI jI t
 else if k=5 then decide (t.size<=64)&&allI FI t
 else if k=6 then eH t bF
 else false
def GG(ok:Bool):Int:=if ok then 0 else 50
end Lx
end
end Go.Proofs.YtikalomcclefiaaGreatDoor
namespace Go.Proofs
open Go.Shelf
def Tryz.ahX: Go.Shelf.Ren:=⟨λ|170=>81|n=>n,λ|70=>116|3=>3|0=>0|72=>119|37=>117|5=>5|n=>n,λ|n=>n⟩
def Tryz.aEl: Go.Proofs.Lays.n170 Tryz.prog Tryz.ahX:={
 mixed:=by kernel_rfl
 f170:=Tryz.func81.trans AAB
 t0:=Tryz.underlying0
 a0:=Tryz.isAgg0
 z0:=Tryz.sizeOf0
 v0:=Tryz.zeroValue0
 t3:=Tryz.underlying3
 a3:=Tryz.isAgg3
 z3:=Tryz.sizeOf3
 v3:=Tryz.zeroValue3
 t37:=Tryz.underlying117
 a37:=Tryz.isAgg117
 z37:=Tryz.sizeOf117
 v37:=Tryz.zeroValue117
 t70:=Tryz.underlying116
 a70:=Tryz.isAgg116
 z70:=Tryz.sizeOf116
 v70:=Tryz.zeroValue116
 t72:=Tryz.underlying119
 a72:=Tryz.isAgg119
 z72:=Tryz.sizeOf119
 v72:=Tryz.zeroValue119 }
def Tryz.RI: Go.Shelf.Ren:=⟨λ|169=>82|n=>n,λ|70=>116|9=>9|0=>0|72=>119|37=>117|127=>157|3=>3|5=>5|n=>n,λ|n=>n⟩
def Tryz.aGE: Go.Proofs.Lays.n169 Tryz.prog Tryz.RI:={
 mixed:=by kernel_rfl
 f169:=Tryz.func82.trans AAB
 t0:=Tryz.underlying0
 a0:=Tryz.isAgg0
 z0:=Tryz.sizeOf0
 v0:=Tryz.zeroValue0
 t3:=Tryz.underlying3
 a3:=Tryz.isAgg3
 z3:=Tryz.sizeOf3
 v3:=Tryz.zeroValue3
 t9:=Tryz.underlying9
 a9:=Tryz.isAgg9
 z9:=Tryz.sizeOf9
 v9:=Tryz.zeroValue9
 t37:=Tryz.underlying117
 a37:=Tryz.isAgg117
 z37:=Tryz.sizeOf117
 v37:=Tryz.zeroValue117
 t70:=Tryz.underlying116
 a70:=Tryz.isAgg116
 z70:=Tryz.sizeOf116
 v70:=Tryz.zeroValue116
 t72:=Tryz.underlying119
 a72:=Tryz.isAgg119
 z72:=Tryz.sizeOf119
 v72:=Tryz.zeroValue119
 t127:=Tryz.underlying157
 a127:=Tryz.isAgg157
 z127:=Tryz.sizeOf157
 v127:=Tryz.zeroValue157 }
def Tryz.Mz: Builder.Extra Tryz.prog Tryz.RI:={
 sizeBuilder:=by kernel_rfl
 liesBuilder:=by kernel_rfl
 t5:=Tryz.underlying5
 a5:=Tryz.isAgg5
 z5:=Tryz.sizeOf5
 v5:=Tryz.zeroValue5
 infoByte:=by kernel_rfl
 cellsByte:=by kernel_rfl
 sizeByte:=by kernel_rfl
 neB5:=by decide }
def Tryz.afE: Go.Shelf.Ren:=⟨λ|119=>157|n=>n,λ|21=>21|4=>4|n=>n,λ|n=>n⟩
def Tryz.aGl: Go.Proofs.Lays.n119 Tryz.prog Tryz.afE:={
 mixed:=by kernel_rfl
 f119:=Tryz.func157.trans AAB
 t4:=Tryz.underlying4
 a4:=Tryz.isAgg4
 z4:=Tryz.sizeOf4
 v4:=Tryz.zeroValue4
 t21:=Tryz.underlying21
 a21:=Tryz.isAgg21
 z21:=Tryz.sizeOf21
 v21:=Tryz.zeroValue21 }
theorem Tryz.utf8_ValidRune(r:Int)(w:World) :
 AAA 157 #[.int .i32 r] w λe w'=>e=.returned (.bool (Lib.validRune r))/\w'=w:=Any.utf8_ValidRune Tryz.aGl r w
def Tryz.adU: Go.Shelf.Ren:=⟨λ|137=>156|217=>195|266=>218|n=>n,λ|9=>9|5=>5|3=>3|n=>n,λ|n=>n⟩
def Tryz.aGK: Go.Proofs.Lays.n137 Tryz.prog Tryz.adU:={
 mixed:=by kernel_rfl
 f137:=Tryz.func156.trans AAB
 f217:=Tryz.func195.trans AAB
 f266:=Tryz.func218.trans AAB
 t3:=Tryz.underlying3
 a3:=Tryz.isAgg3
 z3:=Tryz.sizeOf3
 v3:=Tryz.zeroValue3
 t5:=Tryz.underlying5
 a5:=Tryz.isAgg5
 z5:=Tryz.sizeOf5
 v5:=Tryz.zeroValue5
 t9:=Tryz.underlying9
 a9:=Tryz.isAgg9
 z9:=Tryz.sizeOf9
 v9:=Tryz.zeroValue9 }
open Go.RowKit in
theorem Tryz.strings_IndexByte(s:AAE)(c:Int)(w:World) :
 AAA 156 #[.string s,.int .u8 c] w λe w'=>e=.returned (.int .i64 (Lib.indexByte s.data.toList c.toNat.toUInt8))/\w'=w:=Any.strings_IndexByte Tryz.aGK s c w
open Go.RowKit in
theorem Tryz.Builder_Len_f(B b:Nat)(bs:List Value)(w:World)(h:Lib.IsBuilderF 119 5 B b bs w) :
 AAA 81 #[.pointer (some (AAF b 0))] w λe w'=>e=.returned (.int .i64 bs.length)/\w'=w:=Any.Builder_Len_f Tryz.aEl B b bs w h
open Go.RowKit in
theorem Tryz.Builder_String_any_f(B b:Nat)(l:List UInt8)(w:World)(h:Lib.IsBuilderF 119 5 B b (Lib.byteCells l) w)(hBw:B<=w.heap.size) :
 AAA 82 #[.pointer (some (AAF b 0))] w λe w'=>e=.returned (.string ⟨l.toArray⟩)/\(Lib.IsBuilderF 119 5 B b (Lib.byteCells l) w'/\Below B w w'):=Any.Builder_String_any_f Tryz.aGE Tryz.Mz B b l w h hBw
def Tryz.agC: Go.Shelf.Ren:=⟨λ|172=>233|244=>234|245=>235|247=>236|279=>237|280=>238|281=>239|282=>240|287=>241|316=>242|171=>129|205=>243|321=>244|322=>245|243=>145|246=>160|283=>197|284=>198|285=>199|286=>200|129=>221|317=>220|318=>222|319=>223|320=>224|337=>229|338=>230|n=>n,λ|9=>9|3=>3|75=>122|76=>124|4=>4|5=>5|167=>219|37=>117|0=>0|85=>220|2=>2|168=>222|53=>190|175=>225|46=>184|210=>228|127=>157|145=>233|143=>231|21=>21|171=>189|173=>193|212=>209|51=>205|20=>20|213=>210|232=>215|233=>216|80=>128|n=>n,λ|15=>6|16=>7|17=>3|18=>4|19=>5|n=>n⟩
def Tryz.aEC: Go.Proofs.Lays.n172 Tryz.prog Tryz.agC:={
 mixed:=by kernel_rfl
 f129:=Tryz.func221.trans AAB
 f171:=Tryz.func129.trans AAB
 f172:=Tryz.func233.trans AAB
 f205:=Tryz.func243.trans AAB
 f243:=Tryz.func145.trans AAB
 f244:=Tryz.func234.trans AAB
 f245:=Tryz.func235.trans AAB
 f246:=Tryz.func160.trans AAB
 f247:=Tryz.func236.trans AAB
 f279:=Tryz.func237.trans AAB
 f280:=Tryz.func238.trans AAB
 f281:=Tryz.func239.trans AAB
 f282:=Tryz.func240.trans AAB
 f283:=Tryz.func197.trans AAB
 f284:=Tryz.func198.trans AAB
 f285:=Tryz.func199.trans AAB
 f286:=Tryz.func200.trans AAB
 f287:=Tryz.func241.trans AAB
 f316:=Tryz.func242.trans AAB
 f317:=Tryz.func220.trans AAB
 f318:=Tryz.func222.trans AAB
 f319:=Tryz.func223.trans AAB
 f320:=Tryz.func224.trans AAB
 f321:=Tryz.func244.trans AAB
 f322:=Tryz.func245.trans AAB
 f337:=Tryz.func229.trans AAB
 f338:=Tryz.func230.trans AAB
 t0:=Tryz.underlying0
 a0:=Tryz.isAgg0
 z0:=Tryz.sizeOf0
 v0:=Tryz.zeroValue0
 t2:=Tryz.underlying2
 a2:=Tryz.isAgg2
 z2:=Tryz.sizeOf2
 v2:=Tryz.zeroValue2
 t3:=Tryz.underlying3
 a3:=Tryz.isAgg3
 z3:=Tryz.sizeOf3
 v3:=Tryz.zeroValue3
 t4:=Tryz.underlying4
 a4:=Tryz.isAgg4
 z4:=Tryz.sizeOf4
 v4:=Tryz.zeroValue4
 t5:=Tryz.underlying5
 a5:=Tryz.isAgg5
 z5:=Tryz.sizeOf5
 v5:=Tryz.zeroValue5
 t9:=Tryz.underlying9
 a9:=Tryz.isAgg9
 z9:=Tryz.sizeOf9
 v9:=Tryz.zeroValue9
 t20:=Tryz.underlying20
 a20:=Tryz.isAgg20
 z20:=Tryz.sizeOf20
 v20:=Tryz.zeroValue20
 t21:=Tryz.underlying21
 a21:=Tryz.isAgg21
 z21:=Tryz.sizeOf21
 v21:=Tryz.zeroValue21
 t37:=Tryz.underlying117
 a37:=Tryz.isAgg117
 z37:=Tryz.sizeOf117
 v37:=Tryz.zeroValue117
 t46:=Tryz.underlying184
 a46:=Tryz.isAgg184
 z46:=Tryz.sizeOf184
 v46:=Tryz.zeroValue184
 t51:=Tryz.underlying205
 a51:=Tryz.isAgg205
 z51:=Tryz.sizeOf205
 v51:=Tryz.zeroValue205
 t53:=Tryz.underlying190
 a53:=Tryz.isAgg190
 z53:=Tryz.sizeOf190
 v53:=Tryz.zeroValue190
 t75:=Tryz.underlying122
 a75:=Tryz.isAgg122
 z75:=Tryz.sizeOf122
 v75:=Tryz.zeroValue122
 t76:=Tryz.underlying124
 a76:=Tryz.isAgg124
 z76:=Tryz.sizeOf124
 v76:=Tryz.zeroValue124
 t85:=Tryz.underlying220
 a85:=Tryz.isAgg220
 z85:=Tryz.sizeOf220
 v85:=Tryz.zeroValue220
 t127:=Tryz.underlying157
 a127:=Tryz.isAgg157
 z127:=Tryz.sizeOf157
 v127:=Tryz.zeroValue157
 t143:=Tryz.underlying231
 a143:=Tryz.isAgg231
 z143:=Tryz.sizeOf231
 v143:=Tryz.zeroValue231
 t145:=Tryz.underlying233
 a145:=Tryz.isAgg233
 z145:=Tryz.sizeOf233
 v145:=Tryz.zeroValue233
 t167:=Tryz.underlying219
 a167:=Tryz.isAgg219
 z167:=Tryz.sizeOf219
 v167:=Tryz.zeroValue219
 t168:=Tryz.underlying222
 a168:=Tryz.isAgg222
 z168:=Tryz.sizeOf222
 v168:=Tryz.zeroValue222
 t171:=Tryz.underlying189
 a171:=Tryz.isAgg189
 z171:=Tryz.sizeOf189
 v171:=Tryz.zeroValue189
 t173:=Tryz.underlying193
 a173:=Tryz.isAgg193
 z173:=Tryz.sizeOf193
 v173:=Tryz.zeroValue193
 t175:=Tryz.underlying225
 a175:=Tryz.isAgg225
 z175:=Tryz.sizeOf225
 v175:=Tryz.zeroValue225
 t210:=Tryz.underlying228
 a210:=Tryz.isAgg228
 z210:=Tryz.sizeOf228
 v210:=Tryz.zeroValue228
 t212:=Tryz.underlying209
 a212:=Tryz.isAgg209
 z212:=Tryz.sizeOf209
 v212:=Tryz.zeroValue209
 t213:=Tryz.underlying210
 a213:=Tryz.isAgg210
 z213:=Tryz.sizeOf210
 t232:=Tryz.underlying215
 a232:=Tryz.isAgg215
 z232:=Tryz.sizeOf215
 v232:=Tryz.zeroValue215
 t233:=Tryz.underlying216
 a233:=Tryz.isAgg216
 z233:=Tryz.sizeOf216
 v233:=Tryz.zeroValue216
 g15:=by kernel_rfl
 g16:=by kernel_rfl
 g17:=by kernel_rfl
 g18:=by kernel_rfl
 g19:=by kernel_rfl }
open Go.RowKit in
theorem Tryz.strconv_Atoi(s:AAE)(n:Int)(hl:s.size<=18)(h:Lib.atoi s.data.toList=some n)(w:World) :
 AAA 233 #[.string s] w λe w'=>e=.returned (.tuple #[.int .i64 n,.nilIface])/\∃ t,w'=Lib.bytesWorld w 5 t:=Any.strconv_Atoi Tryz.aEC s n hl h w
def Tryz.ZT: Go.Shelf.Ren:=⟨λ|171=>129|243=>145|246=>160|283=>197|284=>198|285=>199|286=>200|129=>221|317=>220|318=>222|319=>223|320=>224|337=>229|338=>230|n=>n,λ|3=>3|9=>9|2=>2|4=>4|171=>189|0=>0|53=>190|37=>117|5=>5|173=>193|212=>209|51=>205|20=>20|213=>210|46=>184|232=>215|233=>216|n=>n,λ|17=>3|18=>4|19=>5|n=>n⟩
def Tryz.aCG: Go.Proofs.LaysM.n171 Tryz.prog Tryz.ZT:={
 mixed:=by kernel_rfl
 f129:=Tryz.func221.trans AAB
 f171:=Tryz.func129.trans AAB
 f243:=Tryz.func145.trans AAB
 f246:=Tryz.func160.trans AAB
 f283:=Tryz.func197.trans AAB
 f284:=Tryz.func198.trans AAB
 f285:=Tryz.func199.trans AAB
 f286:=Tryz.func200.trans AAB
 f317:=Tryz.func220.trans AAB
 f318:=Tryz.func222.trans AAB
 f319:=Tryz.func223.trans AAB
 f320:=Tryz.func224.trans AAB
 f337:=Tryz.func229.trans AAB
 f338:=Tryz.func230.trans AAB
 t0:=Tryz.underlying0
 a0:=Tryz.isAgg0
 z0:=Tryz.sizeOf0
 v0:=Tryz.zeroValue0
 t2:=Tryz.underlying2
 a2:=Tryz.isAgg2
 z2:=Tryz.sizeOf2
 v2:=Tryz.zeroValue2
 t3:=Tryz.underlying3
 a3:=Tryz.isAgg3
 z3:=Tryz.sizeOf3
 v3:=Tryz.zeroValue3
 t4:=Tryz.underlying4
 a4:=Tryz.isAgg4
 z4:=Tryz.sizeOf4
 v4:=Tryz.zeroValue4
 t5:=Tryz.underlying5
 a5:=Tryz.isAgg5
 z5:=Tryz.sizeOf5
 v5:=Tryz.zeroValue5
 t9:=Tryz.underlying9
 a9:=Tryz.isAgg9
 z9:=Tryz.sizeOf9
 v9:=Tryz.zeroValue9
 t20:=Tryz.underlying20
 a20:=Tryz.isAgg20
 z20:=Tryz.sizeOf20
 v20:=Tryz.zeroValue20
 t37:=Tryz.underlying117
 a37:=Tryz.isAgg117
 z37:=Tryz.sizeOf117
 v37:=Tryz.zeroValue117
 t46:=Tryz.underlying184
 a46:=Tryz.isAgg184
 z46:=Tryz.sizeOf184
 v46:=Tryz.zeroValue184
 t51:=Tryz.underlying205
 a51:=Tryz.isAgg205
 z51:=Tryz.sizeOf205
 v51:=Tryz.zeroValue205
 t53:=Tryz.underlying190
 a53:=Tryz.isAgg190
 z53:=Tryz.sizeOf190
 v53:=Tryz.zeroValue190
 t171:=Tryz.underlying189
 a171:=Tryz.isAgg189
 z171:=Tryz.sizeOf189
 v171:=Tryz.zeroValue189
 t173:=Tryz.underlying193
 a173:=Tryz.isAgg193
 z173:=Tryz.sizeOf193
 v173:=Tryz.zeroValue193
 t212:=Tryz.underlying209
 a212:=Tryz.isAgg209
 z212:=Tryz.sizeOf209
 v212:=Tryz.zeroValue209
 t213:=Tryz.underlying210
 a213:=Tryz.isAgg210
 z213:=Tryz.sizeOf210
 t232:=Tryz.underlying215
 a232:=Tryz.isAgg215
 z232:=Tryz.sizeOf215
 v232:=Tryz.zeroValue215
 t233:=Tryz.underlying216
 a233:=Tryz.isAgg216
 z233:=Tryz.sizeOf216
 v233:=Tryz.zeroValue216
 g17:=by kernel_rfl
 g18:=by kernel_rfl
 g19:=by kernel_rfl
 i0:=by kernel_rfl
 i2:=by kernel_rfl
 i3:=by kernel_rfl
 i4:=by kernel_rfl
 i5:=by kernel_rfl
 i9:=by kernel_rfl
 i20:=by kernel_rfl
 i37:=by kernel_rfl
 i46:=by kernel_rfl
 i51:=by kernel_rfl
 i53:=by kernel_rfl
 i171:=by kernel_rfl
 i173:=by kernel_rfl
 i212:=by kernel_rfl
 i232:=by kernel_rfl
 i233:=by kernel_rfl
 m17:=by kernel_rfl
 m18:=by kernel_rfl
 m19:=by kernel_rfl }
open Go.RowKit Go.Sort Go.Lib in
theorem Tryz.strconv_Itoa(n:Int)(h0 : -9223372036854775808<=n)(h1:n<=9223372036854775807)(w:World)(htab:Lib.TabIs Tryz.prog w "internal/strconv.uint64pow10" .u64 Lib.pow10Tab) :
 AAA 129 #[.int .i64 n] w λe w'=>e=.returned (.string ⟨(Lib.itoa n).toArray⟩)/\∃ k os,w'=grow (w.drewN k) os:=Any.strconv_Itoa Tryz.aCG n h0 h1 w htab
def Tryz.afA: Go.Shelf.Ren:=⟨λ|143=>140|219=>155|217=>195|225=>159|224=>158|267=>196|266=>218|314=>219|n=>n,λ|9=>9|3=>3|4=>4|5=>5|46=>184|146=>206|51=>205|n=>n,λ|1=>0|n=>n⟩
def Tryz.aFn: Go.Proofs.Lays.n143 Tryz.prog Tryz.afA:={
 mixed:=by kernel_rfl
 f143:=Tryz.func140.trans AAB
 f217:=Tryz.func195.trans AAB
 f219:=Tryz.func155.trans AAB
 f224:=Tryz.func158.trans AAB
 f225:=Tryz.func159.trans AAB
 f266:=Tryz.func218.trans AAB
 f267:=Tryz.func196.trans AAB
 f314:=Tryz.func219.trans AAB
 t3:=Tryz.underlying3
 a3:=Tryz.isAgg3
 z3:=Tryz.sizeOf3
 v3:=Tryz.zeroValue3
 t4:=Tryz.underlying4
 a4:=Tryz.isAgg4
 z4:=Tryz.sizeOf4
 v4:=Tryz.zeroValue4
 t5:=Tryz.underlying5
 a5:=Tryz.isAgg5
 z5:=Tryz.sizeOf5
 v5:=Tryz.zeroValue5
 t9:=Tryz.underlying9
 a9:=Tryz.isAgg9
 z9:=Tryz.sizeOf9
 v9:=Tryz.zeroValue9
 t46:=Tryz.underlying184
 a46:=Tryz.isAgg184
 z46:=Tryz.sizeOf184
 v46:=Tryz.zeroValue184
 t51:=Tryz.underlying205
 a51:=Tryz.isAgg205
 z51:=Tryz.sizeOf205
 v51:=Tryz.zeroValue205
 t146:=Tryz.underlying206
 a146:=Tryz.isAgg206
 z146:=Tryz.sizeOf206
 v146:=Tryz.zeroValue206
 g1:=by kernel_rfl }
open Go.RowKit Go.Lib in
theorem Tryz.strings_Index(s sub:AAE)(m:Int)(w:World)(hs:s.size<4294967281)(hm:w.cell? (AAF 0 0)=some (.int .i64 m)) :
 AAA 140 #[.string s,.string sub] w λe w'=>e=.returned (.int .i64 (Lib.index s.data.toList sub.data.toList))/\w'=w:=Any.strings_Index Tryz.aFn s sub m w hs hm
def Tryz.afC: Go.Shelf.Ren:=⟨λ|144=>232|143=>140|219=>155|217=>195|225=>159|224=>158|267=>196|266=>218|314=>219|n=>n,λ|9=>9|4=>4|3=>3|5=>5|46=>184|146=>206|51=>205|n=>n,λ|1=>0|n=>n⟩
def Tryz.aEh: Go.Proofs.Lays.n144 Tryz.prog Tryz.afC:={
 mixed:=by kernel_rfl
 f143:=Tryz.func140.trans AAB
 f144:=Tryz.func232.trans AAB
 f217:=Tryz.func195.trans AAB
 f219:=Tryz.func155.trans AAB
 f224:=Tryz.func158.trans AAB
 f225:=Tryz.func159.trans AAB
 f266:=Tryz.func218.trans AAB
 f267:=Tryz.func196.trans AAB
 f314:=Tryz.func219.trans AAB
 t3:=Tryz.underlying3
 a3:=Tryz.isAgg3
 z3:=Tryz.sizeOf3
 v3:=Tryz.zeroValue3
 t4:=Tryz.underlying4
 a4:=Tryz.isAgg4
 z4:=Tryz.sizeOf4
 v4:=Tryz.zeroValue4
 t5:=Tryz.underlying5
 a5:=Tryz.isAgg5
 z5:=Tryz.sizeOf5
 v5:=Tryz.zeroValue5
 t9:=Tryz.underlying9
 a9:=Tryz.isAgg9
 z9:=Tryz.sizeOf9
 v9:=Tryz.zeroValue9
 t46:=Tryz.underlying184
 a46:=Tryz.isAgg184
 z46:=Tryz.sizeOf184
 v46:=Tryz.zeroValue184
 t51:=Tryz.underlying205
 a51:=Tryz.isAgg205
 z51:=Tryz.sizeOf205
 v51:=Tryz.zeroValue205
 t146:=Tryz.underlying206
 a146:=Tryz.isAgg206
 z146:=Tryz.sizeOf206
 v146:=Tryz.zeroValue206
 g1:=by kernel_rfl }
open Go.RowKit Go.Lib in
theorem Tryz.strings_Contains_one(s:AAE)(c:UInt8)(w:World) :
 AAA 232 #[.string s,.string ⟨#[c]⟩] w λe w'=>e=.returned (.bool (decide (0<=Lib.indexByte s.data.toList c)))/\w'=w:=Any.strings_Contains_one Tryz.aEh s c w
def Tryz.AW: Go.Shelf.Ren:=⟨λ|154=>139|138=>152|165=>153|143=>140|166=>79|197=>154|169=>82|195=>191|218=>192|240=>119|241=>193|219=>155|260=>194|276=>138|277=>217|217=>195|225=>159|224=>158|267=>196|266=>218|314=>219|n=>n,λ|9=>9|3=>3|4=>4|72=>119|0=>0|76=>124|105=>180|21=>21|5=>5|70=>116|20=>20|37=>117|75=>122|127=>157|164=>167|46=>184|119=>201|139=>204|138=>203|146=>206|51=>205|80=>128|n=>n,λ|1=>0|3=>1|4=>2|n=>n⟩
def Tryz.aoR: Go.Proofs.Lays.n154 Tryz.prog Tryz.AW:={
 mixed:=by kernel_rfl
 f138:=Tryz.func152.trans AAB
 f143:=Tryz.func140.trans AAB
 f154:=Tryz.func139.trans AAB
 f165:=Tryz.func153.trans AAB
 f166:=Tryz.func79.trans AAB
 f169:=Tryz.func82.trans AAB
 f195:=Tryz.func191.trans AAB
 f197:=Tryz.func154.trans AAB
 f217:=Tryz.func195.trans AAB
 f218:=Tryz.func192.trans AAB
 f219:=Tryz.func155.trans AAB
 f224:=Tryz.func158.trans AAB
 f225:=Tryz.func159.trans AAB
 f240:=Tryz.func119.trans AAB
 f241:=Tryz.func193.trans AAB
 f260:=Tryz.func194.trans AAB
 f266:=Tryz.func218.trans AAB
 f267:=Tryz.func196.trans AAB
 f276:=Tryz.func138.trans AAB
 f277:=Tryz.func217.trans AAB
 f314:=Tryz.func219.trans AAB
 t0:=Tryz.underlying0
 a0:=Tryz.isAgg0
 z0:=Tryz.sizeOf0
 v0:=Tryz.zeroValue0
 t3:=Tryz.underlying3
 a3:=Tryz.isAgg3
 z3:=Tryz.sizeOf3
 v3:=Tryz.zeroValue3
 t4:=Tryz.underlying4
 a4:=Tryz.isAgg4
 z4:=Tryz.sizeOf4
 v4:=Tryz.zeroValue4
 t5:=Tryz.underlying5
 a5:=Tryz.isAgg5
 z5:=Tryz.sizeOf5
 v5:=Tryz.zeroValue5
 t9:=Tryz.underlying9
 a9:=Tryz.isAgg9
 z9:=Tryz.sizeOf9
 v9:=Tryz.zeroValue9
 t20:=Tryz.underlying20
 a20:=Tryz.isAgg20
 z20:=Tryz.sizeOf20
 v20:=Tryz.zeroValue20
 t21:=Tryz.underlying21
 a21:=Tryz.isAgg21
 z21:=Tryz.sizeOf21
 v21:=Tryz.zeroValue21
 t37:=Tryz.underlying117
 a37:=Tryz.isAgg117
 z37:=Tryz.sizeOf117
 v37:=Tryz.zeroValue117
 t46:=Tryz.underlying184
 a46:=Tryz.isAgg184
 z46:=Tryz.sizeOf184
 v46:=Tryz.zeroValue184
 t51:=Tryz.underlying205
 a51:=Tryz.isAgg205
 z51:=Tryz.sizeOf205
 v51:=Tryz.zeroValue205
 t70:=Tryz.underlying116
 a70:=Tryz.isAgg116
 z70:=Tryz.sizeOf116
 v70:=Tryz.zeroValue116
 t72:=Tryz.underlying119
 a72:=Tryz.isAgg119
 z72:=Tryz.sizeOf119
 v72:=Tryz.zeroValue119
 t75:=Tryz.underlying122
 a75:=Tryz.isAgg122
 z75:=Tryz.sizeOf122
 v75:=Tryz.zeroValue122
 t76:=Tryz.underlying124
 a76:=Tryz.isAgg124
 z76:=Tryz.sizeOf124
 v76:=Tryz.zeroValue124
 t105:=Tryz.underlying180
 a105:=Tryz.isAgg180
 z105:=Tryz.sizeOf180
 v105:=Tryz.zeroValue180
 t119:=Tryz.underlying201
 a119:=Tryz.isAgg201
 z119:=Tryz.sizeOf201
 t127:=Tryz.underlying157
 a127:=Tryz.isAgg157
 z127:=Tryz.sizeOf157
 v127:=Tryz.zeroValue157
 t138:=Tryz.underlying203
 a138:=Tryz.isAgg203
 z138:=Tryz.sizeOf203
 v138:=Tryz.zeroValue203
 t139:=Tryz.underlying204
 a139:=Tryz.isAgg204
 z139:=Tryz.sizeOf204
 v139:=Tryz.zeroValue204
 t146:=Tryz.underlying206
 a146:=Tryz.isAgg206
 z146:=Tryz.sizeOf206
 v146:=Tryz.zeroValue206
 t164:=Tryz.underlying167
 a164:=Tryz.isAgg167
 z164:=Tryz.sizeOf167
 v164:=Tryz.zeroValue167
 g1:=by kernel_rfl
 g3:=by kernel_rfl
 g4:=by kernel_rfl }
def Tryz.Dy: Builder.Extra Tryz.prog Tryz.AW:={
 sizeBuilder:=by kernel_rfl
 liesBuilder:=by kernel_rfl
 t5:=Tryz.underlying5
 a5:=Tryz.isAgg5
 z5:=Tryz.sizeOf5
 v5:=Tryz.zeroValue5
 infoByte:=by kernel_rfl
 cellsByte:=by kernel_rfl
 sizeByte:=by kernel_rfl
 neB5:=by decide }
def Tryz.QV: Go.Shelf.Ren:=⟨λ|155=>120|154=>139|138=>152|165=>153|143=>140|166=>79|197=>154|169=>82|195=>191|218=>192|240=>119|241=>193|219=>155|260=>194|276=>138|277=>217|217=>195|225=>159|224=>158|267=>196|266=>218|314=>219|n=>n,λ|9=>9|3=>3|4=>4|72=>119|0=>0|76=>124|105=>180|21=>21|5=>5|70=>116|20=>20|37=>117|75=>122|127=>157|164=>167|46=>184|119=>201|139=>204|138=>203|146=>206|51=>205|80=>128|n=>n,λ|1=>0|3=>1|4=>2|n=>n⟩
def Tryz.aFG: Go.Proofs.Lays.n155 Tryz.prog Tryz.QV:={
 mixed:=by kernel_rfl
 f138:=Tryz.func152.trans AAB
 f143:=Tryz.func140.trans AAB
 f154:=Tryz.func139.trans AAB
 f155:=Tryz.func120.trans AAB
 f165:=Tryz.func153.trans AAB
 f166:=Tryz.func79.trans AAB
 f169:=Tryz.func82.trans AAB
 f195:=Tryz.func191.trans AAB
 f197:=Tryz.func154.trans AAB
 f217:=Tryz.func195.trans AAB
 f218:=Tryz.func192.trans AAB
 f219:=Tryz.func155.trans AAB
 f224:=Tryz.func158.trans AAB
 f225:=Tryz.func159.trans AAB
 f240:=Tryz.func119.trans AAB
 f241:=Tryz.func193.trans AAB
 f260:=Tryz.func194.trans AAB
 f266:=Tryz.func218.trans AAB
 f267:=Tryz.func196.trans AAB
 f276:=Tryz.func138.trans AAB
 f277:=Tryz.func217.trans AAB
 f314:=Tryz.func219.trans AAB
 t0:=Tryz.underlying0
 a0:=Tryz.isAgg0
 z0:=Tryz.sizeOf0
 v0:=Tryz.zeroValue0
 t3:=Tryz.underlying3
 a3:=Tryz.isAgg3
 z3:=Tryz.sizeOf3
 v3:=Tryz.zeroValue3
 t4:=Tryz.underlying4
 a4:=Tryz.isAgg4
 z4:=Tryz.sizeOf4
 v4:=Tryz.zeroValue4
 t5:=Tryz.underlying5
 a5:=Tryz.isAgg5
 z5:=Tryz.sizeOf5
 v5:=Tryz.zeroValue5
 t9:=Tryz.underlying9
 a9:=Tryz.isAgg9
 z9:=Tryz.sizeOf9
 v9:=Tryz.zeroValue9
 t20:=Tryz.underlying20
 a20:=Tryz.isAgg20
 z20:=Tryz.sizeOf20
 v20:=Tryz.zeroValue20
 t21:=Tryz.underlying21
 a21:=Tryz.isAgg21
 z21:=Tryz.sizeOf21
 v21:=Tryz.zeroValue21
 t37:=Tryz.underlying117
 a37:=Tryz.isAgg117
 z37:=Tryz.sizeOf117
 v37:=Tryz.zeroValue117
 t46:=Tryz.underlying184
 a46:=Tryz.isAgg184
 z46:=Tryz.sizeOf184
 v46:=Tryz.zeroValue184
 t51:=Tryz.underlying205
 a51:=Tryz.isAgg205
 z51:=Tryz.sizeOf205
 v51:=Tryz.zeroValue205
 t70:=Tryz.underlying116
 a70:=Tryz.isAgg116
 z70:=Tryz.sizeOf116
 v70:=Tryz.zeroValue116
 t72:=Tryz.underlying119
 a72:=Tryz.isAgg119
 z72:=Tryz.sizeOf119
 v72:=Tryz.zeroValue119
 t75:=Tryz.underlying122
 a75:=Tryz.isAgg122
 z75:=Tryz.sizeOf122
 v75:=Tryz.zeroValue122
 t76:=Tryz.underlying124
 a76:=Tryz.isAgg124
 z76:=Tryz.sizeOf124
 v76:=Tryz.zeroValue124
 t105:=Tryz.underlying180
 a105:=Tryz.isAgg180
 z105:=Tryz.sizeOf180
 v105:=Tryz.zeroValue180
 t119:=Tryz.underlying201
 a119:=Tryz.isAgg201
 z119:=Tryz.sizeOf201
 t127:=Tryz.underlying157
 a127:=Tryz.isAgg157
 z127:=Tryz.sizeOf157
 v127:=Tryz.zeroValue157
 t138:=Tryz.underlying203
 a138:=Tryz.isAgg203
 z138:=Tryz.sizeOf203
 v138:=Tryz.zeroValue203
 t139:=Tryz.underlying204
 a139:=Tryz.isAgg204
 z139:=Tryz.sizeOf204
 v139:=Tryz.zeroValue204
 t146:=Tryz.underlying206
 a146:=Tryz.isAgg206
 z146:=Tryz.sizeOf206
 v146:=Tryz.zeroValue206
 t164:=Tryz.underlying167
 a164:=Tryz.isAgg167
 z164:=Tryz.sizeOf167
 v164:=Tryz.zeroValue167
 g1:=by kernel_rfl
 g3:=by kernel_rfl
 g4:=by kernel_rfl }
def Tryz.MP: Builder.Extra Tryz.prog Tryz.QV:={
 sizeBuilder:=by kernel_rfl
 liesBuilder:=by kernel_rfl
 t5:=Tryz.underlying5
 a5:=Tryz.isAgg5
 z5:=Tryz.sizeOf5
 v5:=Tryz.zeroValue5
 infoByte:=by kernel_rfl
 cellsByte:=by kernel_rfl
 sizeByte:=by kernel_rfl
 neB5:=by decide }
open Go.RowKit Go.Lib in
theorem Tryz.strings_ReplaceAll(s old new:AAE)(m:Int)(w:World)(hs:s.size<4294967281)(hm:w.cell? (AAF 0 0)=some (.int .i64 m))(h1:1<=old.size)(hlen:s.size+Lib.countB s old*new.size<=140737488355328) :
 AAA 120 #[.string s,.string old,.string new] w λe w'=>
  e=.returned (.string ⟨(Lib.replaceAll s.data.toList old.data.toList new.data.toList).toArray⟩)/\Below w.heap.size w w':=Any.strings_ReplaceAll Tryz.aFG Tryz.MP s old new m w hs hm h1 hlen
def Tryz.acU: Go.Shelf.Ren:=⟨λ|151=>128|152=>144|137=>156|119=>157|224=>158|225=>159|217=>195|266=>218|n=>n,λ|9=>9|21=>21|4=>4|3=>3|5=>5|0=>0|46=>184|n=>n,λ|n=>n⟩
def Tryz.aGh: Go.Proofs.Lays.n151 Tryz.prog Tryz.acU:={
 mixed:=by kernel_rfl
 f119:=Tryz.func157.trans AAB
 f137:=Tryz.func156.trans AAB
 f151:=Tryz.func128.trans AAB
 f152:=Tryz.func144.trans AAB
 f217:=Tryz.func195.trans AAB
 f224:=Tryz.func158.trans AAB
 f225:=Tryz.func159.trans AAB
 f266:=Tryz.func218.trans AAB
 t0:=Tryz.underlying0
 a0:=Tryz.isAgg0
 z0:=Tryz.sizeOf0
 v0:=Tryz.zeroValue0
 t3:=Tryz.underlying3
 a3:=Tryz.isAgg3
 z3:=Tryz.sizeOf3
 v3:=Tryz.zeroValue3
 t4:=Tryz.underlying4
 a4:=Tryz.isAgg4
 z4:=Tryz.sizeOf4
 v4:=Tryz.zeroValue4
 t5:=Tryz.underlying5
 a5:=Tryz.isAgg5
 z5:=Tryz.sizeOf5
 v5:=Tryz.zeroValue5
 t9:=Tryz.underlying9
 a9:=Tryz.isAgg9
 z9:=Tryz.sizeOf9
 v9:=Tryz.zeroValue9
 t21:=Tryz.underlying21
 a21:=Tryz.isAgg21
 z21:=Tryz.sizeOf21
 v21:=Tryz.zeroValue21
 t46:=Tryz.underlying184
 a46:=Tryz.isAgg184
 z46:=Tryz.sizeOf184
 v46:=Tryz.zeroValue184 }
open Go.RowKit Go.Lib in
theorem Tryz.strings_ContainsRune_ascii(s:AAE)(r:Int)(w:World)(h0:0<=r)(h1:r<128) :
 AAA 128 #[.string s,.int .i32 r] w λe w'=>e=.returned (.bool (decide (0<=Lib.indexByte s.data.toList r.toNat.toUInt8)))/\w'=w:=Any.strings_ContainsRune_ascii Tryz.aGh s r w h0 h1
end Go.Proofs
namespace Go.Proofs.YtikalomcclefiaaGreatDoor
