/- ParseBrackets, part 52: what it stands on. -/
import Derived.Test.YtfdlmcgcckkkdaaGreatDoorV17
import Derived.Test.YtfdlmcgcckkkdaaGreatDoorV13
import Derived.Deep.RegionHeld
import Derived.RegionTactic
import Derived.Test.YtfdlmcgcckkkdaaGreatDoorV44
import Derived.Shelf.Spec.SlicesGrow
import Derived.Laws.AppendOwnNone
import Derived.IntWalk
import Derived.Test.YtfdlmcgcckkkdaaGreatDoorV50
import Derived.Test.YtfdlmcgcckkkdaaGreatDoorV28
import Derived.Deep.AppendLies
set_option linter.all false
set_option maxHeartbeats 40000000
set_option maxRecDepth 100000
namespace Go.Proofs.YtfdlmcgcckkkdaaGreatDoor
section
open Go.RowKit Lx Px
section
variable {P:Program} {ops:Array Oper} {Q:Exit→Act→World→Prop} {md:Region.Mode} {S:World→Prop} {fuel:Nat} {listed:Array Bool} {a:Act} {w:World}
theorem DO(i:Nat){oi:Oper}{v:Value}{a':Act}(h:wpAnyH P md ops Q S fuel (listed.setIfInBounds i true) a' w)
 (hi:ops[i]?=some oi:=by exact rfl) (hs:Region.noSelect ops=true:=by kernel_rfl) (hf:Region.free md ops listed i=true:=by kernel_rfl) (hr:(Region.ready md ops listed).contains i=true:=by decide +kernel)
 (hQ:∀ c a w,Q (.panic c) (a.put oi.dst v) w→Q (.panic c) a w:=by exact fun _ _ _ h=>h)
 (hy:YieldsIf P ops S oi v a:=by(refine Or.inl ⟨by rfl,?_⟩;intro wq hSw;(try (obtain⟨hqp,hqt⟩:=hSw));(try (obtain⟨hqu,hqv⟩:=hqt));(try (obtain⟨hqx,hqy⟩:=hqv));(try (obtain⟨_,_,_,_,_,_,_,_,_,_⟩:=TV.facts hqt));(try (obtain⟨_,_,_,_,_,_,_,_,_,_⟩:=TV.facts hSw));(try (obtain⟨_,_,_,_,_,_,_,_,_,_⟩:=TV.facts hqp));(try (obtain⟨_,_,_,_,_,_,_,_,_,_⟩:=TV.facts hqu));(try (obtain⟨_,_,_,_,_,_,_,_,_,_⟩:=TV.facts hqv));(try (obtain⟨_,_,_,_,_,_,_,_,_,_⟩:=TV.facts hqx));(try (obtain⟨_,_,_,_,_,_,_,_,_,_⟩:=TV.facts hqy));go_simp;(try with_reducible rfl)))
 (hS:S w:=by assumption)
 (ha:a.put oi.dst v=a':=by first|(simp only[Act.put,List.getElem_toArray,List.getElem_cons_succ,List.getElem_cons_zero,List.setIfInBounds_toArray,List.set_cons_zero,List.set_cons_succ];exact rfl)|exact rfl) :
 wpAnyH P md ops Q S (fuel+1) listed a w:=wpAnyH_take hi hs hf hr hQ hy hS (ha ▸ h)
theorem DU(rs:List Nat)(h:AllReadyH P md ops Q S fuel listed a w rs)(hr:Region.ready md ops listed=rs:=by decide +kernel)(hne:rs≠[]:=by simp):wpAnyH P md ops Q S (fuel+1) listed a w:=wpAnyH_ready hr hne h
theorem Nn(h:Q .normal a w)(hr:Region.ready md ops listed=[]:=by decide +kernel):wpAnyH P md ops Q S fuel listed a w:=wpAnyH_done hr h _
theorem isH(h:wpAnyH P md ops Q S fuel listed a w):wpAnyH P md ops Q S fuel listed a w:=h
theorem arH{rs:List Nat}(h:AllReadyH P md ops Q S fuel listed a w rs):AllReadyH P md ops Q S fuel listed a w rs:=h
end
end
section
open Go.RowKit Lx Px
def Tryz.ME: Go.Shelf.Ren:=⟨fun|4=>106|n=>n,fun|22=>25|25=>43|n=>n,fun|n=>n⟩
theorem Tryz.Pr: Go.Proofs.Lays8.n4 Tryz.prog Tryz.ME:={
 mixed:=by kernel_rfl
 f4:=⟨Tryz.f106.name,by decide,Tryz.func106.trans (congrArg some (by kernel_rfl))⟩
 t0:=Tryz.underlying0
 a0:=Tryz.isAgg0
 z0:=Tryz.sizeOf0
 v0:=Tryz.zeroValue0
 t3:=Tryz.underlying3
 a3:=Tryz.isAgg3
 z3:=Tryz.sizeOf3
 v3:=Tryz.zeroValue3
 t4:=Tryz.underlying4
 a4:=Tryz.isAgg4
 z4:=Tryz.sizeOf4
 v4:=Tryz.zeroValue4
 t9:=Tryz.underlying9
 a9:=Tryz.isAgg9
 z9:=Tryz.sizeOf9
 v9:=Tryz.zeroValue9
 t20:=Tryz.underlying20
 a20:=Tryz.isAgg20
 z20:=Tryz.sizeOf20
 v20:=Tryz.zeroValue20
 t22:=Tryz.underlying25
 a22:=Tryz.isAgg25
 z22:=Tryz.sizeOf25
 v22:=Tryz.zeroValue25 }
theorem VE(n:Nat)(hn:n≤1000000)(w:World):Calls Tryz.prog 106 #[.slice none 0 0,n] w fun e w'=>∃ v,e=.returned v∧w'.ownsRow w.heap.size 43 3 v 0 []∧Below w.heap.size w w':=by
 by_cases h0:n=0
 ·subst h0;refine(Any8.slices_Grow_room Tryz.Pr none 0 0 0 w (Nat.le_refl _) (by omega) (by omega) (by omega)).mono ?_;rintro e w' ⟨rfl,rfl⟩;exact⟨_,rfl,World.ownsRow_nil _ _ _ _,Below.refl _ _⟩
 ·obtain⟨i0,hi0,hz0,hz1,hz2⟩:=info_parts OX;refine(Any8.slices_Grow_grow Tryz.Pr i0 _ hi0 hz0 (by omega) none 0 0 n [] w (Nat.le_refl _) (by omega) (by rw[hz2];omega) (by omega) (by simp) (fun _=>rfl) (fun a h=>by cases h)).mono ?_;rintro e w' ⟨rfl,rfl⟩;have hge:=grownCap_ge w (0+n) 0 43;refine⟨_,rfl,⟨rfl,.inr ⟨w.heap.size,_,_,rfl,Nat.le_refl _,heap_alloc_new w.drew _,Nat.zero_le _,grownCap_le_maxLen _ _ _ _ (by unfold maxLen;omega),?_,by simp⟩⟩,(Below.refl w.heap.size w).drew.alloc (Nat.le_refl _) _⟩
  show (([]:List Value).toArray++Builtin.zeroCells _ _++Builtin.zeroCells _ _).size=grownCap w (0+n) 0 43*3
  simp only[Array.size_append,size_zeroCells]
  show 0+(0+n - 0)*3+(grownCap w (0+n) 0 43 - (0+n))*3=_
  omega
theorem JU(l:List Tk):(kI l).length=l.length*3:=by
 induction l with
 | nil=>rfl
 | cons k r ih=>show (tkv k++kI r).length=_;rw[List.length_append,ih];simp[tkv];omega
theorem Ht(l:List Tk):∀ u∈kI l,u.oneCell'=true:=by
 intro u hu;obtain⟨k,_,hk⟩:=List.mem_flatMap.1 hu;unfold tkv at hk
 simp at hk
 rcases hk with rfl|rfl|rfl<;>rfl
def Gk(w:World)(v:Value)(ts:List Tk):Prop:=(v=.slice none 0 0∧ts=[])∨∃ b off cap,v=.slice (some ⟨b,off,none⟩) ts.length cap∧b<w.heap.size∧∀ j u,(kI ts)[j]?=some u→w.cell? ⟨b,off+j,none⟩=some u
theorem Gk.below{w w':World}{v:Value}{ts:List Tk}(h:Gk w v ts)(hb:Below w.heap.size w w'):Gk w' v ts:=by
 rcases h with h|⟨b,off,cap,rfl,hlt,hc⟩
 ·exact .inl h
 ·refine .inr ⟨b,off,cap,rfl,Nat.lt_of_lt_of_le hlt hb.size,fun j u hu=>?_⟩;rw[hb.cell (p:=⟨b,off+j,none⟩) hlt];exact hc j u hu
theorem Gk.Bu{w:World}{B:Nat}{v:Value}{ts:List Tk}(h:w.ownsRow B 43 3 v ts.length (kI ts)):Gk w v ts:=by
 have hh:=h
 rcases h.2 with ⟨rfl,h0⟩|⟨g,cap,cur,rfl,hB,hg,h1,h2,h3,h4⟩
 ·exact .inl ⟨rfl,List.length_eq_zero_iff.1 h0⟩
 ·refine .inr ⟨g,0,cap,rfl,(Array.getElem?_eq_some_iff.1 hg).1,fun j u hu=>?_⟩;rw[Nat.zero_add];have hj:j<ts.length*3:=by rw[← JU];exact(List.getElem?_eq_some_iff.1 hu).1
  rw[hh.cellAt j hj];exact hu
theorem Gk.lit(w:World)(k:Tk):Gk (w.alloc (.cells #[.int .i64 k.kind,.string k.text,.int .i64 0] 43)) (.slice (some ⟨w.heap.size,0,none⟩) 1 1) [k]:=by
 have hn:=heap_alloc_new w (.cells #[.int .i64 k.kind,.string k.text,.int .i64 0] 43);refine .inr ⟨_,0,1,rfl,(Array.getElem?_eq_some_iff.1 hn).1,fun j u hu=>?_⟩;rw[Nat.zero_add];rw[FU]at hu;exact cell_of_row _ _ j _ _ _ hn ▸ (by simpa[tkv]using hu)
theorem Mb{B:Nat}(w:World)(k:Tk)(hB:B≤w.heap.size):(w.alloc (.cells #[.int .i64 k.kind,.string k.text,.int .i64 0] 43)).ownsRow B 43 3 (.slice (some ⟨w.heap.size,0,none⟩) 1 1) 1 (kI [k]):=
 World.ownsRow_lit w #[.int .i64 k.kind,.string k.text,.int .i64 0] 1 hB (by decide) rfl
theorem Gk.form{w:World}{v:Value}{ts:List Tk}(h:Gk w v ts):∃ ao cap,v=.slice ao ts.length cap:=by
 rcases h with ⟨rfl,rfl⟩|⟨b,off,cap,rfl,_⟩
 ·exact⟨_,_,rfl⟩
 ·exact⟨_,_,rfl⟩
theorem Gk.row{w:World}{v:Value}{ts:List Tk}(h:Gk w v ts):cK w v (K3 ts):=by
 rcases h with ⟨rfl,rfl⟩|⟨b,off,cap,rfl,hlt,hc⟩
 ·exact⟨none,0,rfl,fun h=>absurd rfl h⟩
 ·refine⟨_,cap,by rw[Cl],fun _=>⟨b,off,rfl,hlt,fun j hj i u hu=>?_⟩⟩;rw[Nat.add_assoc];exact hc _ _ (by rw[← Km];exact FO _ j hj i u hu)
theorem wM{w:World}{ops:Array Oper}{rest:List Oper}{o:Oper}{a:Act}{Q:Exit→Act→World→Prop}(hgd:o.guard=none)(s x:Operand)(ho:o.op=.call { callee:=.builtin .append,args:=#[s,x],argTypes:=#[25,25] })(base:Nat)(v xv:Value)(n:Nat)(xs:List Value)(ts:List Tk)(hs:a.eval s=v)(hown:w.ownsRow base 43 3 v n xs)(hx:a.eval x=xv)(hsrc:Gk w xv ts)(hn:n+ts.length≤1000000)(hbase:base≤w.heap.size){w0:World}(hb:Below base w0 w)(h:∀ v' w',w'.ownsRow base 43 3 v' (n+ts.length) (xs++kI ts)→Below base w0 w'→w.grownBy w' v.ownBlock→wpList Tryz.prog ops Q rest (a.put o.dst v') w'):wpList Tryz.prog ops Q (o::rest) a w:=by
 obtain⟨i0,hi0,hz0,hz1,hz2⟩:=info_parts OX
 rcases hsrc with ⟨rfl,rfl⟩|⟨b,off,cap,rfl,hlt,hc⟩
 ·refine wpList_append_own_none hgd s x _ ho base _ i0 3 Pe hi0 v n xs hs hown hx ?_;exact h v w (by simpa[kI]using hown) hb (World.grownBy.refl _ _)
 ·refine wpList_append_own _ hgd s x _ ho base _ i0 _ 3 32 Pe hi0 hz0 hz1 hz2 rfl (by decide) v n xs hs hown _ _ _ (kI ts) hx (JU ts) (fun j u hu=>?_) (Ht ts) (by unfold maxLen;omega) (by omega) hbase ?_
  ·rw[Go.WideShapes.add_plain];exact hc j u hu
  ·intro v' w' own2 hg _;exact h v' w' own2 (hb.grown hg hbase (fun k hk=>(hown.lt k hk).1)) hg
theorem vL{w w':World}{B:Nat}{e:TypeId}{k:Nat}{v:Value}{n:Nat}{xs:List Value}(h:w.ownsRow B e k v n xs)(hb:Below w.heap.size w w'):w'.ownsRow B e k v n xs:=by
 refine⟨h.1,h.2.imp id ?_⟩;rintro⟨g,cap,cur,e1,h1,hg,h2⟩;exact⟨g,cap,cur,e1,h1,(hb.block g (Array.getElem?_eq_some_iff.1 hg).1).trans hg,h2⟩
theorem TV.app{w w':World}{b:Nat}{x y z u v o:Value}{B n:Nat}{xs:List Value}(h:TV w b x y z u v)(own:w.ownsRow B 43 3 o n xs)(g:w.grownBy w' o.ownBlock):TV w' b x y z u v:=by
 refine(g.block b h.lt fun e=>?_).trans h
 rcases own.2 with h0|⟨g',cap',cur,rfl,_,hg,_⟩
 ·rw[h0.1]at e;cases e
 ·have e':b=g':=by simpa[Value.ownBlock]using e
  subst e';have:=hg.symm.trans h
  simp at this
def pcs(ps:List (Value×List Tk)):List Tk:=ps.flatMap Prod.snd
theorem RW(ps:List (Value×List Tk))(q:Nat)(hq:q<ps.length):pcs (ps.take (q+1))=pcs (ps.take q)++ps[q].2:=by
 unfold pcs;rw[List.take_succ_eq_append_getElem hq,List.flatMap_append];simp
theorem VI(ps:List (Value×List Tk))(q:Nat):(pcs (ps.take q)).length≤(pcs ps).length:=by
 conv=>rhs;rw[← List.take_append_drop q ps]
 unfold pcs;rw[List.flatMap_append,List.length_append];omega
theorem Pl(ps:List (Value×List Tk))(B:Nat)(w:World)(hlt:B<w.heap.size)(hB:∀ q (h:q<ps.length),w.cell? ⟨B,q,none⟩=some ps[q].1)(hS:∀ p,p∈ps→Gk w p.1 p.2)(hl:(pcs ps).length≤1000000)(hn:ps.length≤1000):Calls Tryz.prog 76 #[.slice (some ⟨B,0,none⟩) ps.length ps.length] w fun e w'=>∃ v,e=.returned v∧w'.ownsRow w.heap.size 43 3 v (pcs ps).length (kI (pcs ps))∧Below w.heap.size w w':=by
 obtain⟨N,hN⟩:∃ n,ps.length=n:=⟨_,rfl⟩
 have HB:=hdq hB;have HS:=hdq hS;have HN:=hdq hN;clear hB hS;rw[hN]at hn ⊢;clear hN;go_enter Tryz.func76,Tryz.ntmps76;go_wp2_with fail
 go_loopw [11,3] (fun tq ts wr=>w=wr∧∃ q:Nat,tq=.int .i64 q∧q≤N∧ts=.int .i64 ((pcs (ps.take q)).length:Nat)) (fun q _ _=>N - (intOf q).toNat)
 case atStart=>exact⟨rfl,0,rfl,Nat.zero_le _,rfl⟩
 case round=>
  obtain⟨rfl,q,rfl,hq,rfl⟩:=hrel
  by_cases hqN:q<N
  ·have hqp:q<ps.length:=by rw[HN.out];exact hqN
   have c0:=HB.out q hqp;obtain⟨ao,cap,ev⟩:=(HS.out _ (List.getElem_mem hqp)).form;rw[ev]at c0;have h1:=RW ps q hqp;have h2:=VI ps (q+1);have h3:(pcs (ps.take (q+1))).length=(pcs (ps.take q)).length+ps[q].2.length:=by rw[h1,List.length_append]
   generalize ps[q].2.length=m at c0 h3;generalize (pcs (ps.take q)).length=a at h3;have x1:(q:Int)<(N:Int):=by omega
   have x2:IntKind.i64.wrap ((a:Int)+(m:Int))=(a:Int)+(m:Int):=IntWalk.i64_in _ (by omega);have x3:¬ ((a:Int)+(m:Int)<0):=by omega
   have x4:IntKind.i64.wrap ((q:Int)+1)=(q:Int)+1:=IntWalk.i64_in _ (by omega);have H3:=hdq h3;clear h1 h2 h3 ev;go_wp2_with fail
   go_roundw
   case rel=>exact⟨trivial,q+1,by go_num,by omega,by rw[H3.out];rfl⟩
   case measure=>simp only[intOf];omega
  ·obtain rfl:q=N:=by omega
   have e1:ps.take q=ps:=List.take_of_length_le (by rw[HN.out];exact Nat.le_refl _);rw[e1];clear e1 hqN;have x1:¬ (q:Int)<(q:Int):=by omega
   go_wp2_with fail;refine(VE (pcs ps).length hl w).mono ?_;rintro e w1 ⟨v,rfl,own,hb⟩;go_wp2_with fail
   go_loopw [27,6] (fun tq v wz=>Below w.heap.size w wz∧∃ r:Nat,tq=.int .i64 r∧r≤q∧wz.ownsRow w.heap.size 43 3 v (pcs (ps.take r)).length (kI (pcs (ps.take r)))) (fun r _ _=>q - (intOf r).toNat)
   case atStart=>exact⟨hb,0,rfl,Nat.zero_le _,own⟩
   case round=>
    obtain⟨bz,r,rfl,hr,oz⟩:=hrel
    by_cases hrN:r<q
    ·have hrp:r<ps.length:=by rw[HN.out];exact hrN
     have c0:=(bz.cell (p:=⟨B,r,none⟩) hlt).trans (HB.out r hrp);have S1:=(HS.out _ (List.getElem_mem hrp)).below bz;have h1:=RW ps r hrp;have h2:=VI ps (r+1);rw[h1,List.length_append]at h2;have x1:(r:Int)<(q:Int):=by omega
     have x4:IntKind.i64.wrap ((r:Int)+1)=(r:Int)+1:=IntWalk.i64_in _ (by omega);have H1:=hdq h1;clear h1;have hz:=bz.size;go_wp2_with (at_builtin;refine wM rfl _ _ rfl w.heap.size _ _ _ _ (ps[r]'hrp).2 rfl oz rfl S1 (by omega) hz bz ?_;intro v' w' own2 hb2 _);rw[← Fu,← H1.out]at own2
     go_roundw
     case rel=>exact⟨hb2,r+1,by go_num,by omega,by rw[H1.out,List.length_append,← H1.out];exact own2⟩
     case measure=>simp only[intOf];omega
    ·obtain rfl:r=q:=by omega
     have e1:ps.take r=ps:=List.take_of_length_le (by rw[HN.out];exact Nat.le_refl _);rw[e1]at oz;have HO:=hdq oz;clear e1 hrN oz;have x1:¬ (r:Int)<(r:Int):=by omega
     go_wp2_with fail;go_ret;exact⟨_,rfl,HO.out,bz⟩
theorem Wg{w:World}{b:Nat}{x y z:Value}(h:w.heap[b]?=some (.cells #[x,y,z] 43 (0,0)))(x' y' z':Value):(((w.setCell ⟨b,0,none⟩ x').setCell ⟨b,1,none⟩ y').setCell ⟨b,2,none⟩ z').heap[b]?=some (.cells #[x',y',z'] 43 (0,0)):=by
 simp[World.setCell,Array.getElem?_modify,h]
theorem By(s:ByteArray)(w:World):Calls Tryz.prog 75 #[s] w fun e w'=>e=.returned (.agg #[.int .i64 6,.string s,.int .i64 0])∧Below w.heap.size w w':=by
 have b1:=aC w (.cells #[.int .i64 0,.string ⟨#[]⟩,.int .i64 0] 43);go_enter Tryz.func75,Tryz.ntmps75;go_upto_region 1 with fail;have n1:=heap_alloc_new w (.cells #[.int .i64 0,.string ⟨#[]⟩,.int .i64 0] 43);generalize World.alloc w _=w1 at b1 n1 ⊢;have c0:=cell_of_row _ _ 0 _ _ _ n1;have c1:=cell_of_row _ _ 1 _ _ _ n1;have c2:=cell_of_row _ _ 2 _ _ _ n1;have f0:=Lib.frozen_of_heap n1 0;have f1:=Lib.frozen_of_heap n1 1;have f2:=Lib.frozen_of_heap n1 2;have n3:=Wg n1 (.int .i64 6) s (.int .i64 0);have hb:Below w.heap.size w (((w1.setCell ⟨w.heap.size,0,none⟩ (.int .i64 6)).setCell ⟨w.heap.size,1,none⟩ (.string s)).setCell ⟨w.heap.size,2,none⟩ (.int .i64 0)):=Below.setCell (Below.setCell (Below.setCell b1 (Nat.le_refl _) _) (Nat.le_refl _) _) (Nat.le_refl _) _;clear n1 b1;go_upto_region 2 with fail;clear c0 c1 c2 f0 f1 f2;have c0:=cell_of_row _ _ 0 _ _ _ n3;have c1:=cell_of_row _ _ 1 _ _ _ n3;have c2:=cell_of_row _ _ 2 _ _ _ n3;generalize World.setCell _ _ _=w2 at *;go_wp2_with fail;refine bodyPost_ret (v:=.agg #[.int .i64 6,.string s,.int .i64 0]) (by simp[results,Tryz.results75,go_sem,c0,c1,c2]) rfl ⟨rfl,hb⟩
def FuQ(w:World)(ts:List Tk)(e:Ending)(w':World):Prop:=∃ v,e=.returned v∧w'.ownsRow w.heap.size 43 3 v ts.length (kI ts)∧Below w.heap.size w w'
def Cb(wB:World)(t:T):Prop:=∀ w,Below wB.heap.size wB w→∀ (k n a:Int) (s:ByteArray) (ao:Option Addr) (m c:Nat),Tr wB t (vT k n a s ao m c)→
 Calls Tryz.prog 38 #[tg k n a s ao m c] w (FuQ w (sV t))
def BrC(wB:World)(t:T):Prop:=∀ w,Below wB.heap.size wB w→∀ (k n a:Int) (s:ByteArray) (ao:Option Addr) (m c:Nat),Tr wB t (vT k n a s ao m c)→
 Calls Tryz.prog 39 #[tg k n a s ao m c] w (FuQ w (brT t))
theorem Tr.lit{wB:World}{k n a:Int}{w:ByteArray}{l:List T}{k' n' a':Int}{s:ByteArray}{ao:Option Addr}{m c:Nat}(h:Tr wB (.mk k n a w l) (vT k' n' a' s ao m c)):k'=k∧n'=n∧a'=a∧s=w∧m=l.length:=by
 unfold Tr TrC vT at h;obtain⟨ao',cap,e,_⟩:=h;simp only[List.cons.injEq,Value.int.injEq,Value.string.injEq,Value.slice.injEq,and_true,true_and]at e
 obtain⟨rfl,rfl,rfl,rfl,rfl,rfl,rfl⟩:=e;exact⟨rfl,rfl,rfl,rfl,rfl⟩
theorem US(wB:World)(n a:Int)(s:ByteArray):Cb wB (.mk 1 n a s []):=by
 intro w low k n' a' s' ao m c ht;obtain⟨rfl,rfl,rfl,rfl,rfl⟩:=ht.lit;have HU:=hdq (show sV (.mk 1 n' a' s' [])=[⟨n',s'⟩]by rw[tT];rfl);have b1:=aC w (.cells (tg 1 n' a' s' ao 0 c) 24);have t1:=TV.new w (.int .i64 1) n' a' s' (.slice ao 0 c);go_enter Tryz.func38,Tryz.ntmps38;go_upto_region 1 with fail;simp only[List.length_nil]at *
 generalize World.alloc w _=w1 at b1 t1 ⊢;have:=TV.facts t1;go_upto_region 4 with fail;have hs:=Mb w1 ⟨n',s'⟩ b1.size;have hb:=b1.alloc b1.size (.cells #[.int .i64 n',.string s',.int .i64 0] 43);go_wp2_with fail;go_ret;exact⟨_,rfl,by rw[HU.out];exact hs,hb⟩
theorem VX(wB:World)(a:Int):BrC wB (.mk 7 0 a e0 []):=by
 intro w low k n' a' s' ao m c ht;obtain⟨rfl,rfl,rfl,rfl,rfl⟩:=ht.lit;have HU:=hdq (show brT (.mk 7 0 a' e0 [])=[O uF]by rw[Kc];rfl);have b1:=aC w (.cells (tg 7 0 a' e0 ao 0 c) 24);have t1:=TV.new w (.int .i64 7) (.int .i64 0) a' e0 (.slice ao 0 c);go_enter Tryz.func39,Tryz.ntmps39;go_upto_region 1 with fail;simp only[List.length_nil]at *
 generalize World.alloc w _=w1 at b1 t1 ⊢;have:=TV.facts t1;go_upto_block 2 with fail;refine(By _ w1).mono ?_;rintro e w2 ⟨rfl,b2⟩;have hs:=Mb w2 (O uF) (Nat.le_trans b1.size b2.size);have hb:=(b1.trans (b2.mono b1.size)).alloc (Nat.le_trans b1.size b2.size) (.cells #[.int .i64 6,.string uF,.int .i64 0] 43);go_wp2_with fail;go_ret;exact⟨_,rfl,by rw[HU.out];exact hs,hb⟩
theorem UX(wB:World)(a:Int)(s:ByteArray):Cb wB (.mk 3 0 a s []):=by
 intro w low k n' a' s' ao m c ht;obtain⟨rfl,rfl,rfl,rfl,rfl⟩:=ht.lit;have HU:=hdq (show sV (.mk 3 0 a' s' [])=[W s']by rw[tT];rfl);have b1:=aC w (.cells (tg 3 0 a' s' ao 0 c) 24);have t1:=TV.new w (.int .i64 3) (.int .i64 0) a' s' (.slice ao 0 c);go_enter Tryz.func38,Tryz.ntmps38;go_upto_region 1 with fail;simp only[List.length_nil]at *
 generalize World.alloc w _=w1 at b1 t1 ⊢;have:=TV.facts t1;go_upto_region 14 with fail;have hs:=Mb w1 (W s') b1.size;have hb:=b1.alloc b1.size (.cells #[.int .i64 1,.string s',.int .i64 0] 43);have t2:=t1.below (aC w1 (.cells #[.int .i64 1,.string s',.int .i64 0] 43));have:=TV.facts t2;go_wp2_with fail;go_ret;exact⟨_,rfl,by rw[HU.out];exact hs,hb⟩
theorem KJ(f:T→List Tk)(l:List T)(k:Nat)(hk:k<l.length):(l.take (k+1)).map f=(l.take k).map f++[f (l[k]'hk)]:=by
 rw[List.take_succ_eq_append_getElem hk,List.map_append];rfl
theorem Se(f:T→List Tk)(l:List T)(k:Nat)(hk:k<l.length)(h0:k≠0):(l.take k).map f≠[]:=by
 intro e;have:=congrArg List.length e;rw[List.length_map,List.length_take,Nat.min_eq_left (by omega)]at this;exact h0 this
theorem VA(w w1:World):w1.ownsRow w.heap.size 43 3 (.slice none 0 0) 0 []:=World.ownsRow_nil _ _ _ _
theorem Vw(wB:World)(a:Int)(ps:List T)(hP:∀ p,p∈ps→Cb wB p)(h8:ps.length≤100)(hl:(sV (.mk 2 0 a e0 ps)).length≤100000):Cb wB (.mk 2 0 a e0 ps):=by
 intro w low k n' a' s' ao m c ht;obtain⟨rfl,rfl,rfl,rfl,rfl⟩:=ht.lit;have hu:sV (.mk 2 0 a' e0 ps)=sG (ps.map sV):=by rw[tT];rfl
 rw[hu]at hl;have HU:=hdq hu;have HP:=hdq hP;have HT:=hdq ht;clear hu hP ht;have b1:=aC w (.cells (tg 2 0 a' e0 ao ps.length c) 24);have t1:=TV.new w (.int .i64 2) (.int .i64 0) a' e0 (.slice ao ps.length c);go_enter Tryz.func38,Tryz.ntmps38;go_upto_region 1 with fail;generalize World.alloc w _=w1 at b1 t1 ⊢;have:=TV.facts t1;go_wp2_with fail;clear t1
 go_loopw [23,3] (fun tq v wr=>∃ q:Nat,tq=.int .i64 q∧q≤ps.length∧wr.ownsRow w.heap.size 43 3 v (sG ((ps.take q).map sV)).length (kI (sG ((ps.take q).map sV)))∧Below w.heap.size w wr) (fun q _ _=>ps.length - (intOf q).toNat)
 case atStart=>exact⟨0,rfl,Nat.zero_le _,VA w w1,b1⟩
 case round=>
  obtain⟨q,rfl,hq,own,hb⟩:=hrel;have lowr:Below wB.heap.size wB wr:=low.trans (hb.mono low.size)
  by_cases hlt:q<ps.length
  ·obtain⟨ao1,c1',vs1,e,hTs,hrow⟩:=eF.tree (rv:=[]) lowr HT.out;obtain⟨b,off,rfl,_,hcell⟩:=hrow (by intro e;simp only[T.l]at e;rw[e]at hlt;simp at hlt);simp only[Value.slice.injEq,true_and,T.l]at e
   obtain⟨rfl,rfl⟩:=e;obtain⟨k1,n1,a1,s1,o1,m1,c1,hTr,d0,d1,d2,d3,d4⟩:=Tr.elem hTs hcell q hlt;have hF:=HP.out _ (List.getElem_mem hlt);have hlen:(sG ((ps.map sV).take (q+1))).length≤(sG (ps.map sV)).length:=AF _ _ (by rw[List.length_map];exact hlt);have htk:=congrArg sG (KJ sV ps q hlt);rw[vF]at htk;rw[← List.map_take,htk]at hlen;simp only[T.l]at hF hTr
   generalize ps[q]'hlt=y at hTr hF htk hlen;have x1:(q:Int)<(ps.length:Int):=by omega
   by_cases hq0:q=0
   ·subst hq0;have x2:¬ (0:Int)<((0:Nat):Int):=by omega
    simp only[Nat.zero_mul,Nat.add_zero]at d0 d1 d2 d3 d4
    rw[if_pos (by simp),List.nil_append]at htk hlen;generalize sG ((ps.take 0).map sV)=A at own htk hlen;have HTK:=hdq htk;rw[List.length_append]at hlen;clear htk;go_upto_region 9 with fail;have t2:=TV.new wr k1 n1 a1 s1 (.slice o1 m1 c1);have b2:=aC wr (.cells (tg k1 n1 a1 s1 o1 m1 c1) 24);generalize World.alloc wr _=w2 at t2 b2 ⊢;have hcall:=hF w2 (lowr.trans (b2.mono lowr.size)) k1 n1 a1 s1 o1 m1 c1 hTr;have own2:=vL own b2;clear d0 d1 d2 d3 d4 hcell own hF;have:=TV.facts t2;go_upto_block 11 with fail;refine hcall.mono ?_;rintro e w3 ⟨v3,rfl,hs,b3⟩;have own3:=vL own2 b3;have hb3:Below w.heap.size w w3:=(hb.trans (b2.mono hb.size)).trans (b3.mono (Nat.le_trans hb.size b2.size));have hz3:=hb3.size;clear hcall own2 t2 b2 b3 hb;go_wp2_with (at_builtin;refine wM rfl _ _ rfl w.heap.size _ _ _ _ (sV y) rfl own3 rfl (Gk.Bu hs) (by omega) hz3 hb3 ?_;intro v4 w4 own4 hb4 _)
    go_roundw
    case rel=>exact⟨1,by go_num,hlt,by rw[HTK.out,List.length_append,Fu];exact own4,hb4⟩
    case measure=>simp only[intOf];omega
   ·rw[if_neg (Se sV ps q hlt hq0)]at htk hlen;have x2:(0:Int)<(q:Int):=by omega
    generalize sG ((ps.take q).map sV)=A at own htk hlen;have HTK:=hdq htk;simp only[List.length_append,List.length_cons,List.length_nil]at hlen
    clear htk;go_upto_region 9 with fail;have t2:=TV.new wr k1 n1 a1 s1 (.slice o1 m1 c1);have b2:=aC wr (.cells (tg k1 n1 a1 s1 o1 m1 c1) 24);generalize World.alloc wr _=w2 at t2 b2 ⊢;have own2:=vL own b2;have hb2:Below w.heap.size w w2:=hb.trans (b2.mono hb.size);clear d0 d1 d2 d3 d4 hcell own b2 hb;go_upto_block 10 with fail;refine(By _ w2).mono ?_;rintro e w3 ⟨rfl,b3⟩;have t3:=(t2.below b3).below (aC w3 (.cells #[.int .i64 6,.string ⟨#[46]⟩,.int .i64 0] 43));have own3:=(vL own2 b3).alloc (.cells #[.int .i64 6,.string ⟨#[46]⟩,.int .i64 0] 43);have hs3:=Gk.lit w3 (O uM);have hb3:=(hb2.trans (b3.mono hb2.size)).alloc (Nat.le_trans hb2.size b3.size) (.cells #[.int .i64 6,.string ⟨#[46]⟩,.int .i64 0] 43);have hz3:=hb3.size;clear own2 t2 b3 hb2;go_upto_region 11 with (at_builtin;refine wM rfl _ _ rfl w.heap.size _ _ _ _ [O uM] rfl own3 rfl hs3 (by simp only[List.length_cons,List.length_nil];omega) hz3 hb3 ?_;intro v4 w4 own4 hb4 g4);have t4:=t3.app own3 g4;have low4:Below wB.heap.size wB w4:=low.trans (hb4.mono low.size);have hcall:=hF w4 low4 k1 n1 a1 s1 o1 m1 c1 hTr;clear own3 hs3 hz3 hb3 g4 t3 hF low4;have:=TV.facts t4;go_upto_block 11 with fail;refine hcall.mono ?_;rintro e w5 ⟨v5,rfl,hs,b5⟩;have own5:=vL own4 b5;have hb5:Below w.heap.size w w5:=hb4.trans (b5.mono hb4.size);have hz5:=hb5.size;clear hcall own4 t4 b5 hb4;go_wp2_with (at_builtin;refine wM rfl _ _ rfl w.heap.size _ _ _ _ (sV y) rfl own5 rfl (Gk.Bu hs) (by simp only[List.length_cons,List.length_nil];omega) hz5 hb5 ?_;intro v6 w6 own6 hb6 _)
    go_roundw
    case rel=>exact⟨q+1,by go_num,hlt,by rw[HTK.out];simpa only[List.length_append,Fu,List.append_assoc,Nat.add_assoc,List.length_cons,List.length_nil]using own6,hb6⟩
    case measure=>simp only[intOf];omega
  ·obtain rfl:q=ps.length:=Nat.le_antisymm hq (Nat.not_lt.1 hlt);have x1:¬ (ps.length:Int)<(ps.length:Int):=Int.lt_irrefl _;rw[List.take_length]at own;have hs:=own;rw[← HU.out]at hs;clear own;go_wp2_with fail;go_ret;exact⟨_,rfl,hs,hb⟩
theorem UR(wB:World)(a:Int)(s:ByteArray)(ps:List T)(hP:∀ p,p∈ps→BrC wB p)(h8:ps.length≤100)(hl:(sV (.mk 3 1 a s ps)).length≤100000):Cb wB (.mk 3 1 a s ps):=by
 intro w low k n' a' s' ao m c ht;obtain⟨rfl,rfl,rfl,rfl,rfl⟩:=ht.lit;have hu:sV (.mk 3 1 a' s' ps)=W s'::O sLP::(aO (ps.map brT)++[O sRP]):=by rw[tT];rfl
 rw[hu]at hl;simp only[List.length_cons,List.length_append,List.length_nil]at hl
 have HU:=hdq hu;have HP:=hdq hP;have HT:=hdq ht;clear hu hP ht;have b1:=aC w (.cells (tg 3 1 a' s' ao ps.length c) 24);have t1:=TV.new w (.int .i64 3) (.int .i64 1) a' s' (.slice ao ps.length c);go_enter Tryz.func38,Tryz.ntmps38;go_upto_region 1 with fail;generalize World.alloc w _=w1 at b1 t1 ⊢;have:=TV.facts t1;go_upto_region 15 with fail;have own1:(w1.alloc (.cells #[.int .i64 1,.string s',.int .i64 0] 43)).ownsRow w.heap.size 43 3 (.slice (some ⟨w1.heap.size,0,none⟩) 1 1) 1 (kI [W s']):=World.ownsRow_lit w1 #[.int .i64 1,.string s',.int .i64 0] 1 b1.size (by decide) rfl;have b2:=aC w1 (.cells #[.int .i64 1,.string s',.int .i64 0] 43);have t2:=t1.below b2;have hb2:Below w.heap.size w _:=b1.alloc b1.size (.cells #[.int .i64 1,.string s',.int .i64 0] 43);generalize World.alloc w1 _=w2 at own1 t2 hb2 b2 ⊢;generalize (Value.slice (some ⟨w1.heap.size,0,none⟩) 1 1)=v1 at own1 ⊢;clear t1 b1 b2;have:=TV.facts t2;go_upto_block 16 with fail;refine(By _ w2).mono ?_;rintro e w3 ⟨rfl,b3⟩;have t3:=(t2.below b3).below (aC w3 (.cells #[.int .i64 6,.string ⟨#[40]⟩,.int .i64 0] 43));have own3:=(vL own1 b3).alloc (.cells #[.int .i64 6,.string ⟨#[40]⟩,.int .i64 0] 43);have hs3:=Gk.lit w3 (O sLP);have hb3:=(hb2.trans (b3.mono hb2.size)).alloc (Nat.le_trans hb2.size b3.size) (.cells #[.int .i64 6,.string ⟨#[40]⟩,.int .i64 0] 43);have hz3:=hb3.size;clear own1 t2 b3 hb2;go_upto_region 17 with (at_builtin;refine wM rfl _ _ rfl w.heap.size _ _ _ _ [O sLP] rfl own3 rfl hs3 (by decide) hz3 hb3 ?_;intro v4 w4 own4 hb4 g4);have t4:=t3.app own3 g4;rw[← Fu]at own4;clear own3 hs3 hz3 hb3 g4 t3;have:=TV.facts t4;go_wp2_with fail;clear t4
 go_loopw [55,3] (fun tq v wr=>∃ q:Nat,tq=.int .i64 q∧q≤ps.length∧wr.ownsRow w.heap.size 43 3 v ([W s',O sLP]++aO ((ps.take q).map brT)).length (kI ([W s',O sLP]++aO ((ps.take q).map brT)))∧Below w.heap.size w wr) (fun q _ _=>ps.length - (intOf q).toNat)
 case atStart=>exact⟨0,rfl,Nat.zero_le _,own4,hb4⟩
 case round=>
  obtain⟨q,rfl,hq,own,hb⟩:=hrel;have lowr:Below wB.heap.size wB wr:=low.trans (hb.mono low.size)
  by_cases hlt:q<ps.length
  ·obtain⟨ao1,c1',vs1,e,hTs,hrow⟩:=eF.tree (rv:=[]) lowr HT.out;obtain⟨b,off,rfl,_,hcell⟩:=hrow (by intro e;simp only[T.l]at e;rw[e]at hlt;simp at hlt);simp only[Value.slice.injEq,true_and,T.l]at e
   obtain⟨rfl,rfl⟩:=e;obtain⟨k1,n1,a1,s1,o1,m1,c1,hTr,d0,d1,d2,d3,d4⟩:=Tr.elem hTs hcell q hlt;have hF:=HP.out _ (List.getElem_mem hlt);have hlen:(aO ((ps.map brT).take (q+1))).length≤(aO (ps.map brT)).length:=vD _ _ (by rw[List.length_map];exact hlt);have htk:=congrArg aO (KJ brT ps q hlt);rw[pX]at htk;rw[← List.map_take,htk]at hlen;simp only[T.l]at hF hTr
   generalize ps[q]'hlt=y at hTr hF htk hlen;have x1:(q:Int)<(ps.length:Int):=by omega
   by_cases hq0:q=0
   ·subst hq0;have x2:¬ (0:Int)<((0:Nat):Int):=by omega
    simp only[Nat.zero_mul,Nat.add_zero]at d0 d1 d2 d3 d4
    rw[if_pos (by simp),List.nil_append]at htk hlen;generalize aO ((ps.take 0).map brT)=A at own htk hlen;have HTK:=hdq htk;rw[List.length_append]at hlen;clear htk;go_upto_region 20 with fail;have t2:=TV.new wr k1 n1 a1 s1 (.slice o1 m1 c1);have b2:=aC wr (.cells (tg k1 n1 a1 s1 o1 m1 c1) 24);generalize World.alloc wr _=w2 at t2 b2 ⊢;have hcall:=hF w2 (lowr.trans (b2.mono lowr.size)) k1 n1 a1 s1 o1 m1 c1 hTr;have own2:=vL own b2;clear d0 d1 d2 d3 d4 hcell own hF;have:=TV.facts t2;go_upto_block 22 with fail;refine hcall.mono ?_;rintro e w3 ⟨v3,rfl,hs,b3⟩;have own3:=vL own2 b3;have hb3:Below w.heap.size w w3:=(hb.trans (b2.mono hb.size)).trans (b3.mono (Nat.le_trans hb.size b2.size));have hz3:=hb3.size;clear hcall own2 t2 b2 b3 hb;go_wp2_with (at_builtin;refine wM rfl _ _ rfl w.heap.size _ _ _ _ (brT y) rfl own3 rfl (Gk.Bu hs) (by simp only[List.length_append,List.length_cons,List.length_nil];omega) hz3 hb3 ?_;intro v4 w4 own4 hb4 _)
    go_roundw
    case rel=>exact⟨1,by go_num,hlt,by rw[HTK.out];simpa only[List.length_append,Fu,List.append_assoc,Nat.add_assoc,List.length_cons,List.length_nil]using own4,hb4⟩
    case measure=>simp only[intOf];omega
   ·rw[if_neg (Se brT ps q hlt hq0)]at htk hlen;have x2:(0:Int)<(q:Int):=by omega
    generalize aO ((ps.take q).map brT)=A at own htk hlen;have HTK:=hdq htk;simp only[List.length_append,List.length_cons,List.length_nil]at hlen
    clear htk;go_upto_region 20 with fail;have t2:=TV.new wr k1 n1 a1 s1 (.slice o1 m1 c1);have b2:=aC wr (.cells (tg k1 n1 a1 s1 o1 m1 c1) 24);generalize World.alloc wr _=w2 at t2 b2 ⊢;have own2:=vL own b2;have hb2:Below w.heap.size w w2:=hb.trans (b2.mono hb.size);clear d0 d1 d2 d3 d4 hcell own b2 hb;go_upto_block 21 with fail;refine(By _ w2).mono ?_;rintro e w3 ⟨rfl,b3⟩;have t3:=(t2.below b3).below (aC w3 (.cells #[.int .i64 6,.string ⟨#[44]⟩,.int .i64 0] 43));have own3:=(vL own2 b3).alloc (.cells #[.int .i64 6,.string ⟨#[44]⟩,.int .i64 0] 43);have hs3:=Gk.lit w3 (O mU);have hb3:=(hb2.trans (b3.mono hb2.size)).alloc (Nat.le_trans hb2.size b3.size) (.cells #[.int .i64 6,.string ⟨#[44]⟩,.int .i64 0] 43);have hz3:=hb3.size;clear own2 t2 b3 hb2;go_upto_region 22 with (at_builtin;refine wM rfl _ _ rfl w.heap.size _ _ _ _ [O mU] rfl own3 rfl hs3 (by simp only[List.length_append,List.length_cons,List.length_nil];omega) hz3 hb3 ?_;intro v4 w4 own4 hb4 g4);have t4:=t3.app own3 g4;have low4:Below wB.heap.size wB w4:=low.trans (hb4.mono low.size);have hcall:=hF w4 low4 k1 n1 a1 s1 o1 m1 c1 hTr;clear own3 hs3 hz3 hb3 g4 t3 hF low4;have:=TV.facts t4;go_upto_block 22 with fail;refine hcall.mono ?_;rintro e w5 ⟨v5,rfl,hs,b5⟩;have own5:=vL own4 b5;have hb5:Below w.heap.size w w5:=hb4.trans (b5.mono hb4.size);have hz5:=hb5.size;clear hcall own4 t4 b5 hb4;go_wp2_with (at_builtin;refine wM rfl _ _ rfl w.heap.size _ _ _ _ (brT y) rfl own5 rfl (Gk.Bu hs) (by simp only[List.length_append,List.length_cons,List.length_nil];omega) hz5 hb5 ?_;intro v6 w6 own6 hb6 _)
    go_roundw
    case rel=>exact⟨q+1,by go_num,hlt,by rw[HTK.out];simpa only[List.length_append,Fu,List.append_assoc,Nat.add_assoc,List.length_cons,List.length_nil]using own6,hb6⟩
    case measure=>simp only[intOf];omega
  ·obtain rfl:q=ps.length:=Nat.le_antisymm hq (Nat.not_lt.1 hlt);have x1:¬ (ps.length:Int)<(ps.length:Int):=Int.lt_irrefl _;rw[List.take_length]at own;go_upto_block 24 with fail;refine(By _ wr).mono ?_;rintro e w3 ⟨rfl,b3⟩;have own3:=(vL own b3).alloc (.cells #[.int .i64 6,.string ⟨#[41]⟩,.int .i64 0] 43);have hs3:=Gk.lit w3 (O sRP);have hb3:=(hb.trans (b3.mono hb.size)).alloc (Nat.le_trans hb.size b3.size) (.cells #[.int .i64 6,.string ⟨#[41]⟩,.int .i64 0] 43);have hz3:=hb3.size;clear own b3 hb;go_wp2_with (at_builtin;refine wM rfl _ _ rfl w.heap.size _ _ _ _ [O sRP] rfl own3 rfl hs3 (by simp only[List.length_append,List.length_cons,List.length_nil];omega) hz3 hb3 ?_;intro v6 w6 own6 hb6 _);rw[← Fu]at own6;have hs:w6.ownsRow w.heap.size 43 3 v6 (sV (.mk 3 1 a' s' ps)).length (kI (sV (.mk 3 1 a' s' ps))):=by rw[HU.out];simpa using own6
   clear own6;go_ret;exact⟨_,rfl,hs,hb6⟩
end
section
open Go.RowKit Lx Px
structure GSt (wB w1 W:World) (ps:List (Value×List Tk)):Prop where
 b1:Below wB.heap.size wB w1
 low:Below w1.heap.size w1 W
 src:∀ p,p∈ps→W.ownsRow w1.heap.size 43 3 p.1 p.2.length (kI p.2)
section
variable {wB w1 W:World} {ps:List (Value×List Tk)}
theorem GSt.base(S:GSt wB w1 W ps):Below wB.heap.size wB W:=S.b1.trans (S.low.mono S.b1.size)
theorem GSt.drew(S:GSt wB w1 W ps):GSt wB w1 W.drew ps:=⟨S.b1,S.low.drew,fun p hp=>S.src p hp⟩
theorem GSt.call(S:GSt wB w1 W ps){K:FuncId}{args:Array Value}{ts:List Tk}(h:Calls Tryz.prog K args W (FuQ W ts)):Calls Tryz.prog K args W fun e w'=>∃ o l c,e=.returned (.slice o l c)∧GSt wB w1 w' ((.slice o l c,ts)::ps):=by
 refine h.mono ?_;rintro e w' ⟨v,rfl,hs,hb⟩;obtain⟨o,cap,rfl⟩:=(Gk.Bu hs).form;refine⟨_,_,_,rfl,S.b1,S.low.trans (hb.mono S.low.size),fun p hp=>?_⟩
 rcases List.mem_cons.1 hp with rfl|hp
 ·exact hs.mono S.low.size
 ·exact vL (S.src p hp) hb
theorem GSt.sign(S:GSt wB w1 W ps)(s:ByteArray):Calls Tryz.prog 75 #[s] W fun e w'=>e=.returned (.agg #[.int .i64 6,.string s,.int .i64 0])∧GSt wB w1 w' ps:=by
 refine(By s W).mono ?_;rintro e w' ⟨rfl,hb⟩;exact⟨rfl,S.b1,S.low.trans (hb.mono S.low.size),fun p hp=>vL (S.src p hp) hb⟩
theorem GSt.build(S:GSt wB w1 W ps)(s:ByteArray):GSt wB w1 (W.alloc (.cells #[.int .i64 6,.string s,.int .i64 0] 43)) ((.slice (some ⟨W.heap.size,0,none⟩) 1 1,[O s])::ps):=by
 refine⟨S.b1,S.low.alloc S.low.size _,fun p hp=>?_⟩
 rcases List.mem_cons.1 hp with rfl|hp
 ·exact Mb W (O s) S.low.size
 ·exact(S.src p hp).alloc _
theorem GSt.any(S:GSt wB w1 W ps)(o:Obj):GSt wB w1 (W.alloc o) ps:=⟨S.b1,S.low.alloc S.low.size _,fun p hp=>(S.src p hp).alloc _⟩
theorem GSt.row(S:GSt wB w1 W ps){x y z:Value}{a b c:List Tk}(_:(x,a)∈ps)(_:(y,b)∈ps)(_:(z,c)∈ps) :
 GSt wB w1 (W.alloc (.cells #[x,y,z] 25)) ps∧(W.alloc (.cells #[x,y,z] 25)).heap[W.heap.size]?=some (.cells #[x,y,z] 25 (0,0)):=⟨S.any _,heap_alloc_new W _⟩
theorem GSt.WD(S:GSt wB w1 W ps){x y:Value}{a b:List Tk}(_:(x,a)∈ps)(_:(y,b)∈ps) :
 GSt wB w1 (W.alloc (.cells #[x,y] 25)) ps∧(W.alloc (.cells #[x,y] 25)).heap[W.heap.size]?=some (.cells #[x,y] 25 (0,0)):=⟨S.any _,heap_alloc_new W _⟩
theorem GSt.cat(S:GSt wB w1 W ps){B:Nat}{x y z:Value}{a b c:List Tk}(hn:W.heap[B]?=some (.cells #[x,y,z] 25 (0,0)))(hx:(x,a)∈ps)(hy:(y,b)∈ps)(hz:(z,c)∈ps)(hl:(a++(b++c)).length≤1000000):Calls Tryz.prog 76 #[.slice (some ⟨B,0,none⟩) 3 3] W fun e w'=>∃ v,e=.returned v∧GSt wB w1 w' [(v,a++(b++c))]:=by
 have ep:pcs [(x,a),(y,b),(z,c)]=a++(b++c):=by simp[pcs]
 have hc := Pl [(x, a), (y, b), (z, c)] B W (Array.getElem?_eq_some_iff.1 hn).1 (fun q hq => by
   have c0 := cell_of_row _ _ 0 _ _ _ hn
   have c1 := cell_of_row _ _ 1 _ _ _ hn
   have c2 := cell_of_row _ _ 2 _ _ _ hn
   match q, hq with
   | 0, _ => exact c0
   | 1, _ => exact c1
   | 2, _ => exact c2) (fun p hp => by
   have hp' : p ∈ ps := by
     simp only [List.mem_cons, List.not_mem_nil, or_false] at hp
     rcases hp with rfl | rfl | rfl <;> assumption
   exact Gk.Bu (S.src p hp')) (by rw [ep]; exact hl) (by simp)
 rw[ep]at hc;refine hc.mono ?_;rintro e w' ⟨v,rfl,hs,hb2⟩;refine⟨v,rfl,S.b1,S.low.trans (hb2.mono S.low.size),fun p hp=>?_⟩;obtain rfl:=List.mem_singleton.1 hp;exact hs.mono S.low.size
theorem GSt.app{o:Oper}{a:Act}{K:Act→World→Prop}{Q:Exit→Act→World→Prop}{E:Prop}{x y:Value}{aSq bs:List Tk}(S:GSt wB w1 W ps)(hx:(x,aSq)∈ps)(hy:(y,bs)∈ps)(hb0:0<bs.length)(hl:aSq.length+bs.length≤1000000)(hgd:o.guard=none)(s u:Operand)(ho:o.op=.call { callee:=.builtin .append,args:=#[s,u],argTypes:=#[25,25] })(hs:a.eval s=x)(hu:a.eval u=y)(hK:∀ v w',GSt wB w1 w' [(v,aSq++bs)]→K (a.put o.dst v) w'){ops:Array Oper}:if Region.wanted o (yielded ops a.tmps)=true then Oper.wp Tryz.prog o a W K Q else E:=by
 obtain⟨i0,hi0,hz0,hz1,hz2⟩:=info_parts OX;have ox:=S.src _ hx;have oy:=Gk.Bu (S.src _ hy);simp only at ox oy
 rcases oy with ⟨_,rfl⟩|⟨b,off,cap,rfl,hlt,hc⟩
 ·exact absurd hb0 (by simp)
 refine step_append_lies W hgd s u _ ho w1.heap.size 43 i0 _ 3 32 Pe hi0 hz0 hz1 hz2 rfl (by decide) x aSq.length (kI aSq) hs ox ⟨b,off,none⟩ bs.length cap (kI bs) hu (JU bs) (fun j v hv=>by rw[Go.WideShapes.add_plain];exact hc j v hv) (Ht bs) hb0 (by unfold maxLen;omega) (by omega) S.low.size _ rfl ?_;intro g cap w' h g1 _ _;refine hK _ w' ⟨S.b1,S.low.grown g1 S.low.size (fun j hj=>(ox.lt j hj).1),fun p hp=>?_⟩;obtain rfl:=List.mem_singleton.1 hp;rw[List.length_append,Fu];exact h
end
theorem Je{α:Type}{x:α}{l:List α}(h:x∈l:=by repeat (first|exact .head _|apply List.Mem.tail)):x∈l:=h
def El(W:World)(b off:Nat)(k n a:Int)(s:ByteArray)(ao:Option Addr)(m c:Nat):Prop:=W.cell? ⟨b,off,none⟩=some (.int .i64 k)∧W.cell? ⟨b,off+1,none⟩=some (.int .i64 n)∧W.cell? ⟨b,off+2,none⟩=some (.int .i64 a)∧W.cell? ⟨b,off+3,none⟩=some (.string s)∧W.cell? ⟨b,off+4,none⟩=some (.slice ao m c)
theorem El.below{W W':World}{b off:Nat}{k n a:Int}{s:ByteArray}{ao:Option Addr}{m c:Nat}(h:El W b off k n a s ao m c){B:Nat}(hb:Below B W W')(hB:b<B):El W' b off k n a s ao m c:=
 ⟨(hb.cell (p:=⟨b,off,none⟩) hB).trans h.1,(hb.cell (p:=⟨b,off+1,none⟩) hB).trans h.2.1,(hb.cell (p:=⟨b,off+2,none⟩) hB).trans h.2.2.1,(hb.cell (p:=⟨b,off+3,none⟩) hB).trans h.2.2.2.1,(hb.cell (p:=⟨b,off+4,none⟩) hB).trans h.2.2.2.2⟩
theorem VP(wB:World)(t:T)(hk:t.kind≠7)(hF:Cb wB t)(hl:(brT t).length≤100000):BrC wB t:=by
 intro w low k n a s ao m c ht;have HU:=hdq (Of hk);have hk7:¬ k=7:=fun e=>hk (by rw[← ht.split.1];exact e)
 rw[Of hk]at hl;simp only[List.length_cons,List.length_append,List.length_nil]at hl
 have b1:=aC w (.cells (tg k n a s ao m c) 24);have t1:=TV.new w k n a s (.slice ao m c);have HX:=hdq fun (W:World) (hb:Below wB.heap.size wB W)=>hF W hb k n a s ao m c ht
 clear hF ht hk;go_enter Tryz.func39,Tryz.ntmps39;go_upto_region 1 with fail;generalize World.alloc w _=w1 at b1 t1 ⊢;have KT:=hdq fun (W:World) (ps:List (Value×List Tk)) (S:GSt wB w1 W ps)=>t1.below (S.low.mono (show w1.heap.size≤w1.heap.size from Nat.le_refl _))
 have S1:GSt wB w1 w1 []:=⟨low.trans (b1.mono low.size),Below.refl _ _,fun _ h=>(nomatch h)⟩
 have:=TV.facts t1;go_upto_region 3 with fail;have Sq:=S1.drew;refine wp_region_held_drew (S:=(fun w'=>TV w' w.heap.size k n a s (.slice ao m c))) (by kernel_rfl) (KT.out _ _ Sq) (fun RY=>?_);generalize World.drew w1=wD at *
 repeat' first
  | ((with_reducible refine isH ?_)
     first
       | (refine Nn ?_
          go_wp2_with fail
          go_ret
          exact ⟨_, rfl, by rw [HU.out]; exact (Sq.src _ (.head _)).mono b1.size, b1.trans (Sq.low.mono b1.size)⟩)
       | refine DO 2 ?_
       | refine DO 8 ?_
       | refine DU [0] ?_
       | refine DU [1, 3] ?_
       | refine DU [3] ?_
       | refine DU [4] ?_
       | refine DU [5] ?_
       | refine DU [6] ?_
       | refine DU [7] ?_
       | refine DU [1, 4] ?_
       | refine DU [1, 5] ?_
       | refine DU [1] ?_)
  | ((with_reducible refine arH ?_);first|exact AllReadyH.nil|refine cnH (fun Kx RZ=>?_) ?_)
  | (go_simp
     first
       | (go_at_call 75
          refine m2q (Sq.sign _) fun wA Sq => ?_
          refine goH RZ (KT.out _ _ Sq) fun RY => ?_
          clear RZ Kx)
       | (have Sq := Sq.build ⟨#[40]⟩
          refine goH RZ (KT.out _ _ Sq) fun RY => ?_
          clear RZ Kx
          generalize World.alloc _ (.cells #[.int .i64 6, .string ⟨#[40]⟩, .int .i64 0] 43) = wE at Sq RY ⊢
          generalize (World.heap _).size = BE at Sq ⊢)
       | (go_at_call 38
          refine (Sq.call (HX.out _ Sq.base)).mono ?_
          rintro e wC ⟨oC, lC, cC, rfl, Sq⟩
          refine goH RZ (KT.out _ _ Sq) fun RY => ?_
          clear RZ Kx)
       | (have Sq := Sq.build ⟨#[41]⟩
          refine goH RZ (KT.out _ _ Sq) fun RY => ?_
          clear RZ Kx
          generalize World.alloc _ (.cells #[.int .i64 6, .string ⟨#[41]⟩, .int .i64 0] 43) = wF at Sq RY ⊢
          generalize (World.heap _).size = BF at Sq ⊢)
       | (obtain ⟨Sq, hrow⟩ := Sq.row (a := [O sLP]) (b := sV t) (c := [O sRP]) Je Je Je
          refine goH RZ (KT.out _ _ Sq) fun RY => ?_
          clear RZ Kx)
       | (go_at_call 76
          refine (Sq.cat (a := [O sLP]) (b := sV t) (c := [O sRP]) hrow Je Je Je (by simp only [List.length_cons, List.length_append, List.length_nil]; omega)).mono ?_
          rintro e wG ⟨vG1, rfl, Sq⟩
          refine goH RZ (KT.out _ _ Sq) fun RY => ?_
          clear RZ Kx))
end
end Go.Proofs.YtfdlmcgcckkkdaaGreatDoor
