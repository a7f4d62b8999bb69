/- ParseWhole, part 17: what it stands on. -/
import Derived.Test.YtfdlmcgcckkkdaaGreatDoorV16
import Derived.Tactics
import Derived.Tactics2
import Derived.Defers
import Derived.Recover
import Derived.Laws.Pointers
import Derived.Test.YtfdlmcgcckkkdaaGreatDoorV13
import Derived.Deep.RegionHeld
import Derived.RegionTactic
set_option linter.all false
set_option maxHeartbeats 40000000
set_option maxRecDepth 100000
namespace Go.Proofs.YtfdlmcgcckkkdaaGreatDoor
section
open Go.RowKit Lx Px
theorem mP(pb:Nat)(L:List T3)(i:Nat)(w:World)(h:PS w pb L i):Calls Tryz.prog 147 #[pq pb] w fun e w'=>e=.returned (.bool (dU (lk L) i))∧Below w.heap.size w w':=by
 have hle:=h.le;have hbd:=h.bd;have hR:=fun w (h:PS w pb L i)=>Hf pb L i i hle w h
 have HA:=hdq (show dU (lk L) i=match dQ (lk L) (L.length+1) i with|none=>false|some j=>sgn (lk L) j [sEQ]by unfold dU;rw[List.length_map];cases dQ (lk L) (L.length+1) i<;>rfl);obtain⟨c1,_⟩:=h.cells
 cases hr:dQ (lk L) (L.length+1) i with
 | none=>
  rw[hr]at hR HA;have hR0:=hR w h;unfold rE at hR0;clear hR hr;go_enter Tryz.func147,Tryz.ntmps147;go_wp2_with (go_at_call 161;refine hR0.mono ?_;rintro e w1 ⟨rfl,hb⟩);go_ret;exact⟨aR (by rw[HA.out]),hb⟩
 | some j=>
  rw[hr]at hR HA;have hR0:=hR w h;unfold rE at hR0;clear hR hr;replace HA:=hdq (show dU (lk L) i=sgn (lk L) j [sEQ]from HA.out);go_enter Tryz.func147,Tryz.ntmps147;go_upto_region 2 with (go_at_call 161;refine hR0.mono ?_;rintro e w1 ⟨rfl,hb⟩);have h1:=h.below hb;clear hR0 h c1
  by_cases hlt:j<L.length
  ·obtain⟨b,off,cap,k0,k1,k2⟩:=h1.kt hlt;have hlt':(j:Int)<(L.length:Int):=by omega
   have hq:∀ t:Tk,t=tok (lk L) j→sgn (lk L) j [sEQ]=(t.kind==6&&mV t.text [sEQ]):=fun t e=>by rw[e];rfl
   generalize tok (lk L) j=t at k1 k2 hq;have HQ:=hdq (hq t rfl);clear hq h1
   by_cases hk:t.kind=6
   ·by_cases hs:t.text=⟨#[61]⟩
    ·rw[hs]at k2;rw[hk]at k1;go_wp2_with fail;go_ret;refine⟨aR ?_,hb⟩;rw[HA.out,HQ.out,hk,hs];rfl
    ·rw[hk]at k1;have h1:(t.text.toList == [61])=false:=beq_eq_false_iff_ne.2 fun e=>hs (by rw[← kK,e];decide +kernel)
     have h2:decide ((⟨#[61]⟩:ByteArray)=t.text)=false:=decide_eq_false fun e=>hs e.symm
     have h3:decide (t.text=⟨#[61]⟩)=false:=decide_eq_false hs;go_wp2_with fail;go_ret;refine⟨aR ?_,hb⟩;rw[HA.out,HQ.out,hk];simp[mV,sEQ,h1,h2,h3]
   ·go_wp2_with fail;go_ret;refine⟨aR ?_,hb⟩;rw[HA.out,HQ.out,beq_eq_false_iff_ne.2 hk];rfl
  ·obtain⟨ao,cap,k0⟩:=h1.row;have hlt':¬ (j:Int)<(L.length:Int):=by omega
   have HQ:=hdq (show sgn (lk L) j [sEQ]=false by unfold sgn;rw[show tok (lk L) j=_ from wS (by omega)];rfl);clear h1;go_wp2_with fail;go_ret;exact⟨aR (by rw[HA.out,HQ.out]),hb⟩
theorem tU(pb:Nat)(L:List T3)(i:Nat)(w:World)(h:PS w pb L i):Calls Tryz.prog 148 #[pq pb] w fun e w'=>e=.returned (.bool (labelled (lk L) i))∧Below w.heap.size w w':=by
 have HA:=hdq (show labelled (lk L) i=((tok (lk L) (i+0)).kind==1&&sgn (lk L) (i+1) [bY])from rfl);have hT:=aX pb L i 0 (by decide) w h;have hf0:=pG;generalize hk:(tok (lk L) (i+0)).kind=k at HA;rw[show (tok (L.map T3.tk) (i+0)).kind=k from hk]at hT;clear hk
 by_cases h2:k=1
 ·rw[h2]at hT;go_enter Tryz.func148,Tryz.ntmps148;go_wp2_with (first|(go_at_call 125;refine hT.mono ?_;rintro e w1 ⟨⟨p,rfl⟩,hb⟩;have h1:=h.below hb)|(go_at_call 124;refine(oR pb L i 1 (by decide) _ [⟨#[58]⟩] (by decide) _ (h1.below (aC w1 _)) (bJ.new w1 _)).mono ?_;rintro e w2 ⟨rfl,hb2⟩));go_ret;exact⟨aR (by rw[HA.out,h2];rfl),hb.trans ((aT _ _ _ hb2).mono hb.size)⟩
 ·go_enter Tryz.func148,Tryz.ntmps148;go_wp2_with (go_at_call 125;refine hT.mono ?_;rintro e w1 ⟨⟨p,rfl⟩,hb⟩);go_ret;exact⟨aR (by rw[HA.out,beq_eq_false_iff_ne.2 h2];rfl),hb⟩
theorem CN(pb:Nat)(L:List T3)(i:Nat)(v:Value)(ss:List ByteArray)(hl:ss.length≤1000)(w:World)(h:PS w pb L i)(hs:bJ w v ss):Calls Tryz.prog 137 #[pq pb,v] w fun e w'=>e=.returned (.bool (keyword (lk L) i ss))∧Below w.heap.size w w':=by
 have HA:=hdq (show keyword (lk L) i ss=(wrd (lk L) i ss&&!dU (lk L) i&&!labelled (lk L) i)from rfl);have hW:=oP pb L i v ss hl w h hs;have hnot:∀ (x:Bool) (w:World),(Op.unary .not (.bool x)).run Tryz.prog w=.ok (.bool (!x)) w:=fun _ _=>rfl
 cases h1:wrd (lk L) i ss with
 | false=>
  rw[h1]at hW HA;go_enter Tryz.func137,Tryz.ntmps137;go_wp2_with (go_at_call 155;refine hW.mono ?_;rintro e w1 ⟨rfl,hb⟩);go_ret;exact⟨aR (by rw[HA.out];rfl),hb⟩
 | true=>
  have hA:=fun w (h:PS w pb L i)=>mP pb L i w h
  cases h2:dU (lk L) i with
  | true=>
   rw[h1]at hW;rw[h1,h2]at HA;rw[h2]at hA;go_enter Tryz.func137,Tryz.ntmps137;go_wp2_with (first|(go_at_call 155;refine hW.mono ?_;rintro e w1 ⟨rfl,hb⟩)|(go_at_call 147;refine(hA w1 (h.below hb)).mono ?_;rintro e w2 ⟨rfl,hb2⟩));go_ret;exact⟨aR (by rw[HA.out];rfl),hb.trans (hb2.mono hb.size)⟩
  | false=>
   rw[h1]at hW;rw[h1,h2]at HA;rw[h2]at hA;go_enter Tryz.func137,Tryz.ntmps137;go_wp2_with (first|(go_at_call 155;refine hW.mono ?_;rintro e w1 ⟨rfl,hb⟩)|(go_at_call 147;refine(hA w1 (h.below hb)).mono ?_;rintro e w2 ⟨rfl,hb2⟩)|(go_at_call 148;refine(tU pb L i w2 ((h.below hb).below hb2)).mono ?_;rintro e w3 ⟨rfl,hb3⟩));go_ret;exact⟨aR (by rw[HA.out];rfl),(hb.trans (hb2.mono hb.size)).trans (hb3.mono (Nat.le_trans hb.size hb2.size))⟩
theorem EO(a:Int)(w:World):(Instr.typeAssert (.iface 120 (.agg #[.int .i64 a])) 20 120 true).run Tryz.prog w=.ok (.tuple #[.agg #[.int .i64 a],.bool true]) w:=by kernel_rfl
theorem MC(w:World):(Instr.typeAssert .nilIface 20 120 true).run Tryz.prog w=.ok (.tuple #[.agg #[.int .i64 0],.bool false]) w:=by kernel_rfl
theorem PS.fork{w:World}{pb:Nat}{L:List T3}{i:Nat}(h:PS w pb L i)(j:Nat)(hj:j≤L.length):∃ ao cap,w.cell? ⟨pb,0,none⟩=some (.slice ao L.length cap)∧PS (w.alloc (.cells #[.slice ao L.length cap,.int .i64 j] 122)) w.heap.size L j:=by
 obtain⟨ao,cap,h1,h2⟩:=h.blk;refine⟨ao,cap,cell_of_row _ _ 0 _ _ _ h1,⟨ao,cap,heap_alloc_new w _,fun hne=>?_⟩,hj,h.bd⟩;obtain⟨b,off,e,hlt,hn,hc⟩:=h2 hne;exact⟨b,off,e,by simp;omega,hlt,fun j hj i u hu=>(World.cell?_of_block (a:=⟨b,off+j*3+i,none⟩) (Below.heap_alloc w _ b hlt)).trans (hc j hj i u hu)⟩
theorem Cz(B:Nat)(b0:Bool)(a:Int)(older:List PanicEntry)(w:World)(hn:w.heap[B]?=some (.cells #[.bool b0] 4 (0,0))):CallsD Tryz.prog 178 #[pq B] (.panicking ({ v:=.iface 120 (.agg #[.int .i64 a]),recovered:=false }::older)) w fun e u' w'=>e=.returned (.tuple #[])∧u'=.panicking ({ v:=.iface 120 (.agg #[.int .i64 a]),recovered:=true }::older)∧Below B w w'∧w'.cell? ⟨B,0,none⟩=some (.bool false):=by
 have h1:=EO;have hB:B<w.heap.size:=(Array.getElem?_eq_some_iff.1 hn).1;refine callsD_of_wpS Tryz.func178 rfl fun c₀ cs hu=>?_
 apply wpS_seq
 apply wpS_region
 simp[wpOpsS,go_sem,recoverD,hu,Tryz.ntmps178,Exit.thenS,h1]
 apply wpS_seq
 apply wpS_region
 simp[wpOpsS,go_sem,Exit.thenS,Array.replicate]
 refine wpS_cond (t:=true) (by simp[Act.eval,Array.replicate]) ?_;simp only[if_true]
 apply wpS_region
 have hn':=(Below.heap_alloc w (.cells #[.int .i64 a] 120) B hB).trans hn;have hb:=(aC w (.cells #[.int .i64 a] 120)).mono (Nat.le_of_lt hB);generalize w.alloc (.cells #[.int .i64 a] 120)=w1 at hn' hb ⊢;have hc':w1.cell? ⟨B,0,none⟩=some (.bool b0):=cell_of_row w1 _ 0 _ _ _ hn';have hz':=Lib.frozen_of_heap hn' 0
 simp[wpOpsS,go_sem,hc',hz',bodyPostS,results,Tryz.results178]
 exact hb.setCell (p:=⟨B,0,none⟩) (Nat.le_refl _) _
theorem Bq(B:Nat)(w:World)(hB:B<w.heap.size):CallsD Tryz.prog 178 #[pq B] .returning w fun e u' w'=>e=.returned (.tuple #[])∧u'=.returning∧Below w.heap.size w w':=by
 have h1:=MC;refine callsD_of_wpS Tryz.func178 rfl fun c₀ cs hu=>?_
 apply wpS_seq
 apply wpS_region
 simp[wpOpsS,go_sem,recoverD,hu,Tryz.ntmps178,Exit.thenS,h1]
 apply wpS_seq
 apply wpS_region
 simp[wpOpsS,go_sem,Exit.thenS,Array.replicate]
 refine wpS_cond (t:=false) (by simp[Act.eval,Array.replicate]) ?_;simp only[Bool.false_eq_true,if_false]
 refine wpS_of_wp (wp_skip ?_);have hb:=aC w (.cells #[.int .i64 0] 120)
 cases c₀
 simp_all [bodyPostS,results,Tryz.results178]
theorem Fs(pb:Nat)(L:List T3)(i:Nat)(w:World)(h:PS w pb L i):Calls Tryz.prog 162 #[pq pb] w fun e w'=>e=.returned (.bool (pH (lk L) i))∧Below w.heap.size w w':=by
 have HC:=hdq (show pH (lk L) i=(wrd (lk L) i [wIF]&&(match bM (lk L) (i+1)with | .ok (_,j)=>wrd (lk L) j [kY] | .error _=>false))from rfl);have hmf:∀ (fn:Fn) (first cap:Array Value) (w:World),(Instr.makeFunc fn first cap).run Tryz.prog w=.ok (.func fn first cap) w:=fun _ _ _ _=>rfl
 have hbd:=h.bd;have hle:=h.le
 go_enter_defers Tryz.func162,Tryz.ntmps162
 go_upto_region 1 with fail;have b0:=aC w (.cells #[.bool false] 4);have n0:=heap_alloc_new w (.cells #[.bool false] 4);generalize w.alloc (.cells #[.bool false] 4)=w0 at b0 n0 ⊢;have h0:=h.below b0;have hlt0:w.heap.size<w0.heap.size:=(Array.getElem?_eq_some_iff.1 n0).1;have hW:=oP pb L i (.slice (some ⟨w0.heap.size,0,none⟩) 1 1) [⟨#[73,70]⟩] (by decide) _ (h0.below (aC w0 _)) (bJ.new w0 ⟨#[73,70]⟩)
 cases hw:wrd (lk L) i [⟨#[73,70]⟩] with
 | false=>
  rw[hw]at hW;go_upto_region 2 with (go_at_call 155;refine hW.mono ?_;rintro e w1 ⟨rfl,hb1⟩;have n1:=((aT _ _ _ hb1).block _ hlt0).trans n0;have c1:=cell_of_row w1 _ 0 _ _ _ n1;have f1:=Lib.frozen_of_heap n1 0)
  go_wp2
  have c2:(w1.setCell ⟨w.heap.size,0,none⟩ (.bool false)).cell? ⟨w.heap.size,0,none⟩=some (.bool false):=World.cell?_setCell_same _ _ _ c1
  simp[bodyPostD,Leaves,settle,results,Tryz.results162,go_sem,c2]
  refine⟨by rw[HC.out,show wrd (lk L) i [wIF]=false from hw];rfl,?_⟩;exact(b0.trans ((aT _ _ _ hb1).mono b0.size)).setCell (p:=⟨w.heap.size,0,none⟩) (Nat.le_refl _) _
 | true=>
  have hlt:=zU hw;rw[hw]at hW;go_upto_region 3 with (go_at_call 155;refine hW.mono ?_;rintro e w1 ⟨rfl,hb1⟩;have n1:=((aT _ _ _ hb1).block _ hlt0).trans n0;have h1:=h0.below (aT _ _ _ hb1);have B1:=b0.trans ((aT _ _ _ hb1).mono b0.size));go_upto_region 4 with fail;obtain⟨ao,cap,k0,hq⟩:=h1.fork (i+1) (by omega);obtain⟨k1,_⟩:=h1.cells;have hwr:IntKind.i64.wrap ((i:Int)+1)=(i:Int)+1:=IntWalk.i64_in _ (by omega);replace hq:PS (w1.alloc (.cells #[.slice ao L.length cap,.int .i64 ((i:Int)+1)] 122)) w1.heap.size L (i+1):=hq
  go_region
  have b2:=aC w1 (.cells #[.slice ao L.length cap,.int .i64 ((i:Int)+1)] 122);have B2:=(B1.trans (b2.mono B1.size)).drew;have n2:(w1.alloc (.cells #[.slice ao L.length cap,.int .i64 ((i:Int)+1)] 122)).drew.heap[w.heap.size]?=some (.cells #[.bool false] 4 (0,0)):=(b2.block _ (Array.getElem?_eq_some_iff.1 n1).1).trans n1;replace hq:=hq.drewN 1;replace hq:PS (w1.alloc (.cells #[.slice ao L.length cap,.int .i64 ((i:Int)+1)] 122)).drew w1.heap.size L (i+1):=hq;have hqw:w.heap.size<w1.heap.size:=(Array.getElem?_eq_some_iff.1 n1).1;generalize (w1.alloc (.cells #[.slice ao L.length cap,.int .i64 ((i:Int)+1)] 122)).drew=w2 at hq B2 n2 ⊢;generalize w1.heap.size=qb at hq hqw ⊢;clear k0 k1 h1 n1 b2 hb1 hW n0 h0 B1;go_upto_block 5 with fail;refine(aV qb L (i+1) w2 (Nat.zero_le _) hq).mono ?_;intro e w3 hp
  rcases hp.split with ⟨t,j,k,n,a,s,ao,m,c,hr1,rfl,ht,hok⟩|⟨a,hr1,rfl,hg⟩
  ·have HC2:=hdq (show pH (lk L) i=wrd (lk L) j [kY]by rw[HC.out,show wrd (lk L) i [wIF]=true from hw,hr1];rfl);have n3:=(hok.1.block _ (Array.getElem?_eq_some_iff.1 n2).1 (fun e=>by cases e;omega)).trans n2;have W:=oP qb L j (.slice (some ⟨w3.heap.size,0,none⟩) 1 1) [⟨#[84,72,69,78]⟩] (by decide) _ (hok.2.below (aC w3 _)) (bJ.new w3 ⟨#[84,72,69,78]⟩);have G3:Below w.heap.size w w3:=B2.grown hok.1 B2.size (fun j hj=>by cases hj;omega);clear hp hr1 HC ht;go_upto_region 6 with fail;go_wp2_with (go_at_call 155;refine W.mono ?_;rintro e w4 ⟨rfl,hb4⟩;have n4:=((aT _ _ _ hb4).block _ (Array.getElem?_eq_some_iff.1 n3).1).trans n3;have c4:=cell_of_row w4 _ 0 _ _ _ n4;have f4:=Lib.frozen_of_heap n4 0);have c5:(w4.setCell ⟨w.heap.size,0,none⟩ (.bool (wrd (lk L) j [⟨#[84,72,69,78]⟩]))).cell? ⟨w.heap.size,0,none⟩=some (.bool (wrd (lk L) j [⟨#[84,72,69,78]⟩])):=World.cell?_setCell_same _ _ _ c4;have B5:Below w.heap.size w (w4.setCell ⟨w.heap.size,0,none⟩ (.bool (wrd (lk L) j [⟨#[84,72,69,78]⟩]))):=(G3.trans ((aT _ _ _ hb4).mono G3.size)).setCell (p:=⟨w.heap.size,0,none⟩) (Nat.le_refl _) _;have l5:w.heap.size<(w4.setCell ⟨w.heap.size,0,none⟩ (.bool (wrd (lk L) j [⟨#[84,72,69,78]⟩]))).heap.size:=by simpa[World.setCell]using (Array.getElem?_eq_some_iff.1 n4).1
   generalize w4.setCell ⟨w.heap.size,0,none⟩ (.bool (wrd (lk L) j [⟨#[84,72,69,78]⟩]))=w5 at c5 B5 l5 ⊢;refine leaves_cons (f:=178) (args:=#[pq w.heap.size]) (by simp) (by simp[go_sem]) ?_;refine(Bq w.heap.size w5 l5).mono ?_;rintro e u' w'' ⟨rfl,rfl,hb⟩;have c6:w''.cell? ⟨w.heap.size,0,none⟩=some (.bool (wrd (lk L) j [⟨#[84,72,69,78]⟩])):=(hb.cell (p:=⟨w.heap.size,0,none⟩) l5).trans c5;have B6:=B5.trans (hb.mono B5.size)
   simp[Leaves,settle,results,Tryz.results162,go_sem,c6]
   exact⟨HC2.out.symm,B6⟩
  ·have HC2:=hdq (show pH (lk L) i=false by rw[HC.out,hr1];simp);have n3:=(hg.block _ (Array.getElem?_eq_some_iff.1 n2).1 (fun e=>by cases e;omega)).trans n2;have G3:Below w.heap.size w w3:=B2.grown hg B2.size (fun j hj=>by cases hj;omega);unfold pan;go_wp2_with fail;refine leaves_cons (f:=178) (args:=#[pq w.heap.size]) (by simp) (by simp[go_sem]) ?_;refine(Cz w.heap.size false a [] w3 n3).mono ?_;rintro e u' w'' ⟨rfl,rfl,hb,hc⟩
   simp[Leaves,settle,results,Tryz.results162,go_sem,hc]
   exact⟨HC2.out,G3.trans hb⟩
end
section
open Go.RowKit Lx Px
theorem aJ{p:Prop}(h:p:=by first|omega|(simp only[List.length_append,List.length_map,List.length_cons,List.length_nil]at hl ⊢; omega)|(simp only[List.length_append,List.length_map,List.length_cons,List.length_nil];omega)|(simp only[List.length_append,List.length_map,List.length_cons,List.length_nil]at hl;omega)):p:=h
section
variable {P:Program} {ops:Array Oper} {Q:Exit→Act→World→Prop} {md:Region.Mode} {S:World→Prop} {fuel:Nat} {listed:Array Bool} {a:Act} {w:World}
theorem tkH(i:Nat){oi:Oper}{v:Value}{a':Act}(h:wpAnyH P md ops Q S fuel (listed.setIfInBounds i true) a' w)
 (hi:ops[i]?=some oi:=by exact rfl) (hs:Region.noSelect ops=true:=by kernel_rfl) (hf:Region.free md ops listed i=true:=by kernel_rfl) (hr:(Region.ready md ops listed).contains i=true:=by kernel_rfl)
 (hQ:∀ c a w,Q (.panic c) (a.put oi.dst v) w→Q (.panic c) a w:=by exact fun _ _ _ h=>h)
 (hy:YieldsIf P ops S oi v a:=by(refine Or.inl ⟨by rfl,?_⟩;intro wq hSw;(try (obtain⟨hqp,hqt⟩:=hSw));(try (obtain⟨hqu,hqv⟩:=hqt));(try (obtain⟨hqx,hqy⟩:=hqv));(try (obtain⟨_,_,_,_,_,_,_,_,_,_⟩:=TV.facts hqt));(try (obtain⟨_,_,_,_,_,_,_,_,_,_⟩:=TV.facts hSw));(try (obtain⟨_,_,_,_,_,_,_,_,_,_⟩:=TV.facts hqp));(try (obtain⟨_,_,_,_,_,_,_,_,_,_⟩:=TV.facts hqu));(try (obtain⟨_,_,_,_,_,_,_,_,_,_⟩:=TV.facts hqv));(try (obtain⟨_,_,_,_,_,_,_,_,_,_⟩:=TV.facts hqx));(try (obtain⟨_,_,_,_,_,_,_,_,_,_⟩:=TV.facts hqy));go_simp;(try with_reducible rfl)))
 (hS:S w:=by assumption)
 (ha:a.put oi.dst v=a':=by first|(simp only[Act.put,List.getElem_toArray,List.getElem_cons_succ,List.getElem_cons_zero,List.setIfInBounds_toArray,List.set_cons_zero,List.set_cons_succ];exact rfl)|exact rfl) :
 wpAnyH P md ops Q S (fuel+1) listed a w:=wpAnyH_take hi hs hf hr hQ hy hS (ha ▸ h)
theorem bA(i:Nat){o:Oper}(h:∀ K':Act→World→Prop,Shut (∀ a w,S w→(S w→wpAnyH P md ops Q S fuel (listed.setIfInBounds i true) a w)→K' a w)→if Region.wanted o (yielded ops a.tmps)=true then Oper.wp P o a w K' Q else K' (a.put o.dst undef) w)
 (ho:ops[i]?=some o:=by exact rfl) (hr:Region.ready md ops listed=[i]:=by kernel_rfl):wpAnyH P md ops Q S (fuel+1) listed a w:=wpAnyH_ready hr (by simp) (AllReadyH.cons ho h AllReadyH.nil)
theorem goH{G K:Act→World→Prop}(hK:Shut (∀ a w,S w→(S w→G a w)→K a w)){a a':Act}{w:World}(hS:S w)(h:S w→G a' w)(ha:a=a':=by first|(simp only[Act.put,List.getElem_toArray,List.getElem_cons_succ,List.getElem_cons_zero,List.setIfInBounds_toArray,List.set_cons_zero,List.set_cons_succ];exact rfl)|exact rfl):K a w:=by
 subst ha;exact hK.out _ _ hS h
theorem rdH(rs:List Nat)(h:AllReadyH P md ops Q S fuel listed a w rs)(hr:Region.ready md ops listed=rs:=by kernel_rfl)(hne:rs≠[]:=by simp):wpAnyH P md ops Q S (fuel+1) listed a w:=wpAnyH_ready hr hne h
theorem cnH{i:Nat}{o:Oper}{rs:List Nat}(h:∀ K':Act→World→Prop,Shut (∀ a w,S w→(S w→wpAnyH P md ops Q S fuel (listed.setIfInBounds i true) a w)→K' a w)→if Region.wanted o (yielded ops a.tmps)=true then Oper.wp P o a w K' Q else K' (a.put o.dst undef) w)
 (hs:AllReadyH P md ops Q S fuel listed a w rs) (ho:ops[i]?=some o:=by exact rfl):AllReadyH P md ops Q S fuel listed a w (i::rs):=AllReadyH.cons ho h hs
theorem cW(h:Q .normal a w)(hr:Region.ready md ops listed=[]:=by kernel_rfl):wpAnyH P md ops Q S fuel listed a w:=wpAnyH_done hr h _
theorem tkA(i:Nat){oi:Oper}{v:Value}(h:wpAny P md ops Q fuel (listed.setIfInBounds i true) (a.put oi.dst v) w)
 (hi:ops[i]?=some oi:=by exact rfl) (hs:Region.noSelect ops=true:=by kernel_rfl) (hf:Region.free md ops listed i=true:=by kernel_rfl) (hr:(Region.ready md ops listed).contains i=true:=by kernel_rfl)
 (hQ:∀ c a w,Q (.panic c) (a.put oi.dst v) w→Q (.panic c) a w:=by exact fun _ _ _ h=>h)
 (hy:Yields P ops oi v a:=by(refine Or.inl ⟨by rfl,?_⟩;intro wq;go_simp;(try with_reducible rfl))) :
 wpAny P md ops Q (fuel+1) listed a w:=wpAny_take hi hs hf hr hQ hy h
theorem dG(i:Nat){o:Oper}(h:∀ K':Act→World→Prop,(∀ a w,wpAny P md ops Q fuel (listed.setIfInBounds i true) a w→K' a w)→if Region.wanted o (yielded ops a.tmps)=true then Oper.wp P o a w K' Q else K' (a.put o.dst undef) w)
 (ho:ops[i]?=some o:=by exact rfl) (hr:Region.ready md ops listed=[i]:=by kernel_rfl):wpAny P md ops Q (fuel+1) listed a w:=wpAny_ready hr (by simp) (AllReady.cons ho h AllReady.nil)
theorem rdA(rs:List Nat)(h:AllReady P md ops Q fuel listed a w rs)(hr:Region.ready md ops listed=rs:=by kernel_rfl)(hne:rs≠[]:=by simp):wpAny P md ops Q (fuel+1) listed a w:=wpAny_ready hr hne h
theorem cnA{i:Nat}{o:Oper}{rs:List Nat}(h:∀ K':Act→World→Prop,(∀ a w,wpAny P md ops Q fuel (listed.setIfInBounds i true) a w→K' a w)→if Region.wanted o (yielded ops a.tmps)=true then Oper.wp P o a w K' Q else K' (a.put o.dst undef) w)
 (hs:AllReady P md ops Q fuel listed a w rs) (ho:ops[i]?=some o:=by exact rfl):AllReady P md ops Q fuel listed a w (i::rs):=AllReady.cons ho h hs
theorem fX(h:Q .normal a w)(hr:Region.ready md ops listed=[]:=by kernel_rfl):wpAny P md ops Q fuel listed a w:=wpAny_done hr h _
theorem Uu(i:Nat){oi:Oper}{v:Value}(h:wpAny P md ops Q fuel (listed.setIfInBounds i true) (a.put oi.dst v) w)
 (hi:ops[i]?=some oi:=by exact rfl) (hs:Region.noSelect ops=true:=by kernel_rfl) (hf:Region.free md ops listed i=true:=by kernel_rfl) (hr:(Region.ready md ops listed).contains i=true:=by decide +kernel)
 (hQ:∀ c a w,Q (.panic c) (a.put oi.dst v) w→Q (.panic c) a w:=by exact fun _ _ _ h=>h)
 (hy:Yields P ops oi v a:=by(refine Or.inl ⟨by rfl,?_⟩;intro wq;go_simp;(try with_reducible rfl))) :
 wpAny P md ops Q (fuel+1) listed a w:=wpAny_take hi hs hf hr hQ hy h
theorem SN(rs:List Nat)(h:AllReady P md ops Q fuel listed a w rs)(hr:Region.ready md ops listed=rs:=by decide +kernel)(hne:rs≠[]:=by simp):wpAny P md ops Q (fuel+1) listed a w:=wpAny_ready hr hne h
theorem Uo(h:Q .normal a w)(hr:Region.ready md ops listed=[]:=by decide +kernel):wpAny P md ops Q fuel listed a w:=wpAny_done hr h _
theorem isA(h:wpAny P md ops Q fuel listed a w):wpAny P md ops Q fuel listed a w:=h
theorem arA{rs:List Nat}(h:AllReady P md ops Q fuel listed a w rs):AllReady P md ops Q fuel listed a w rs:=h
end
end
end Go.Proofs.YtfdlmcgcckkkdaaGreatDoor
