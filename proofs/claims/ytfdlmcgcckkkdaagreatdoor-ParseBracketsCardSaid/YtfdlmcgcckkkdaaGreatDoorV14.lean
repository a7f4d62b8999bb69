/- ParseWhole, part 14: what it stands on. -/
import Derived.Test.YtfdlmcgcckkkdaaGreatDoorV13
import Derived.Laws.OwnMore
import Derived.Deep.AppendLies
import Derived.Deep.Onto
import Derived.Deep.LoopGhost
import Derived.Deep.RegionHeld3
set_option linter.all false
set_option maxHeartbeats 40000000
set_option maxRecDepth 100000
namespace Go.Proofs.YtfdlmcgcckkkdaaGreatDoor
section
open Go.RowKit Lx Px
def Lst(w0 w:World)(v:Value)(l:List T):Prop:=∃ vs,w.ownsRow w0.heap.size 24 5 v l.length vs∧aW (fun b=>w0.heap.size≤b∧v.ownBlock≠some b) w l vs
theorem Lst.nil(w0 w:World):Lst w0 w (.slice none 0 0) []:=⟨[],World.ownsRow_nil _ _ _ _,by unfold aW;rfl⟩
theorem Lst.step{w0 w w':World}{pb:Nat}{v:Value}{l:List T}(h:Lst w0 w v l)(hp:pb<w0.heap.size)(g:w.grownBy w' (some pb)):Lst w0 w' v l:=by
 obtain⟨vs,h1,h2⟩:=h;refine⟨vs,h1.kept g ?_,h2.kept (fun _ hb _=>hb) g.size (fun b hb hl=>g.block b hl (fun e=>by cases e;have:=hb.1;omega))⟩
 by_cases hv:v.ownBlock=some pb
 ·have:=(h1.lt pb hv).1;omega
 ·exact .inr hv
theorem Lst.tree{w0 w:World}{v:Value}{l:List T}(h:Lst w0 w v l)(k n a:Int)(s:ByteArray):TrC (Fr w0) w (.mk k n a s l) [.int .i64 k,.int .i64 n,.int .i64 a,.string s,v]:=by
 obtain⟨vs,h1,h2⟩:=h;unfold TrC
 rcases h1.2 with ⟨rfl,h0⟩|⟨g,cap,cur,rfl,hB,hg,rest⟩
 ·exact⟨none,0,by rw[h0],fun hne=>absurd (List.eq_nil_of_length_eq_zero h0) hne,by rw[h0];exact Nat.le_refl _⟩
 ·refine⟨_,cap,rfl,fun _=>⟨g,0,vs,rfl,hB,(Array.getElem?_eq_some_iff.1 hg).1,h2.kept (fun _ hb _=>hb.1) (Nat.le_refl _) (fun _ _ _=>rfl),fun i u hi=>?_⟩,rest.1⟩;have:=h1.cells (g:=g) rfl _ _ hi;have e:∀ n,(⟨g,0,none⟩:Addr).add n=⟨g,n,none⟩:=fun n=>by unfold Addr.add;split<;>simp_all
  rw[e]at this;rw[Nat.zero_add];exact this
theorem Lst.form{w0 w:World}{v:Value}{l:List T}(h:Lst w0 w v l):∃ ao cap,v=.slice ao l.length cap:=by
 obtain⟨vs,h1,h2⟩:=h
 rcases h1.2 with ⟨rfl,h0⟩|⟨g,cap,cur,rfl,_⟩
 ·exact⟨none,0,by rw[h0]⟩
 ·exact⟨_,cap,rfl⟩
theorem TrC.one{av:Nat→Prop}{w:World}{t:T}{us:List Value}(h:TrC av w t us):∀ u∈us,u.oneCell'=true:=by
 obtain⟨k,n,a,s,l⟩:=t;unfold TrC at h;obtain⟨ao,cap,rfl,_⟩:=h;intro u hu
 simp at hu
 rcases hu with rfl|rfl|rfl|rfl|rfl<;>rfl
theorem Lst.one{w0 w:World}{t:T}{us:List Value}(h:TrC (Fr w0) w t us)(hs:w0.heap.size≤w.heap.size):Lst w0 (w.alloc (.cells us.toArray 24)) (.slice (some ⟨w.heap.size,0,none⟩) 1 1) [t]:=by
 have hl:=h.len;refine⟨us,?_,?_⟩
 ·have:=World.ownsRow_lit (base:=w0.heap.size) (e:=24) (size:=5) w us.toArray 1 hs (by decide) (by simp[hl])
  simpa using this
 ·refine aW.one (h.kept (fun b hb hlt=>⟨hb,?_⟩) (by simp) (fun b _ hlt=>Below.heap_alloc w _ b hlt))
  show some w.heap.size≠some b
  intro e;cases e;omega
theorem tX: (Tryz.prog.info? 24).map (fun i=>(i.zero,i.size,i.bytes))=some (some (.agg z5q),5,64):=by kernel_rfl
theorem vA: Tryz.prog.underlying 22=some (.slice 24):=by kernel_rfl
theorem fL{ops:Array Oper}{rest:List Oper}{o:Oper}{a:Act}{Q:Exit→Act→World→Prop}(hgd:o.guard=none)(s x:Operand)(ho:o.op=.call { callee:=.builtin .append,args:=#[s,x],argTypes:=#[22,22] })(w0 w:World)(v:Value)(l:List T)(hs:a.eval s=v)(hL:Lst w0 w v l)(t:T)(us:List Value)(ht:TrC (fun b=>w0.heap.size≤b∧v.ownBlock≠some b) w t us)(hx:a.eval x=.slice (some ⟨w.heap.size,0,none⟩) 1 1)(hw:w0.heap.size≤w.heap.size)(hl:l.length≤1000000)(hK:∀ v' w',Lst w0 w' v' (l++[t])→Below w0.heap.size w w'→wpList Tryz.prog ops Q rest (a.put o.dst v') w'):wpList Tryz.prog ops Q (o::rest) a (w.alloc (.cells us.toArray 24)):=by
 obtain⟨i0,hi0,hz0,hz1,hz2⟩:=info_parts tX;obtain⟨vs,h1,h2⟩:=hL;have hlen:=ht.len;refine wpList_append_lies _ hgd s x 22 ho w0.heap.size 24 i0 _ 5 64 vA hi0 hz0 hz1 hz2 rfl (by decide) v l.length vs hs (h1.alloc _) ⟨w.heap.size,0,none⟩ 1 1 us hx (by simp[hlen]) (World.news_of_block (by simpa using heap_alloc_new w (.cells us.toArray 24))) ht.one (by decide) (by unfold maxLen;omega) (by omega) (by simp;omega) _ rfl ?_;intro g cap w' hown hgrow hor hg;have hal:∀ k,k<w.heap.size→(w.alloc (.cells us.toArray 24)).heap[k]?=w.heap[k]?:=fun k hk=>Below.heap_alloc w _ k hk
 refine hK _ w' ⟨vs++us,by simpa using hown,?_⟩ ?_
 ·have hk:∀ b,(w0.heap.size≤b∧v.ownBlock≠some b)→b<w.heap.size→w'.heap[b]?=w.heap[b]?:=fun b hb hlt=>(hgrow.block b (by simp;omega) (fun e=>hb.2 e.symm)).trans (hal b hlt)
  have ha:∀ b,(w0.heap.size≤b∧v.ownBlock≠some b)→b<w.heap.size→(w0.heap.size≤b∧(Value.slice (some ⟨g,0,none⟩) (l.length+1) cap).ownBlock≠some b):=by
   intro b hb hlt;refine⟨hb.1,fun e=>?_⟩;simp only[Value.ownBlock,Option.some.injEq]at e
   subst e
   rcases hor with h|h
   ·exact hb.2 h
   ·simp at h;omega
  have hsz:w.heap.size≤w'.heap.size:=by have:=hgrow.size;simp at this;omega
  exact(h2.kept ha hsz hk).app (aW.one (ht.kept ha hsz hk))
 ·refine((aC w _).mono hw).trans ⟨hgrow.os,hgrow.tape,hgrow.output,hgrow.size,fun k hk=>hgrow.block k (by simp;omega) (fun e=>?_)⟩;have:=(h1.lt k e.symm).1;omega
def kS(pb:Nat)(L:List T3)(w:World)(r:R (List T))(e:Ending)(w':World):Prop:=match r with
 | .ok (l,j)=>∃ v,e=.returned v∧Lst w w' v l∧Ok pb L j w w'
 | .error a=>e=pan a∧w.grownBy w' (some pb)
theorem kS.ok{pb:Nat}{L:List T3}{w w':World}{r:R (List T)}{l:List T}{j:Nat}{v:Value}(h:r=.ok (l,j))(ht:Lst w w' v l)(k:Ok pb L j w w'):kS pb L w r (.returned v) w':=by rw[h];exact⟨v,rfl,ht,k⟩
theorem kS.err{pb:Nat}{L:List T3}{w w':World}{r:R (List T)}(a:Nat)(h:r=.error a)(k:w.grownBy w' (some pb)):kS pb L w r (pan a) w':=by rw[h];exact⟨rfl,k⟩
def Reads(K:FuncId)(pb:Nat)(L:List T3)(lo:Nat)(read:Nat→R T):Prop:=∀ i w,lo≤i→PS w pb L i→Calls Tryz.prog K #[pq pb] w (aD pb L w (read i))
def vT(k n a:Int)(s:ByteArray)(ao:Option Addr)(m c:Nat):List Value:=[.int .i64 k,.int .i64 n,.int .i64 a,.string s,.slice ao m c]
theorem aD.split{pb:Nat}{L:List T3}{w w':World}{r:R T}{e:Ending}(h:aD pb L w r e w'):(∃ t j k n a s ao m c,r=.ok (t,j)∧e=.returned (tg k n a s ao m c)∧TrC (Fr w) w' t (vT k n a s ao m c)∧Ok pb L j w w')∨(∃ a,r=.error a∧e=pan a∧w.grownBy w' (some pb)):=by
 cases r with
 | ok tj=>
  obtain⟨t,j⟩:=tj;obtain⟨us,h1,h2,h3⟩:=h;have h4:=h2;obtain⟨k,n,a,s,l⟩:=t;unfold TrC at h4;obtain⟨ao,c,rfl,_⟩:=h4;exact .inl ⟨_,j,k,n,a,s,ao,_,c,rfl,h1,h2,h3⟩
 | error a=>exact .inr ⟨a,rfl,h⟩
theorem TrC.beside{w0 w w':World}{v:Value}{l:List T}{t:T}{us:List Value}(hL:Lst w0 w v l)(hs:w0.heap.size≤w.heap.size)(ht:TrC (Fr w) w' t us):TrC (fun b=>w0.heap.size≤b∧v.ownBlock≠some b) w' t us:=by
 obtain⟨vs,h1,_⟩:=hL;refine ht.kept (fun b hb _=>⟨Nat.le_trans hs hb,fun e=>?_⟩) (Nat.le_refl _) (fun _ _ _=>rfl);have:=(h1.lt b e).2;unfold Fr at hb;omega
theorem Ok.new{pb j:Nat}{L:List T3}{w w1 w2:World}(h:Ok pb L j w w1)(hp:pb<w.heap.size)(b:Below w.heap.size w1 w2):Ok pb L j w w2:=
 ⟨⟨b.os.trans h.1.os,b.tape.trans h.1.tape,b.output.trans h.1.output,Nat.le_trans h.1.size b.size,fun k hk hn=>(b.block k hk).trans (h.1.block k hk hn)⟩,h.2.Rk b.size (fun k hk=>b.block k (by omega))⟩
theorem eI(K:FuncId)(hK:∀ args w,(callFunc K args).run Tryz.prog w=.ok (.enter K args) w)(pb:Nat)(L:List T3)(lo:Nat)(read:Nat→R T)(hr:Reads K pb L lo read)(up:∀ i,Up (i+1) (read i))(most:Nat)(h1:1≤most)(hm:most≤1000000)(i:Nat)(hi:lo≤i)(w:World)(h:PS w pb L i):Calls Tryz.prog 127 #[pq pb,most,.func (.func K) #[pq pb] #[]] w (kS pb L w (eD (lk L) most read i)):=by
 have HU:=hdq (show eD (lk L) most read i=aB (read i) fun x j=>gK (lk L) read (most - 1) [x] j from rfl);go_enter Tryz.func127,Tryz.ntmps127;go_upto_block 1 with fail;refine(hr i _ hi h).mono ?_;intro e w1 hp;have hpl:=h.lt;have hbd:=h.bd
 rcases hp.split with ⟨t,j,k,n,a,s,ao,m,c,hr1,rfl,ht,hok⟩|⟨a,hr1,rfl,hg⟩
 ·have hj:i+1≤j:=up i t j hr1;have hone:=Lst.one ht hok.1.size;have hok2:=hok.then (aC w1 (.cells (vT k n a s ao m c).toArray 24));have hjl:=hok.2.le;have HR:=hdq (show eD (lk L) most read i=gK (lk L) read (most - 1) [t] j by rw[HU.out,hr1];rfl);clear hp hr1 hok ht HU h;go_upto_region 2 with fail;replace hone:Lst w (w1.alloc (.cells (tg k n a s ao m c) 24)) _ [t]:=hone;replace hok2:Ok pb L j w (w1.alloc (.cells (tg k n a s ao m c) 24)):=hok2;generalize w1.alloc (.cells (tg k n a s ao m c) 24)=w2 at hone hok2 ⊢
  go_loopg [7] (L.length - j) (fun g v wr=>∃ (l:List T) (jj:Nat),Lst w wr v l∧Ok pb L jj w wr∧i+1≤jj∧g=L.length - jj∧1≤l.length∧l.length≤most∧eD (lk L) most read i=gK (lk L) read (most - l.length) l jj)
  case atStart=>exact⟨[t],j,hone,hok2,hj,rfl,Nat.le_refl _,h1,HR.out⟩
  case round=>
   obtain⟨l,jj,hL,hO,hij,hg,hl1,hlm,hq⟩:=hrel;have HQ:=hdq hq;have HG:=hdq hg;clear hq hg hone hok2 HR;obtain⟨bo,cap,rfl⟩:=hL.form;have hjL:=hO.2.le
   by_cases hlt:l.length<most
   ·have hlt':(l.length:Int)<(most:Int):=by omega
    have hT:=iY pb L jj ⟨#[44]⟩ wr hO.2;obtain⟨mm,hmm⟩:∃ mm,most - l.length=mm+1:=⟨most - l.length - 1,by omega⟩
    cases hs:sgn (lk L) jj [⟨#[44]⟩] with
    | true=>
     rw[hs]at hT
     have HQ2 := hdq (show eD (lk L) most read i = aB (read (jj + 1)) fun x j' => gK (lk L) read mm (l ++ [x]) j' by
       rw [HQ.out, hmm]
       conv => lhs; unfold gK
       rw [if_pos (show sgn (lk L) jj [mU] = true from hs)])
     have hjlt:=kR hs;clear HQ hs;go_upto_region 3 with (go_at_call 135;refine hT.mono ?_;rintro e w3 ⟨rfl,h3⟩);replace h3:Ok pb L (jj+1) wr w3:=h3;have hL3:=hL.step hpl h3.1;have hO3:=hO.trans h3;clear hT hL hO h3;go_upto_block 3 with fail;refine(hr (jj+1) _ (by omega) hO3.2).mono ?_;intro e w4 hp
     rcases hp.split with ⟨t',j',k',n',a',s',ao',m',c',hr1,rfl,ht,hok⟩|⟨a',hr1,rfl,hg4⟩
     ·have hL4:=hL3.step hpl hok.1;have ht4:=TrC.beside hL3 hO3.1.size ht;have hO4:=hO3.trans hok;have hj':jj+2≤j':=up (jj+1) t' j' hr1;have hjl':=hok.2.le;have HQ3:=hdq (show eD (lk L) most read i=gK (lk L) read mm (l++[t']) j' by rw[HQ2.out,hr1];rfl);clear HQ2 hr1 hp hL3 hO3 hok ht;go_wp2_with (at_builtin;go_loud (refine fL rfl _ _ rfl w w4 (.slice bo l.length cap) l rfl hL4 t' (vT k' n' a' s' ao' m' c') ht4 rfl ?dd1 ?dd2 ?_))
      case dd1=>exact hO4.1.size
      case dd2=>omega
      intro v5 w5 hL5 hb5;have hO5:=hO4.new hpl hb5;clear hL4 ht4 hO4;go_wp2_with fail
      go_roundg (L.length - j')
      case measure=>rw[HG.out];omega
      case rel=>exact⟨l++[t'],j',hL5,hO5,by omega,rfl,by simp,by rw[List.length_append];show l.length+1≤_;omega,by rw[HQ3.out,List.length_append];show _=gK (lk L) read (most - (l.length+1)) _ _;rw[show most - (l.length+1)=mm from by omega]⟩
     ·unfold pan;go_wp2_with fail;exact⟨rfl,kS.err a' (by rw[HQ2.out,hr1];rfl) (hO3.1.trans hg4)⟩
    | false=>
     rw[hs]at hT
     have HQ2 := hdq (show eD (lk L) most read i = .ok (l, jj) by
       rw [HQ.out, hmm]
       unfold gK
       rw [if_neg (by rw [show sgn (lk L) jj [mU] = false from hs]; decide)])
     clear HQ hs;go_wp2_with (go_at_call 135;refine hT.mono ?_;rintro e w3 ⟨rfl,h3⟩);go_ret;exact kS.ok HQ2.out (hL.step hpl h3.1) (hO.trans h3)
   ·have hlt':¬ (l.length:Int)<(most:Int):=by omega
    have HQ2 := hdq (show eD (lk L) most read i = .ok (l, jj) by
      rw [HQ.out, show most - l.length = 0 from by omega]
      unfold gK; rfl)
    clear HQ;go_wp2_with fail;go_ret;exact kS.ok HQ2.out hL hO
 ·unfold pan;go_wp2_with fail;exact⟨rfl,kS.err a (by rw[HU.out,hr1];rfl) hg⟩
theorem pG(x y:Int)(s:ByteArray)(w:World):(Instr.field 43 (.agg #[.int .i64 x,.string s,.int .i64 y]) 0).run Tryz.prog w=.ok (.int .i64 x) w:=by kernel_rfl
theorem Mp(x y:Int)(s:ByteArray)(w:World):(Instr.field 43 (.agg #[.int .i64 x,.string s,.int .i64 y]) 1).run Tryz.prog w=.ok (.string s) w:=by kernel_rfl
theorem gF(pb:Nat)(L:List T3)(i a:Nat)(ha:a≤9)(w:World)(h:PS w pb L i):Calls Tryz.prog 144 #[pq pb,a] w fun e w'=>e=.returned (.bool (bQ (lk L) (i+a)))∧Below w.heap.size w w':=by
 have HC:=hdq (show bQ (lk L) (i+a)=((tok (lk L) (i+a)).kind==2||(tok (lk L) (i+a)).kind==3||(tok (lk L) (i+a)).kind==4||(tok (lk L) (i+a)).kind==5)from rfl);have hT:=aX pb L i a ha w h;have hf0:=pG;generalize hk:(tok (lk L) (i+a)).kind=k at HC;rw[show (tok (L.map T3.tk) (i+a)).kind=k from hk]at hT;clear hk h
 by_cases h2:k=2
 ·go_enter Tryz.func144,Tryz.ntmps144;go_wp2_with (go_at_call 125;refine hT.mono ?_;rintro e w1 ⟨⟨p,rfl⟩,hb⟩);go_ret;exact⟨aR (by rw[HC.out,h2];rfl),hb⟩
 ·by_cases h3:k=3
  ·go_enter Tryz.func144,Tryz.ntmps144;go_wp2_with (go_at_call 125;refine hT.mono ?_;rintro e w1 ⟨⟨p,rfl⟩,hb⟩);go_ret;exact⟨aR (by rw[HC.out,h3];rfl),hb⟩
  ·by_cases h4:k=4
   ·go_enter Tryz.func144,Tryz.ntmps144;go_wp2_with (go_at_call 125;refine hT.mono ?_;rintro e w1 ⟨⟨p,rfl⟩,hb⟩);go_ret;exact⟨aR (by rw[HC.out,h4];rfl),hb⟩
   ·go_enter Tryz.func144,Tryz.ntmps144;go_wp2_with (go_at_call 125;refine hT.mono ?_;rintro e w1 ⟨⟨p,rfl⟩,hb⟩);go_ret;exact⟨aR (by rw[HC.out,beq_eq_false_iff_ne.2 h2,beq_eq_false_iff_ne.2 h3,beq_eq_false_iff_ne.2 h4]),hb⟩
theorem oI{L:List T3}{i:Nat}(h:bQ (lk L) i=true):i<L.length:=by
 refine pK fun e=>?_;unfold bQ at h;rw[e]at h;exact absurd h (by decide)
theorem eC(pb:Nat)(L:List T3)(i:Nat)(w:World)(h:PS w pb L i):Calls Tryz.prog 145 #[pq pb] w (aD pb L w (bH (lk L) i)):=by
 go_enter Tryz.func145,Tryz.ntmps145;go_upto_region 1 with fail;obtain⟨t0,b0⟩:=tv0 w;generalize World.alloc w _=w0 at t0 b0 ⊢;have h0:=h.below b0;have hpl:=h.lt;have hle:=h.le;have hbd:=h.bd;have hne:w.heap.size≠pb:=by omega
 cases hc:bQ (lk L) i with
 | false=>
  have HR:=hdq (show bH (lk L) i=.error i by unfold bH;rw[if_neg (by rw[hc];decide)]);have hN:=gF pb L i 0 (by decide) w0 h0;rw[Nat.add_zero,hc]at hN;clear hc;go_upto_block 2 with (go_at_call 144;refine hN.mono ?_;rintro e w1 ⟨rfl,h1⟩);refine(rG pb L i _ (h0.below h1)).mono ?_;rintro e w3 ⟨rfl,rfl⟩;unfold pan;go_wp2_with fail;exact⟨rfl,aD.err i HR.out (aF _ (b0.trans (h1.mono b0.size)))⟩
 | true=>
  have hlt:=oI hc;have hN:=gF pb L i 0 (by decide) w0 h0;rw[Nat.add_zero,hc]at hN;have HR:=hdq (show bH (lk L) i=.ok (.mk 1 (tok (lk L) (i+0)).kind i (tok (lk L) (i+0)).text [],i+1)by unfold bH;rw[if_pos hc];rfl);clear hc;go_upto_region 4 with (first|(go_at_call 144;refine hN.mono ?_;rintro e w1 ⟨rfl,hb1⟩;have h1:=h0.below hb1;have t1:=t0.below hb1)|(go_at_call 125;refine(aX pb L i 0 (by decide) _ h1).mono ?_;rintro e w2 ⟨⟨p,rfl⟩,hb2⟩;have h2:=h1.below hb2;have t2:=t1.below hb2));have B2:=(b0.trans (hb1.mono b0.size)).trans (hb2.mono (Nat.le_trans b0.size hb1.size));have n3:=heap_alloc_new w2 (.cells #[.int .i64 (tok (lk L) (i+0)).kind,.string (tok (lk L) (i+0)).text,.int .i64 p] 43);have b3:=aC w2 (.cells #[.int .i64 (tok (lk L) (i+0)).kind,.string (tok (lk L) (i+0)).text,.int .i64 p] 43);generalize w2.alloc (.cells #[.int .i64 (tok (lk L) (i+0)).kind,.string (tok (lk L) (i+0)).text,.int .i64 p] 43)=w3 at n3 b3 ⊢;have h3:=h2.below b3;have t3:=t2.below b3;have B3:=B2.trans (b3.mono B2.size);generalize (tok (lk L) (i+0)).kind=tk at n3 HR;generalize (tok (lk L) (i+0)).text=tt at n3 HR;obtain⟨c1,f1⟩:=h3.cells;have hn2:pb≠w2.heap.size:=by have:=B2.size;omega
  have hn3:w.heap.size≠w2.heap.size:=by have:=t2.lt;omega
  clear hN h0 h1 h2 t0 t1 t2 b0 hb1 hb2 b3 B2;go_upto_region 5 with fail;have h4:=h3.set (i+1) (by omega);have g4:=(aF (some pb) B3).trans (dJ w3 pb 1 (.int .i64 ((i+1:Nat):Int)));have t4:=t3.step hne (dJ w3 pb 1 (.int .i64 ((i+1:Nat):Int)));have n4:=((dJ w3 pb 1 (.int .i64 ((i+1:Nat):Int))).block w2.heap.size (Array.getElem?_eq_some_iff.1 n3).1 (fun e=>hn2 (by cases e;rfl))).trans n3;rw[show ((i+1:Nat):Int)=(i:Int)+1 from by omega]at h4 g4 t4 n4;generalize w3.setCell ⟨pb,1,none⟩ (.int .i64 ((i:Int)+1))=w4 at h4 g4 t4 n4 ⊢;obtain⟨d1,_⟩:=h4.cells;have d2:w4.cell? ⟨w2.heap.size,0,none⟩=some (.int .i64 tk):=cell_of_row _ _ 0 _ _ _ n4;have d3:w4.cell? ⟨w2.heap.size,1,none⟩=some (.string tt):=cell_of_row _ _ 1 _ _ _ n4;have hO:Ok pb L (i+1) w w4:=⟨g4,h4⟩
  clear n4 n3 h3 t3 c1 f1;have d1':w4.cell? ⟨pb,1,none⟩=some (.int .i64 ((i:Int)+1)):=d1;have hw5:IntKind.i64.wrap ((i:Int)+1 - 1)=i:=by rw[IntWalk.i64_in _ (by omega)];omega
  clear d1 hO;have hO:Ok pb L (i+1) w w4:=⟨g4,h4⟩
  have T4:=hdq t4;have:=TV.facts t4;clear t4 g4 h4
  go_still_tail 10,(by kernel_rfl)
  change wpList _ _ _ _ _ w4.drew;go_wp2_with fail;refine rtv ((T4.out.set _ _ _ _ _).drew) Tryz.results145 ?_;exact aD.ok HR.out _ rfl (TrC.leaf _ _ _ _ _ _ _) ((hO.oM hpl (Nat.le_refl _) _ _ _ _ _).drew)
abbrev st5(w:World)(b:Nat)(x y z u v:Value):World:=((((w.setCell ⟨b,0,none⟩ x).setCell ⟨b,1,none⟩ y).setCell ⟨b,2,none⟩ z).setCell ⟨b,3,none⟩ u).setCell ⟨b,4,none⟩ v
theorem TrC.oM{w:World}{t:T}{us:List Value}{B:Nat}{av:Nat→Prop}(h:TrC av w t us)(hB:∀ b,av b→b<w.heap.size→b≠B)(x y z u v:Value):TrC av (st5 w B x y z u v) t us:=
 h.kept (fun _ hb _=>hb) (bO (Below.refl 0 w) (Nat.zero_le _) x y z u v).size (fun b hb hl=>nV (fun e=>hB b hb hl e.symm) _ _ _ _ _ _)
theorem tZ(pb:Nat)(L:List T3)(lo:Nat)(expr:Nat→R T)(hE:Reads 52 pb L lo expr):Reads 213 pb L lo (aP (lk L) expr):=by
 intro i w hi h;go_enter Tryz.func213,Tryz.ntmps213;go_upto_region 1 with fail;obtain⟨t0,b0⟩:=tv0 w;generalize World.alloc w _=w0 at t0 b0 ⊢;have h0:=h.below b0;have hpl:=h.lt;have hle:=h.le;have hbd:=h.bd;have hne:w.heap.size≠pb:=by omega
 have hT:=iY pb L i ⟨#[42]⟩ w0 h0
 cases hs:sgn (lk L) i [⟨#[42]⟩] with
 | true=>
  have HR:=hdq (show aP (lk L) expr i=.ok (node 7 i [],i+1)by unfold aP;rw[if_pos (show sgn (lk L) i [uF]=true from hs)]);rw[hs]at hT;clear hs;go_upto_region 2 with (go_at_call 135;refine hT.mono ?_;rintro e w1 ⟨rfl,h1⟩);replace h1:Ok pb L (i+1) w0 w1:=h1;have t1:=t0.step hne h1.1;have hO:=Ok.below b0 h1;obtain⟨c1,_⟩:=h1.2.cells;replace c1:w1.cell? ⟨pb,1,none⟩=some (.int .i64 ((i:Int)+1)):=c1;have hw5:IntKind.i64.wrap (i:Int)=i:=IntWalk.i64_in _ (by omega);clear hT h1 h0 h;go_wp2_with (go_at_call 97;refine(iZ _ _ _ _ _ _).mono ?_;rintro e w2 ⟨rfl,hb⟩;have t2:=t1.below hb;have:=TV.facts t2);refine rtv (t2.set _ _ _ _ _) Tryz.results213 ?_;exact aD.ok HR.out (vT 7 0 i ⟨#[]⟩ none 0 0) (by simp[hw5,vT]) (TrC.leaf _ _ 7 0 i _ _) ((hO.then hb).oM hpl (Nat.le_refl _) _ _ _ _ _)
 | false=>
  have HR:=hdq (show aP (lk L) expr i=expr i by unfold aP;rw[if_neg (by rw[show sgn (lk L) i [uF]=false from hs];decide)]);rw[hs]at hT;clear hs;go_upto_block 3 with (go_at_call 135;refine hT.mono ?_;rintro e w1 ⟨rfl,h1⟩);replace h1:Ok pb L i w0 w1:=h1;refine(hE i w1 hi h1.2).mono ?_;intro e w2 hp
  rcases hp.split with ⟨t,j,k',n',a',s',ao',m',c',hr1,rfl,ht,hok⟩|⟨a,hr1,rfl,hg⟩
  ·have t1:=t0.step hne h1.1;have hlt1:=t1.lt;have t2:=t1.step hne hok.1;have:=TV.facts t2;clear hp h hT h0;go_wp2_with fail;refine rtv (t2.set _ _ _ _ _) Tryz.results213 ?_;exact aD.ok (by rw[HR.out,hr1]) _ rfl ((TrC.oM ht (fun b hb hl=>by unfold Fr at hb;omega) _ _ _ _ _).since (w0:=w) (Nat.le_trans b0.size h1.1.size)) ((Ok.below b0 (h1.trans hok)).oM hpl (Nat.le_refl _) _ _ _ _ _)
  ·unfold pan;go_wp2_with fail;exact⟨rfl,aD.err a (by rw[HR.out,hr1]) ((aF _ b0).trans (h1.1.trans hg))⟩
theorem TV.RN{w:World}{b:Nat}{x y z u v:Value}(h:TV w b x y z u v)(y':Value):TV (w.setCell ⟨b,1,none⟩ y') b x y' z u v:=by
 unfold TV at *; simp[World.setCell,Array.getElem?_modify,h]
theorem TV.Ru{w:World}{b:Nat}{x y z u v:Value}(h:TV w b x y z u v)(v':Value):TV (w.setCell ⟨b,4,none⟩ v') b x y z u v':=by
 unfold TV at *; simp[World.setCell,Array.getElem?_modify,h]
theorem TV.off{w:World}{b B:Nat}{x y z u v:Value}(h:TV w b x y z u v)(hn:b≠B)(j:Nat)(y':Value):TV (w.setCell ⟨B,j,none⟩ y') b x y z u v:=
 (Below.heap_setCell _ _ _ _ (fun e=>hn (by simpa using e))).trans h
theorem Ok.put{pb B j:Nat}{L:List T3}{w w1:World}(h:Ok pb L j w w1)(hp:pb<w.heap.size)(hB:w.heap.size≤B)(k:Nat)(y:Value):Ok pb L j w (w1.setCell ⟨B,k,none⟩ y):=
 h.new hp ((Below.refl w.heap.size w1).setCell (p:=⟨B,k,none⟩) hB y)
theorem kS.split{pb:Nat}{L:List T3}{w w':World}{r:R (List T)}{e:Ending}(h:kS pb L w r e w'):(∃ l j ao c,r=.ok (l,j)∧e=.returned (.slice ao l.length c)∧Lst w w' (.slice ao l.length c) l∧Ok pb L j w w')∨(∃ a,r=.error a∧e=pan a∧w.grownBy w' (some pb)):=by
 cases r with
 | ok lj=>
  obtain⟨l,j⟩:=lj;obtain⟨v,h1,h2,h3⟩:=h;obtain⟨ao,c,rfl⟩:=h2.form;exact .inl ⟨l,j,ao,c,rfl,h1,h2,h3⟩
 | error a=>exact .inr ⟨a,rfl,h⟩
theorem mL.split{pb:Nat}{L:List T3}{w w':World}{r:R Unit}{e:Ending}(h:mL pb L w r e w'):(∃ j,r=.ok ((),j)∧e=.returned (.tuple #[])∧Ok pb L j w w')∨(∃ a,r=.error a∧e=pan a∧w.grownBy w' (some pb)):=by
 cases r with
 | ok lj=>obtain⟨⟨⟩,j⟩:=lj;exact .inl ⟨j,rfl,h⟩
 | error a=>exact .inr ⟨a,rfl,h⟩
theorem QR: ∀ args w,(callFunc 213 args).run Tryz.prog w=.ok (.enter 213 args) w:=
 enters_of Tryz.func213 (by decide) rfl
theorem BJ(pb:Nat)(L:List T3)(lo:Nat)(expr:Nat→R T)(up:∀ i,Up (i+1) (expr i))(hE:Reads 52 pb L (lo+1) expr):Reads 176 pb L lo (nY (lk L) expr):=by
 intro i w hi h;go_enter Tryz.func176,Tryz.ntmps176;go_upto_region 1 with fail;obtain⟨t0,b0⟩:=tv0 w;generalize World.alloc w _=w0 at t0 b0 ⊢;have h0:=h.below b0;have hpl:=h.lt;have hle:=h.le;have hbd:=h.bd;have hne:w.heap.size≠pb:=by omega
 obtain⟨c0,_⟩:=h0.cells;have hN:=fT pb L i w0 h0
 have HP := hdq (show nY (lk L) expr i = aB (fN (lk L) i) fun s j =>
   if sgn (lk L) j [sLP] then
     (if sgn (lk L) (j + 1) [sRP] then .ok (.mk 3 1 i s [], j + 2)
      else aB (eD (lk L) 16 (aP (lk L) expr) (j + 1)) fun l j' => aB (aM (lk L) j' sRP) fun _ j2 => .ok (.mk 3 1 i s l, j2))
   else .ok (.mk 3 0 i s [], j) from rfl)
 cases hn:fN (lk L) i with
 | error a=>
  rw[hn]at hN;go_wp2_with (go_at_call 95;refine hN.mono ?_;rintro e w1 ⟨rfl,h1⟩;unfold pan);exact⟨rfl,aD.err a (by rw[HP.out,hn];rfl) ((aF _ b0).trans h1)⟩
 | ok sj=>
  obtain⟨s,j⟩:=sj;rw[hn]at hN;have hj:i+1≤j:=hG (lk L) i s j hn
  have HP2 := hdq (show nY (lk L) expr i = if sgn (lk L) j [sLP] then
    (if sgn (lk L) (j + 1) [sRP] then .ok (.mk 3 1 i s [], j + 2)
     else aB (eD (lk L) 16 (aP (lk L) expr) (j + 1)) fun l j' => aB (aM (lk L) j' sRP) fun _ j2 => .ok (.mk 3 1 i s l, j2))
    else .ok (.mk 3 0 i s [], j) by rw [HP.out, hn]; rfl)
  clear hn HP;go_upto_region 3 with (go_at_call 95;refine hN.mono ?_;rintro e w1 ⟨rfl,h1⟩);have t1:=t0.step hne h1.1;have x2:=TV.new w1 (.int .i64 3) (.int .i64 0) i s (.slice none 0 0);have t2:=t1.below (aC w1 (.cells (tg 3 0 i s none 0 0) 24));have hO:=(Ok.below b0 h1).then (aC w1 (.cells (tg 3 0 i s none 0 0) 24));have hX:w.heap.size<w1.heap.size:=t1.lt;generalize hB:w1.heap.size=B at x2 hX;generalize w1.alloc (.cells (tg 3 0 i s none 0 0) 24)=w2 at x2 t2 hO ⊢;clear t0 t1 h1 h0 hN c0 h hB;have hnB:B≠pb:=by omega
  have hT:=iY pb L j ⟨#[40]⟩ w2 hO.2
  cases hs:sgn (lk L) j [⟨#[40]⟩] with
  | false=>
   have HR:=hdq (show nY (lk L) expr i=.ok (.mk 3 0 i s [],j)by rw[HP2.out,if_neg (by rw[show sgn (lk L) j [sLP]=false from hs];decide)]);rw[hs]at hT;clear hs HP2;go_wp2_with (go_at_call 135;refine hT.mono ?_;rintro e w3 ⟨rfl,h3⟩;have t3:=t2.step hne h3.1;have x3:=x2.step hnB h3.1;have:=TV.facts t3;have:=TV.facts x3);refine rtv (t3.set _ _ _ _ _) Tryz.results176 ?_;exact aD.ok HR.out _ rfl (TrC.leaf _ _ 3 0 i s _) ((hO.trans h3).oM hpl (Nat.le_refl _) _ _ _ _ _)
  | true=>
   have HP3 := hdq (show nY (lk L) expr i = if sgn (lk L) (j + 1) [sRP] then .ok (.mk 3 1 i s [], j + 2)
    else aB (eD (lk L) 16 (aP (lk L) expr) (j + 1)) fun l j' => aB (aM (lk L) j' sRP) fun _ j2 => .ok (.mk 3 1 i s l, j2) by rw [HP2.out, if_pos (show sgn (lk L) j [sLP] = true from hs)])
   rw[hs]at hT;clear hs HP2;go_upto_region 6 with (go_at_call 135;refine hT.mono ?_;rintro e w3 ⟨rfl,h3⟩;have t3:=t2.step hne h3.1;have x3:=x2.step hnB h3.1;have:=TV.facts x3);have hO4:=(hO.trans h3).put hpl (Nat.le_of_lt hX) 1 (.int .i64 1);have x4:=x3.RN (.int .i64 1);have t4:=t3.off (by omega:w.heap.size≠B) 1 (.int .i64 1);replace hO4:Ok pb L (j+1) w (w3.setCell ⟨B,1,none⟩ (.int .i64 1)):=hO4;have hX4:B<w3.heap.size:=x3.lt;generalize w3.setCell ⟨B,1,none⟩ (.int .i64 1)=w4 at hO4 x4 t4 ⊢;clear hT h3 t3 x3 t2 x2 hO;have hT:=iY pb L (j+1) ⟨#[41]⟩ w4 hO4.2
   cases hs:sgn (lk L) (j+1) [⟨#[41]⟩] with
   | true=>
    have HR:=hdq (show nY (lk L) expr i=.ok (.mk 3 1 i s [],j+2)by rw[HP3.out,if_pos (show sgn (lk L) (j+1) [sRP]=true from hs)]);rw[hs]at hT;clear hs HP3;go_wp2_with (go_at_call 135;refine hT.mono ?_;rintro e w5 ⟨rfl,h5⟩;have t5:=t4.step hne h5.1;have x5:=x4.step hnB h5.1;have:=TV.facts t5;have:=TV.facts x5);refine rtv (t5.set _ _ _ _ _) Tryz.results176 ?_;exact aD.ok HR.out _ rfl (TrC.leaf _ _ 3 1 i s _) ((hO4.trans h5).oM hpl (Nat.le_refl _) _ _ _ _ _)
   | false=>
    have HP4:=hdq (show nY (lk L) expr i=aB (eD (lk L) 16 (aP (lk L) expr) (j+1)) fun l j'=>aB (aM (lk L) j' sRP) fun _ j2=>.ok (.mk 3 1 i s l,j2)by rw[HP3.out,if_neg (by rw[show sgn (lk L) (j+1) [sRP]=false from hs];decide)]);rw[hs]at hT;clear hs HP3;go_upto_block 8 with (go_at_call 135;refine hT.mono ?_;rintro e w5 ⟨rfl,h5⟩;have t5:=t4.step hne h5.1;have x5:=x4.step hnB h5.1);replace h5:Ok pb L (j+1) w4 w5:=h5;have hO5:=hO4.trans h5;have hB5:=x5.lt;clear hT t4 x4 hO4;refine(eI _ QR pb L (lo+1) (aP (lk L) expr) (tZ pb L (lo+1) expr hE) (gL (lk L) up) 16 (by decide) (by decide) (j+1) (by omega) w5 hO5.2).mono ?_;intro e w6 hp
    rcases hp.split with ⟨l,j',ao,c,hr1,rfl,hL,hok⟩|⟨a,hr1,rfl,hg⟩
    ·have HP5:=hdq (show nY (lk L) expr i=aB (aM (lk L) j' sRP) fun _ j2=>.ok (.mk 3 1 i s l,j2)by rw[HP4.out,hr1];rfl);have t6:=(t5.step hne hok.1).off (by omega:w.heap.size≠B) 4 (.slice ao l.length c);have x6:=(x5.step hnB hok.1)
     have x7:=x6.Ru (.slice ao l.length c);have hO6:=(hO5.trans hok).put hpl (Nat.le_of_lt hX) 4 (.slice ao l.length c);have hT6:=(hL.step hB5 (dJ w6 B 4 (.slice ao l.length c))).tree 3 1 i s;have:=TV.facts x6;clear hp hr1 HP4 hL hok t5 x5;go_upto_region 9 with fail;generalize w6.setCell ⟨B,4,none⟩ (.slice ao l.length c)=w7 at t6 x7 hO6 hT6 ⊢;have hU:=Ac pb L j' ⟨#[41]⟩ w7 hO6.2;go_upto_block 9 with fail;refine hU.mono ?_;intro e w8 hq
     rcases hq.split with ⟨j2,hr2,rfl,hok2⟩|⟨a,hr2,rfl,hg2⟩
     ·have t8:=t6.step hne hok2.1;have x8:=x7.step hnB hok2.1;have hT8:=hT6.step (by omega:pb<w5.heap.size) hok2.1;have:=TV.facts t8;have:=TV.facts x8;go_wp2_with fail;refine rtv (t8.set _ _ _ _ _) Tryz.results176 ?_;exact aD.ok (by rw[HP5.out,show aM (lk L) j' sRP=_ from hr2];rfl) (vT 3 1 i s ao l.length c) rfl ((hT8.oM (fun b hb hl=>by unfold Fr at hb;omega) _ _ _ _ _).since hO5.1.size) ((hO6.trans hok2).oM hpl (Nat.le_refl _) _ _ _ _ _)
     ·unfold pan;go_wp2_with fail;exact⟨rfl,aD.err a (by rw[HP5.out,show aM (lk L) j' sRP=_ from hr2];rfl) (hO6.1.trans hg2)⟩
    ·unfold pan;go_wp2_with fail;exact⟨rfl,aD.err a (by rw[HP4.out,hr1];rfl) (hO5.1.trans hg)⟩
theorem wU(pb:Nat)(L:List T3)(lo:Nat)(expr:Nat→R T)(up:∀ i,Up (i+1) (expr i))(hE:Reads 52 pb L (lo+1) expr):Reads 160 pb L lo (iN (lk L) expr):=by
 intro i w hi h;have hPart:=BJ pb L lo expr up hE;have HU:=hdq (show iN (lk L) expr i=aB (nY (lk L) expr i) fun x j=>aB (fS (lk L) expr 7 [x] j) fun l j'=>.ok (node 2 i l,j')from rfl);go_enter Tryz.func160,Tryz.ntmps160;go_upto_region 1 with fail;obtain⟨t0,b0⟩:=tv0 w;generalize World.alloc w _=w0 at t0 b0 ⊢;have h0:=h.below b0;have hpl:=h.lt;have hpl0:=h0.lt;have hle:=h.le;have hbd:=h.bd;have hne:w.heap.size≠pb:=by omega
 have hlt0:=t0.lt;obtain⟨c0,_⟩:=h0.cells;go_upto_block 2 with fail;refine(hPart i _ hi h0).mono ?_;intro e w1 hp
 rcases hp.split with ⟨t,j,k,n,a,s,ao,m,c,hr1,rfl,ht,hok⟩|⟨a,hr1,rfl,hg⟩
 ·have hj:i+1≤j:=lN (lk L) up i t j hr1;have hone:=Lst.one ht hok.1.size;have hok2:=hok.then (aC w1 (.cells (vT k n a s ao m c).toArray 24));have t1:=(t0.step hne hok.1).below (aC w1 (.cells (vT k n a s ao m c).toArray 24));have hjl:=hok.2.le;have HR:=hdq (show iN (lk L) expr i=aB (fS (lk L) expr 7 [t] j) fun l j'=>.ok (node 2 i l,j')by rw[HU.out,hr1];rfl);clear hp hr1 hok ht HU h t0 h0 c0;go_upto_region 3 with fail;replace hone:Lst w0 (w1.alloc (.cells (tg k n a s ao m c) 24)) _ [t]:=hone;replace hok2:Ok pb L j w0 (w1.alloc (.cells (tg k n a s ao m c) 24)):=hok2;replace t1:TV (w1.alloc (.cells (tg k n a s ao m c) 24)) w.heap.size _ _ _ _ _:=t1;generalize w1.alloc (.cells (tg k n a s ao m c) 24)=w2 at hone hok2 t1 ⊢
  go_loopg [4] (L.length - j) (fun g v wr => ∃ (l : List T) (jj : Nat), Lst w0 wr v l ∧ Ok pb L jj w0 wr ∧ TV wr w.heap.size (.int .i64 0) (.int .i64 0) (.int .i64 0) (.string ⟨#[]⟩) (.slice none 0 0) ∧ i + 1 ≤ jj ∧ g = L.length - jj ∧ 1 ≤ l.length ∧ l.length ≤ 8 ∧
    iN (lk L) expr i = aB (fS (lk L) expr (8 - l.length) l jj) fun l j' => .ok (node 2 i l, j'))
  case atStart=>exact⟨[t],j,hone,hok2,t1,hj,rfl,Nat.le_refl _,by simp,HR.out⟩
  case round=>
   obtain⟨l,jj,hL,hO,tv,hij,hg,hl1,hlm,hq⟩:=hrel;have HQ:=hdq hq;have HG:=hdq hg;clear hq hg hone hok2 HR t1;obtain⟨bo,cap,rfl⟩:=hL.form;have hjL:=hO.2.le
   by_cases hlt:l.length<8
   ·have hlt':(l.length:Int)<8:=by omega
    have hT:=iY pb L jj ⟨#[46]⟩ wr hO.2;obtain⟨mm,hmm⟩:∃ mm,8 - l.length=mm+1:=⟨8 - l.length - 1,by omega⟩
    cases hs:sgn (lk L) jj [⟨#[46]⟩] with
    | true=>
     rw[hs]at hT
     have HQ2 := hdq (show iN (lk L) expr i = aB (aB (nY (lk L) expr (jj + 1)) fun x j' => fS (lk L) expr mm (l ++ [x]) j') fun l j' => .ok (node 2 i l, j') by
       rw [HQ.out, hmm]
       conv => lhs; unfold fS
       rw [if_pos (show sgn (lk L) jj [uM] = true from hs)])
     have hjlt:=kR hs;clear HQ hs;go_upto_block 4 with (go_at_call 135;refine hT.mono ?_;rintro e w3 ⟨rfl,h3⟩);replace h3:Ok pb L (jj+1) wr w3:=h3;have hL3:=hL.step hpl0 h3.1;have hO3:=hO.trans h3;have t3:=tv.step hne h3.1;clear hT hL hO h3 tv;refine(hPart (jj+1) _ (by omega) hO3.2).mono ?_;intro e w4 hp
     rcases hp.split with ⟨t',j',k',n',a',s',ao',m',c',hr1,rfl,ht,hok⟩|⟨a',hr1,rfl,hg4⟩
     ·have hL4:=hL3.step hpl0 hok.1;have ht4:=TrC.beside hL3 hO3.1.size ht;have hO4:=hO3.trans hok;have t4:=t3.step hne hok.1;have hj':jj+2≤j':=lN (lk L) up (jj+1) t' j' hr1;have hjl':=hok.2.le;have HQ3:=hdq (show iN (lk L) expr i=aB (fS (lk L) expr mm (l++[t']) j') fun l j'=>.ok (node 2 i l,j')by rw[HQ2.out,hr1];rfl);clear HQ2 hr1 hp hL3 hO3 hok ht t3;go_wp2_with (at_builtin;refine fL rfl _ _ rfl w0 w4 (.slice bo l.length cap) l rfl hL4 t' (vT k' n' a' s' ao' m' c') ht4 rfl ?dd1 ?dd2 ?_)
      case dd1=>exact hO4.1.size
      case dd2=>omega
      intro v5 w5 hL5 hb5;have hO5:=hO4.new hpl0 hb5;have t5:TV w5 w.heap.size _ _ _ _ _:=(hb5.block _ hlt0).trans t4;clear hL4 ht4 hO4 t4;go_wp2_with fail
      go_roundg (L.length - j')
      case measure=>rw[HG.out];omega
      case rel=>exact⟨l++[t'],j',hL5,hO5,t5,by omega,rfl,by simp,by rw[List.length_append];show l.length+1≤_;omega,by rw[HQ3.out,List.length_append];show _=aB (fS (lk L) expr (8 - (l.length+1)) _ _) _;rw[show 8 - (l.length+1)=mm from by omega]⟩
     ·unfold pan;go_wp2_with fail;exact⟨rfl,aD.err a' (by rw[HQ2.out,hr1];rfl) ((aF _ b0).trans (hO3.1.trans hg4))⟩
    | false=>
     rw[hs]at hT
     have HQ2 := hdq (show iN (lk L) expr i = .ok (node 2 i l, jj) by
       rw [HQ.out, hmm]
       unfold fS
       rw [if_neg (by rw [show sgn (lk L) jj [uM] = false from hs]; decide)]; rfl)
     clear HQ hs;go_wp2_with (first|(go_at_call 135;refine hT.mono ?_;rintro e w3 ⟨rfl,h3⟩)|(go_at_call 97;refine(iZ _ _ _ _ _ _).mono ?_;rintro e w4 ⟨rfl,hb⟩;have t4:=(tv.step hne h3.1).below hb;have:=TV.facts t4));refine rtv (t4.set _ _ _ _ _) Tryz.results160 ?_;have hL4:=(hL.step hpl0 h3.1).step hpl0 (aF (some pb) hb);exact aD.ok HQ2.out (vT 2 0 i ⟨#[]⟩ bo l.length cap) rfl (((hL4.tree 2 0 i ⟨#[]⟩).oM (fun b hb hl=>by unfold Fr at hb;omega) _ _ _ _ _).since b0.size) ((Ok.below b0 ((hO.trans h3).then hb)).oM hpl (Nat.le_refl _) _ _ _ _ _)
   ·have hlt':¬ (l.length:Int)<8:=by omega
    have HQ2 := hdq (show iN (lk L) expr i = .ok (node 2 i l, jj) by
      rw [HQ.out, show 8 - l.length = 0 from by omega]
      unfold fS; rfl)
    clear HQ;go_wp2_with (go_at_call 97;refine(iZ _ _ _ _ _ _).mono ?_;rintro e w4 ⟨rfl,hb⟩;have t4:=tv.below hb;have:=TV.facts t4);refine rtv (t4.set _ _ _ _ _) Tryz.results160 ?_;have hL4:=hL.step hpl0 (aF (some pb) hb);exact aD.ok HQ2.out (vT 2 0 i ⟨#[]⟩ bo l.length cap) rfl (((hL4.tree 2 0 i ⟨#[]⟩).oM (fun b hb hl=>by unfold Fr at hb;omega) _ _ _ _ _).since b0.size) ((Ok.below b0 (hO.then hb)).oM hpl (Nat.le_refl _) _ _ _ _ _)
 ·unfold pan;go_wp2_with fail;exact⟨rfl,aD.err a (by rw[HU.out,hr1];rfl) ((aF _ b0).trans hg)⟩
end
end Go.Proofs.YtfdlmcgcckkkdaaGreatDoor
