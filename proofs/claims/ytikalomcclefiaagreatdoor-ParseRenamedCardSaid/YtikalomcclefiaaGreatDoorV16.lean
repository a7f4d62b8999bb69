/- Part 16. -/
import Derived.Test.YtikalomcclefiaaGreatDoorV15
set_option linter.all false
set_option maxHeartbeats 0
set_option maxRecDepth 100000
namespace Go.Proofs.YtikalomcclefiaaGreatDoor
section
open Go.RowKit Lx Px
def FG(w0 w:World)(v:Value)(l:List T):Prop:=∃ vs,w.ownsRow w0.heap.size 24 5 v l.length vs/\dO (λb=>w0.heap.size<=b/\v.ownBlock≠some b) w l vs
def FG.nil(w0 w:World):FG w0 w (.slice none 0 0) []:=⟨[],tN _ _ _ _,by unfold dO;rfl⟩
def FG.step{w0 w w':World}{pb:Nat}{v:Value}{l:List T}(h:FG w0 w v l)(hp:pb<w0.heap.size)(g:w.grownBy w' (some pb)):FG w0 w' v l:=by
 obtain⟨vs,h1,h2⟩:=h;refine⟨vs,h1.kept g ?_,h2.kept (λ_ hb _=>hb) g.size (λb hb hl=>g.block b hl (λe=>by cases e;have:=hb.1;omega))⟩
 by_cases hv:v.ownBlock=some pb
 ·have:=(h1.lt pb hv).1;omega
 ·exact .inr hv
def FG.tree{w0 w:World}{v:Value}{l:List T}(h:FG w0 w v l)(k n a:Int)(s:dL):iB (Fr w0) w (.mk k n a s l) [.int .i64 k,.int .i64 n,.int .i64 a,.string s,v]:=by
 obtain⟨vs,h1,h2⟩:=h;unfold iB
 rcases h1.2 with ⟨rfl,h0⟩|⟨g,cap,cur,rfl,hB,hg,rest⟩
 ·exact⟨none,0,by rw[h0],λhne=>absurd (kU h0) hne,by rw[h0];exact aG _⟩
 ·refine⟨_,cap,rfl,λ_=>⟨g,0,vs,rfl,hB,(aX.1 hg).1,h2.kept (λ_ hb _=>hb.1) (aG _) (λ_ _ _=>rfl),λi u hi=>?_⟩,rest.1⟩;have:=h1.cells (g:=g) rfl _ _ hi;exact Rk
def FG.form{w0 w:World}{v:Value}{l:List T}(h:FG w0 w v l):∃ ao cap,v=.slice ao l.length cap:=by
 obtain⟨vs,h1,h2⟩:=h
 rcases h1.2 with ⟨rfl,h0⟩|⟨g,cap,cur,rfl,_⟩
 ·exact⟨none,0,by rw[h0]⟩
 ·exact⟨_,cap,rfl⟩
def iB.one{av:Nat->Prop}{w:World}{t:T}{us:List Value}(h:iB av w t us):∀ u∈us,u.oneCell'=true:=by
 obtain⟨k,n,a,s,l⟩:=t;unfold iB at h;obtain⟨ao,cap,rfl,_⟩:=h;intro u hu
 simp at hu
 rcases hu with rfl|rfl|rfl|rfl|rfl<;>rfl
theorem FG.one{w0 w:World}{t:T}{us:List Value}(h:iB (Fr w0) w t us)(hs:w0.heap.size<=w.heap.size):FG w0 (w.alloc (.cells us.toArray 24)) (.slice (some (AAF w.heap.size 0)) 1 1) [t]:=by
 have hl:=h.len;refine⟨us,?_,?_⟩
 ·have:=World.ownsRow_lit (base:=w0.heap.size) (e:=24) (size:=5) w us.toArray 1 hs aD (by simp[hl])
  simpa using this
 ·refine dO.one (h.kept (λb hb hlt=>⟨hb,?_⟩) aI (λb _ hlt=>lP w _ b hlt))
  show some w.heap.size≠some b
  intro e;cases e;omega
def ZX: (Tryz.prog.info? 24).map (λi=>(i.zero,i.size,i.bytes))=some (some (.agg sZ),5,64):=by kernel_rfl
def RM: Tryz.prog.underlying 22=some (.slice 24):=by kernel_rfl
def qJ{ops:Array Oper}{rest:List Oper}{o:Oper}{a:Act}{Q:Exit->Act->World->Prop}(hgd:o.guard=none)(s x:Operand)(ho:o.op=.call { callee:=.builtin .append,args:=#[s,x],argTypes:=#[22,22] })(w0 w:World)(v:Value)(l:List T)(hs:a.eval s=v)(hL:FG w0 w v l)(t:T)(us:List Value)(ht:iB (λb=>w0.heap.size<=b/\v.ownBlock≠some b) w t us)(hx:a.eval x=.slice (some (AAF w.heap.size 0)) 1 1)(hw:w0.heap.size<=w.heap.size)(hl:l.length<=1000000)(hK:∀ v' w',FG w0 w' v' (l++[t])->Below w0.heap.size w w'->wpList Tryz.prog ops Q rest (a.put o.dst v') w'):wpList Tryz.prog ops Q (o::rest) a (w.alloc (.cells us.toArray 24)):=by
 obtain⟨i0,hi0,hz0,hz1,hz2⟩:=nU ZX;obtain⟨vs,h1,h2⟩:=hL;have hlen:=ht.len;refine wpList_append_lies _ hgd s x 22 ho w0.heap.size 24 i0 _ 5 64 RM hi0 hz0 hz1 hz2 rfl aD v l.length vs hs (h1.alloc _) (AAF w.heap.size 0) 1 1 us hx (by simp[hlen]) (tG (by simpa using aP w (.cells us.toArray 24))) ht.one aD tJ aB dW _ rfl ?_;intro g cap w' hown hgrow hor hg;have hal:∀ k,k<w.heap.size->(w.alloc (.cells us.toArray 24)).heap[k]?=w.heap[k]?:=λk hk=>lP w _ k hk
 refine hK _ w' ⟨vs++us,by simpa using hown,?_⟩ ?_
 ·have hk:∀ b,(w0.heap.size<=b/\v.ownBlock≠some b)->b<w.heap.size->w'.heap[b]?=w.heap[b]?:=λb hb hlt=>(hgrow.block b dW (λe=>hb.2 e.symm)).trans (hal b hlt)
  have ha:∀ b,(w0.heap.size<=b/\v.ownBlock≠some b)->b<w.heap.size->(w0.heap.size<=b/\(Value.slice (some (AAF g 0)) (l.length+1) cap).ownBlock≠some b):=by
   intro b hb hlt;refine⟨hb.1,λe=>?_⟩;simp only[Value.ownBlock,mP]at e
   subst e
   rcases hor with h|h
   ·exact hb.2 h
   ·simp at h;omega
  have hsz:w.heap.size<=w'.heap.size:=by have:=hgrow.size;simp at this;omega
  exact(h2.kept ha hsz hk).app (dO.one (ht.kept ha hsz hk))
 ·refine((aJ w _).mono hw).trans ⟨hgrow.os,hgrow.tape,hgrow.output,hgrow.size,λk hk=>hgrow.block k dW (λe=>?_)⟩;have:=(h1.lt k e.symm).1;omega
def An(pb:Nat)(L:List T3)(w:World)(r:R (List T))(e:Ending)(w':World):Prop:=match r with
 | .ok (l,j)=>∃ v,e=.returned v/\FG w w' v l/\Ok pb L j w w'
 | .error a=>e=gM a/\w.grownBy w' (some pb)
theorem An.ok{pb:Nat}{L:List T3}{w w':World}{r:R (List T)}{l:List T}{j:Nat}{v:Value}(h:r=.ok (l,j))(ht:FG w w' v l)(k:Ok pb L j w w'):An pb L w r (.returned v) w':=by rw[h];exact⟨v,rfl,ht,k⟩
def An.err{pb:Nat}{L:List T3}{w w':World}{r:R (List T)}(a:Nat)(h:r=.error a)(k:w.grownBy w' (some pb)):An pb L w r (gM a) w':=by rw[h];exact⟨rfl,k⟩
def Reads(K:FuncId)(pb:Nat)(L:List T3)(lo:Nat)(read:Nat->R T):Prop:=∀ i w,lo<=i->PS w pb L i->AAA K #[pq pb] w (aU pb L w (read i))
def vT(k n a:Int)(s:dL)(ao:iD)(m c:Nat):List Value:=[.int .i64 k,.int .i64 n,.int .i64 a,.string s,.slice ao m c]
def aU.split{pb:Nat}{L:List T3}{w w':World}{r:R T}{e:Ending}(h:aU pb L w r e w'):(∃ t j k n a s ao m c,r=.ok (t,j)/\e=.returned (tg k n a s ao m c)/\iB (Fr w) w' t (vT k n a s ao m c)/\Ok pb L j w w')\/(∃ a,r=.error a/\e=gM a/\w.grownBy w' (some pb)):=by
 cases r with
 | ok tj=>
  obtain⟨t,j⟩:=tj;obtain⟨us,h1,h2,h3⟩:=h;have h4:=h2;obtain⟨k,n,a,s,l⟩:=t;unfold iB at h4;obtain⟨ao,c,rfl,_⟩:=h4;exact .inl ⟨_,j,k,n,a,s,ao,_,c,rfl,h1,h2,h3⟩
 | error a=>exact .inr ⟨a,rfl,h⟩
def iB.beside{w0 w w':World}{v:Value}{l:List T}{t:T}{us:List Value}(hL:FG w0 w v l)(hs:w0.heap.size<=w.heap.size)(ht:iB (Fr w) w' t us):iB (λb=>w0.heap.size<=b/\v.ownBlock≠some b) w' t us:=by
 obtain⟨vs,h1,_⟩:=hL;refine ht.kept (λb hb _=>⟨aZ hs hb,λe=>?_⟩) (aG _) (λ_ _ _=>rfl);have:=(h1.lt b e).2;unfold Fr at hb;omega
def Ok.new{pb j:Nat}{L:List T3}{w w1 w2:World}(h:Ok pb L j w w1)(hp:pb<w.heap.size)(b:Below w.heap.size w1 w2):Ok pb L j w w2:=
 ⟨⟨b.os.trans h.1.os,b.tape.trans h.1.tape,b.output.trans h.1.output,aZ h.1.size b.size,λk hk hn=>(b.block k hk).trans (h.1.block k hk hn)⟩,h.2.aJp b.size (λk hk=>b.block k aB)⟩
def rK(K:FuncId)(hK:∀ args w,(callFunc K args).run Tryz.prog w=.ok (.enter K args) w)(pb:Nat)(L:List T3)(lo:Nat)(read:Nat->R T)(hr:Reads K pb L lo read)(up:∀ i,Up (i+1) (read i))(most:Nat)(h1:1<=most)(hm:most<=1000000)(i:Nat)(hi:lo<=i)(w:World)(h:PS w pb L i):AAA 115 #[pq pb,most,.func (.func K) #[pq pb] #[]] w (An pb L w (eR (lk L) most read i)):=by
 have HU:=aN (show eR (lk L) most read i=aH (read i) λx j=>iP (lk L) read (most - 1) [x] j from rfl);go_in;go_upto_block 1 with fail;refine(hr i _ hi h).mono ?_;intro e w1 hp;have hpl:=h.lt;have hbd:=h.bd
 rcases hp.split with ⟨t,j,k,n,a,s,ao,m,c,hr1,rfl,ht,hok⟩|⟨a,hr1,rfl,hg⟩
 ·have hj:i+1<=j:=up i t j hr1;have hone:=FG.one ht hok.1.size;have hok2:=hok.then (aJ w1 (.cells (vT k n a s ao m c).toArray 24));have hjl:=hok.2.le;have HR:=aN (show eR (lk L) most read i=iP (lk L) read (most - 1) [t] j by rw[HU.out,hr1];rfl);clear hp hr1 hok ht HU h;go_upto_region 2 with fail;replace hone:FG w (w1.alloc (.cells (tg k n a s ao m c) 24)) _ [t]:=hone;replace hok2:Ok pb L j w (w1.alloc (.cells (tg k n a s ao m c) 24)):=hok2;generalize w1.alloc (.cells (tg k n a s ao m c) 24)=w2 at hone hok2 ⊢
  go_loopg [7] (L.length - j) (λg v wr=>∃ (l:List T) (jj:Nat),FG w wr v l/\Ok pb L jj w wr/\i+1<=jj/\g=L.length - jj/\1<=l.length/\l.length<=most/\eR (lk L) most read i=iP (lk L) read (most - l.length) l jj)
  case atStart=>exact⟨[t],j,hone,hok2,hj,rfl,aG _,h1,HR.out⟩
  case round=>
   obtain⟨l,jj,hL,hO,hij,hg,hl1,hlm,hq⟩:=hrel;have HQ:=aN hq;have HG:=aN hg;clear hq hg hone hok2 HR;obtain⟨bo,cap,rfl⟩:=hL.form;have hjL:=hO.2.le
   by_cases hlt:l.length<most
   ·have hlt':(l.length:Int)<(most:Int):=by omega
    have hT:=yJ pb L jj ⟨#[44]⟩ wr hO.2;obtain⟨mm,hmm⟩:∃ mm,most - l.length=mm+1:=⟨most - l.length - 1,by omega⟩
    cases hs:cD (lk L) jj [⟨#[44]⟩] with
    | true=>
     rw[hs]at hT
     have HQ2:=aN (show eR (lk L) most read i=aH (read (jj+1)) λx j'=>iP (lk L) read mm (l++[x]) j' by
      rw[HQ.out,hmm]
      conv=>lhs;unfold iP
      rw[aF (show cD (lk L) jj [jS]=true from hs)])
     have hjlt:=zE hs;clear HQ hs;go_upto_region 3 with (go_at_call 123;refine hT.mono ?_;rintro e w3 ⟨rfl,h3⟩);replace h3:Ok pb L (jj+1) wr w3:=h3;have hL3:=hL.step hpl h3.1;have hO3:=hO.trans h3;clear hT hL hO h3;go_upto_block 3 with fail;refine(hr (jj+1) _ aB hO3.2).mono ?_;intro e w4 hp
     rcases hp.split with ⟨t',j',k',n',a',s',ao',m',c',hr1,rfl,ht,hok⟩|⟨a',hr1,rfl,hg4⟩
     ·have hL4:=hL3.step hpl hok.1;have ht4:=iB.beside hL3 hO3.1.size ht;have hO4:=hO3.trans hok;have hj':jj+2<=j':=up (jj+1) t' j' hr1;have hjl':=hok.2.le;have HQ3:=aN (show eR (lk L) most read i=iP (lk L) read mm (l++[t']) j' by rw[HQ2.out,hr1];rfl);clear HQ2 hr1 hp hL3 hO3 hok ht;go_wp2_with (at_builtin;go_loud (refine qJ rfl _ _ rfl w w4 (.slice bo l.length cap) l rfl hL4 t' (vT k' n' a' s' ao' m' c') ht4 rfl ?dd1 ?dd2 ?_))
      case dd1=>exact hO4.1.size
      case dd2=>omega
      intro v5 w5 hL5 hb5;have hO5:=hO4.new hpl hb5;clear hL4 ht4 hO4;go_wp2_with fail
      go_roundg (L.length - j')
      case measure=>rw[HG.out];omega
      case rel=>exact⟨l++[t'],j',hL5,hO5,by omega,rfl,by simp,by rw[aO];show l.length+1<=_;omega,by rw[HQ3.out,aO];show _=iP (lk L) read (most - (l.length+1)) _ _;rw[show most - (l.length+1)=mm from by omega]⟩
     exact IU
    | false=>
     rw[hs]at hT
     have HQ2:=aN (show eR (lk L) most read i=.ok (l,jj)by
      rw[HQ.out,hmm]
      unfold iP
      rw[aC (by rw[show cD (lk L) jj [jS]=false from hs];decide)])
     clear HQ hs;go_wp2_with (go_at_call 123;refine hT.mono ?_;rintro e w3 ⟨rfl,h3⟩);go_ret;exact An.ok HQ2.out (hL.step hpl h3.1) (hO.trans h3)
   ·have hlt':¬ (l.length:Int)<(most:Int):=by omega
    have HQ2:=aN (show eR (lk L) most read i=.ok (l,jj)by
     rw[HQ.out,show most - l.length=0 from by omega]
     unfold iP;rfl)
    exact ON
 ·unfold gM;go_wp2_with fail;exact⟨rfl,An.err a (by rw[HU.out,hr1];rfl) hg⟩
def Eo(x y:Int)(s:dL)(w:World):(Instr.field 47 (.agg #[iq x,.string s,iq y]) 0).run Tryz.prog w=.ok (iq x) w:=by kernel_rfl
def aCR(x y:Int)(s:dL)(w:World):(Instr.field 47 (.agg #[iq x,.string s,iq y]) 1).run Tryz.prog w=.ok (.string s) w:=by kernel_rfl
def tY(pb:Nat)(L:List T3)(i a:Nat)(ha:a<=9)(w:World)(h:PS w pb L i):AAA 132 #[pq pb,a] w λe w'=>e=.returned (.bool (dP (lk L) (i+a)))/\iY w w':=by
 have HC:=aN (show dP (lk L) (i+a)=((tok (lk L) (i+a)).kind==2||(tok (lk L) (i+a)).kind==3||(tok (lk L) (i+a)).kind==4||(tok (lk L) (i+a)).kind==5)from rfl);have hT:=fS pb L i a ha w h;have hf0:=Eo;generalize hk:(tok (lk L) (i+a)).kind=k at HC;rw[show (tok (L.map T3.tk) (i+a)).kind=k from hk]at hT;clear hk h
 by_cases h2:k=2
 ·go_in;go_wp2_with (go_at_call 113;refine hT.mono ?_;rintro e w1 ⟨⟨p,rfl⟩,hb⟩);go_ret;exact⟨eI (by rw[HC.out,h2];rfl),hb⟩
 ·by_cases h3:k=3
  ·go_in;go_wp2_with (go_at_call 113;refine hT.mono ?_;rintro e w1 ⟨⟨p,rfl⟩,hb⟩);go_ret;exact⟨eI (by rw[HC.out,h3];rfl),hb⟩
  ·by_cases h4:k=4
   ·go_in;go_wp2_with (go_at_call 113;refine hT.mono ?_;rintro e w1 ⟨⟨p,rfl⟩,hb⟩);go_ret;exact⟨eI (by rw[HC.out,h4];rfl),hb⟩
   ·go_in;go_wp2_with (go_at_call 113;refine hT.mono ?_;rintro e w1 ⟨⟨p,rfl⟩,hb⟩);go_ret;exact⟨eI (by rw[HC.out,dR.2 h2,dR.2 h3,dR.2 h4]),hb⟩
def FK{L:List T3}{i:Nat}(h:dP (lk L) i=true):i<L.length:=by
 refine FO λe=>?_;unfold dP at h;rw[e]at h;exact mW
def uD(pb:Nat)(L:List T3)(i:Nat)(w:World)(h:PS w pb L i):AAA 133 #[pq pb] w (aU pb L w (cQ (lk L) i)):=by
 go_in;go_upto_region 1 with fail;obtain⟨t0,b0⟩:=tv0 w;generalize World.alloc w _=w0 at t0 b0 ⊢;have h0:=h.below b0;have hpl:=h.lt;have hle:=h.le;have hbd:=h.bd;have hne:w.heap.size≠pb:=by omega
 cases hc:dP (lk L) i with
 | false=>
  have HR:=aN (show cQ (lk L) i=.error i by unfold cQ;rw[aC (by rw[hc];decide)]);have hN:=tY pb L i 0 aD w0 h0;rw[lE,hc]at hN;clear hc;go_upto_block 2 with (go_at_call 132;refine hN.mono ?_;rintro e w1 ⟨rfl,h1⟩);refine(Jk pb L i _ (h0.below h1)).mono ?_;rintro e w3 ⟨rfl,rfl⟩;unfold gM;go_wp2_with fail;exact⟨rfl,aU.err i HR.out (bS _ (b0.trans (h1.mono b0.size)))⟩
 | true=>
  have hlt:=FK hc;have hN:=tY pb L i 0 aD w0 h0;rw[lE,hc]at hN;have HR:=aN (show cQ (lk L) i=.ok (.mk 1 (tok (lk L) (i+0)).kind i (tok (lk L) (i+0)).text [],i+1)by unfold cQ;rw[aF hc];rfl);clear hc;go_upto_region 4 with (first|(go_at_call 132;refine hN.mono ?_;rintro e w1 ⟨rfl,hb1⟩;have h1:=h0.below hb1;have t1:=t0.below hb1)|(go_at_call 113;refine(fS pb L i 0 aD _ h1).mono ?_;rintro e w2 ⟨⟨p,rfl⟩,hb2⟩;have h2:=h1.below hb2;have t2:=t1.below hb2));have B2:=(b0.trans (hb1.mono b0.size)).trans (hb2.mono (aZ b0.size hb1.size));have n3:=aP w2 (.cells #[iq (tok (lk L) (i+0)).kind,.string (tok (lk L) (i+0)).text,iq p] 47);have b3:=aJ w2 (.cells #[iq (tok (lk L) (i+0)).kind,.string (tok (lk L) (i+0)).text,iq p] 47);generalize w2.alloc (.cells #[iq (tok (lk L) (i+0)).kind,.string (tok (lk L) (i+0)).text,iq p] 47)=w3 at n3 b3 ⊢;have h3:=h2.below b3;have t3:=t2.below b3;have B3:=B2.trans (b3.mono B2.size);generalize (tok (lk L) (i+0)).kind=tk at n3 HR;generalize (tok (lk L) (i+0)).text=tt at n3 HR;obtain⟨c1,f1⟩:=h3.cells;have hn2:pb≠w2.heap.size:=by have:=B2.size;omega
  have hn3:w.heap.size≠w2.heap.size:=by have:=t2.lt;omega
  clear hN h0 h1 h2 t0 t1 t2 b0 hb1 hb2 b3 B2;go_upto_region 5 with fail;have h4:=h3.set (i+1) aB;have g4:=(bS (some pb) B3).trans (mN w3 pb 1 (iq ((i+1:Nat):Int)));have t4:=t3.step hne (mN w3 pb 1 (iq ((i+1:Nat):Int)));have n4:=((mN w3 pb 1 (iq ((i+1:Nat):Int))).block w2.heap.size (aX.1 n3).1 (λe=>hn2 Dz)).trans n3;rw[show ((i+1:Nat):Int)=(i:Int)+1 from by omega]at h4 g4 t4 n4;generalize w3.setCell (AAF pb 1) (iq ((i:Int)+1))=w4 at h4 g4 t4 n4 ⊢;obtain⟨d1,_⟩:=h4.cells;have d2:w4.cell? (AAF w2.heap.size 0)=some (.int .i64 tk):=aK _ _ 0 _ _ _ n4;have d3:w4.cell? (AAF w2.heap.size 1)=some (.string tt):=aK _ _ 1 _ _ _ n4;have hO:Ok pb L (i+1) w w4:=⟨g4,h4⟩
  clear n4 n3 h3 t3 c1 f1;have d1':w4.cell? (AAF pb 1)=some (.int .i64 ((i:Int)+1)):=d1;have hw5:IntKind.i64.wrap ((i:Int)+1 - 1)=i:=by rw[iV _ aB];omega
  clear d1 hO;have hO:Ok pb L (i+1) w w4:=⟨g4,h4⟩
  have T4:=aN t4;have:=AAD t4;clear t4 g4 h4
  go_still_tail 10,aQ
  change wpList _ _ _ _ _ w4.drew;go_wp2_with fail;refine nX ((T4.out.set _ _ _ _ _).drew) Tryz.results133 ?_;exact aU.ok HR.out _ rfl (iB.leaf _ _ _ _ _ _ _) ((hO.uQ hpl (aG _) _ _ _ _ _).drew)
abbrev AY(w:World)(b:Nat)(x y z u v:Value):World:=((((w.setCell (AAF b 0) x).setCell (AAF b 1) y).setCell (AAF b 2) z).setCell (AAF b 3) u).setCell (AAF b 4) v
def iB.uQ{w:World}{t:T}{us:List Value}{B:Nat}{av:Nat->Prop}(h:iB av w t us)(hB:∀ b,av b->b<w.heap.size->b≠B)(x y z u v:Value):iB av (AY w B x y z u v) t us:=
 h.kept (λ_ hb _=>hb) (jH (bH 0 w) (aS _) x y z u v).size (λb hb hl=>Aw (λe=>hB b hb hl e.symm) _ _ _ _ _ _)
def MG(pb:Nat)(L:List T3)(lo:Nat)(expr:Nat->R T)(hE:Reads 45 pb L lo expr):Reads 201 pb L lo (cV (lk L) expr):=by
 intro i w hi h;go_in;go_upto_region 1 with fail;obtain⟨t0,b0⟩:=tv0 w;generalize World.alloc w _=w0 at t0 b0 ⊢;have h0:=h.below b0;have hpl:=h.lt;have hle:=h.le;have hbd:=h.bd;have hne:w.heap.size≠pb:=by omega
 have hT:=yJ pb L i ⟨#[42]⟩ w0 h0
 cases hs:cD (lk L) i [⟨#[42]⟩] with
 | true=>
  have HR:=aN (show cV (lk L) expr i=.ok (node 7 i [],i+1)by unfold cV;rw[aF (show cD (lk L) i [Cn]=true from hs)]);rw[hs]at hT;clear hs;go_upto_region 2 with (go_at_call 123;refine hT.mono ?_;rintro e w1 ⟨rfl,h1⟩);replace h1:Ok pb L (i+1) w0 w1:=h1;have t1:=t0.step hne h1.1;have hO:=Ok.below b0 h1;obtain⟨c1,_⟩:=h1.2.cells;replace c1:w1.cell? (AAF pb 1)=some (.int .i64 ((i:Int)+1)):=c1;have hw5:IntKind.i64.wrap (i:Int)=i:=iV _ aB;clear hT h1 h0 h;go_wp2_with (go_at_call 87;refine(yM _ _ _ _ _ _).mono ?_;rintro e w2 ⟨rfl,hb⟩;have t2:=t1.below hb;have:=AAD t2);refine nX (t2.set _ _ _ _ _) Tryz.results201 ?_;exact aU.ok HR.out (vT 7 0 i ⟨#[]⟩ none 0 0) (by simp[hw5,vT]) (iB.leaf _ _ 7 0 i _ _) ((hO.then hb).uQ hpl (aG _) _ _ _ _ _)
 | false=>
  have HR:=aN (show cV (lk L) expr i=expr i by unfold cV;rw[aC (by rw[show cD (lk L) i [Cn]=false from hs];decide)]);rw[hs]at hT;clear hs;go_upto_block 3 with (go_at_call 123;refine hT.mono ?_;rintro e w1 ⟨rfl,h1⟩);replace h1:Ok pb L i w0 w1:=h1;refine(hE i w1 hi h1.2).mono ?_;intro e w2 hp
  rcases hp.split with ⟨t,j,k',n',a',s',ao',m',c',hr1,rfl,ht,hok⟩|⟨a,hr1,rfl,hg⟩
  ·have t1:=t0.step hne h1.1;have hlt1:=t1.lt;have t2:=t1.step hne hok.1;have:=AAD t2;clear hp h hT h0;go_wp2_with fail;refine nX (t2.set _ _ _ _ _) Tryz.results201 ?_;exact aU.ok DI _ rfl ((iB.uQ ht (λb hb hl=>by unfold Fr at hb;omega) _ _ _ _ _).since (w0:=w) (aZ b0.size h1.1.size)) ((Ok.below b0 (h1.trans hok)).uQ hpl (aG _) _ _ _ _ _)
  ·unfold gM;go_wp2_with fail;exact⟨rfl,aU.err a DI ((bS _ b0).trans (h1.1.trans hg))⟩
def TV.aLc{w:World}{b:Nat}{x y z u v:Value}(h:TV w b x y z u v)(y':Value):TV (w.setCell (AAF b 1) y') b x y' z u v:=by
 exact OO
def TV.aLz{w:World}{b:Nat}{x y z u v:Value}(h:TV w b x y z u v)(v':Value):TV (w.setCell (AAF b 4) v') b x y z u v':=by
 exact OO
def TV.off{w:World}{b B:Nat}{x y z u v:Value}(h:TV w b x y z u v)(hn:b≠B)(j:Nat)(y':Value):TV (w.setCell (B,j) y') b x y z u v:=
 (dJ _ _ _ _ (λe=>hn (by simpa using e))).trans h
def Ok.put{pb B j:Nat}{L:List T3}{w w1:World}(h:Ok pb L j w w1)(hp:pb<w.heap.size)(hB:w.heap.size<=B)(k:Nat)(y:Value):Ok pb L j w (w1.setCell (B,k) y):=
 h.new hp ((bH w.heap.size w1).setCell (p:=(B,k)) hB y)
def An.split{pb:Nat}{L:List T3}{w w':World}{r:R (List T)}{e:Ending}(h:An pb L w r e w'):(∃ l j ao c,r=.ok (l,j)/\e=.returned (.slice ao l.length c)/\FG w w' (.slice ao l.length c) l/\Ok pb L j w w')\/(∃ a,r=.error a/\e=gM a/\w.grownBy w' (some pb)):=by
 cases r with
 | ok lj=>
  obtain⟨l,j⟩:=lj;obtain⟨v,h1,h2,h3⟩:=h;obtain⟨ao,c,rfl⟩:=h2.form;exact .inl ⟨l,j,ao,c,rfl,h1,h2,h3⟩
 | error a=>exact .inr ⟨a,rfl,h⟩
def Ao.split{pb:Nat}{L:List T3}{w w':World}{r:R Unit}{e:Ending}(h:Ao pb L w r e w'):(∃ j,r=.ok ((),j)/\e=.returned (.tuple #[])/\Ok pb L j w w')\/(∃ a,r=.error a/\e=gM a/\w.grownBy w' (some pb)):=by
 cases r with
 | ok lj=>obtain⟨⟨⟩,j⟩:=lj;exact .inl ⟨j,rfl,h⟩
 | error a=>exact .inr ⟨a,rfl,h⟩
def aJD: ∀ args w,(callFunc 201 args).run Tryz.prog w=.ok (.enter 201 args) w:=
 enters_of Tryz.func201 aD rfl
section
variable(pb:Nat)(L:List T3)(lo:Nat)(expr:Nat->R T)(up:∀ i,Up (i+1) (expr i))(hE:Reads 45 pb L (lo+1) expr)
include pb L lo expr up hE
theorem Zx:Reads 164 pb L lo (qY (lk L) expr):=by
 intro i w hi h;go_in;go_upto_region 1 with fail;obtain⟨t0,b0⟩:=tv0 w;generalize World.alloc w _=w0 at t0 b0 ⊢;have h0:=h.below b0;have hpl:=h.lt;have hle:=h.le;have hbd:=h.bd;have hne:w.heap.size≠pb:=by omega
 obtain⟨c0,_⟩:=h0.cells;have hN:=rM pb L i w0 h0
 have HP:=aN (show qY (lk L) expr i=aH (iN (lk L) i) λs j=>
  if cD (lk L) j [cJ]then
   (if cD (lk L) (j+1) [dA]then .ok (.mk 3 1 i s [],j+2)
    else aH (eR (lk L) 16 (cV (lk L) expr) (j+1)) λl j'=>aH (aW (lk L) j' dA) λ_ j2=>.ok (.mk 3 1 i s l,j2))
  else .ok (.mk 3 0 i s [],j)from rfl)
 cases hn:iN (lk L) i with
 | error a=>
  rw[hn]at hN;go_wp2_with (go_at_call 85;refine hN.mono ?_;rintro e w1 ⟨rfl,h1⟩;unfold gM);exact⟨rfl,aU.err a (by rw[HP.out,hn];rfl) ((bS _ b0).trans h1)⟩
 | ok sj=>
  obtain⟨s,j⟩:=sj;rw[hn]at hN;have hj:i+1<=j:=sN (lk L) i s j hn
  have HP2:=aN (show qY (lk L) expr i=if cD (lk L) j [cJ]then
   (if cD (lk L) (j+1) [dA]then .ok (.mk 3 1 i s [],j+2)
    else aH (eR (lk L) 16 (cV (lk L) expr) (j+1)) λl j'=>aH (aW (lk L) j' dA) λ_ j2=>.ok (.mk 3 1 i s l,j2))
   else .ok (.mk 3 0 i s [],j)by rw[HP.out,hn];rfl)
  clear hn HP;go_upto_region 3 with (go_at_call 85;refine hN.mono ?_;rintro e w1 ⟨rfl,h1⟩);have t1:=t0.step hne h1.1;have x2:=TV.new w1 (iq 3) (iq 0) i s (.slice none 0 0);have t2:=t1.below (aJ w1 (.cells (tg 3 0 i s none 0 0) 24));have hO:=(Ok.below b0 h1).then (aJ w1 (.cells (tg 3 0 i s none 0 0) 24));have hX:w.heap.size<w1.heap.size:=t1.lt;generalize hB:w1.heap.size=B at x2 hX;generalize w1.alloc (.cells (tg 3 0 i s none 0 0) 24)=w2 at x2 t2 hO ⊢;clear t0 t1 h1 h0 hN c0 h hB;have hnB:B≠pb:=by omega
  have hT:=yJ pb L j ⟨#[40]⟩ w2 hO.2
  cases hs:cD (lk L) j [⟨#[40]⟩] with
  | false=>
   have HR:=aN (show qY (lk L) expr i=.ok (.mk 3 0 i s [],j)by rw[HP2.out,aC (by rw[show cD (lk L) j [cJ]=false from hs];decide)]);rw[hs]at hT;clear hs HP2;go_wp2_with (go_at_call 123;refine hT.mono ?_;rintro e w3 ⟨rfl,h3⟩;have t3:=t2.step hne h3.1;have x3:=x2.step hnB h3.1;have:=AAD t3;have:=AAD x3);refine nX (t3.set _ _ _ _ _) Tryz.results164 ?_;exact aU.ok HR.out _ rfl (iB.leaf _ _ 3 0 i s _) ((hO.trans h3).uQ hpl (aG _) _ _ _ _ _)
  | true=>
   have HP3:=aN (show qY (lk L) expr i=if cD (lk L) (j+1) [dA]then .ok (.mk 3 1 i s [],j+2)
    else aH (eR (lk L) 16 (cV (lk L) expr) (j+1)) λl j'=>aH (aW (lk L) j' dA) λ_ j2=>.ok (.mk 3 1 i s l,j2)by rw[HP2.out,aF (show cD (lk L) j [cJ]=true from hs)])
   rw[hs]at hT;clear hs HP2;go_upto_region 6 with (go_at_call 123;refine hT.mono ?_;rintro e w3 ⟨rfl,h3⟩;have t3:=t2.step hne h3.1;have x3:=x2.step hnB h3.1;have:=AAD x3);have hO4:=(hO.trans h3).put hpl (iH hX) 1 (iq 1);have x4:=x3.aLc (iq 1);have t4:=t3.off (by omega:w.heap.size≠B) 1 (iq 1);replace hO4:Ok pb L (j+1) w (w3.setCell (AAF B 1) (iq 1)):=hO4;have hX4:B<w3.heap.size:=x3.lt;generalize w3.setCell (AAF B 1) (iq 1)=w4 at hO4 x4 t4 ⊢;clear hT h3 t3 x3 t2 x2 hO;have hT:=yJ pb L (j+1) ⟨#[41]⟩ w4 hO4.2
   cases hs:cD (lk L) (j+1) [⟨#[41]⟩] with
   | true=>
    have HR:=aN (show qY (lk L) expr i=.ok (.mk 3 1 i s [],j+2)by rw[HP3.out,aF (show cD (lk L) (j+1) [dA]=true from hs)]);rw[hs]at hT;clear hs HP3;go_wp2_with (go_at_call 123;refine hT.mono ?_;rintro e w5 ⟨rfl,h5⟩;have t5:=t4.step hne h5.1;have x5:=x4.step hnB h5.1;have:=AAD t5;have:=AAD x5);refine nX (t5.set _ _ _ _ _) Tryz.results164 ?_;exact aU.ok HR.out _ rfl (iB.leaf _ _ 3 1 i s _) ((hO4.trans h5).uQ hpl (aG _) _ _ _ _ _)
   | false=>
    have HP4:=aN (show qY (lk L) expr i=aH (eR (lk L) 16 (cV (lk L) expr) (j+1)) λl j'=>aH (aW (lk L) j' dA) λ_ j2=>.ok (.mk 3 1 i s l,j2)by rw[HP3.out,aC (by rw[show cD (lk L) (j+1) [dA]=false from hs];decide)]);rw[hs]at hT;clear hs HP3;go_upto_block 8 with (go_at_call 123;refine hT.mono ?_;rintro e w5 ⟨rfl,h5⟩;have t5:=t4.step hne h5.1;have x5:=x4.step hnB h5.1);replace h5:Ok pb L (j+1) w4 w5:=h5;have hO5:=hO4.trans h5;have hB5:=x5.lt;clear hT t4 x4 hO4;refine(rK _ aJD pb L (lo+1) (cV (lk L) expr) (MG pb L (lo+1) expr hE) (uA (lk L) up) 16 aD aD (j+1) aB w5 hO5.2).mono ?_;intro e w6 hp
    rcases hp.split with ⟨l,j',ao,c,hr1,rfl,hL,hok⟩|⟨a,hr1,rfl,hg⟩
    ·have HP5:=aN (show qY (lk L) expr i=aH (aW (lk L) j' dA) λ_ j2=>.ok (.mk 3 1 i s l,j2)by rw[HP4.out,hr1];rfl);have t6:=(t5.step hne hok.1).off (by omega:w.heap.size≠B) 4 (.slice ao l.length c);have x6:=(x5.step hnB hok.1)
     have x7:=x6.aLz (.slice ao l.length c);have hO6:=(hO5.trans hok).put hpl (iH hX) 4 (.slice ao l.length c);have hT6:=(hL.step hB5 (mN w6 B 4 (.slice ao l.length c))).tree 3 1 i s;have:=AAD x6;clear hp hr1 HP4 hL hok t5 x5;go_upto_region 9 with fail;generalize w6.setCell (AAF B 4) (.slice ao l.length c)=w7 at t6 x7 hO6 hT6 ⊢;have hU:=Wa pb L j' ⟨#[41]⟩ w7 hO6.2;go_upto_block 9 with fail;refine hU.mono ?_;intro e w8 hq
     rcases hq.split with ⟨j2,hr2,rfl,hok2⟩|⟨a,hr2,rfl,hg2⟩
     ·have t8:=t6.step hne hok2.1;have x8:=x7.step hnB hok2.1;have hT8:=hT6.step (by omega:pb<w5.heap.size) hok2.1;have:=AAD t8;have:=AAD x8;go_wp2_with fail;refine nX (t8.set _ _ _ _ _) Tryz.results164 ?_;exact aU.ok Qk (vT 3 1 i s ao l.length c) rfl ((hT8.uQ (λb hb hl=>by unfold Fr at hb;omega) _ _ _ _ _).since hO5.1.size) ((hO6.trans hok2).uQ hpl (aG _) _ _ _ _ _)
     ·unfold gM;go_wp2_with fail;exact⟨rfl,aU.err a Qk (hO6.1.trans hg2)⟩
    ·unfold gM;go_wp2_with fail;exact⟨rfl,aU.err a (by rw[HP4.out,hr1];rfl) (hO5.1.trans hg)⟩
theorem Oq:Reads 148 pb L lo (mG (lk L) expr):=by
 intro i w hi h;have hPart:=Zx pb L lo expr up hE;have HU:=aN (show mG (lk L) expr i=aH (qY (lk L) expr i) λx j=>aH (iM (lk L) expr 7 [x] j) λl j'=>.ok (node 2 i l,j')from rfl);go_in;go_upto_region 1 with fail;obtain⟨t0,b0⟩:=tv0 w;generalize World.alloc w _=w0 at t0 b0 ⊢;have h0:=h.below b0;have hpl:=h.lt;have hpl0:=h0.lt;have hle:=h.le;have hbd:=h.bd;have hne:w.heap.size≠pb:=by omega
 have hlt0:=t0.lt;obtain⟨c0,_⟩:=h0.cells;go_upto_block 2 with fail;refine(hPart i _ hi h0).mono ?_;intro e w1 hp
 rcases hp.split with ⟨t,j,k,n,a,s,ao,m,c,hr1,rfl,ht,hok⟩|⟨a,hr1,rfl,hg⟩
 ·have hj:i+1<=j:=CB (lk L) up i t j hr1;have hone:=FG.one ht hok.1.size;have hok2:=hok.then (aJ w1 (.cells (vT k n a s ao m c).toArray 24));have t1:=(t0.step hne hok.1).below (aJ w1 (.cells (vT k n a s ao m c).toArray 24));have hjl:=hok.2.le;have HR:=aN (show mG (lk L) expr i=aH (iM (lk L) expr 7 [t] j) λl j'=>.ok (node 2 i l,j')by rw[HU.out,hr1];rfl);clear hp hr1 hok ht HU h t0 h0 c0;go_upto_region 3 with fail;replace hone:FG w0 (w1.alloc (.cells (tg k n a s ao m c) 24)) _ [t]:=hone;replace hok2:Ok pb L j w0 (w1.alloc (.cells (tg k n a s ao m c) 24)):=hok2;replace t1:TV (w1.alloc (.cells (tg k n a s ao m c) 24)) w.heap.size _ _ _ _ _:=t1;generalize w1.alloc (.cells (tg k n a s ao m c) 24)=w2 at hone hok2 t1 ⊢
  go_loopg [4] (L.length - j) (λg v wr=>∃ (l:List T) (jj:Nat),FG w0 wr v l/\Ok pb L jj w0 wr/\TV wr w.heap.size (iq 0) (iq 0) (iq 0) (.string ⟨#[]⟩) (.slice none 0 0)/\i+1<=jj/\g=L.length - jj/\1<=l.length/\l.length<=8/\
   mG (lk L) expr i=aH (iM (lk L) expr (8 - l.length) l jj) λl j'=>.ok (node 2 i l,j'))
  case atStart=>exact⟨[t],j,hone,hok2,t1,hj,rfl,aG _,by simp,HR.out⟩
  case round=>
   obtain⟨l,jj,hL,hO,tv,hij,hg,hl1,hlm,hq⟩:=hrel;have HQ:=aN hq;have HG:=aN hg;clear hq hg hone hok2 HR t1;obtain⟨bo,cap,rfl⟩:=hL.form;have hjL:=hO.2.le
   by_cases hlt:l.length<8
   ·have hlt':(l.length:Int)<8:=by omega
    have hT:=yJ pb L jj ⟨#[46]⟩ wr hO.2;obtain⟨mm,hmm⟩:∃ mm,8 - l.length=mm+1:=⟨8 - l.length - 1,by omega⟩
    cases hs:cD (lk L) jj [⟨#[46]⟩] with
    | true=>
     rw[hs]at hT
     have HQ2:=aN (show mG (lk L) expr i=aH (aH (qY (lk L) expr (jj+1)) λx j'=>iM (lk L) expr mm (l++[x]) j') λl j'=>.ok (node 2 i l,j')by
      rw[HQ.out,hmm]
      conv=>lhs;unfold iM
      rw[aF (show cD (lk L) jj [lI]=true from hs)])
     have hjlt:=zE hs;clear HQ hs;go_upto_block 4 with (go_at_call 123;refine hT.mono ?_;rintro e w3 ⟨rfl,h3⟩);replace h3:Ok pb L (jj+1) wr w3:=h3;have hL3:=hL.step hpl0 h3.1;have hO3:=hO.trans h3;have t3:=tv.step hne h3.1;clear hT hL hO h3 tv;refine(hPart (jj+1) _ aB hO3.2).mono ?_;intro e w4 hp
     rcases hp.split with ⟨t',j',k',n',a',s',ao',m',c',hr1,rfl,ht,hok⟩|⟨a',hr1,rfl,hg4⟩
     ·have hL4:=hL3.step hpl0 hok.1;have ht4:=iB.beside hL3 hO3.1.size ht;have hO4:=hO3.trans hok;have t4:=t3.step hne hok.1;have hj':jj+2<=j':=CB (lk L) up (jj+1) t' j' hr1;have hjl':=hok.2.le;have HQ3:=aN (show mG (lk L) expr i=aH (iM (lk L) expr mm (l++[t']) j') λl j'=>.ok (node 2 i l,j')by rw[HQ2.out,hr1];rfl);clear HQ2 hr1 hp hL3 hO3 hok ht t3;go_wp2_with (at_builtin;refine qJ rfl _ _ rfl w0 w4 (.slice bo l.length cap) l rfl hL4 t' (vT k' n' a' s' ao' m' c') ht4 rfl ?dd1 ?dd2 ?_)
      case dd1=>exact hO4.1.size
      case dd2=>omega
      intro v5 w5 hL5 hb5;have hO5:=hO4.new hpl0 hb5;have t5:TV w5 w.heap.size _ _ _ _ _:=(hb5.block _ hlt0).trans t4;clear hL4 ht4 hO4 t4;go_wp2_with fail
      go_roundg (L.length - j')
      case measure=>rw[HG.out];omega
      case rel=>exact⟨l++[t'],j',hL5,hO5,t5,by omega,rfl,by simp,by rw[aO];show l.length+1<=_;omega,by rw[HQ3.out,aO];show _=aH (iM (lk L) expr (8 - (l.length+1)) _ _) _;rw[show 8 - (l.length+1)=mm from by omega]⟩
     ·unfold gM;go_wp2_with fail;exact⟨rfl,aU.err a' Ie ((bS _ b0).trans (hO3.1.trans hg4))⟩
    | false=>
     rw[hs]at hT
     have HQ2:=aN (show mG (lk L) expr i=.ok (node 2 i l,jj)by
      rw[HQ.out,hmm]
      unfold iM
      rw[aC (by rw[show cD (lk L) jj [lI]=false from hs];decide)];rfl)
     clear HQ hs;go_wp2_with (first|(go_at_call 123;refine hT.mono ?_;rintro e w3 ⟨rfl,h3⟩)|(go_at_call 87;refine(yM _ _ _ _ _ _).mono ?_;rintro e w4 ⟨rfl,hb⟩;have t4:=(tv.step hne h3.1).below hb;have:=AAD t4));refine nX (t4.set _ _ _ _ _) Tryz.results148 ?_;have hL4:=(hL.step hpl0 h3.1).step hpl0 (bS (some pb) hb);exact aU.ok HQ2.out (vT 2 0 i ⟨#[]⟩ bo l.length cap) rfl (((hL4.tree 2 0 i ⟨#[]⟩).uQ (λb hb hl=>by unfold Fr at hb;omega) _ _ _ _ _).since b0.size) ((Ok.below b0 ((hO.trans h3).then hb)).uQ hpl (aG _) _ _ _ _ _)
   ·have hlt':¬ (l.length:Int)<8:=by omega
    have HQ2:=aN (show mG (lk L) expr i=.ok (node 2 i l,jj)by
     rw[HQ.out,show 8 - l.length=0 from by omega]
     unfold iM;rfl)
    clear HQ;go_wp2_with (go_at_call 87;refine(yM _ _ _ _ _ _).mono ?_;rintro e w4 ⟨rfl,hb⟩;have t4:=tv.below hb;have:=AAD t4);refine nX (t4.set _ _ _ _ _) Tryz.results148 ?_;have hL4:=hL.step hpl0 (bS (some pb) hb);exact aU.ok HQ2.out (vT 2 0 i ⟨#[]⟩ bo l.length cap) rfl (((hL4.tree 2 0 i ⟨#[]⟩).uQ (λb hb hl=>by unfold Fr at hb;omega) _ _ _ _ _).since b0.size) ((Ok.below b0 (hO.then hb)).uQ hpl (aG _) _ _ _ _ _)
 exact SS
end
end
