/- Part 17. -/
import Derived.Test.YtikalomcclefiaaGreatDoorV16
set_option linter.all false
set_option maxHeartbeats 0
set_option maxRecDepth 100000
namespace Go.Proofs.YtikalomcclefiaaGreatDoor
section
open Go.RowKit Lx Px
def aU.okd{pb:Nat}{L:List T3}{w w':World}{t:T}{j:Nat}{e:Ending}(h:aU pb L w (.ok (t,j)) e w'):∃ k n a s ao m c,e=.returned (tg k n a s ao m c)/\iB (Fr w) w' t (vT k n a s ao m c)/\Ok pb L j w w':=by
 rcases h.split with ⟨t',j',k,n,a,s,ao,m,c,h1,h2,h3,h4⟩|⟨a,h1,_⟩
 ·cases h1;exact⟨k,n,a,s,ao,m,c,h2,h3,h4⟩
 ·cases h1
def iB.lit{av:Nat->Prop}{w w':World}{l:List T}{us:List Value}(h:dO av w l us)(hv:av w.heap.size)(hb:Below (w.alloc (.cells us.toArray 24)).heap.size (w.alloc (.cells us.toArray 24)) w')(k n a:Int)(s:dL)(c:Nat)(hcap:l.length<=c:=by exact aG _):iB av w' (.mk k n a s l) [.int .i64 k,.int .i64 n,.int .i64 a,.string s,.slice (some (AAF w.heap.size 0)) l.length c]:=by
 unfold iB;have hn:=aP w (.cells us.toArray 24);have hs:=hb.size;have hsz:(w.alloc (.cells us.toArray 24)).heap.size=w.heap.size+1:=by simp
 have h':w'.heap[w.heap.size]?=some (.cells us.toArray 24 (0,0)):=(hb.block _ aB).trans hn;refine⟨_,c,rfl,λ_=>⟨w.heap.size,0,us,rfl,hv,by omega,h.kept (λ_ hb _=>hb) aB (λb _ hl=>(hb.block b aB).trans (lP w _ b hl)),λi u hi=>?_⟩,hcap⟩;rw[dT,aK w' _ i _ _ _ h']
 simpa using hi
def dO.two{av:Nat->Prop}{w:World}{x y:T}{us vs:List Value}(h:iB av w x us)(k:iB av w y vs):dO av w [x,y] (us++vs):=(dO.one h).app (dO.one k)
def KY{w w':World}{r:Option Nat}(h:w.drew.grownBy w' r):w.grownBy w' r:=⟨h.os,h.tape,h.output,h.size,h.block⟩
theorem aU.KY{pb:Nat}{L:List T3}{w w':World}{r:R T}{e:Ending}(h:aU pb L w.drew r e w'):aU pb L w r e w':=by
 cases r with
 | ok tj=>obtain⟨us,h1,h2,h3⟩:=h;exact⟨us,h1,h2,_root_.Go.Proofs.YtikalomcclefiaaGreatDoor.KY h3.1,h3.2⟩
 | error a=>exact⟨h.1,_root_.Go.Proofs.YtikalomcclefiaaGreatDoor.KY h.2⟩
def KD(pb:Nat)(L:List T3)(lo:Nat)(expr:Nat->R T)(up:∀ i,Up (i+1) (expr i))(hE:Reads 45 pb L (lo+1) expr):Reads 134 pb L lo (eO (lk L) expr):=by
 intro i w hi h;have hPart:=Oq pb L lo expr up hE;have HU:=aN (show eO (lk L) expr i=aH (mG (lk L) expr i) λx j=>pZ (lk L) expr i ((lk L).length+1) x j from rfl);go_in;go_upto_region 1 with fail;obtain⟨t0,b0⟩:=tv0 w;generalize World.alloc w _=w0 at t0 b0 ⊢;have h0:=h.below b0;have hpl:=h.lt;have hpl0:=h0.lt;have hle:=h.le;have hbd:=h.bd;have hne:w.heap.size≠pb:=by omega
 have hlt0:=t0.lt;obtain⟨c0,_⟩:=h0.cells;go_upto_block 2 with fail;refine(hPart i _ hi h0).mono ?_;intro e w1 hp
 rcases hp.split with ⟨t,j,k,n,a,s,ao,m,c,hr1,rfl,ht,hok⟩|⟨a,hr1,rfl,hg⟩
 ·have hj:i+1<=j:=zW (lk L) up i t j hr1;have hok2:=hok.then (aJ w1 (.cells (vT k n a s ao m c).toArray 24));have t1:=t0.step hne hok.1;have hlB:=t1.lt;replace t1:=t1.below (aJ w1 (.cells (vT k n a s ao m c).toArray 24));have x1:=TV.new w1 k n a s (.slice ao m c);have ht1:iB (λb=>w0.heap.size<=b/\b≠w1.heap.size) (w1.alloc (.cells (vT k n a s ao m c).toArray 24)) t _:=ht.kept (λb hb hl=>⟨hb,by omega⟩) aI (λb _ hl=>lP w1 _ b hl);have hjl:=hok.2.le;have HR:=aN (show eO (lk L) expr i=pZ (lk L) expr i ((lk L).length+1) t j by rw[HU.out,hr1];rfl);have hB0:=hok.1.size;generalize hB:w1.heap.size=B at x1 hlB ht1 hB0;have hBpb:B≠pb:=by omega
  clear hp hr1 hok ht HU h t0 h0 c0;go_upto_region 3 with fail;replace hok2:Ok pb L j w0 (w1.alloc (.cells (tg k n a s ao m c) 24)):=hok2;replace t1:TV (w1.alloc (.cells (tg k n a s ao m c) 24)) w.heap.size _ _ _ _ _:=t1;replace ht1:iB _ (w1.alloc (.cells (tg k n a s ao m c) 24)) _ _:=ht1;generalize w1.alloc (.cells (tg k n a s ao m c) 24)=w2 at x1 hok2 t1 ht1 ⊢
  go_loopg [] (L.length - j) (λg wr=>∃ (x:T) (jj:Nat) (k n a:Int) (s:dL) (ao:iD) (m c q:Nat),iB (λb=>w0.heap.size<=b/\b≠B) wr x (vT k n a s ao m c)/\TV wr B k n a s (.slice ao m c)/\Ok pb L jj w0 wr/\
   TV wr w.heap.size (iq 0) (iq 0) (iq 0) (.string ⟨#[]⟩) (.slice none 0 0)/\i+1<=jj/\g=L.length - jj/\L.length+1<=q+jj/\eO (lk L) expr i=pZ (lk L) expr i q x jj)
  case atStart=>exact⟨t,j,k,n,a,s,ao,m,c,L.length+1,ht1,x1,hok2,t1,hj,rfl,by omega,by rw[HR.out,bN]⟩
  case round=>
   obtain⟨x,jj,k,n,a,s,ao,m,c,q,hx,xv,hO,tv,hij,hg,hq0,hq⟩:=hrel;have HQ:=aN hq;have HG:=aN hg;clear hq hg hok2 HR t1 ht1 x1;have hjL:=hO.2.le;have hT:=yJ pb L jj ⟨#[45,62]⟩ wr hO.2;obtain⟨q,rfl⟩:∃ q',q=q'+1:=⟨q - 1,by omega⟩
   cases hs:cD (lk L) jj [⟨#[45,62]⟩] with
   | true=>
    rw[hs]at hT
    have HQ2:=aN (show eO (lk L) expr i=aH (mG (lk L) expr (jj+1)) λy j'=>pZ (lk L) expr i q (node 4 i [x,y]) j' by
     rw[HQ.out]
     conv=>lhs;unfold pZ
     rw[aF (show cD (lk L) jj [fT]=true from hs)])
    have hjlt:=zE hs;clear HQ hs;go_upto_region 4 with (go_at_call 123;refine hT.mono ?_;rintro e w3 ⟨rfl,h3⟩);replace h3:Ok pb L (jj+1) wr w3:=h3;have hO3:=hO.trans h3;have t3:=tv.step hne h3.1;have x3:=xv.step hBpb h3.1;have hx3:iB (λb=>w0.heap.size<=b/\b≠B) w3 x (vT k n a s ao m c):=hx.kept (λ_ hb _=>hb) h3.1.size (λb hb hl=>h3.1.block b hl (λe=>by cases e;omega));clear hT hO h3 tv xv hx
    cases hr1:mG (lk L) expr (jj+1) with
    | error a'=>
     have hP:=(hPart (jj+1) w3.drew aB (hO3.2.drewN 1)).mono (λ_ _ h=>h.KY);rw[hr1]at hP;have HE:=aN (show eO (lk L) expr i=.error a' by rw[HQ2.out,hr1];rfl);have:=AAD x3
     go_region_dies
     all_goals
      refine hP.mono ?_;rintro e w4 ⟨rfl,hg4⟩;unfold gM;exact⟨rfl,aU.err a' HE.out ((bS _ b0).trans (hO3.1.trans hg4))⟩
    | ok yj=>
     obtain⟨y,j'⟩:=yj;have hP:=(hPart (jj+1) w3.drew aB (hO3.2.drewN 1)).mono (λ_ _ h=>h.KY);rw[hr1]at hP;have HQ3:=aN (show eO (lk L) expr i=pZ (lk L) expr i q (node 4 i [x,y]) j' by rw[HQ2.out,hr1];rfl);have hj':jj+2<=j':=zW (lk L) up (jj+1) y j' hr1;clear hr1 HQ2;have:=AAD x3
     go_region_with (first|(go_at_call 148;go_loud (refine hP.mono ?_;intro e w4 hp;obtain⟨k',n',a',s',ao',m',c',rfl,hy,hok⟩:=hp.okd;have x4:=x3.step hBpb hok.1;have:=AAD x4))|(go_at_call 87;refine(yM _ _ _ _ _ _).mono ?_;rintro e w5 ⟨rfl,hb5⟩;have x5:=(x4.below (aJ w4 _)).below hb5;have:=AAD x5))
     all_goals
      have hlB3:=x3.lt;have hx4:iB (λb=>w0.heap.size<=b/\b≠B) w4 x (vT k n a s ao m c):=hx3.kept (λ_ hb _=>hb) hok.1.size (λb hb hl=>hok.1.block b hl (λe=>by cases e;omega));have hy4:iB (λb=>w0.heap.size<=b/\b≠B) w4 y (vT k' n' a' s' ao' m' c'):=hy.kept (λb hb _=>by unfold Fr at hb;have:=hO3.1.size;exact⟨by omega,by omega⟩) (aG _) (λ_ _ _=>rfl);have hxy:=iB.lit (dO.two hx4 hy4) (w':=w5) ⟨(hO3.trans hok).1.size,Nat.ne_of_gt x4.lt⟩ hb5 4 0 i ⟨#[]⟩ 2;have hO5:=((hO3.trans hok).then (aJ w4 _)).then hb5;have t5:=((t3.step hne hok.1).below (aJ w4 _)).below hb5;have hjl':=hO5.2.le;go_wp2_with fail
      go_roundg (L.length - j')
      case measure=>rw[HG.out];omega
      case rel=>exact⟨node 4 i [x,y],j',4,0,i,⟨#[]⟩,some (AAF w4.heap.size 0),2,2,q,hxy.uQ (λb hb _=>hb.2) _ _ _ _ _,x5.set _ _ _ _ _,hO5.uQ hpl0 aB _ _ _ _ _,(Aw aB _ _ _ _ _ _).trans t5,by omega,rfl,by omega,HQ3.out⟩
   | false=>
    rw[hs]at hT
    have HQ2:=aN (show eO (lk L) expr i=.ok (x,jj)by
     rw[HQ.out]
     unfold pZ
     rw[aC (by rw[show cD (lk L) jj [fT]=false from hs];decide)])
    clear HQ hs;go_wp2_with (go_at_call 123;refine hT.mono ?_;rintro e w3 ⟨rfl,h3⟩;have t3:=tv.step hne h3.1;have x3:=xv.step hBpb h3.1;have:=AAD x3;have:=AAD t3);refine nX (t3.set _ _ _ _ _) Tryz.results134 ?_;have hx3:iB (λb=>w0.heap.size<=b/\b≠B) w3 x (vT k n a s ao m c):=hx.kept (λ_ hb _=>hb) h3.1.size (λb hb hl=>h3.1.block b hl (λe=>by cases e;omega));exact aU.ok HQ2.out (vT k n a s ao m c) rfl ((hx3.uQ (λb hb hl=>by omega) _ _ _ _ _).kept (λb hb _=>aZ b0.size hb.1) (aG _) (λ_ _ _=>rfl)) ((Ok.below b0 (hO.trans h3)).uQ hpl (aG _) _ _ _ _ _)
 exact SS
def fM.Ol(w:World)(ss:List ByteArray)(cs:Array Value)(hc:cs=(ss.map Value.string).toArray)(n:Nat)(hn:n=ss.length):fM (w.alloc (.cells cs 9)) (.slice (some (AAF w.heap.size 0)) n n) ss:=by
 subst hc hn;refine⟨_,0,_,rfl,by simp,λj hj=>?_⟩;rw[dT,aK _ _ j _ _ _ (aP w _)]
 simp[tC,dQ hj]
theorem PS.text{w:World}{pb:Nat}{L:List T3}{i j:Nat}(h:PS w pb L j)(hi:i<L.length):∃ b off cap,w.cell? (AAF pb 0)=some (.slice (some (b,off)) L.length cap)/\w.cell? (b,off+i*3+1)=some (.string (tok (lk L) i).text)/\b<pb:=by
 obtain⟨ao,cap,h1,h2⟩:=h.blk;obtain⟨b,off,rfl,_,hn,hc⟩:=h2 DE;refine⟨b,off,cap,aK _ _ 0 _ _ _ h1,?_,hn⟩;rw[show tok (lk L) i=_ from WZ hi];exact hc i hi 1 _ rfl
def acV(L:List Tk)(f i:Nat):fN L (f+1) i=if cD L i [jR,gG,rA]then aH (fN L f (i+1)) λx j=>.ok (.mk 5 0 i (tok L i).text [x],j)else if cD L i [cJ]then aH (mY L f (i+1)) λx j=>aH (aW L j dA) λ_ j'=>.ok (x,j')else if dP L i then cQ L i else eO L (mY L f) i:=by
 conv=>lhs;unfold fN
 rfl
def akP(pb:Nat)(L:List T3)(lo f:Nat)(hUn:Reads 111 pb L (lo+1) (fN (lk L) f))(hE:Reads 45 pb L (lo+1) (mY (lk L) f)):Reads 111 pb L lo (fN (lk L) (f+1)):=by
 intro i w hi h;have HU:=aN (acV (lk L) f i);go_in;go_upto_region 1 with fail;obtain⟨t0,b0⟩:=tv0 w;generalize World.alloc w _=w0 at t0 b0 ⊢;have h0:=h.below b0;have hpl:=h.lt;have hpl0:=h0.lt;have hle:=h.le;have hbd:=h.bd;have hne:w.heap.size≠pb:=by omega
 have hlt0:=t0.lt;have hS:=EN pb L i 0 aD (.slice (some (AAF w0.heap.size 0)) 3 3) [jR,gG,rA] aD _ (h0.below (aJ w0 (.cells #[.string ⟨#[43]⟩,.string ⟨#[45]⟩,.string ⟨#[94]⟩] 9))) (fM.Ol w0 [jR,gG,rA] _ rfl 3 rfl);rw[lE]at hS
 cases hs:cD (lk L) i [jR,gG,rA] with
 | true=>
  have hlt:=zE hs;have HQ:=aN (show fN (lk L) (f+1) i=aH (fN (lk L) f (i+1)) λx j=>.ok (.mk 5 0 i (tok (lk L) i).text [x],j)by rw[HU.out,aF hs]);rw[hs]at hS;clear hs HU;go_upto_region 2 with (go_at_call 112;refine hS.mono ?_;rintro e w1 ⟨rfl,hb⟩);have B1:=eU _ _ _ hb;have h1:=h0.below B1;have t1:=t0.below B1;obtain⟨c1,f1⟩:=h1.cells;clear hS hb h0 t0;go_upto_region 4 with fail;have g2:=mN w1 pb 1 (iq ((i:Int)+1));have h2:PS (w1.setCell (AAF pb 1) (iq ((i:Int)+1))) pb L (i+1):=h1.set (i+1) aB;have t2:=t1.step hne g2;have hO2:Ok pb L (i+1) w (w1.setCell (AAF pb 1) (iq ((i:Int)+1))):=⟨(bS _ (b0.trans (B1.mono b0.size))).trans g2,h2⟩
  generalize w1.setCell (AAF pb 1) (iq ((i:Int)+1))=w2 at h2 t2 hO2 ⊢;clear c1 f1 g2 t1 h1;obtain⟨b,off,cap,k0,c1,hb⟩:=h2.text hlt;have hlt':(i:Int)<(L.length:Int):=by omega
  have hge:(0:Int)<=(i:Int):=by omega
  have hP:=(hUn (i+1) w2.drew aB (h2.drewN 1)).mono (λ_ _ h=>h.KY)
  cases hr1:fN (lk L) f (i+1) with
  | error a'=>
   rw[hr1]at hP;have HE:=aN (show fN (lk L) (f+1) i=.error a' by rw[HQ.out,hr1];rfl);clear HQ hr1;have:=AAD t2
   go_region_dies
   all_goals
    refine hP.mono ?_;rintro e w4 ⟨rfl,hg4⟩;unfold gM;exact⟨rfl,aU.err a' HE.out (hO2.1.trans hg4)⟩
  | ok yj=>
   obtain⟨y,j'⟩:=yj;rw[hr1]at hP;have HR:=aN (show fN (lk L) (f+1) i=.ok (.mk 5 0 i (tok (lk L) i).text [y],j')by rw[HQ.out,hr1];rfl);clear HQ hr1;generalize htx:(tok (lk L) i).text=tx at c1 HR;have HTX:=aN htx;clear htx;have:=AAD t2
   go_region_with (go_at_call 111;go_loud (refine hP.mono ?_;intro e w4 hp;obtain⟨k',n',a',s',ao',m',c',rfl,hy,hok⟩:=hp.okd;have t4:=t2.step hne hok.1;have:=AAD t4;have c1':=(tR (a:=(b,off+i*3+1)) (hok.1.block b (by have:=h2.lt;show b<_;omega) (λe=>by cases e;omega))).trans c1;obtain⟨b',off',cap',k0',c1'',hb'⟩:=hok.2.text hlt;rw[HTX.out]at c1'';have ba:=aJ w4 (.cells (tg k' n' a' s' ao' m' c') 24);have ta:=t4.below ba;have:=AAD ta;have hb4:b<w4.heap.size:=tP hb hok.2.lt;have e1:=(ba.cell (p:=(b,off+i*3+1)) hb4).trans c1';have e2:=(ba.cell (p:=(b',off'+i*3+1)) (tP hb' hok.2.lt)).trans c1'';have e3:=(ba.cell (p:=(AAF pb 0)) hok.2.lt).trans k0'))
   all_goals
    have hlw2:=t2.lt;have hT5:=(iB.lit (dO.one hy) (show Fr w2 w4.heap.size from hok.1.size) (bH _ _) 5 0 i tx 1).uQ (B:=w.heap.size) (λb hb _=>by unfold Fr at hb;omega) (iq 5) (iq 0) i tx (.slice (some (AAF w4.heap.size 0)) 1 1);have hO5:=((hO2.trans hok).then (aJ w4 (.cells (vT k' n' a' s' ao' m' c').toArray 24))).uQ hpl (aG _) (iq 5) (iq 0) i tx (.slice (some (AAF w4.heap.size 0)) 1 1);go_wp2_with fail;refine nX (ta.set _ _ _ _ _) Tryz.results111 ?_;exact aU.ok HR.out (vT 5 0 i tx (some (AAF w4.heap.size 0)) 1 1) rfl (hT5.since hO2.1.size) hO5
 | false=>
  have HQ:=aN (show fN (lk L) (f+1) i=if cD (lk L) i [cJ]then aH (mY (lk L) f (i+1)) λx j=>aH (aW (lk L) j dA) λ_ j'=>.ok (x,j')
   else if dP (lk L) i then cQ (lk L) i else eO (lk L) (mY (lk L) f) i by rw[HU.out,aC AD])
  rw[hs]at hS;clear hs HU;go_upto_region 5 with (go_at_call 112;refine hS.mono ?_;rintro e w1 ⟨rfl,hb⟩);have B1:=eU _ _ _ hb;have h1:=h0.below B1;have t1:=t0.below B1;have hO1:Ok pb L i w w1:=⟨bS _ (b0.trans (B1.mono b0.size)),h1⟩
  have hsz1:=B1.size;clear hS hb h0 t0 B1;have hT:=yJ pb L i ⟨#[40]⟩ w1 h1
  cases hs:cD (lk L) i [⟨#[40]⟩] with
  | true=>
   have HQ2:=aN (show fN (lk L) (f+1) i=aH (mY (lk L) f (i+1)) λx j=>aH (aW (lk L) j dA) λ_ j'=>.ok (x,j')by rw[HQ.out,aF (show cD (lk L) i [cJ]=true from hs)]);rw[hs]at hT;clear hs HQ;go_upto_block 6 with (go_at_call 123;refine hT.mono ?_;rintro e w2 ⟨rfl,h2⟩);replace h2:Ok pb L (i+1) w1 w2:=h2;have t2:=t1.step hne h2.1;have hO2:=hO1.trans h2;clear hT;refine(hE (i+1) w2 aB h2.2).mono ?_;intro e w3 hp
   rcases hp.split with ⟨t,j,k,n,a,s,ao,m,c,hr1,rfl,ht,hok⟩|⟨a,hr1,rfl,hg⟩
   ·have HQ3:=aN (show fN (lk L) (f+1) i=aH (aW (lk L) j dA) λ_ j'=>.ok (t,j')by rw[HQ2.out,hr1];rfl);have t3:=t2.step hne hok.1;have hlB:=t3.lt;have x4:=TV.new w3 k n a s (.slice ao m c);have t4:=t3.below (aJ w3 (.cells (tg k n a s ao m c) 24));have hO4:=(hO2.trans hok).then (aJ w3 (.cells (tg k n a s ao m c) 24));have ht4:=ht.step h2.2.lt (bS (some pb) (aJ w3 (.cells (tg k n a s ao m c) 24)));have hlw2:=t2.lt;clear hp hr1 HQ2 hok ht t3;go_upto_region 7 with fail;generalize w3.alloc (.cells (tg k n a s ao m c) 24)=w4 at x4 t4 hO4 ht4 ⊢;generalize w3.heap.size=B at x4 hlB ⊢;have hnB:B≠pb:=by omega
    have hN:=Wa pb L j ⟨#[41]⟩ w4 hO4.2;go_upto_block 7 with fail;refine hN.mono ?_;intro e w5 hq
    rcases hq.split with ⟨j2,hr2,rfl,hok2⟩|⟨a,hr2,rfl,hg2⟩
    ·have t5:=t4.step hne hok2.1;have x5:=x4.step hnB hok2.1;have ht5:=ht4.step h2.2.lt hok2.1;have:=AAD t5;have:=AAD x5;go_wp2_with fail;refine nX (t5.set _ _ _ _ _) Tryz.results111 ?_;exact aU.ok Qc (vT k n a s ao m c) rfl ((ht5.uQ (λb hb hl=>by unfold Fr at hb;omega) _ _ _ _ _).since hO2.1.size) ((hO4.trans hok2).uQ hpl (aG _) _ _ _ _ _)
    ·unfold gM;go_wp2_with fail;exact⟨rfl,aU.err a Qc (hO4.1.trans hg2)⟩
   ·unfold gM;go_wp2_with fail;exact⟨rfl,aU.err a Ie (hO2.1.trans hg)⟩
  | false=>
   have HQ2:=aN (show fN (lk L) (f+1) i=if dP (lk L) i then cQ (lk L) i else eO (lk L) (mY (lk L) f) i by rw[HQ.out,aC (by rw[show cD (lk L) i [cJ]=false from hs];decide)]);rw[hs]at hT;clear hs HQ;go_upto_block 9 with (go_at_call 123;refine hT.mono ?_;rintro e w2 ⟨rfl,h2⟩);replace h2:Ok pb L i w1 w2:=h2;have t2:=t1.step hne h2.1;have hO2:=hO1.trans h2;clear hT;have hC:=tY pb L i 0 aD w2 h2.2;rw[lE]at hC;refine hC.mono ?_;rintro e w3 ⟨rfl,hb3⟩;have t3:=t2.below hb3;have hO3:=hO2.then hb3;have hlw3:=t3.lt
   cases hc:dP (lk L) i with
   | true=>
    have HR:=aN (show fN (lk L) (f+1) i=cQ (lk L) i by rw[HQ2.out,aF hc]);clear HQ2 hC hc;go_upto_block 10 with fail;refine(uD pb L i w3 hO3.2).mono ?_;exact Ri
   | false=>
    have HR:=aN (show fN (lk L) (f+1) i=eO (lk L) (mY (lk L) f) i by rw[HQ2.out,aC (by rw[hc];decide)]);clear HQ2 hC hc;go_upto_block 11 with fail;refine(KD pb L lo (mY (lk L) f) (agR (lk L) f) hE i w3 hi hO3.2).mono ?_;exact Ri
def zJ(w:World):AAA 103 #[] w λe w'=>(∃ v0 v1 v2 v3 v4 v5,e=.returned (.agg #[v0,v1,v2,v3,v4,v5])/\fM w' v0 (hY 0)/\fM w' v1 (hY 1)/\fM w' v2 (hY 2)/\fM w' v3 (hY 3)/\fM w' v4 (hY 4)/\fM w' v5 (hY 5))/\iY w w':=by
 go_in;go_wp2_with fail;have n1:=aP w (.cells #[Value.slice (some (AAF (w.heap.size+1) 0)) 1 1,Value.slice (some (AAF (w.heap.size+1+1) 0)) 1 1,Value.slice (some (AAF (w.heap.size+1+1+1) 0)) 8 8,Value.slice (some (AAF (w.heap.size+1+1+1+1) 0)) 1 1,Value.slice (some (AAF (w.heap.size+1+1+1+1+1) 0)) 2 2,Value.slice (some (AAF (w.heap.size+1+1+1+1+1+1) 0)) 2 2] 146);have b1:=aJ w (.cells #[Value.slice (some (AAF (w.heap.size+1) 0)) 1 1,Value.slice (some (AAF (w.heap.size+1+1) 0)) 1 1,Value.slice (some (AAF (w.heap.size+1+1+1) 0)) 8 8,Value.slice (some (AAF (w.heap.size+1+1+1+1) 0)) 1 1,Value.slice (some (AAF (w.heap.size+1+1+1+1+1) 0)) 2 2,Value.slice (some (AAF (w.heap.size+1+1+1+1+1+1) 0)) 2 2] 146);have z1:(w.alloc (.cells #[Value.slice (some (AAF (w.heap.size+1) 0)) 1 1,Value.slice (some (AAF (w.heap.size+1+1) 0)) 1 1,Value.slice (some (AAF (w.heap.size+1+1+1) 0)) 8 8,Value.slice (some (AAF (w.heap.size+1+1+1+1) 0)) 1 1,Value.slice (some (AAF (w.heap.size+1+1+1+1+1) 0)) 2 2,Value.slice (some (AAF (w.heap.size+1+1+1+1+1+1) 0)) 2 2] 146)).heap.size=w.heap.size+1:=by simp
 generalize w.alloc (.cells #[Value.slice (some (AAF (w.heap.size+1) 0)) 1 1,Value.slice (some (AAF (w.heap.size+1+1) 0)) 1 1,Value.slice (some (AAF (w.heap.size+1+1+1) 0)) 8 8,Value.slice (some (AAF (w.heap.size+1+1+1+1) 0)) 1 1,Value.slice (some (AAF (w.heap.size+1+1+1+1+1) 0)) 2 2,Value.slice (some (AAF (w.heap.size+1+1+1+1+1+1) 0)) 2 2] 146)=W1 at n1 b1 z1 ⊢;have s0:=fM.Ol W1 (hY 0) _ rfl 1 rfl;replace s0:fM (W1.alloc (.cells #[.string ⟨#[124]⟩] 9)) _ (hY 0):=s0;rw[z1]at s0;have z2:(W1.alloc (.cells #[.string ⟨#[124]⟩] 9)).heap.size=w.heap.size+1+1:=by simp[z1]
 have c2:=aJ W1 (.cells #[.string ⟨#[124]⟩] 9);generalize W1.alloc (.cells #[.string ⟨#[124]⟩] 9)=W2 at s0 z2 c2 ⊢;have b2:=b1.trans (c2.mono b1.size);have n2:=(c2.block w.heap.size aB).trans n1;have s1:=fM.Ol W2 (hY 1) _ rfl 1 rfl;replace s1:fM (W2.alloc (.cells #[.string ⟨#[38]⟩] 9)) _ (hY 1):=s1;rw[z2]at s1;have z3:(W2.alloc (.cells #[.string ⟨#[38]⟩] 9)).heap.size=w.heap.size+1+1+1:=by simp[z2]
 have c3:=aJ W2 (.cells #[.string ⟨#[38]⟩] 9);generalize W2.alloc (.cells #[.string ⟨#[38]⟩] 9)=W3 at s1 z3 c3 ⊢;have b3:=b2.trans (c3.mono b2.size);have n3:=(c3.block w.heap.size aB).trans n2;replace s0:=s0.below c3;have s2:=fM.Ol W3 (hY 2) _ rfl 8 rfl;replace s2:fM (W3.alloc (.cells #[.string ⟨#[61]⟩,.string ⟨#[94,61]⟩,.string ⟨#[60]⟩,.string ⟨#[60,61]⟩,.string ⟨#[62]⟩,.string ⟨#[62,61]⟩,.string ⟨#[94,60]⟩,.string ⟨#[94,62]⟩] 9)) _ (hY 2):=s2;rw[z3]at s2;have z4:(W3.alloc (.cells #[.string ⟨#[61]⟩,.string ⟨#[94,61]⟩,.string ⟨#[60]⟩,.string ⟨#[60,61]⟩,.string ⟨#[62]⟩,.string ⟨#[62,61]⟩,.string ⟨#[94,60]⟩,.string ⟨#[94,62]⟩] 9)).heap.size=w.heap.size+1+1+1+1:=by simp[z3]
 have c4:=aJ W3 (.cells #[.string ⟨#[61]⟩,.string ⟨#[94,61]⟩,.string ⟨#[60]⟩,.string ⟨#[60,61]⟩,.string ⟨#[62]⟩,.string ⟨#[62,61]⟩,.string ⟨#[94,60]⟩,.string ⟨#[94,62]⟩] 9);generalize W3.alloc (.cells #[.string ⟨#[61]⟩,.string ⟨#[94,61]⟩,.string ⟨#[60]⟩,.string ⟨#[60,61]⟩,.string ⟨#[62]⟩,.string ⟨#[62,61]⟩,.string ⟨#[94,60]⟩,.string ⟨#[94,62]⟩] 9)=W4 at s2 z4 c4 ⊢;have b4:=b3.trans (c4.mono b3.size);have n4:=(c4.block w.heap.size aB).trans n3;replace s0:=s0.below c4;replace s1:=s1.below c4;have s3:=fM.Ol W4 (hY 3) _ rfl 1 rfl;replace s3:fM (W4.alloc (.cells #[.string ⟨#[124,124]⟩] 9)) _ (hY 3):=s3;rw[z4]at s3;have z5:(W4.alloc (.cells #[.string ⟨#[124,124]⟩] 9)).heap.size=w.heap.size+1+1+1+1+1:=by simp[z4]
 have c5:=aJ W4 (.cells #[.string ⟨#[124,124]⟩] 9);generalize W4.alloc (.cells #[.string ⟨#[124,124]⟩] 9)=W5 at s3 z5 c5 ⊢;have b5:=b4.trans (c5.mono b4.size);have n5:=(c5.block w.heap.size aB).trans n4;replace s0:=s0.below c5;replace s1:=s1.below c5;replace s2:=s2.below c5;have s4:=fM.Ol W5 (hY 4) _ rfl 2 rfl;replace s4:fM (W5.alloc (.cells #[.string ⟨#[43]⟩,.string ⟨#[45]⟩] 9)) _ (hY 4):=s4;rw[z5]at s4;have z6:(W5.alloc (.cells #[.string ⟨#[43]⟩,.string ⟨#[45]⟩] 9)).heap.size=w.heap.size+1+1+1+1+1+1:=by simp[z5]
 have c6:=aJ W5 (.cells #[.string ⟨#[43]⟩,.string ⟨#[45]⟩] 9);generalize W5.alloc (.cells #[.string ⟨#[43]⟩,.string ⟨#[45]⟩] 9)=W6 at s4 z6 c6 ⊢;have b6:=b5.trans (c6.mono b5.size);have n6:=(c6.block w.heap.size aB).trans n5;replace s0:=s0.below c6;replace s1:=s1.below c6;replace s2:=s2.below c6;replace s3:=s3.below c6;have s5:=fM.Ol W6 (hY 5) _ rfl 2 rfl;replace s5:fM (W6.alloc (.cells #[.string ⟨#[42]⟩,.string ⟨#[47]⟩] 9)) _ (hY 5):=s5;rw[z6]at s5;have z7:(W6.alloc (.cells #[.string ⟨#[42]⟩,.string ⟨#[47]⟩] 9)).heap.size=w.heap.size+1+1+1+1+1+1+1:=by simp[z6]
 have c7:=aJ W6 (.cells #[.string ⟨#[42]⟩,.string ⟨#[47]⟩] 9);generalize W6.alloc (.cells #[.string ⟨#[42]⟩,.string ⟨#[47]⟩] 9)=W7 at s5 z7 c7 ⊢;have b7:=b6.trans (c7.mono b6.size);have n7:=(c7.block w.heap.size aB).trans n6;replace s0:=s0.below c7;replace s1:=s1.below c7;replace s2:=s2.below c7;replace s3:=s3.below c7;replace s4:=s4.below c7;have q0:=aK W7 w.heap.size 0 _ _ _ n7;have q1:=aK W7 w.heap.size 1 _ _ _ n7;have q2:=aK W7 w.heap.size 2 _ _ _ n7;have q3:=aK W7 w.heap.size 3 _ _ _ n7;have q4:=aK W7 w.heap.size 4 _ _ _ n7;have q5:=aK W7 w.heap.size 5 _ _ _ n7;refine iW (v:=.agg #[Value.slice (some (AAF (w.heap.size+1) 0)) 1 1,Value.slice (some (AAF (w.heap.size+1+1) 0)) 1 1,Value.slice (some (AAF (w.heap.size+1+1+1) 0)) 8 8,Value.slice (some (AAF (w.heap.size+1+1+1+1) 0)) 1 1,Value.slice (some (AAF (w.heap.size+1+1+1+1+1) 0)) 2 2,Value.slice (some (AAF (w.heap.size+1+1+1+1+1+1) 0)) 2 2]) (by simp[results,Tryz.results103,go_sem,q0,q1,q2,q3,q4,q5]) rfl ⟨⟨_,_,_,_,_,_,rfl,s0,s1,s2,s3,s4,s5⟩,b7⟩
end
