/- Part 18. -/
import Derived.Test.YtikalomcclefiaaGreatDoorV17
set_option linter.all false
set_option maxHeartbeats 0
set_option maxRecDepth 100000
namespace Go.Proofs.YtikalomcclefiaaGreatDoor
section
open Go.RowKit Lx Px
def apC(n:Nat)(hn:n<6)(v0 v1 v2 v3 v4 v5:Value)(w:World)(h0:fM w v0 (hY 0))(h1:fM w v1 (hY 1))(h2:fM w v2 (hY 2))(h3:fM w v3 (hY 3))(h4:fM w v4 (hY 4))(h5:fM w v5 (hY 5)):∃ v,fM w v (hY n)/\∀ w',(Instr.index 146 (.agg #[v0,v1,v2,v3,v4,v5]) (iq n)).run Tryz.prog w'=.ok v w':=by
 rcases (by omega:n=0\/n=1\/n=2\/n=3\/n=4\/n=5)with rfl|rfl|rfl|rfl|rfl|rfl
 ·exact⟨v0,h0,λw'=>by kernel_rfl⟩
 ·exact⟨v1,h1,λw'=>by kernel_rfl⟩
 ·exact⟨v2,h2,λw'=>by kernel_rfl⟩
 ·exact⟨v3,h3,λw'=>by kernel_rfl⟩
 ·exact⟨v4,h4,λw'=>by kernel_rfl⟩
 ·exact⟨v5,h5,λw'=>by kernel_rfl⟩
def XX(n:Nat)(hn:n<6):(hY n).length<=1000:=by
 rcases (by omega:n=0\/n=1\/n=2\/n=3\/n=4\/n=5)with rfl|rfl|rfl|rfl|rfl|rfl<;>decide
section
variable(pb:Nat)(L:List T3)
include pb L
theorem aeW(lo:Nat)(prim:Nat->R T)(hUn:Reads 111 pb L lo prim)(i:Nat)(hi:lo<=i)(w:World)(h:PS w pb L i):AAA 73 #[pq pb,iq (6:Nat)] w (aU pb L w (prim i)):=by
 go_in;go_upto_region 1 with fail;obtain⟨t0,b0⟩:=tv0 w;generalize World.alloc w _=w0 at t0 b0 ⊢;have h0:=h.below b0;have hpl:=h.lt;have hne:w.heap.size≠pb:=by omega
 go_upto_block 2 with (go_at_call 103;refine(zJ _).mono ?_;rintro e w1 ⟨⟨v0,v1,v2,v3,v4,v5,rfl,_⟩,hb1⟩);have h1:=h0.below hb1;have t1:=t0.below hb1;have hO1:Ok pb L i w w1:=⟨bS _ (b0.trans (hb1.mono b0.size)),h1⟩
 have hlw:=t1.lt;refine(hUn i w1 hi h1).mono ?_;intro e w4 hp
 rcases hp.split with ⟨t,j,k,n,a,s,ao,m,c,hr1,rfl,ht,hok⟩|⟨a,hr1,rfl,hg⟩
 ·have t4:=t1.step hne hok.1;have:=AAD t4;have HR:=aN hr1;clear hp hr1;go_wp2_with fail;refine nX (t4.set _ _ _ _ _) Tryz.results73 ?_;exact aU.ok HR.out (vT k n a s ao m c) rfl ((ht.uQ (λb hb hl=>by unfold Fr at hb;omega) _ _ _ _ _).since hO1.1.size) ((hO1.trans hok).uQ hpl (aG _) _ _ _ _ _)
 ·unfold gM;have HR:=aN hr1;clear hp hr1;exact Sv
theorem acN(lo:Nat)(prim:Nat->R T)(up:∀ i,Up (i+1) (prim i))(q:Nat)(hq:q<6)(ih:∀ i w,lo<=i->PS w pb L i->AAA 73 #[pq pb,iq ((6 - q:Nat):Int)] w (aU pb L w (sY (lk L) prim q i)))(i:Nat)(hi:lo<=i)(w:World)(h:PS w pb L i):AAA 73 #[pq pb,iq ((5 - q:Nat):Int)] w (aU pb L w (sY (lk L) prim (q+1) i)):=by
 have upq:=UA (lk L) up q;have HU:=aN (show sY (lk L) prim (q+1) i=aH (sY (lk L) prim q i) λx j=>binGo (lk L) (sY (lk L) prim q) (hY (5 - q)) i ((lk L).length+1) x j from rfl);have hv:((6 - q:Nat):Int)=((5 - q:Nat):Int)+1:=by omega
 have hlv6:¬ ((5 - q:Nat):Int)=6:=by omega
 have hlev:=apC (5 - q) aB;have hol:=XX (5 - q) aB;rw[hv]at ih;generalize hlv:5 - q=lv at hlev hlv6 ih HU hol ⊢;have hlv5:lv<=5:=by omega
 go_in;go_upto_region 1 with fail;obtain⟨t0,b0⟩:=tv0 w;generalize World.alloc w _=w0 at t0 b0 ⊢;have h0:=h.below b0;have hpl:=h.lt;have hbd:=h.bd;have hle:=h.le;have hne:w.heap.size≠pb:=by omega
 go_upto_region 3 with (go_at_call 103;refine(zJ _).mono ?_;rintro e w1 ⟨⟨v0,v1,v2,v3,v4,v5,rfl,_⟩,hb1⟩);have h1:=h0.below hb1;have t1:=t0.below hb1;have hO1:Ok pb L i w w1:=⟨bS _ (b0.trans (hb1.mono b0.size)),h1⟩
 have hlw:=t1.lt;obtain⟨c1,_⟩:=h1.cells;go_upto_block 4 with fail;refine(ih i w1 hi h1).mono ?_;intro e w2 hp
 rcases hp.split with ⟨t,j,k,n,a,s,ao,m,c,hr1,rfl,ht,hok⟩|⟨a,hr1,rfl,hg⟩
 ·have hj:i+1<=j:=upq i t j hr1;have hok2:=(hO1.trans hok).then (aJ w2 (.cells (vT k n a s ao m c).toArray 24));have t2:=t1.step hne hok.1;have hlB:=t2.lt;replace t2:=t2.below (aJ w2 (.cells (vT k n a s ao m c).toArray 24));have x2:=TV.new w2 k n a s (.slice ao m c);have hw01:=hO1.1.size;have ht2:iB (λb=>w1.heap.size<=b/\b≠w2.heap.size) (w2.alloc (.cells (vT k n a s ao m c).toArray 24)) t _:=ht.kept (λb hb hl=>⟨hb,by omega⟩) aI (λb _ hl=>lP w2 _ b hl);have hjl:=hok.2.le;have hB0:=hok.1.size;have HR:=aN (show sY (lk L) prim (q+1) i=binGo (lk L) (sY (lk L) prim q) (hY lv) i ((lk L).length+1) t j by rw[HU.out,hr1];rfl);generalize hB:w2.heap.size=B at x2 hlB ht2 hB0;have hBpb:B≠pb:=by omega
  clear hp hr1 hok ht HU h t0 h0 c1;go_upto_region 5 with fail;replace hok2:Ok pb L j w (w2.alloc (.cells (tg k n a s ao m c) 24)):=hok2;replace t2:TV (w2.alloc (.cells (tg k n a s ao m c) 24)) w.heap.size _ _ _ _ _:=t2;replace ht2:iB _ (w2.alloc (.cells (tg k n a s ao m c) 24)) _ _:=ht2;generalize w2.alloc (.cells (tg k n a s ao m c) 24)=w3 at x2 hok2 t2 ht2 ⊢
  go_loopg [] (L.length - j) (λg wr=>∃ (x:T) (jj:Nat) (k n a:Int) (s:dL) (ao:iD) (m c z:Nat),iB (λb=>w1.heap.size<=b/\b≠B) wr x (vT k n a s ao m c)/\TV wr B k n a s (.slice ao m c)/\Ok pb L jj w wr/\
   TV wr w.heap.size (iq 0) (iq 0) (iq 0) (.string ⟨#[]⟩) (.slice none 0 0)/\i+1<=jj/\g=L.length - jj/\L.length+1<=z+jj/\w1.heap.size<=wr.heap.size/\sY (lk L) prim (q+1) i=binGo (lk L) (sY (lk L) prim q) (hY lv) i z x jj)
  case atStart=>exact⟨t,j,k,n,a,s,ao,m,c,L.length+1,ht2,x2,hok2,t2,hj,rfl,by omega,by have:=x2.lt;omega,by rw[HR.out,bN]⟩
  case round=>
   obtain⟨x,jj,k,n,a,s,ao,m,c,z,hx,xv,hO,tv,hij,hg,hz0,hwr1,hq⟩:=hrel;have HQ:=aN hq;have HG:=aN hg;clear hq hg hok2 HR t2 ht2 x2;have hjL:=hO.2.le;obtain⟨z,rfl⟩:∃ z',z=z'+1:=⟨z - 1,by omega⟩
   cases hs:cD (lk L) jj (hY lv) with
   | true=>
    have hjlt:=zE hs
    have HQ2:=aN (show sY (lk L) prim (q+1) i=aH (sY (lk L) prim q (jj+1)) λy j'=>binGo (lk L) (sY (lk L) prim q) (hY lv) i z (.mk 6 0 i (tok (lk L) (jj+0)).text [x,y]) j' by
     rw[HQ.out]
     conv=>lhs;unfold binGo
     rw[aF hs];rfl)
    have hs':cD (lk L) (jj+0) (hY lv)=true:=hs;have HS:=aN hs';clear HQ hs hs';go_upto_region 6 with (first|(go_at_call 103;refine(zJ _).mono ?_;rintro e w3 ⟨⟨v0,v1,v2,v3,v4,v5,rfl,s0,s1,s2,s3,s4,s5⟩,hb3⟩;obtain⟨sv,hsv,hix⟩:=hlev v0 v1 v2 v3 v4 v5 w3 s0 s1 s2 s3 s4 s5;have h3:=hO.2.below hb3)|(go_at_call 112;refine(EN pb L jj 0 aD sv (hY lv) hol _ h3 hsv).mono ?_;rintro e w4 ⟨he,hb4⟩;rw[HS.out]at he;subst he));have B34:=hb3.trans (hb4.mono hb3.size);have hO4:=hO.then B34;have t4:=tv.below B34;have x4:=xv.below B34;have hx4:=hx.kept (av':=λb=>w1.heap.size<=b/\b≠B) (λ_ hb _=>hb) B34.size (λb hb hl=>B34.block b hl);have hw14:=aZ hwr1 B34.size;clear hO tv xv hx h3 hsv hix s0 s1 s2 s3 s4 s5;have hf1:=aCR;have hT:=fS pb L jj 0 aD w4 hO4.2;generalize htx:(tok (lk L) (jj+0)).text=tx at HQ2;rw[show (tok (L.map T3.tk) (jj+0)).text=tx from htx]at hT;clear htx;go_upto_region 7 with (go_at_call 113;refine hT.mono ?_;rintro e w5 ⟨⟨p5,rfl⟩,hb5⟩);have hO5:=hO4.then hb5;have t5:=t4.below hb5;have x5:=x4.below hb5;have hx5:=hx4.kept (av':=λb=>w1.heap.size<=b/\b≠B) (λ_ hb _=>hb) hb5.size (λb hb hl=>hb5.block b hl);have hw15:=aZ hw14 hb5.size;obtain⟨c5,f5⟩:=hO5.2.cells;clear hO4 t4 x4 hx4 hT;go_upto_region 8 with fail;have g6:=mN w5 pb 1 (iq ((jj:Int)+1));have h6:PS (w5.setCell (AAF pb 1) (iq ((jj:Int)+1))) pb L (jj+1):=hO5.2.set (jj+1) aB;have t6:=t5.step hne g6;have x6:=x5.step hBpb g6;have hx6:iB (λb=>w1.heap.size<=b/\b≠B) (w5.setCell (AAF pb 1) (iq ((jj:Int)+1))) x (vT k n a s ao m c):=hx5.kept (λ_ hb _=>hb) g6.size (λb hb hl=>g6.block b hl (λe=>by cases e;omega));have hO6:Ok pb L (jj+1) w (w5.setCell (AAF pb 1) (iq ((jj:Int)+1))):=⟨hO5.1.trans g6,h6⟩
    have hw16:=aZ hw15 g6.size;generalize w5.setCell (AAF pb 1) (iq ((jj:Int)+1))=w6 at h6 t6 x6 hx6 hO6 hw16 ⊢;clear c5 f5 g6 t5 x5 hx5 hO5;have hwl:IntKind.i64.wrap ((lv:Int)+1)=(lv:Int)+1:=iV _ aB;have hP:=(ih (jj+1) w6.drew aB (h6.drewN 1)).mono (λ_ _ h=>h.KY)
    cases hr1:sY (lk L) prim q (jj+1) with
    | error a'=>
     rw[hr1]at hP;have HE:=aN (show sY (lk L) prim (q+1) i=.error a' by rw[HQ2.out,hr1];rfl);clear hr1 HQ2;have:=AAD x6
     go_region_dies
     all_goals
      refine hP.mono ?_;rintro e w7 ⟨rfl,hg7⟩;unfold gM;exact⟨rfl,aU.err a' HE.out (hO6.1.trans hg7)⟩
    | ok yj=>
     obtain⟨y,j'⟩:=yj;rw[hr1]at hP;have HQ3:=aN (show sY (lk L) prim (q+1) i=binGo (lk L) (sY (lk L) prim q) (hY lv) i z (.mk 6 0 i tx [x,y]) j' by rw[HQ2.out,hr1];rfl);have hj':jj+2<=j':=upq (jj+1) y j' hr1;clear hr1 HQ2;have:=AAD x6
     go_region_with (go_at_call 73;go_loud (refine hP.mono ?_;intro e w7 hp;obtain⟨k',n',a',s',ao',m',c',rfl,hy,hok⟩:=hp.okd;have x7:=x6.step hBpb hok.1;have:=AAD x7;have ba:=aJ w7 (.cells #[iq k,iq n,iq a,.string s,.slice ao m c,iq k',iq n',iq a',.string s',.slice ao' m' c'] 24);have xa:=x7.below ba;have:=AAD xa))
     all_goals
      have hlB3:=x6.lt;have hx7:iB (λb=>w1.heap.size<=b/\b≠B) w7 x (vT k n a s ao m c):=hx6.kept (λ_ hb _=>hb) hok.1.size (λb hb hl=>hok.1.block b hl (λe=>by cases e;omega));have hy7:iB (λb=>w1.heap.size<=b/\b≠B) w7 y (vT k' n' a' s' ao' m' c'):=hy.kept (λb hb _=>by unfold Fr at hb;exact⟨by omega,by omega⟩) (aG _) (λ_ _ _=>rfl);have hxy:=iB.lit (dO.two hx7 hy7) (w':=w7.alloc (.cells (vT k n a s ao m c++vT k' n' a' s' ao' m' c').toArray 24)) ⟨aZ hw16 hok.1.size,Nat.ne_of_gt x7.lt⟩ (bH _ _) 6 0 i tx 2;have hO8:=(hO6.trans hok).then ba;have t8:=(t6.step hne hok.1).below ba;have hjl':=hO8.2.le;have hw18:=aZ (aZ hw16 hok.1.size) ba.size;go_wp2_with fail
      go_roundg (L.length - j')
      case measure=>rw[HG.out];omega
      case rel=>exact⟨.mk 6 0 i tx [x,y],j',6,0,i,tx,some (AAF w7.heap.size 0),2,2,z,hxy.uQ (λb hb _=>hb.2) _ _ _ _ _,xa.set _ _ _ _ _,hO8.uQ hpl aB _ _ _ _ _,(Aw aB _ _ _ _ _ _).trans t8,by omega,rfl,by omega,aZ hw18 (jH (bH 0 _) (aS _) _ _ _ _ _).size,HQ3.out⟩
   | false=>
    have HQ2:=aN (show sY (lk L) prim (q+1) i=.ok (x,jj)by
     rw[HQ.out]
     unfold binGo
     rw[aC AD])
    have HS:=aN (show cD (lk L) (jj+0) (hY lv)=false from hs);clear HQ hs;go_wp2_with (first|(go_at_call 103;refine(zJ _).mono ?_;rintro e w3 ⟨⟨v0,v1,v2,v3,v4,v5,rfl,s0,s1,s2,s3,s4,s5⟩,hb3⟩;obtain⟨sv,hsv,hix⟩:=hlev v0 v1 v2 v3 v4 v5 w3 s0 s1 s2 s3 s4 s5;have h3:=hO.2.below hb3)|(go_at_call 112;refine(EN pb L jj 0 aD sv (hY lv) hol _ h3 hsv).mono ?_;rintro e w4 ⟨he,hb4⟩;rw[HS.out]at he;subst he;have B34:=hb3.trans (hb4.mono hb3.size);have t4:=tv.below B34;have x4:=xv.below B34;have:=AAD t4;have:=AAD x4));have hx4:=hx.kept (av':=λb=>w1.heap.size<=b/\b≠B) (λ_ hb _=>hb) B34.size (λb hb hl=>B34.block b hl);refine nX (t4.set _ _ _ _ _) Tryz.results73 ?_;exact aU.ok HQ2.out (vT k n a s ao m c) rfl ((hx4.uQ (λb hb hl=>by omega) _ _ _ _ _).kept (λb hb _=>aZ hw01 hb.1) (aG _) (λ_ _ _=>rfl)) ((hO.then B34).uQ hpl (aG _) _ _ _ _ _)
 ·unfold gM;have HR:=aN (show sY (lk L) prim (q+1) i=.error a by rw[HU.out,hr1];rfl);clear hp hr1 HU;exact Sv
theorem ajN(lo:Nat)(prim:Nat->R T)(up:∀ i,Up (i+1) (prim i))(hUn:Reads 111 pb L lo prim):∀ q,q<=6->∀ i w,lo<=i->PS w pb L i->AAA 73 #[pq pb,iq ((6 - q:Nat):Int)] w (aU pb L w (sY (lk L) prim q i)):=by
 intro q
 induction q with
 | zero=>intro _ i w hi h;exact aeW pb L lo prim hUn i hi w h
 | succ q ih=>
  intro hq i w hi h;rw[show 6 - (q+1)=5 - q from by omega];exact acN pb L lo prim up q aB (ih aB) i hi w h
theorem TO(lo f:Nat)(hUn:Reads 111 pb L lo (fN (lk L) f)):Reads 45 pb L lo (mY (lk L) f):=by
 intro i w hi h;have hB:=λw (h:PS w pb L i)=>ajN pb L lo (fN (lk L) f) (XZ (lk L) f) hUn 6 aD i w hi h
 go_in;go_upto_region 1 with fail;obtain⟨t0,b0⟩:=tv0 w;generalize World.alloc w _=w0 at t0 b0 ⊢;have h0:=h.below b0;have hpl:=h.lt;have hne:w.heap.size≠pb:=by omega
 have hlw:=t0.lt;go_upto_block 1 with fail;refine(hB w0 h0).mono ?_;intro e w4 hp
 rcases hp.split with ⟨t,j,k,n,a,s,ao,m,c,hr1,rfl,ht,hok⟩|⟨a,hr1,rfl,hg⟩
 ·have t4:=t0.step hne hok.1;have:=AAD t4;have HR:=aN (show mY (lk L) f i=.ok (t,j)from hr1);clear hp hr1;go_wp2_with fail;refine nX (t4.set _ _ _ _ _) Tryz.results45 ?_;exact aU.ok HR.out (vT k n a s ao m c) rfl ((ht.uQ (λb hb hl=>by unfold Fr at hb;omega) _ _ _ _ _).since b0.size) ((Ok.below b0 hok).uQ hpl (aG _) _ _ _ _ _)
 ·unfold gM;have HR:=aN (show mY (lk L) f i=.error a from hr1);clear hp hr1;go_wp2_with fail;exact⟨rfl,aU.err a HR.out ((bS _ b0).trans hg)⟩
theorem aCc:∀ f lo,L.length+1<=f+lo->Reads 111 pb L lo (fN (lk L) f)/\Reads 45 pb L lo (mY (lk L) f):=by
 intro f
 induction f with
 | zero=>
  intro lo hlo;exact⟨λi w hi h=>absurd h.le aB,λi w hi h=>absurd h.le aB⟩
 | succ f ih=>
  intro lo hlo;have h1:=ih (lo+1) aB;have h2:=akP pb L lo f h1.1 h1.2;exact⟨h2,TO pb L lo (f+1) h2⟩
theorem fA:Reads 45 pb L 0 (dB (lk L)):=by
 have:=(aCc pb L ((lk L).length+1) 0 AM).2;exact this
end
def Jj(pb:Nat)(L:List T3):Reads 134 pb L 0 (yZ (lk L)):=
 KD pb L 0 (dB (lk L)) (fI (lk L)) (λi w _ h=>fA pb L i w (aS _) h)
def PS.kt{w:World}{pb:Nat}{L:List T3}{n j:Nat}(h:PS w pb L j)(hi:n<L.length):∃ b off cap,w.cell? (AAF pb 0)=some (.slice (some (AAF b off)) L.length cap)/\w.cell? (AAF b (off+n*3))=some (.int .i64 (tok (lk L) n).kind)/\w.cell? (AAF b (off+n*3+1))=some (.string (tok (lk L) n).text):=by
 obtain⟨ao,cap,h1,h2⟩:=h.blk;obtain⟨b,off,rfl,_,hn,hc⟩:=h2 DE;refine⟨b,off,cap,aK _ _ 0 _ _ _ h1,?_,?_⟩
 ·rw[show tok (lk L) n=_ from WZ hi];exact hc n hi 0 _ rfl
 ·rw[show tok (lk L) n=_ from WZ hi];exact hc n hi 1 _ rfl
def PS.row{w:World}{pb:Nat}{L:List T3}{j:Nat}(h:PS w pb L j):∃ ao cap,w.cell? (AAF pb 0)=some (.slice ao L.length cap):=by
 obtain⟨ao,cap,h1,h2⟩:=h.blk;exact⟨ao,cap,aK _ _ 0 _ _ _ h1⟩
def Le(s t:dL):(s.toList=t.toList)=(s=t):=by
 rw[sH,sH];obtain⟨⟨x⟩⟩:=s;obtain⟨⟨y⟩⟩:=t;simp
def vK(pb:Nat)(L:List T3)(i cb n:Nat)(hn:n<=2000000)(s:dL)(w:World)(h:PS w pb L i)(hc:w.cell? (AAF cb 0)=some (.pointer (some (AAF pb 0)))):AAA 165 #[n,s,pq cb] w λe w'=>e=.returned (.bool (cD (lk L) n [s]))/\w'=w:=by
 have hbd:=h.bd
 by_cases hlt:n<L.length
 ·obtain⟨b,off,cap,k0,k1,k2⟩:=h.kt hlt;have hlt':(n:Int)<(L.length:Int):=by omega
  have hq:∀ t:Tk,t=tok (lk L) n->cD (lk L) n [s]=(t.kind==6&&eH t.text [s]):=λt e=>by rw[e];rfl
  generalize tok (lk L) n=t at k1 k2 hq;have HQ:=aN (hq t rfl);clear hq h
  by_cases hk:t.kind=6
  ·by_cases hs:t.text=s
   ·go_in;go_wp2_with fail;go_ret;refine⟨eI ?_,rfl⟩;rw[HQ.out,hk,hs];simp[eH]
   ·go_in;go_wp2_with fail;go_ret;refine⟨eI ?_,rfl⟩;have h1:(t.text.toList==s.toList)=false:=dR.2 λe=>by rw[Le]at e;exact hs e
    have h2:decide (s=t.text)=false:=bX λe=>hs e.symm
    rw[HQ.out,hk];simp[eH,h1,h2]
  ·go_in;go_wp2_with fail;go_ret;refine⟨eI ?_,rfl⟩;rw[HQ.out,dR.2 hk];rfl
 ·obtain⟨ao,cap,k0⟩:=h.row;have hlt':¬ (n:Int)<(L.length:Int):=by omega
  have HQ:=aN (show cD (lk L) n [s]=false by unfold cD;rw[show tok (lk L) n=_ from Mb aB];rfl);clear h;go_in;go_wp2_with fail;go_ret;exact⟨eI (by rw[HQ.out]),rfl⟩
def aJH: ∀ args w,(callFunc 165 args).run Tryz.prog w=.ok (.enter 165 args) w:=
 enters_of Tryz.func165 aD rfl
def AU(L:List Tk)(f i deep:Nat):jF L (f+1) i deep=if L.length<=i then none else(if cD L i [dA]then(if (if cD L i [cJ]then deep+1 else deep)=1 then some (i+1)else jF L f (i+1) ((if cD L i [cJ]then deep+1 else deep) - 1))else jF L f (i+1) (if cD L i [cJ]then deep+1 else deep)):=by
 conv=>lhs;unfold jF
def Tg(L:List Tk)(f i:Nat):gW L (f+1) i=if isName L i=false then none else match (if cD L (i+1) [cJ]then jF L (L.length+1) (i+1) 0 else some (i+1)) with
 | none=>none
 | some j=>if cD L j [lI]||cD L j [fT]then gW L f (j+1)else some j:=by
 conv=>lhs;unfold gW
 rfl
def aAE(L:List Tk)(i:Nat)(h:cD L i [cJ]=true):cD L i [dA]=false:=by
 unfold cD at h ⊢;simp only[bA,kW]at h
 have:(tok L i).text=cJ:=by have:=(eX _ _).1 h.2;simpa using this
 rw[h.1,this];decide +kernel
def rE: Option Nat->Ending
 | some j=>.returned (.tuple #[iq j,.bool true])
 | none=>.returned (.tuple #[iq 0,.bool false])
def avV(pb:Nat)(L:List T3)(i n:Nat)(hn:n<=L.length)(w:World)(h:PS w pb L i):AAA 149 #[pq pb,n] w λe w'=>e=rE (gW (lk L) (L.length+1) n)/\iY w w':=by
 have hK:=aJH;have hbd:=h.bd;go_in;go_upto_region 1 with fail;have b1:=aJ w (.cells #[pq pb] 81);have n1:=aP w (.cells #[pq pb] 81);generalize w.alloc (.cells #[pq pb] 81)=W at b1 n1 ⊢;have hp:=h.below b1;have hc:W.cell? (AAF w.heap.size 0)=some (.pointer (some (AAF pb 0))):=aK W _ 0 _ _ _ n1;clear n1 h;obtain⟨ao,cap,kr⟩:=hp.row;go_upto_region 2 with fail;have hkr:∀ k,gW (lk L) (L.length+1) n=gW (lk L) k n->True:=λ_ _=>trivial
 go_loopg [1] (L.length - n) (λg s1 wr=>∃ (m f:Nat),s1=.int .i64 m/\wr=W/\n<=m/\m<=L.length/\g=L.length - m/\L.length+1<=f+m/\gW (lk L) (L.length+1) n=gW (lk L) f m)
 case atStart=>exact⟨n,L.length+1,rfl,rfl,aG _,hn,rfl,by omega,rfl⟩
 case round=>
  obtain⟨m,f,rfl,rfl,hnm,hmL,hg,hf,hq⟩:=hrel;have HQ:=aN hq;have HG:=aN hg;clear hq hg hkr;obtain⟨f,rfl⟩:∃ f',f=f'+1:=⟨f - 1,by omega⟩
  cases hnm1:isName (lk L) m with
  | false=>
   have HR:=aN (show gW (lk L) (L.length+1) n=none by rw[HQ.out,Tg,aF hnm1])
   by_cases hml:m<L.length
   ·obtain⟨b,off,cap2,k0,k1,k2⟩:=hp.kt hml;have hk:¬ (tok (lk L) m).kind=1:=by unfold isName at hnm1;simpa using hnm1
    generalize tok (lk L) m=t at k1 k2 hk;have hk2:(t.kind != 1)=true:=by simpa using hk
    have hlt':(m:Int)<(L.length:Int):=by omega
    clear kr hnm1;exact Qh
   ·have hlt':¬ (m:Int)<(L.length:Int):=by omega
    clear hnm1;exact Qh
  | true=>
   have hml:m<L.length:=FO (by unfold isName at hnm1;rw[kW.1 hnm1];decide);have hk:(tok (lk L) m).kind=1:=by unfold isName at hnm1;simpa using hnm1
   have HQ2:=aN (show gW (lk L) (L.length+1) n=match (if cD (lk L) (m+1) [cJ]then jF (lk L) (L.length+1) (m+1) 0 else some (m+1)) with
    | none=>none
    | some j=>if cD (lk L) j [lI]||cD (lk L) j [fT]then gW (lk L) f (j+1)else some j by rw[HQ.out,Tg,aC (by rw[hnm1];decide),bN])
   obtain⟨b,off,cap2,k0,k1,k2⟩:=hp.kt hml;rw[hk]at k1;have hlt':(m:Int)<(L.length:Int):=by omega
   clear kr hnm1 hk HQ;go_upto_region 5 with fail;have hcm:((m+1:Nat):Int)=(m:Int)+1:=by omega
   have hCM:=aN hcm;clear hcm;have hO:=vK pb L i w.heap.size (m+1) aB ⟨#[40]⟩ wr hp hc;rw[hCM.out]at hO
   cases hl:cD (lk L) (m+1) [⟨#[40]⟩] with
   | false=>
    have HT:=aN (show gW (lk L) (L.length+1) n=if cD (lk L) (m+1) [lI]||cD (lk L) (m+1) [fT]then gW (lk L) f (m+1+1)else some (m+1)by rw[HQ2.out,show cD (lk L) (m+1) [cJ]=false from hl];rfl);rw[hl]at hO;clear hl HQ2;go_upto_region 17 with (go_at_call 165;refine(hO).mono ?_;rintro e w' ⟨rfl,hw⟩;rw[hw];clear hw);have hA:=vK pb L i w.heap.size (m+1) aB ⟨#[46]⟩ wr hp hc;rw[hCM.out]at hA;have hB:=vK pb L i w.heap.size (m+1) aB ⟨#[45,62]⟩ wr hp hc;rw[hCM.out]at hB
    cases h1:cD (lk L) (m+1) [⟨#[46]⟩] with
    | true=>
     have hjl:=zE h1;have HR:=aN (show gW (lk L) (L.length+1) n=gW (lk L) f ((m+1)+1)by rw[HT.out,show cD (lk L) (m+1) [lI]=true from h1];rfl);rw[h1]at hA;clear h1 HT hB;go_wp2_with (go_at_call 165;refine dY wV ?_;rintro e w' ⟨rfl,hw⟩;rw[hw];clear hw)
     exact Pc
    | false=>
     rw[h1]at hA
     cases h2:cD (lk L) (m+1) [⟨#[45,62]⟩] with
     | true=>
      have hjl:=zE h2;have HR:=aN (show gW (lk L) (L.length+1) n=gW (lk L) f ((m+1)+1)by rw[HT.out,show cD (lk L) (m+1) [lI]=false from h1,show cD (lk L) (m+1) [fT]=true from h2];rfl);rw[h2]at hB;clear h1 h2 HT;go_wp2_with (first|(go_at_call 165;refine dY wV ?_;rintro e w' ⟨rfl,hw⟩;rw[hw];clear hw)|(go_at_call 165;refine dY Dl ?_;rintro e w' ⟨rfl,hw⟩;rw[hw];clear hw))
      exact Pc
     | false=>
      have HR:=aN (show gW (lk L) (L.length+1) n=some ((m+1))by rw[HT.out,show cD (lk L) (m+1) [lI]=false from h1,show cD (lk L) (m+1) [fT]=false from h2];rfl);rw[h2]at hB;clear h1 h2 HT;go_wp2_with (first|(go_at_call 165;refine dY wV ?_;rintro e w' ⟨rfl,hw⟩;rw[hw];clear hw)|(go_at_call 165;refine dY Dl ?_;rintro e w' ⟨rfl,hw⟩;rw[hw];clear hw));refine iW (v:=.tuple #[iq (((m+1):Nat):Int),.bool true]) Dk rfl ?_;rw[HR.out];exact⟨rfl,b1⟩
   | true=>
    have hjl0:=zE hl
    have HT0:=aN (show gW (lk L) (L.length+1) n=match jF (lk L) (L.length+1) (m+1) 0 with
     | none=>none
     | some j=>if cD (lk L) j [lI]||cD (lk L) j [fT]then gW (lk L) f (j+1)else some j by rw[HQ2.out,show cD (lk L) (m+1) [cJ]=true from hl];rfl)
    have HL:=aN hl;rw[hl]at hO;clear hl HQ2;go_upto_region 7 with (go_at_call 165;refine dY (by with_reducible exact hO) ?_;rintro e w' ⟨rfl,hw⟩;rw[hw];clear hw)
    go_loopg [1,7] (L.length - (m+1)) (λg s1 s7 wx=>∃ (jj d F:Nat),s1=.int .i64 jj/\s7=.int .i64 d/\wx=wr/\m+1<=jj/\jj<=L.length/\g=L.length - jj/\L.length+1<=F+jj/\d<=jj/\(1<=d\/cD (lk L) jj [cJ]=true)/\jF (lk L) (L.length+1) (m+1) 0=jF (lk L) F jj d)
    case atStart=>exact⟨m+1,0,L.length+1,hCM.out ▸ rfl,rfl,rfl,aG _,by omega,rfl,by omega,by omega,.inr HL.out,rfl⟩
    case round=>
     obtain⟨jj,d,F,rfl,rfl,rfl,hmj,hjL,hg7,hF,hdj,hd,hq7⟩:=hrel;have HQ7:=aN hq7;have HG7:=aN hg7;have HD:=aN hd;clear hq7 hg7 hO hd;obtain⟨F,rfl⟩:∃ F',F=F'+1:=⟨F - 1,by omega⟩
     by_cases hjl:jj<L.length
     ·have hlt7:(jj:Int)<(L.length:Int):=by omega
      have hP:=vK pb L i w.heap.size jj aB ⟨#[40]⟩ wr hp hc;have hR:=vK pb L i w.heap.size jj aB ⟨#[41]⟩ wr hp hc;have hlen:¬ (lk L).length<=jj:=by rw[bN];omega
      have HL7:=aN hlen;clear hlen
      cases hb1:cD (lk L) jj [⟨#[40]⟩] with
      | true=>
       have hb2:cD (lk L) jj [⟨#[41]⟩]=false:=aAE _ _ hb1
       have HN:=aN (show jF (lk L) (L.length+1) (m+1) 0=jF (lk L) F (jj+1) (d+1)by
        rw[HQ7.out,AU,aC HL7.out,aC Qw,aF (show cD (lk L) jj [cJ]=true from hb1)])
       rw[hb1]at hP;rw[hb2]at hR;clear hb1 hb2 HQ7;go_wp2_with (first|(go_at_call 165;refine dY DP ?_;rintro e w' ⟨rfl,hw⟩;rw[hw];clear hw)|(go_at_call 165;refine dY DC ?_;rintro e w' ⟨rfl,hw⟩;rw[hw];clear hw))
       go_roundg (L.length - (jj+1))
       case measure=>rw[HG7.out];omega
       case rel=>exact⟨jj+1,d+1,F,congrArg (Value.int .i64) aB,congrArg (Value.int .i64) aB,rfl,by omega,by omega,rfl,by omega,by omega,.inl aB,HN.out⟩
      | false=>
       have hd1:1<=d:=HD.out.resolve_right PN
       cases hb2:cD (lk L) jj [⟨#[41]⟩] with
       | true=>
        by_cases hd2:d=1
        ·subst hd2
         have HT:=aN (show gW (lk L) (L.length+1) n=if cD (lk L) (jj+1) [lI]||cD (lk L) (jj+1) [fT]then gW (lk L) f (jj+1+1)else some (jj+1)by
          rw[HT0.out,HQ7.out,AU,aC HL7.out,aF (show cD (lk L) jj [dA]=true from hb2),aC (show ¬ cD (lk L) jj [cJ]=true by rw[show cD (lk L) jj [cJ]=false from hb1];decide),aF rfl])
         have hCJ:=aN (show ((jj+1:Nat):Int)=(jj:Int)+1 by omega);rw[hb1]at hP;rw[hb2]at hR;clear hb1 hb2 HQ7 HT0;go_upto_region 16 with (first|(go_at_call 165;refine dY DP ?_;rintro e w' ⟨rfl,hw⟩;rw[hw];clear hw)|(go_at_call 165;refine dY DC ?_;rintro e w' ⟨rfl,hw⟩;rw[hw];clear hw));have hlt8:¬ (L.length:Int)<=(jj:Int):=by omega
         go_upto_region 17 with fail;have hA:=vK pb L i w.heap.size (jj+1) aB ⟨#[46]⟩ wr hp hc;rw[hCJ.out]at hA;have hB:=vK pb L i w.heap.size (jj+1) aB ⟨#[45,62]⟩ wr hp hc;rw[hCJ.out]at hB
         cases h1:cD (lk L) (jj+1) [⟨#[46]⟩] with
         | true=>
          have hjl:=zE h1;have HR:=aN (show gW (lk L) (L.length+1) n=gW (lk L) f ((jj+1)+1)by rw[HT.out,show cD (lk L) (jj+1) [lI]=true from h1];rfl);rw[h1]at hA;clear h1 HT hB;go_wp2_with (go_at_call 165;refine dY wV ?_;rintro e w' ⟨rfl,hw⟩;rw[hw];clear hw)
          exact Rh
         | false=>
          rw[h1]at hA
          cases h2:cD (lk L) (jj+1) [⟨#[45,62]⟩] with
          | true=>
           have hjl:=zE h2;have HR:=aN (show gW (lk L) (L.length+1) n=gW (lk L) f ((jj+1)+1)by rw[HT.out,show cD (lk L) (jj+1) [lI]=false from h1,show cD (lk L) (jj+1) [fT]=true from h2];rfl);rw[h2]at hB;clear h1 h2 HT;go_wp2_with (first|(go_at_call 165;refine dY wV ?_;rintro e w' ⟨rfl,hw⟩;rw[hw];clear hw)|(go_at_call 165;refine dY Dl ?_;rintro e w' ⟨rfl,hw⟩;rw[hw];clear hw))
           exact Rh
          | false=>
           have HR:=aN (show gW (lk L) (L.length+1) n=some ((jj+1))by rw[HT.out,show cD (lk L) (jj+1) [lI]=false from h1,show cD (lk L) (jj+1) [fT]=false from h2];rfl);rw[h2]at hB;clear h1 h2 HT;go_wp2_with (first|(go_at_call 165;refine dY wV ?_;rintro e w' ⟨rfl,hw⟩;rw[hw];clear hw)|(go_at_call 165;refine dY Dl ?_;rintro e w' ⟨rfl,hw⟩;rw[hw];clear hw));refine iW (v:=.tuple #[iq (((jj+1):Nat):Int),.bool true]) Dk rfl ?_;rw[HR.out];exact⟨rfl,b1⟩
        ·have HN:=aN (show jF (lk L) (L.length+1) (m+1) 0=jF (lk L) F (jj+1) (d - 1)by
          rw[HQ7.out,AU,aC HL7.out,aF (show cD (lk L) jj [dA]=true from hb2),aC (show ¬ cD (lk L) jj [cJ]=true by rw[show cD (lk L) jj [cJ]=false from hb1];decide),aC hd2])
         have hd3:¬ (d:Int) - 1=0:=by omega
         rw[hb1]at hP;rw[hb2]at hR;clear hb1 hb2 HQ7;go_wp2_with (first|(go_at_call 165;refine dY DP ?_;rintro e w' ⟨rfl,hw⟩;rw[hw];clear hw)|(go_at_call 165;refine dY DC ?_;rintro e w' ⟨rfl,hw⟩;rw[hw];clear hw))
         go_roundg (L.length - (jj+1))
         case measure=>rw[HG7.out];omega
         case rel=>exact⟨jj+1,d - 1,F,congrArg (Value.int .i64) aB,congrArg (Value.int .i64) aB,rfl,by omega,by omega,rfl,by omega,by omega,.inl aB,HN.out⟩
       | false=>
        have HN:=aN (show jF (lk L) (L.length+1) (m+1) 0=jF (lk L) F (jj+1) d by
         rw[HQ7.out,AU,aC HL7.out,aC Qw,aC PN])
        rw[hb1]at hP;rw[hb2]at hR;clear hb1 hb2 HQ7;go_wp2_with (first|(go_at_call 165;refine dY DP ?_;rintro e w' ⟨rfl,hw⟩;rw[hw];clear hw)|(go_at_call 165;refine dY DC ?_;rintro e w' ⟨rfl,hw⟩;rw[hw];clear hw))
        go_roundg (L.length - (jj+1))
        case measure=>rw[HG7.out];omega
        case rel=>exact⟨jj+1,d,F,congrArg (Value.int .i64) aB,rfl,rfl,by omega,by omega,rfl,by omega,by omega,.inl hd1,HN.out⟩
     ·have HN:=aN (show jF (lk L) (L.length+1) (m+1) 0=none by
       rw[HQ7.out,AU,aF AM])
      have hlt7:¬ (jj:Int)<(L.length:Int):=by omega
      clear HQ7;go_wp2_with fail;refine iW (v:=.tuple #[iq 0,.bool false]) Dk rfl ?_;rw[HT0.out,HN.out];exact⟨rfl,b1⟩
end
