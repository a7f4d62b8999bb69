/- Part 48. -/
import Derived.Test.YtikalomcclefiaaGreatDoorV47
set_option linter.all false
set_option maxHeartbeats 0
set_option maxRecDepth 100000
namespace Go.Proofs.YtikalomcclefiaaGreatDoor
section
open Go.RowKit Lx Px
def Et(t:T):List ByteArray×Int:=if De t=true then(En t [],0)else([],71)
def NQ(w:World)(r:List ByteArray×Int)(e:Ending)(w':World):Prop:=iY w w'/\∃ v,e=.returned (.tuple #[v,iq r.2])/\w'.ownsRow w.heap.size 9 1 v (r.1.map Value.string).length (r.1.map Value.string)
def NQ.mk{w:World}{r:List ByteArray×Int}{w':World}{l:List ByteArray}{x:Int}{v:Value}(h:r=(l,x))(b:iY w w')(hv:w'.ownsRow w.heap.size 9 1 v (l.map Value.string).length (l.map Value.string)):NQ w r (.returned (.tuple #[v,iq x])) w':=by
 subst h;exact⟨b,v,rfl,hv⟩
def KM(w:World)(hTab:fQ w)(t:T)(ho:TJ t)(hwd:Xp t)(k n a:Int)(s:dL)(ao:iD)(m c:Nat)(ht:Tr w t (vT k n a s ao m c)):AAA 29 #[tg k n a s ao m c] w (NQ w (Et t)):=by
 have hmf:∀ (fn:Fn) (first cap:Array Value) (w:World),(Instr.makeFunc fn first cap).run Tryz.prog w=.ok (.func fn first cap) w:=λ_ _ _ _=>rfl
 have b1:=aJ w (.cells (tg k n a s ao m c) 24);have t1:=TV.new w k n a s (.slice ao m c);go_in;go_upto_region 1 with fail;generalize World.alloc w _=w1 at b1 t1 ⊢;have hC:=nV w1 (hTab.below b1) t ho hwd k n a s ao m c (ht.low b1);unfold Ed at hC;have:=AAD t1
 cases hc:De t with
 | false=>
  have HU:=aN (show Et t=([],71)by unfold Et;rw[hc];rfl);rw[hc]at hC;clear ht ho hwd hc;go_wp2_with (go_at_call 11;refine hC.mono ?_;rintro e w2 ⟨rfl,b2⟩)
  go_ret2
  exact NQ.mk HU.out (b1.trans (b2.mono b1.size)) ⟨rfl,.inl ⟨rfl,rfl⟩⟩
 | true=>
  rw[hc]at hC;have hsz:nodes t<=4000:=by have:=Kl hc;unfold oJ at this;rw[bA,dX]at this;exact this.1
  have HU:=aN (show Et t=(En t [],0)by unfold Et;rw[aF hc]);go_upto_region 4 with (go_at_call 11;refine hC.mono ?_;rintro e w2 ⟨rfl,b2⟩);have t2:=t1.below b2;have B2:=b1.trans (b2.mono b1.size);have ht2:=ht.low B2;have b3:=aJ w2 (.cells #[.slice none 0 0] 62);have n3:=aP w2 (.cells #[.slice none 0 0] 62);have hst:NSt w2 w2.heap.size (w2.alloc (.cells #[.slice none 0 0] 62)) (.slice none 0 0) []:=⟨b3,n3,aG _,⟨rfl,.inl ⟨rfl,rfl⟩⟩,by simp[Value.ownBlock]⟩
  have t3:=t2.below b3;have hB2:=B2.size;clear b1 b2 t1 t2 hC hc ht ho hwd n3 b3;go_upto_region 5 with fail;generalize World.alloc w2 _=w3 at hst t3 ⊢;have hN:=ahK w2 w2.heap.size _ t (aG _) w3 (.slice none 0 0) [] hst dW k n a s ao m c ht2;have:=AAD t3;clear ht2;go_upto_block 5 with fail;refine hN.mono ?_;rintro e w4 ⟨⟨k4,n4,a4,s4,o4,m4,c4,rfl⟩,v4,hs4,_⟩;have k0:w4.cell? (AAF w2.heap.size 0)=some v4:=aK w4 _ 0 _ _ _ hs4.blk;have hown:=Ld hs4.own hB2;have hB4:=B2.trans (hs4.low.mono B2.size);clear hN hst hs4 t3;go_wp2_with fail
  go_ret2
  exact NQ.mk HU.out hB4 hown
def stR(t:T):List (List Int)×Int:=if De t=true then(Md [] t,0)else([],71)
def SQ(w:World)(r:List (List Int)×Int)(e:Ending)(w':World):Prop:=iY w w'/\∃ v us ob,e=.returned (.tuple #[v,iq r.2])/\w'.ownsRow w.heap.size 42 1 v us.length us/\mV ob w' v us r.1
def SQ.mk{w:World}{r:List (List Int)×Int}{w':World}{l:List (List Int)}{x:Int}{v:Value}{us:List Value}{ob:Nat}(h:r=(l,x))(b:iY w w')(hv:w'.ownsRow w.heap.size 42 1 v us.length us)(hp:mV ob w' v us l):SQ w r (.returned (.tuple #[v,iq x])) w':=by
 subst h;exact⟨b,v,us,ob,rfl,hv,hp⟩
def GK(w:World)(hTab:fQ w)(t:T)(ho:TJ t)(hwd:Xp t)(k n a:Int)(s:dL)(ao:iD)(m c:Nat)(ht:Tr w t (vT k n a s ao m c)):AAA 24 #[tg k n a s ao m c] w (SQ w (stR t)):=by
 have hmf:∀ (fn:Fn) (first cap:Array Value) (w:World),(Instr.makeFunc fn first cap).run Tryz.prog w=.ok (.func fn first cap) w:=λ_ _ _ _=>rfl
 have b1:=aJ w (.cells (tg k n a s ao m c) 24);have t1:=TV.new w k n a s (.slice ao m c);go_in;go_upto_region 1 with fail;generalize World.alloc w _=w1 at b1 t1 ⊢;have hC:=nV w1 (hTab.below b1) t ho hwd k n a s ao m c (ht.low b1);unfold Ed at hC;have:=AAD t1
 cases hc:De t with
 | false=>
  have HU:=aN (show stR t=([],71)by unfold stR;rw[hc];rfl);rw[hc]at hC;clear ht ho hwd hc;go_wp2_with (go_at_call 11;refine hC.mono ?_;rintro e w2 ⟨rfl,b2⟩)
  go_ret2
  exact SQ.mk (ob:=0) (us:=[]) HU.out (b1.trans (b2.mono b1.size)) ⟨rfl,.inl ⟨rfl,rfl⟩⟩ trivial
 | true=>
  rw[hc]at hC;have hsm:=Kl hc;unfold oJ at hsm;rw[bA,dX,dX]at hsm;have HU:=aN (show stR t=(Md [] t,0)by unfold stR;rw[aF hc]);go_upto_region 4 with (go_at_call 11;refine hC.mono ?_;rintro e w2 ⟨rfl,b2⟩);have t2:=t1.below b2;have B2:=b1.trans (b2.mono b1.size);have b3:=aJ w2 (.cells #[iq 21,iq 22,iq 33,iq 40,iq 41,iq 42] 3);have n3:=aP w2 (.cells #[iq 21,iq 22,iq 33,iq 40,iq 41,iq 42] 3);have z3:(w2.alloc (.cells #[iq 21,iq 22,iq 33,iq 40,iq 41,iq 42] 3)).heap.size=w2.heap.size+1:=by simp
  have b4:=aJ (w2.alloc (.cells #[iq 21,iq 22,iq 33,iq 40,iq 41,iq 42] 3)) (.cells #[.slice (some (AAF w2.heap.size 0)) 6 6] 42);have n4:=aP (w2.alloc (.cells #[iq 21,iq 22,iq 33,iq 40,iq 41,iq 42] 3)) (.cells #[.slice (some (AAF w2.heap.size 0)) 6 6] 42);have n3':=(b4.block _ (nK n3)).trans n3;have t4:=(t2.below b3).below b4;have B4:=B2.trans ((b3.trans (b4.mono b3.size)).mono B2.size);rw[z3]at n4;have hw2:w.heap.size<=w2.heap.size:=B2.size;clear b1 b2 t1 t2 hC hc ho hwd n3 b3 b4 B2 z3;go_upto_region 5 with fail;generalize World.alloc (World.alloc w2 _) _=w4 at n3' n4 t4 B4 ⊢;have hO:ajA w4 (w2.heap.size+1):=⟨w2.heap.size,nK n4,nK n3',n4,n3'⟩
  have b5:=aJ w4 (.cells #[.slice none 0 0] 51);have n5:=aP w4 (.cells #[.slice none 0 0] 51);have hst:PSt w4 w4.heap.size (w4.alloc (.cells #[.slice none 0 0] 51)) (.slice none 0 0) []:=⟨[],⟨b5,n5,aG _,⟨rfl,.inl ⟨rfl,rfl⟩⟩,by simp[Value.ownBlock]⟩,trivial⟩
  have t5:=t4.below b5;have ht4:=ht.low B4;have hB4:=B4.size;clear n3' n4 t4 n5 b5 ht;go_upto_region 6 with fail;generalize World.alloc w4 _=w5 at hst t5 ⊢;have hW:=aEP w4 w4.heap.size (w2.heap.size+1) hO _ t (aG _) w5 (.slice none 0 0) [] (.slice none 0 0) [] hst (.inl ⟨rfl,rfl⟩) dW dW k n a s ao m c ht4;have:=AAD t5;clear ht4 hO hst t5;go_upto_block 6 with fail;refine hW.mono ?_;rintro e w6 ⟨rfl,v6,⟨us,hot,hps⟩,_⟩;rw[dI]at hps;have k0:w6.cell? (AAF w4.heap.size 0)=some v6:=aK w6 _ 0 _ _ _ hot.blk;have hown:=Ld hot.own hB4;have hB6:=B4.trans (hot.low.mono B4.size);clear hW hot;go_wp2_with fail
  go_ret2
  exact SQ.mk HU.out hB6 hown hps
def sx1: ByteArray:=⟨#[65,32,45,32,66,32,45,32,67,32,42,32,45,68]⟩
def sx2: ByteArray:=⟨#[73,70,32,40,65,41,32,61,32,66,32,84,72,69,78,32,69,76,83,69,32,61,32,50,59,32,69,76,83,69,32,83,84,79,80,59]⟩
def sx3: ByteArray:=⟨#[88,32,61,32,59]⟩
def sx4: ByteArray:=⟨#[70,79,79,32,88,59]⟩
def sx5: ByteArray:=⟨#[77,58,32,80,82,79,67,32,79,80,84,73,79,78,83,40,77,65,73,78,41,59,32,67,65,76,76,32,70,40,88,44,32,49,41,59,32,69,78,68,32,77,59]⟩
def sx6: ByteArray:=⟨#[73,70,32,65,61,66,32,84,72,69,78,32,69,76,83,69,61,50,59,10,69,76,83,69,32,83,84,79,80,59,10]⟩
def aAB: T:=ajD ⟨#[45]⟩ (ajD ⟨#[45]⟩ (Dp ⟨#[65]⟩) (Dp ⟨#[66]⟩)) (ajD ⟨#[42]⟩ (Dp ⟨#[67]⟩) (.mk 5 0 0 ⟨#[45]⟩ [Dp ⟨#[68]⟩]))
def aKk: T:=.mk 1 2 0 ⟨#[50]⟩ []
def xQ: T:=.mk 23 0 0 e0 [ajD ⟨#[61]⟩ (Dp ⟨#[65]⟩) (Dp ⟨#[66]⟩),.mk 24 0 0 e0 [Dp ⟨#[69,76,83,69]⟩,aKk],.mk 30 0 0 e0 []]
def ex8: nodes xQ=11/\depth xQ=4:=by
 constructor<;>decide
def ex1: (decide ((DB sx1 true).2.2=0)&&dM (DB sx1 true).1 aAB)=true:=by kernel_rfl
def ex2: (decide ((DB sx2 false).2.2=0)&&dM (DB sx2 false).1 xQ)=true:=by kernel_rfl
def ex4: (DB sx3 false).2=(2,70):=by kernel_rfl
def ex5: (DB sx4 false).2=(0,70):=by kernel_rfl
def ex6: (KC sx5).2=0:=by kernel_rfl
def ex3: Jn xQ=(sx6,0):=by kernel_rfl
def ex7: ((stR (KC sx5).1).2,(stR (KC sx5).1).1.length)=(0,2):=by kernel_rfl
def ex9: Et (KC sx5).1=([⟨#[70]⟩,⟨#[88]⟩],0):=by kernel_rfl
def aLa: De (.mk 11 0 0 ⟨#[65]⟩ [])=false:=by kernel_rfl
mutual
def okB: T->Bool
 | .mk _ n _ w l=>decide (-9223372036854775808<=n/\n<=9223372036854775807)&&(decide (l.length<=1000000)&&(decide (w.size<=NO)&&aEM l))
def aEM: List T->Bool
 | []=>true
 | t::r=>okB t&&aEM r
end
def Ul: ∀ d (t:T),depth t<=d->okB t=true->TJ t/\Xp t:=by
 intro d
 induction d using Nat.strongRecOn with
 | _ d ih=>
  intro t hd h;have H:=λ(x:T) (hx:x∈t.l)=>ih (depth x) (by have:=Px.sD hx;omega) x (aG _)
  obtain⟨k,n,a,w,l⟩:=t;have hl:∀ m:List T,(∀ x,x∈m->okB x=true->TJ x/\Xp x)->aEM m=true->Vl m/\afR m:=by
   intro m
   induction m with
   | nil=>intro _ _;exact⟨by unfold Vl;trivial,by unfold afR;trivial⟩
   | cons x r ihr=>
    intro g h;unfold aEM at h;rw[bA]at h;have h1:=g x (.head _) h.1;have h2:=ihr (λy hy=>g y (.tail _ hy)) h.2;exact⟨by unfold Vl;exact⟨h1.1,h2.1⟩,by unfold afR;exact⟨h1.2,h2.2⟩⟩
  unfold okB at h;rw[bA,bA,bA,dX,dX,dX]at h;have h2:=hl l H h.2.2.2;exact⟨by unfold TJ;exact⟨h.1,h.2.1,h2.1⟩,by unfold Xp;exact⟨h.2.2.1,h2.2⟩⟩
def aLq: okB (KC sx5).1=true:=by kernel_rfl
def aLl: okB xQ=true:=by kernel_rfl
def aJT: okB (.mk 11 0 0 ⟨#[65]⟩ [])=true:=by kernel_rfl
def tkB(s:dL):Bool:=(xS s).all λt=>decide (t.text.size<=1000)
def Hg{s:dL}(h:tkB s=true):∀ t,t∈(xS s).map Tok.t3->t.text.size<=140737488351232:=λt ht=>by
 obtain⟨x,hx,rfl⟩:=iL.1 ht;have:=iJ.1 h x hx;rw[dX]at this;exact aZ this aD
def aLx: (tkB sx1,tkB sx2,tkB sx3,tkB sx4,tkB sx5)=(true,true,true,true,true):=by kernel_rfl
def aHP(wB:World)(t u:T):Prop:=∀ (w:World),iY wB w->∀ (k n a:Int) (s:dL) (ao:iD) (m c:Nat) (k' n' a':Int) (s':dL) (ao':iD) (m' c':Nat),Tr wB t (vT k n a s ao m c)->Tr wB u (vT k' n' a' s' ao' m' c')->
 AAA 36 #[tg k n a s ao m c,tg k' n' a' s' ao' m' c'] w λe w'=>e=.returned (.bool (dM t u))/\iY w w'
def XM(wB:World):∀ d (t:T),depth t<=d->∀ u,nodes u<=1000000->aHP wB t u:=by
 intro d
 induction d using Nat.strongRecOn with
 | _ d ih=>
  intro t hd u hN w low k n a s ao m c k' n' a' s' ao' m' c' ht hu;have e1:nodes u=1+bV u.l:=by obtain⟨k,n,a,w,l⟩:=u;rw[nodes];rfl
  have e4:=lU u.l;have HH:=aN (λ(x:T) (hx:x∈t.l) (y:T) (hy:y∈u.l)=>ih (depth x) (by have:=Px.sD hx;omega) x (aG _) y (by have:=CK hy;omega));obtain⟨f1,f2,f4,f3,f5⟩:=ht.split;obtain⟨g1,g2,g4,g3,g5⟩:=hu.split;have hsp:=PZ t u;rw[<- f1,<- f2,<- f3,<- g1,<- g2,<- g3]at hsp;have HSP:=aN hsp;have HT:=aN ht;have HU:=aN hu;have hlu:u.l.length<=1000000:=by omega
  have M1:=aN f5;have M2:=aN g5;clear hsp f1 f2 f3 f4 f5 g1 g2 g3 g4 g5 ih e1 e4 ht hu;have b1:=aJ w (.cells (tg k n a s ao m c) 24);have t1:=TV.new w k n a s (.slice ao m c);generalize hw1:w.alloc (.cells (tg k n a s ao m c) 24)=w1 at b1 t1;have b2:=aJ w1 (.cells (tg k' n' a' s' ao' m' c') 24);have t2:=TV.new w1 k' n' a' s' (.slice ao' m' c');have t1':=TV.below t1 b2;have hz:w1.heap.size=w.heap.size+1:=by rw[<- hw1];simp
  rw[hz]at t2;clear hz;subst hw1;go_in;go_upto_region 1 with fail;generalize World.alloc (World.alloc w _) _=w2 at b2 t2 t1' ⊢;have low1:=low.trans (b1.mono low.size);have low2:=low1.trans (b2.mono low1.size);have hB2:=b1.trans (b2.mono b1.size);have T1:=aN t1';have T2:=aN t2;clear t1 b1 b2 low1;have:=AAD t1';have:=AAD t2
  by_cases hk:k=k'
  ·by_cases hn:n=n'
   ·by_cases hs:s=s'
    ·by_cases hm:m=m'
     ·have hfin:dM t u=dK t.l u.l:=by rw[HSP.out,hk,hn,hs];simp
      have HF:=aN hfin;subst hk hn hs hm;clear hfin HSP;obtain⟨N,hN1⟩:∃ N,t.l.length=N:=⟨_,rfl⟩
      have L1:=aN hN1;have hN2:u.l.length=N:=by have:=M1.out;have:=M2.out;omega
      have L2:=aN hN2;obtain rfl:m=N:=by have:=M1.out;omega
      have hNN:m<=1000000:=by omega
      clear hN1 hN2 hlu;go_wp2_with fail;clear t1' t2
      go_loopg [5] m (λg tt wr=>∃ q:Nat,tt=.int .i64 q/\q<=m/\g=m - q/\iY w2 wr/\Aside (∀ j (h:j<t.l.length) (hqq:j<u.l.length),j<q->dM (t.l[j]'h) (u.l[j]'hqq)=true))
      case atStart=>exact PU
      case round=>
       obtain⟨q,rfl,hq,hg,hB,A⟩:=hrel;have HG:=aN hg;clear hg;have lowr:=low2.trans (hB.mono low2.size);have hBr:=hB2.trans (hB.mono hB2.size);have r1:=T1.out.below hB;have r2:=T2.out.below hB;have:=AAD r1;have:=AAD r2
       by_cases hln:q<m
       ·have hlt:q<t.l.length:=by rw[L1.out];exact hln
        have hltu:q<u.l.length:=by rw[L2.out];exact hln
        obtain⟨ao1,c1',vs1,e,hTs,hrow⟩:=mH.tree (rv:=[]) lowr HT.out;obtain⟨b,off,rfl,_,hcell⟩:=hrow kF;simp only[dZ]at e
        obtain⟨rfl,hzz,rfl⟩:=e;clear hzz;obtain⟨k1,n1,a1,s1,o1,m1,c1,hTr,d0,d1,d2,d3,d4⟩:=Tr.elem hTs hcell q hlt;obtain⟨ao3,c3,vs3,e,hTs3,hrow3⟩:=mH.tree (rv:=[]) lowr HU.out;obtain⟨b',off',rfl,_,hcell3⟩:=hrow3 (by intro e;rw[e]at hltu;simp at hltu);simp only[dZ]at e
        obtain⟨rfl,hzz,rfl⟩:=e;clear hzz;obtain⟨k3,n3,a3,s3,o3,m3,c3,hTr3,e0,e1,e2,e3,e4⟩:=Tr.elem hTs3 hcell3 q hltu;have hC:=HH.out _ (eJ hlt) _ (eJ hltu);have hno:dM (t.l[q]'hlt) (u.l[q]'hltu)=false->dK t.l u.l=false:=λh=>by
         cases e:dK t.l u.l with
         | false=>rfl
         | true=>exact absurd ((Fy e).2 q hlt hltu) qC
        have hyes:dM (t.l[q]'hlt) (u.l[q]'hltu)=true->∀ j (h:j<t.l.length) (hqq:j<u.l.length),j<q+1->dM (t.l[j]'h) (u.l[j]'hqq)=true:=λh j h1 h2 h3=>by
         exact Pj
        have HNO:=aN hno;have HYES:=aN hyes;clear hno hyes A hcell hcell3 hTs hTs3 hrow hrow3;have x1:(q:Int)<(m:Int):=by omega
        have hCC:=hC wr.drew lowr.drew k1 n1 a1 s1 o1 m1 c1 k3 n3 a3 s3 o3 m3 c3 hTr hTr3
        cases hsm:dM (t.l[q]'hlt) (u.l[q]'hltu) with
        | false=>
         rw[hsm]at hCC;have HN2:=aN (HNO.out hsm);clear hsm hC HNO HYES;go_upto_region 6 with fail
         go_still_tail 10,aQ
         change wpList _ _ _ _ _ wr.drew;go_wp2_with (go_at_call 36;refine hCC.mono ?_;rintro e w4 ⟨rfl,b4⟩);go_ret;exact⟨by rw[HF.out,HN2.out];rfl,hBr.drew.trans (b4.mono hBr.drew.size)⟩
        | true=>
         rw[hsm]at hCC;have HN2:=aN (HYES.out hsm);clear hsm hC HNO HYES;go_upto_region 6 with fail
         go_still_tail 10,aQ
         change wpList _ _ _ _ _ wr.drew;go_wp2_with (go_at_call 36;refine hCC.mono ?_;rintro e w4 ⟨rfl,b4⟩)
         go_roundg (m - (q+1))
         case measure=>rw[HG.out];omega
         case rel=>exact⟨q+1,by go_num,hln,rfl,hB.drew.trans (b4.mono hB.drew.size),HN2.out⟩
       ·have x1:¬ (q:Int)<(m:Int):=by omega
        have hr:dK t.l u.l=true:=YD (L1.out.trans L2.out.symm) λj h hqq=>A.out j h hqq (by have:=L1.out;omega)
        have HR:=aN hr;clear hr;go_wp2_with fail;go_ret;exact⟨by rw[HF.out,HR.out];rfl,hBr⟩
     ·have HF:=aN (show dM t u=false by
       rw[HSP.out]
       have:dK t.l u.l=false:=by
        cases e:dK t.l u.l with
        | false=>rfl
        | true=>exact absurd (Fy e).1 (by have:=M1.out;have:=M2.out;omega)
       rw[this,Bool.and_false])
      have hmi:(m:Int)≠(m':Int):=by omega
      subst hk hn hs;go_wp2_with fail;go_ret;exact⟨by rw[HF.out];rfl,hB2⟩
    exact Qo
   exact Td
  exact Th
def Tryz.adS: Go.Shelf.Ren:=⟨λ|33=>32|n=>n,λ|22=>62|23=>9|4=>4|3=>3|0=>0|n=>n,λ|n=>n⟩
def Tryz.aqX: Go.Proofs.SlLaysE.n33 Tryz.prog Tryz.adS:={
 mixed:=by kernel_rfl
 f33:=⟨Tryz.f32.name,by decide,Tryz.func32.trans (congrArg some aQ)⟩
 t0:=Tryz.underlying0
 a0:=Tryz.isAgg0
 z0:=Tryz.sizeOf0
 v0:=Tryz.zeroValue0
 t3:=Tryz.underlying3
 a3:=Tryz.isAgg3
 z3:=Tryz.sizeOf3
 v3:=Tryz.zeroValue3
 t4:=Tryz.underlying4
 a4:=Tryz.isAgg4
 z4:=Tryz.sizeOf4
 v4:=Tryz.zeroValue4
 t22:=Tryz.underlying62
 a22:=Tryz.isAgg62
 z22:=Tryz.sizeOf62
 v22:=Tryz.zeroValue62
 a23:=Tryz.isAgg9
 z23:=Tryz.sizeOf9 }
def aeT(w:World)(v:Value)(ss:List ByteArray)(B:Nat)(h0:ss≠[])(hn:ss.length<=1000000)(h:w.ownsRow B 9 1 v (ss.map Value.string).length (ss.map Value.string))(b2:Nat)(c2:Nat)(h2:∀ j,(hj:j<ss.length)->w.cell? (AAF b2 j)=some (.string (ss[j]'hj))):AAA 32 #[v,.slice (some (AAF b2 0)) ss.length c2] w λe w'=>e=.returned (.bool true)/\∃ q,w'=w.drewN q:=by
 have hpos:0<ss.length:=pE.2 h0
 rcases h.2 with ⟨_,h1⟩|⟨g,cap,cur,rfl,hB,hg,hle,hmx,hsz,htk⟩
 ·rw[bN]at h1;omega
 ·rw[bN]at hle htk ⊢;refine(AnyE.slices_Equal Tryz.aqX Value.string _ (NeqAt.string Tryz.prog 9) g 0 ss.length cap b2 0 ss.length c2 ss ss w (aG _) (aG _) aB aB (λj hj=>?_) (λj hj=>?_)).mono ?_
  ·exact Pp
  ·rw[dT,kZ ss j hj];exact h2 j hj
  ·rintro e w' ⟨rfl,q,rfl⟩;refine⟨?_,q,rfl⟩;rw[jP];have:∀ l:List ByteArray,Lib.allEq (λx y=>x.toList==y.toList) l l=true:=by
    intro l
    induction l with
    | nil=>rfl
    | cons x r ih=>simp[Lib.allEq,ih]
   rw[this]
end
