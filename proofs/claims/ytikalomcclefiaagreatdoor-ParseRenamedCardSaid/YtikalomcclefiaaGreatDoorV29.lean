/- Part 29. -/
import Derived.Test.YtikalomcclefiaaGreatDoorV28
set_option linter.all false
set_option maxHeartbeats 0
set_option maxRecDepth 100000
namespace Go.Proofs.YtikalomcclefiaaGreatDoor
section
open Go.RowKit Lx Px
section
variable(wB:World)(hTab:fQ wB)(qb:Nat)(t:T)(D:PD wB qb t)(w:World)(v:Value)(lk:List Tk)(k n a:Int)(s:dL)(ao:iD)(m c:Nat)(h:Pt wB qb w v lk)(ht:Tr wB t (vT k n a s ao m c))
include wB hTab qb t D w v lk k n a s ao m c h ht
theorem adW(hl:lk.length+(pT false a k n s t.l (t.l.map (aL false)) (t.l.map (lY false))).length<=fG):AAA 131 #[pq qb,tg k n a s ao m c] w (lJ wB qb w v lk (pT false a k n s t.l (t.l.map (aL false)) (t.l.map (lY false)))):=by
 have hnr : -9223372036854775808<=n/\n<=9223372036854775807:=by rw[ht.split.2.1];exact D.r
 have hm5:=ht.split.2.2.2.2
 by_cases hk18:k=18
 ·subst hk18;have e:pT false a 18 n s t.l (t.l.map (aL false)) (t.l.map (lY false))=[LJ].map W++(opt gF (Px.part t.l 0) (aL false (Px.part t.l 0))++(opt gA (Px.part t.l 1) (aL false (Px.part t.l 1))++(Px.group ((t.l.drop 2).map (aL false))))):=by
   show W LJ::(opt gF (Px.part t.l 0) (ct (t.l.map (aL false)) 0)++(opt gA (Px.part t.l 1) (ct (t.l.map (aL false)) 1)++Px.group ((t.l.map (aL false)).drop 2)))=_
   exact Fp
  rw[e]at hl ⊢;exact aJx wB hTab qb t D w v lk n a s ao m c  h ht hl
 by_cases hk19:k=19
 ·subst hk19;have e:pT false a 19 n s t.l (t.l.map (aL false)) (t.l.map (lY false))=[LJ].map W++(aL false (Px.part t.l 0)++([tV].map O++(aL false (Px.part t.l 1)++(lK Fj (Px.part t.l 2) (aL false (Px.part t.l 2))++(lK Xd (Px.part t.l 3) (aL false (Px.part t.l 3))++(opt gF (Px.part t.l 4) (aL false (Px.part t.l 4))++(opt gA (Px.part t.l 5) (aL false (Px.part t.l 5))++(Px.group ((t.l.drop 6).map (aL false)))))))))):=by
   show W LJ::(ct (t.l.map (aL false)) 0++O tV::(ct (t.l.map (aL false)) 1++(lK Fj (Px.part t.l 2) (ct (t.l.map (aL false)) 2)++(lK Xd (Px.part t.l 3) (ct (t.l.map (aL false)) 3)++(opt gF (Px.part t.l 4) (ct (t.l.map (aL false)) 4)++(opt gA (Px.part t.l 5) (ct (t.l.map (aL false)) 5)++Px.group ((t.l.map (aL false)).drop 6)))))))=_
   exact Fp
  rw[e]at hl ⊢;exact aKl wB hTab qb t D w v lk n a s ao m c  h ht hl
 by_cases hk20:k=20
 ·subst hk20
  by_cases hcd:(Px.part t.l 0).kind=10
  ·have e:pT false a 20 n s t.l (t.l.map (aL false)) (t.l.map (lY false))=[qB].map W++(Px.group ((t.l.drop 1).map (aL false))):=by
    show W qB::((if (Px.part t.l 0).kind=10 then []else bI [ct (t.l.map (aL false)) 0])++Px.group ((t.l.map (aL false)).drop 1))=_
    rw[aF hcd];exact Fp
   rw[e]at hl ⊢;exact aHJ wB hTab qb t D w v lk n a s ao m c hcd h ht hl
  ·have e:pT false a 20 n s t.l (t.l.map (aL false)) (t.l.map (lY false))=[qB].map W++(bI ([Px.part t.l 0].map (aL false))++(Px.group ((t.l.drop 1).map (aL false)))):=by
    show W qB::((if (Px.part t.l 0).kind=10 then []else bI [ct (t.l.map (aL false)) 0])++Px.group ((t.l.map (aL false)).drop 1))=_
    rw[aC hcd];exact Fp
   rw[e]at hl ⊢;exact aHZ wB hTab qb t D w v lk n a s ao m c hcd h ht hl
 by_cases hk21:k=21
 ·subst hk21;have e:pT false a 21 n s t.l (t.l.map (aL false)) (t.l.map (lY false))=[xP].map W++(bI ((t.l.take (t.l.length - 1)).map (aL false))++(((t.l.drop (t.l.length - 1)).map (aL false)).flatten)):=by
   show W xP::(bI ((t.l.map (aL false)).take (t.l.length - 1))++((t.l.map (aL false)).drop (t.l.length - 1)).flatten)=_
   exact Fp
  rw[e]at hl ⊢;exact aJk wB hTab qb t D w v lk n a s ao m c _ rfl h ht hl
 by_cases hk22:k=22
 ·subst hk22;have e:pT false a 22 n s t.l (t.l.map (aL false)) (t.l.map (lY false))=[gV].map W++((t.l.map (aL false)).flatten):=by
   show W (kw false a gV qR)::(t.l.map (aL false)).flatten=_
   exact Fp
  rw[e]at hl ⊢;exact aJB wB hTab qb t D w v lk n a s ao m c  h ht hl
 by_cases hk23:k=23
 ·subst hk23
  by_cases hcd:2<t.l.length
  ·have e:pT false a 23 n s t.l (t.l.map (aL false)) (t.l.map (lY false))=[Nq].map W++(aL false (Px.part t.l 0)++([pI].map W++(aL false (Px.part t.l 1)++([qK].map W++(((t.l.drop 2).map (aL false)).flatten))))):=by
    show W Nq::(ct (t.l.map (aL false)) 0++W pI::(ct (t.l.map (aL false)) 1++(if 2<t.l.length then W qK::((t.l.map (aL false)).drop 2).flatten else [])))=_
    rw[aF hcd];exact Fp
   rw[e]at hl ⊢;exact aIE wB hTab qb t D w v lk n a s ao m c aB h ht hl
  ·have e:pT false a 23 n s t.l (t.l.map (aL false)) (t.l.map (lY false))=[Nq].map W++(aL false (Px.part t.l 0)++([pI].map W++(aL false (Px.part t.l 1)))):=by
    show W Nq::(ct (t.l.map (aL false)) 0++W pI::(ct (t.l.map (aL false)) 1++(if 2<t.l.length then W qK::((t.l.map (aL false)).drop 2).flatten else [])))=_
    rw[aC hcd];exact Fp
   rw[e]at hl ⊢;exact aHl wB hTab qb t D w v lk n a s ao m c aB h ht hl
 by_cases hk32:k=32
 ·subst hk32;have e:pT false a 32 n s t.l (t.l.map (aL false)) (t.l.map (lY false))=[wON].map W++(aL false (Px.part t.l 0)++(((t.l.drop 1).map (aL false)).flatten)):=by
   show W wON::(ct (t.l.map (aL false)) 0++((t.l.map (aL false)).drop 1).flatten)=_
   exact Fp
  rw[e]at hl ⊢;exact aKf wB hTab qb t D w v lk n a s ao m c  h ht hl
 by_cases hk33:k=33
 ·subst hk33;have e:pT false a 33 n s t.l (t.l.map (aL false)) (t.l.map (lY false))=[pN].map W++([aT].map O):=by
   show [W pN,O aT]=_
   exact Fp
  rw[e]at hl ⊢;exact aKe wB hTab qb t D w v lk n a s ao m c  h ht hl
 by_cases hk31:k=31
 ·subst hk31;have e:pT false a 31 n s t.l (t.l.map (aL false)) (t.l.map (lY false))=[aT].map O:=by
   show [O aT]=_
   exact Fp
  rw[e]at hl ⊢;exact aKB wB hTab qb t D w v lk n a s ao m c  h ht hl
 have e:pT false a k n s t.l (t.l.map (aL false)) (t.l.map (lY false))=simple false a k n s t.l (t.l.map (aL false)) (t.l.map (lY false))++[aT].map O:=by
  unfold Px.pT
  iterate 9 rw[aC iS]
  rfl
 rw[e]at hl ⊢;exact aFo wB hTab qb t D w v lk k n a s ao m c hk18 hk19 hk20 hk21 hk22 hk23 hk32 hk33 hk31 _ (λw' v' l' h' hl'=>adI wB hTab qb t D w' v' l' k n a s ao m c h' ht hl') h ht hl
theorem Wr(hl:lk.length+(Px.lZ false a k n s t.l (t.l.map (aL false)) (t.l.map (lY false)) (t.l.map (wI false))).length<=fG):AAA 109 #[pq qb,tg k n a s ao m c] w (lJ wB qb w v lk (Px.lZ false a k n s t.l (t.l.map (aL false)) (t.l.map (lY false)) (t.l.map (wI false)))):=by
 have hnr : -9223372036854775808<=n/\n<=9223372036854775807:=by rw[ht.split.2.1];exact D.r
 have hm5:=ht.split.2.2.2.2
 by_cases hk13:k=13
 ·subst hk13;have e:Px.lZ false a 13 n s t.l (t.l.map (aL false)) (t.l.map (lY false)) (t.l.map (wI false))=bI ((t.l.take (t.l.length - 1)).map (aL false))++([cU].map O++(((t.l.drop (t.l.length - 1)).map (aL false)).flatten)):=by
   show bI ((t.l.map (aL false)).take (t.l.length - 1))++O cU::((t.l.map (aL false)).drop (t.l.length - 1)).flatten=_
   exact Fp
  rw[e]at hl ⊢;exact aKE wB hTab qb t D w v lk n a s ao m c _ rfl h ht hl
 by_cases hk14:k=14
 ·subst hk14;have e:Px.lZ false a 14 n s t.l (t.l.map (aL false)) (t.l.map (lY false)) (t.l.map (wI false))=[s].map W++([cU].map O++((t.l.map (aL false)).flatten)):=by
   show W s::O cU::(t.l.map (aL false)).flatten=_
   exact Fp
  rw[e]at hl ⊢;exact aKG wB hTab qb t D w v lk n a s ao m c  h ht hl
 by_cases hk15:k=15
 ·subst hk15;have hz:(Px.part t.l 0).l=[]↔(Px.part t.l 0).l.length=0:=nN.symm;have e0:Px.lZ false a 15 n s t.l (t.l.map (aL false)) (t.l.map (lY false)) (t.l.map (wI false))=W (kw false a bB jL)::((if (Px.part t.l 0).l=[]then []else cb (t.l.map (lY false)) 0)++((if n=1 then [W gB,O cJ,W pO,O dA]else if n=2 then [W gE]else [])++((if (Px.part t.l 1).kind=10 then []else W gP::O cJ::((t.l.map (wI false)).getD 1 []++[O dA]))++Px.group ((t.l.map (aL false)).drop 2)))):=rfl;rw[kwF,Mr,aaG,<- vF]at e0;rw[e0]at hl ⊢
  by_cases ha:(Px.part t.l 0).l.length=0
  ·rw[aF (hz.2 ha)]at hl ⊢
   by_cases hn1:n=1
   ·subst hn1;rw[aF rfl]at hl ⊢
    by_cases hk1:(Px.part t.l 1).kind=10
    ·rw[aF hk1]at hl ⊢;have X:=atN wB hTab qb t D w v lk a s ao m c ha hk1 h ht;exact mF
    ·rw[aC hk1]at hl ⊢;have X:=avM wB hTab qb t D w v lk a s ao m c ha hk1 h ht;exact mF
   rw[aC hn1]at hl ⊢
   by_cases hn2:n=2
   ·subst hn2;rw[aF rfl]at hl ⊢
    by_cases hk1:(Px.part t.l 1).kind=10
    ·rw[aF hk1]at hl ⊢;have X:=axB wB hTab qb t D w v lk a s ao m c ha hk1 h ht;exact mF
    ·rw[aC hk1]at hl ⊢;have X:=axX wB hTab qb t D w v lk a s ao m c ha hk1 h ht;exact mF
   ·rw[aC hn2]at hl ⊢
    by_cases hk1:(Px.part t.l 1).kind=10
    ·rw[aF hk1]at hl ⊢;have X:=avT wB hTab qb t D w v lk n a s ao m c ha hn1 hn2 hk1 h ht;exact mF
    ·rw[aC hk1]at hl ⊢;have X:=arS wB hTab qb t D w v lk n a s ao m c ha hn1 hn2 hk1 h ht;exact mF
  ·rw[aC (λq=>ha (hz.1 q))]at hl ⊢
   by_cases hn1:n=1
   ·subst hn1;rw[aF rfl]at hl ⊢
    by_cases hk1:(Px.part t.l 1).kind=10
    ·rw[aF hk1]at hl ⊢;have X:=avY wB hTab qb t D w v lk a s ao m c aB hk1 h ht;exact mF
    ·rw[aC hk1]at hl ⊢;have X:=asR wB hTab qb t D w v lk a s ao m c aB hk1 h ht;exact mF
   rw[aC hn1]at hl ⊢
   by_cases hn2:n=2
   ·subst hn2;rw[aF rfl]at hl ⊢
    by_cases hk1:(Px.part t.l 1).kind=10
    ·rw[aF hk1]at hl ⊢;have X:=auY wB hTab qb t D w v lk a s ao m c aB hk1 h ht;exact mF
    ·rw[aC hk1]at hl ⊢;have X:=awD wB hTab qb t D w v lk a s ao m c aB hk1 h ht;exact mF
   ·rw[aC hn2]at hl ⊢
    by_cases hk1:(Px.part t.l 1).kind=10
    ·rw[aF hk1]at hl ⊢;have X:=ayD wB hTab qb t D w v lk n a s ao m c aB hn1 hn2 hk1 h ht;exact mF
    ·rw[aC hk1]at hl ⊢;have X:=asT wB hTab qb t D w v lk n a s ao m c aB hn1 hn2 hk1 h ht;exact mF
 by_cases hk16:k=16
 ·subst hk16;have e:Px.lZ false a 16 n s t.l (t.l.map (aL false)) (t.l.map (lY false)) (t.l.map (wI false))=[Bg].map W++(Px.group (t.l.map (aL false))):=by
   show W Bg::Px.group (t.l.map (aL false))=_
   exact Fp
  rw[e]at hl ⊢;exact aKs wB hTab qb t D w v lk n a s ao m c  h ht hl
 by_cases hk17:k=17
 ·subst hk17;have e:Px.lZ false a 17 n s t.l (t.l.map (aL false)) (t.l.map (lY false)) (t.l.map (wI false))=[LJ].map W++(Px.group (t.l.map (aL false))):=by
   show W LJ::Px.group (t.l.map (aL false))=_
   exact Fp
  rw[e]at hl ⊢;exact aKt wB hTab qb t D w v lk n a s ao m c  h ht hl
 have e:Px.lZ false a k n s t.l (t.l.map (aL false)) (t.l.map (lY false)) (t.l.map (wI false))=pT false a k n s t.l (t.l.map (aL false)) (t.l.map (lY false)):=by
  unfold Px.lZ
  iterate 5 rw[aC iS]
 rw[e]at hl ⊢;exact aFB wB hTab qb t D w v lk k n a s ao m c hk13 hk14 hk15 hk16 hk17 _ (λw' v' l' h' hl'=>adW wB hTab qb t D w' v' l' k n a s ao m c h' ht hl') h ht hl
end
def aLM: PG 67 1 λt n a s=>[(⟨n,s⟩:Tk)]:=by
 intro wB hTab qb t D w v l n a s ao m c h ht hl;obtain⟨b1,n1,h1,ho,hq,hz⟩:=XK h (tg 1 n a s ao m c);go_in;go_upto_region 1 with fail;generalize World.alloc w _=w1 at b1 n1 h1 hz ⊢;generalize w.heap.size=B3 at n1 ho hq hz ⊢;obtain⟨KT,S0,HZ,HN⟩:=kt1 h1 hz hq ho n1;have:=oS KT S0;go_upto_block 4 with fail;refine gU (S0.call λv' hv=>IB wB qb _ v' _ n s hv fO) λx1 S1=>?_;have P:=Bb S1 b1 l ([(⟨n,s⟩:Tk)]);exact wJ
def aGn(wB:World)(hTab:fQ wB)(qb:Nat)(t:T)(D:PD wB qb t)(w:World)(v:Value)(l:List Tk)(n a:Int)(s:dL)(ao:iD)(m:Nat)(c:Nat)(hn:¬ n=1)  (h:Pt wB qb w v l)(ht:Tr wB t (vT 3 n a s ao m c))(hl:l.length+([s].map W++(aR (t.l.map (aL false)))).length<=fG) :
 AAA 67 #[pq qb,tg 3 n a s ao m c] w (lJ wB qb w v l ([s].map W++(aR (t.l.map (aL false))))):=kQ
def aEL(wB:World)(hTab:fQ wB)(qb:Nat)(t:T)(D:PD wB qb t)(w:World)(v:Value)(l:List Tk)(a:Int)(s:dL)(ao:iD)(m:Nat)(c:Nat)  (h:Pt wB qb w v l)(ht:Tr wB t (vT 3 1 a s ao m c))(hl:l.length+([s].map W++(bI (t.l.map (aL false)))).length<=fG):AAA 67 #[pq qb,tg 3 1 a s ao m c] w (lJ wB qb w v l ([s].map W++(bI (t.l.map (aL false))))):=by
 obtain⟨b1,n1,h1,ho,hq,hz⟩:=XK h (tg 3 1 a s ao m c);exact OD
def ayT(wB:World)(hTab:fQ wB)(qb:Nat)(t:T)(D:PD wB qb t)(w:World)(v:Value)(l:List Tk)(n a:Int)(s:dL)(ao:iD)(m:Nat)(c:Nat)(hn:¬ n=1)  (h:Pt wB qb w v l)(ht:Tr wB t (vT 50 n a s ao m c))(hl:l.length+([s].map W++(aR (t.l.map (aL false)))).length<=fG) :
 AAA 67 #[pq qb,tg 50 n a s ao m c] w (lJ wB qb w v l ([s].map W++(aR (t.l.map (aL false))))):=kQ
def aCH(wB:World)(hTab:fQ wB)(qb:Nat)(t:T)(D:PD wB qb t)(w:World)(v:Value)(l:List Tk)(a:Int)(s:dL)(ao:iD)(m:Nat)(c:Nat)  (h:Pt wB qb w v l)(ht:Tr wB t (vT 50 1 a s ao m c))(hl:l.length+([s].map W++(bI (t.l.map (aL false)))).length<=fG):AAA 67 #[pq qb,tg 50 1 a s ao m c] w (lJ wB qb w v l ([s].map W++(bI (t.l.map (aL false))))):=by
 obtain⟨b1,n1,h1,ho,hq,hz⟩:=XK h (tg 50 1 a s ao m c);exact OD
def aAQ(wB:World)(hTab:fQ wB)(qb:Nat)(t:T)(D:PD wB qb t)(w:World)(v:Value)(l:List Tk)(n a:Int)(ao:iD)(m:Nat)(c:Nat)(hn:¬ n=1)  (h:Pt wB qb w v l)(ht:Tr wB t (vT 41 n a ⟨#[80]⟩ ao m c))(hl:l.length+([⟨#[80]⟩].map W++(aR (t.l.map (aL false)))).length<=fG) :
 AAA 67 #[pq qb,tg 41 n a ⟨#[80]⟩ ao m c] w (lJ wB qb w v l ([⟨#[80]⟩].map W++(aR (t.l.map (aL false))))):=kQ
def asH(wB:World)(hTab:fQ wB)(qb:Nat)(t:T)(D:PD wB qb t)(w:World)(v:Value)(l:List Tk)(n a:Int)(s:dL)(ao:iD)(c:Nat)(hn:¬ n=1)(hs:¬ s=⟨#[80]⟩)  (h:Pt wB qb w v l)(ht:Tr wB t (vT 41 n a s ao 0 c))(hl:l.length+([s].map W++(aR (t.l.map (aL false)))).length<=fG) :
 AAA 67 #[pq qb,tg 41 n a s ao 0 c] w (lJ wB qb w v l ([s].map W++(aR (t.l.map (aL false))))):=kQ
def aAh(wB:World)(hTab:fQ wB)(qb:Nat)(t:T)(D:PD wB qb t)(w:World)(v:Value)(l:List Tk)(n a:Int)(s:dL)(ao:iD)(m:Nat)(c:Nat)(hn:¬ n=1)(hs:¬ s=⟨#[80]⟩)(hm:(0:Int)<(m:Int))  (h:Pt wB qb w v l)(ht:Tr wB t (vT 41 n a s ao m c))(hl:l.length+([s].map W++(bI (t.l.map (aL false)))).length<=fG) :
 AAA 67 #[pq qb,tg 41 n a s ao m c] w (lJ wB qb w v l ([s].map W++(bI (t.l.map (aL false))))):=kQ
def aCv(wB:World)(hTab:fQ wB)(qb:Nat)(t:T)(D:PD wB qb t)(w:World)(v:Value)(l:List Tk)(a:Int)(ao:iD)(m:Nat)(c:Nat)  (h:Pt wB qb w v l)(ht:Tr wB t (vT 41 1 a ⟨#[80]⟩ ao m c))(hl:l.length+([⟨#[80]⟩].map W++(aR (t.l.map (aL false)))).length<=fG) :
 AAA 67 #[pq qb,tg 41 1 a ⟨#[80]⟩ ao m c] w (lJ wB qb w v l ([⟨#[80]⟩].map W++(aR (t.l.map (aL false))))):=kQ
def axR(wB:World)(hTab:fQ wB)(qb:Nat)(t:T)(D:PD wB qb t)(w:World)(v:Value)(l:List Tk)(a:Int)(s:dL)(ao:iD)(c:Nat)(hs:¬ s=⟨#[80]⟩)  (h:Pt wB qb w v l)(ht:Tr wB t (vT 41 1 a s ao 0 c))(hl:l.length+([s].map W++(aR (t.l.map (aL false)))).length<=fG) :
 AAA 67 #[pq qb,tg 41 1 a s ao 0 c] w (lJ wB qb w v l ([s].map W++(aR (t.l.map (aL false))))):=kQ
def aAu(wB:World)(hTab:fQ wB)(qb:Nat)(t:T)(D:PD wB qb t)(w:World)(v:Value)(l:List Tk)(a:Int)(s:dL)(ao:iD)(m:Nat)(c:Nat)(hs:¬ s=⟨#[80]⟩)(hm:(0:Int)<(m:Int))  (h:Pt wB qb w v l)(ht:Tr wB t (vT 41 1 a s ao m c))(hl:l.length+([s].map W++(bI (t.l.map (aL false)))).length<=fG) :
 AAA 67 #[pq qb,tg 41 1 a s ao m c] w (lJ wB qb w v l ([s].map W++(bI (t.l.map (aL false))))):=kQ
def aLo: PG 67 4 λt n a s=>aL false (Px.part t.l 0)++([fT].map O++(aL false (Px.part t.l 1))):=Cd
def aLK: PG 67 5 λt n a s=>[s].map O++(operand (Px.part t.l 0) (aL false (Px.part t.l 0)) 6):=by
 intro wB hTab qb t D w v l n a s ao m c h ht hl;obtain⟨b1,n1,h1,ho,hq,hz⟩:=XK h (tg 5 n a s ao m c);go_in;go_upto_region 1 with fail;generalize World.alloc w _=w1 at b1 n1 h1 hz ⊢;generalize w.heap.size=B3 at n1 ho hq hz ⊢;obtain⟨KT,S0,HZ,HN⟩:=kt1 h1 hz hq ho n1;have:=oS KT S0;go_upto_block 25 with fail;refine gU (S0.opC [s] fO #[.string s] rfl 1 rfl) λx1 S1=>?_;have:=oS KT S1;go_upto_block 26 with fail;refine(S1.kR ht 0).mono ?_;rintro e x2 ⟨⟨k2,n2,a2,s2,o2,m2,c2,rfl,hx2⟩,S2⟩;go_upto_block 26 with fail;refine(S2.eT (E:=λe=>∃ v0 v1 v2 v3 v4 v5,e=.returned (.agg #[v0,v1,v2,v3,v4,v5])) ((zJ _).mono λe w' h=>⟨by obtain⟨v0,v1,v2,v3,v4,v5,h,_⟩:=h.1;exact⟨v0,v1,v2,v3,v4,v5,h⟩,h.2⟩)).mono ?_;rintro e x3 ⟨⟨v0,v1,v2,v3,v4,v5,rfl⟩,S3⟩;go_upto_block 26 with fail;refine gU (S3.Vx 6 hx2 (D.p 0) fO) λx4 S4=>?_;have P:=Bb S4 b1 l ([s].map O++(operand (Px.part t.l 0) (aL false (Px.part t.l 0)) 6));exact AK
def SP.aAS{wB:World}{qb:Nat}{w0 w:World}{v0:Value}{l:List Tk}{rv}(S:SP wB qb w0 v0 w l rv)(s:dL)(lv:Int)(h:Px.level s=lv) :
 AAA 104 #[s] w λe w'=>e=.returned (.int .i64 lv)/\SP wB qb w0 v0 w' l rv:=h ▸ S.anU s
def aLd(wB:World)(hTab:fQ wB)(qb:Nat)(t:T)(D:PD wB qb t)(w:World)(v:Value)(l:List Tk)(n a:Int)(s:dL)(ao:iD)(m c:Nat)(lv:Int)(hlv:Px.level s=lv)(hlb : -1<=lv/\lv<=6)(h:Pt wB qb w v l)(ht:Tr wB t (vT 6 n a s ao m c))(hl:l.length+(operand (Px.part t.l 0) (aL false (Px.part t.l 0)) lv++([s].map O++(operand (Px.part t.l 1) (aL false (Px.part t.l 1)) (lv+1)))).length<=fG):AAA 67 #[pq qb,tg 6 n a s ao m c] w (lJ wB qb w v l (operand (Px.part t.l 0) (aL false (Px.part t.l 0)) lv++([s].map O++(operand (Px.part t.l 1) (aL false (Px.part t.l 1)) (lv+1))))):=by
 obtain⟨b1,n1,h1,ho,hq,hz⟩:=XK h (tg 6 n a s ao m c);go_in;go_upto_region 1 with fail;generalize World.alloc w _=w1 at b1 n1 h1 hz ⊢;generalize w.heap.size=B3 at n1 ho hq hz ⊢;obtain⟨KT,S0,HZ,HN⟩:=kt1 h1 hz hq ho n1;have HLV:=aN hlv;clear hlv;obtain⟨hlb1,hlb2⟩:=hlb;have hwr:IntKind.i64.wrap (lv+1)=lv+1:=iV _ aB;have:=oS KT S0;go_upto_region 28 with fail;have S1:=S0.drew;refine fW (S:=(λw'=>TV w' B3 (iq 6) n a s (.slice ao m c))) aQ (KT.out _ _ _ S1) (λaMA=>?_);generalize World.drew _=y1 at *;refine BH 0 ?_;refine BH 1 ?_;refine BH 3 ?_;refine BH 4 ?_;refine gZ 2 λKx aMB=>?_;go_simp;refine(S1.kR ht 0).mono ?_;rintro e x2 ⟨⟨k2,n2,a2,s2,o2,m2,c2,rfl,hx2⟩,S2⟩;refine kX aMB (KT.out _ _ _ S2) λaMA=>?_;clear aMB Kx;refine gZ 5 λKx aMB=>?_;go_simp;refine gU (S2.aAS s lv HLV.out) λx3 S3=>?_;refine kX aMB (KT.out _ _ _ S3) λaMA=>?_;clear aMB Kx;refine gZ 6 λKx aMB=>?_;go_simp;refine gU (S3.Vx lv hx2 (D.p 0) fO) λx4 S4=>?_;refine kX aMB (KT.out _ _ _ S4) λaMA=>?_;clear aMB Kx;refine pP ?_;have:=oS KT S4;go_upto_block 29 with fail;refine gU (S4.opC [s] fO #[.string s] rfl 1 rfl) λx5 S5=>?_;have:=oS KT S5;go_upto_region 30 with fail;have S6:=S5.drew;refine fW (S:=(λw'=>TV w' B3 (iq 6) n a s (.slice ao m c))) aQ (KT.out _ _ _ S6) (λaMA=>?_);generalize World.drew _=y6 at *;refine BH 0 ?_;refine BH 1 ?_;refine BH 3 ?_;refine BH 4 ?_;refine gZ 2 λKx aMB=>?_;go_simp;refine(S6.kR ht 1).mono ?_;rintro e x7 ⟨⟨k7,n7,a7,s7,o7,m7,c7,rfl,hx7⟩,S7⟩;refine kX aMB (KT.out _ _ _ S7) λaMA=>?_;clear aMB Kx;refine gZ 5 λKx aMB=>?_;go_simp;refine gU (S7.aAS s lv HLV.out) λx8 S8=>?_;refine kX aMB (KT.out _ _ _ S8) λaMA=>?_;clear aMB Kx;refine BH 6 ?_;refine gZ 7 λKx aMB=>?_;go_simp;refine gU (S8.Vx (lv+1) hx7 (D.p 1) fO) λx9 S9=>?_;refine kX aMB (KT.out _ _ _ S9) λaMA=>?_;clear aMB Kx;refine pP ?_;have P:=Bb S9 b1 l (operand (Px.part t.l 0) (aL false (Px.part t.l 0)) lv++([s].map O++(operand (Px.part t.l 1) (aL false (Px.part t.l 1)) (lv+1))));clear hl h h1 b1 S0 S1 S2 S3 S4 S5 S6 S7 S8 S9
 go_wp2
 go_end0;exact P
def aLr: PG 67 7 λt n a s=>[Cn].map O:=Cd
def aJQ: PG 67 11 λt n a s=>[s].map W:=Cd
def aIP(wB:World)(hTab:fQ wB)(qb:Nat)(t:T)(D:PD wB qb t)(w:World)(v:Value)(l:List Tk)(n a:Int)(s:dL)(ao:iD)(c:Nat)  (h:Pt wB qb w v l)(ht:Tr wB t (vT 12 n a s ao 0 c))(hl:l.length+([s].map W).length<=fG) :
 AAA 67 #[pq qb,tg 12 n a s ao 0 c] w (lJ wB qb w v l ([s].map W)):=kQ
def aHr(wB:World)(hTab:fQ wB)(qb:Nat)(t:T)(D:PD wB qb t)(w:World)(v:Value)(l:List Tk)(n a:Int)(s:dL)(ao:iD)(m c:Nat)(hm:(0:Int)<(m:Int))(h:Pt wB qb w v l)(ht:Tr wB t (vT 12 n a s ao m c))(hl:l.length+([s].map W++(bI (t.l.map (aL false)))).length<=fG) :
 AAA 67 #[pq qb,tg 12 n a s ao m c] w (lJ wB qb w v l ([s].map W++(bI (t.l.map (aL false))))):=kQ
end
