/- Part 27. -/
import Derived.Test.YtikalomcclefiaaGreatDoorV26
set_option linter.all false
set_option maxHeartbeats 0
set_option maxRecDepth 100000
namespace Go.Proofs.YtikalomcclefiaaGreatDoor
section
open Go.RowKit Lx Px
def adI(wB:World)(hTab:fQ wB)(qb:Nat)(t:T)(D:PD wB qb t)(w:World)(v:Value)(lk:List Tk)(k n a:Int)(s:dL)(ao:iD)(m c:Nat)(h:Pt wB qb w v lk)(ht:Tr wB t (vT k n a s ao m c))(hl:lk.length+(simple false a k n s t.l (t.l.map (aL false)) (t.l.map (lY false))).length+1<=fG):AAA 147 #[pq qb,tg k n a s ao m c] w (lJ wB qb w v lk (simple false a k n s t.l (t.l.map (aL false)) (t.l.map (lY false)))):=by
 have hnr : -9223372036854775808<=n/\n<=9223372036854775807:=by rw[ht.split.2.1];exact D.r
 have hm5:=ht.split.2.2.2.2
 by_cases hk24:k=24
 ·subst hk24;have e:simple false a 24 n s t.l (t.l.map (aL false)) (t.l.map (lY false))=aL false (Px.part t.l 0)++([tV].map O++(aL false (Px.part t.l 1))):=by
   show ct (t.l.map (aL false)) 0++O tV::ct (t.l.map (aL false)) 1=_
   exact Fp
  rw[e]at hl ⊢;exact aKK wB hTab qb t D w v lk n a s ao m c  h ht Yf
 by_cases hk25:k=25
 ·subst hk25;have e:simple false a 25 n s t.l (t.l.map (aL false)) (t.l.map (lY false))=[Ch].map W++(aL false (Px.part t.l 0)):=by
   show W Ch::ct (t.l.map (aL false)) 0=_
   exact Fp
  rw[e]at hl ⊢;exact aJz wB hTab qb t D w v lk n a s ao m c  h ht Yf
 by_cases hk26:k=26
 ·subst hk26
  by_cases hnil:t.l=[]
  ·have e:simple false a 26 n s t.l (t.l.map (aL false)) (t.l.map (lY false))=[lM].map W:=by
    show W lM::(if t.l=[]then []else bI (t.l.map (aL false)))=_
    rw[aF hnil];rfl
   rw[e]at hl ⊢;obtain rfl:m=0:=by rw[hm5,hnil];rfl
   exact aIv wB hTab qb t D w v lk n a s ao c h ht Yf
  ·have e:simple false a 26 n s t.l (t.l.map (aL false)) (t.l.map (lY false))=[lM].map W++(bI (t.l.map (aL false))):=by
    show W lM::(if t.l=[]then []else bI (t.l.map (aL false)))=_
    rw[aC hnil];rfl
   rw[e]at hl ⊢;have:t.l.length≠0:=λe=>hnil (nN.1 e)
   exact aHN wB hTab qb t D w v lk n a s ao m c aB h ht Yf
 by_cases hk27:k=27
 ·subst hk27;have e:simple false a 27 n s t.l (t.l.map (aL false)) (t.l.map (lY false))=[wGO,Fj,s].map W:=by
   show [W wGO,W Fj,W s]=_
   exact Fp
  rw[e]at hl ⊢;exact aJA wB hTab qb t D w v lk n a s ao m c  h ht Yf
 by_cases hk28:k=28
 ·subst hk28;have e:simple false a 28 n s t.l (t.l.map (aL false)) (t.l.map (lY false))=mR pM s:=by
   show mR pM s=_
   exact Fp
  rw[e]at hl ⊢;have hlt:1<=(mR pM s).length:=by unfold mR;simp
  exact aJo wB hTab qb t D w v lk n a s ao m c aB h ht Yf
 by_cases hk29:k=29
 ·subst hk29;have e:simple false a 29 n s t.l (t.l.map (aL false)) (t.l.map (lY false))=mR jO s:=by
   show mR jO s=_
   exact Fp
  rw[e]at hl ⊢;have hlt:1<=(mR jO s).length:=by unfold mR;simp
  exact aJX wB hTab qb t D w v lk n a s ao m c aB h ht Yf
 by_cases hk30:k=30
 ·subst hk30;have e:simple false a 30 n s t.l (t.l.map (aL false)) (t.l.map (lY false))=[DN].map W:=by
   show [W DN]=_
   exact Fp
  rw[e]at hl ⊢;exact aKp wB hTab qb t D w v lk n a s ao m c  h ht Yf
 by_cases hk34:k=34
 ·subst hk34;have e:simple false a 34 n s t.l (t.l.map (aL false)) (t.l.map (lY false))=[rD].map W++((t.l.map (aL false)).flatten):=by
   show W rD::(t.l.map (aL false)).flatten=_
   exact Fp
  rw[e]at hl ⊢;exact aJm wB hTab qb t D w v lk n a s ao m c  h ht Yf
 by_cases hk35:k=35
 ·subst hk35;have e:simple false a 35 n s t.l (t.l.map (aL false)) (t.l.map (lY false))=[rC].map W++((t.l.map (aL false)).flatten):=by
   show W rC::(t.l.map (aL false)).flatten=_
   exact Fp
  rw[e]at hl ⊢;exact aKM wB hTab qb t D w v lk n a s ao m c  h ht Yf
 by_cases hk36:k=36
 ·subst hk36;have e:simple false a 36 n s t.l (t.l.map (aL false)) (t.l.map (lY false))=[iR,s].map W++(opt GN (Px.part t.l 0) (aL false (Px.part t.l 0))++(opt JJ (Px.part t.l 1) (aL false (Px.part t.l 1)))):=by
   show W (kw false a iR rL)::W s::(opt GN (Px.part t.l 0) (ct (t.l.map (aL false)) 0)++opt JJ (Px.part t.l 1) (ct (t.l.map (aL false)) 1))=_
   exact Fp
  rw[e]at hl ⊢;exact aJP wB hTab qb t D w v lk n a s ao m c  h ht Yf
 by_cases hk37:k=37
 ·subst hk37;have e:simple false a 37 n s t.l (t.l.map (aL false)) (t.l.map (lY false))=[CA].map W++(aL false (Px.part t.l 0)++(opt JJ (Px.part t.l 1) (aL false (Px.part t.l 1)))):=by
   show W CA::(ct (t.l.map (aL false)) 0++opt JJ (Px.part t.l 1) (ct (t.l.map (aL false)) 1))=_
   exact Fp
  rw[e]at hl ⊢;exact aKo wB hTab qb t D w v lk n a s ao m c  h ht Yf
 by_cases hk38:k=38
 ·subst hk38;have e:simple false a 38 n s t.l (t.l.map (aL false)) (t.l.map (lY false))=[FA].map W++(xX s++(yU n++(Bp (Px.part t.l 0) (Px.part t.l 1)))):=by
   show W (if (38:Int)=38 then FA else FC)::((if s.size=0 then []else [W gR,O cJ,W s,O dA])++((if n=0 then []else [W sV,O cJ,Nm n,O dA])++(if (Px.part t.l 1).kind≠10 then W rX::(cb (t.l.map (lY false)) 0++cb (t.l.map (lY false)) 1)else if (Px.part t.l 0).kind≠10 then W wQ::cb (t.l.map (lY false)) 0 else [])))=_
   exact Fp
  rw[e]at hl ⊢;exact aKn wB hTab qb t D w v lk n a s ao m c ([FA].map W++(xX s++(yU n++(Bp (Px.part t.l 0) (Px.part t.l 1))))) (λw' v' l' h' hl'=>aJt wB hTab qb t D w' v' l' n a s ao m c 38 FA (.inl ⟨rfl,rfl⟩) hnr h' ht hl') h ht Yf
 by_cases hk39:k=39
 ·subst hk39;have e:simple false a 39 n s t.l (t.l.map (aL false)) (t.l.map (lY false))=[FC].map W++(xX s++(yU n++(Bp (Px.part t.l 0) (Px.part t.l 1)))):=by
   show W (if (39:Int)=38 then FA else FC)::((if s.size=0 then []else [W gR,O cJ,W s,O dA])++((if n=0 then []else [W sV,O cJ,Nm n,O dA])++(if (Px.part t.l 1).kind≠10 then W rX::(cb (t.l.map (lY false)) 0++cb (t.l.map (lY false)) 1)else if (Px.part t.l 0).kind≠10 then W wQ::cb (t.l.map (lY false)) 0 else [])))=_
   exact Fp
  rw[e]at hl ⊢;exact aKj wB hTab qb t D w v lk n a s ao m c ([FC].map W++(xX s++(yU n++(Bp (Px.part t.l 0) (Px.part t.l 1))))) (λw' v' l' h' hl'=>aJt wB hTab qb t D w' v' l' n a s ao m c 39 FC (.inr ⟨rfl,rfl⟩) hnr h' ht hl') h ht Yf
 by_cases hk43:k=43
 ·subst hk43;have e:simple false a 43 n s t.l (t.l.map (aL false)) (t.l.map (lY false))=([Bj,gR].map W++([cJ].map O++([s].map W++[dA].map O)))++(opt yV (Px.part t.l 0) (aL false (Px.part t.l 0))++(opt oW (Px.part t.l 1) (aL false (Px.part t.l 1)))):=by
   show EV Bj s++(opt yV (Px.part t.l 0) (ct (t.l.map (aL false)) 0)++opt oW (Px.part t.l 1) (ct (t.l.map (aL false)) 1))=_
   exact Fp
  rw[e]at hl ⊢;exact aKd wB hTab qb t D w v lk n a s ao m c  h ht Yf
 by_cases hk44:k=44
 ·subst hk44;have e:simple false a 44 n s t.l (t.l.map (aL false)) (t.l.map (lY false))=([uM,gR].map W++([cJ].map O++([s].map W++[dA].map O)))++(opt oE (Px.part t.l 0) (aL false (Px.part t.l 0))++(opt nJ (Px.part t.l 1) (aL false (Px.part t.l 1)))):=by
   show EV uM s++(opt oE (Px.part t.l 0) (ct (t.l.map (aL false)) 0)++opt nJ (Px.part t.l 1) (ct (t.l.map (aL false)) 1))=_
   exact Fp
  rw[e]at hl ⊢;exact aKr wB hTab qb t D w v lk n a s ao m c  h ht Yf
 by_cases hk45:k=45
 ·subst hk45;have e:simple false a 45 n s t.l (t.l.map (aL false)) (t.l.map (lY false))=([nZ,gR].map W++([cJ].map O++([s].map W++[dA].map O)))++(opt oE (Px.part t.l 0) (aL false (Px.part t.l 0))++(opt oW (Px.part t.l 1) (aL false (Px.part t.l 1)))):=by
   show EV nZ s++(opt oE (Px.part t.l 0) (ct (t.l.map (aL false)) 0)++opt oW (Px.part t.l 1) (ct (t.l.map (aL false)) 1))=_
   exact Fp
  rw[e]at hl ⊢;exact aJN wB hTab qb t D w v lk n a s ao m c  h ht Yf
 by_cases hk46:k=46
 ·subst hk46;have e:simple false a 46 n s t.l (t.l.map (aL false)) (t.l.map (lY false))=([sC,gR].map W++([cJ].map O++([s].map W++[dA].map O)))++(opt oW (Px.part t.l 0) (aL false (Px.part t.l 0))):=by
   show EV sC s++(opt oW (Px.part t.l 0) (ct (t.l.map (aL false)) 0))=_
   exact Fp
  rw[e]at hl ⊢;exact aJL wB hTab qb t D w v lk n a s ao m c  h ht Yf
 by_cases hk47:k=47
 ·subst hk47;have e:simple false a 47 n s t.l (t.l.map (aL false)) (t.l.map (lY false))=[fK].map W++(aR (t.l.map (aL false))):=by
   show W (kw false a fK uP)::aR (t.l.map (aL false))=_
   exact Fp
  rw[e]at hl ⊢;exact aKQ wB hTab qb t D w v lk n a s ao m c  h ht Yf
 have e:simple false a k n s t.l (t.l.map (aL false)) (t.l.map (lY false))=[]:=by
  unfold Px.simple
  iterate 11 rw[aC iS]
  rw[aC (λh=>h.elim hk38 hk39)]
  iterate 5 rw[aC iS]
 rw[e]at hl ⊢;exact aGp wB hTab qb t D w v lk k n a s ao m c hk24 hk25 hk26 hk27 hk28 hk29 hk30 hk34 hk35 hk36 hk37 hk38 hk39 hk43 hk44 hk45 hk46 hk47 h ht Yf
def aJx: PG 131 18 λt n a s=>[LJ].map W++(opt gF (Px.part t.l 0) (aL false (Px.part t.l 0))++(opt gA (Px.part t.l 1) (aL false (Px.part t.l 1))++(Px.group ((t.l.drop 2).map (aL false))))):=Cd
def aHJ(wB:World)(hTab:fQ wB)(qb:Nat)(t:T)(D:PD wB qb t)(w:World)(v:Value)(l:List Tk)(n a:Int)(s:dL)(ao:iD)(m c:Nat)(hk0:(Px.part t.l 0).kind=10)(h:Pt wB qb w v l)(ht:Tr wB t (vT 20 n a s ao m c))(hl:l.length+([qB].map W++(Px.group ((t.l.drop 1).map (aL false)))).length<=fG) :
 AAA 131 #[pq qb,tg 20 n a s ao m c] w (lJ wB qb w v l ([qB].map W++(Px.group ((t.l.drop 1).map (aL false))))):=kQ
def aHZ(wB:World)(hTab:fQ wB)(qb:Nat)(t:T)(D:PD wB qb t)(w:World)(v:Value)(l:List Tk)(n a:Int)(s:dL)(ao:iD)(m c:Nat)(hk0:¬ (Px.part t.l 0).kind=10)(h:Pt wB qb w v l)(ht:Tr wB t (vT 20 n a s ao m c))(hl:l.length+([qB].map W++(bI ([Px.part t.l 0].map (aL false))++(Px.group ((t.l.drop 1).map (aL false))))).length<=fG) :
 AAA 131 #[pq qb,tg 20 n a s ao m c] w (lJ wB qb w v l ([qB].map W++(bI ([Px.part t.l 0].map (aL false))++(Px.group ((t.l.drop 1).map (aL false)))))):=kQ
def aJk(wB:World)(hTab:fQ wB)(qb:Nat)(t:T)(D:PD wB qb t)(w:World)(v:Value)(l:List Tk)(n a:Int)(s:dL)(ao:iD)(m c:Nat)(nn:Nat)(hnn:nn=t.l.length - 1)(h:Pt wB qb w v l)(ht:Tr wB t (vT 21 n a s ao m c))(hl:l.length+([xP].map W++(bI ((t.l.take nn).map (aL false))++(((t.l.drop nn).map (aL false)).flatten))).length<=fG):AAA 131 #[pq qb,tg 21 n a s ao m c] w (lJ wB qb w v l ([xP].map W++(bI ((t.l.take nn).map (aL false))++(((t.l.drop nn).map (aL false)).flatten)))):=by
 obtain⟨b1,n1,h1,ho,hq,hz⟩:=XK h (tg 21 n a s ao m c);go_in;go_upto_region 1 with fail;generalize World.alloc w _=w1 at b1 n1 h1 hz ⊢;generalize w.heap.size=B3 at n1 ho hq hz ⊢;obtain⟨KT,S0,HZ,HN⟩:=kt1 h1 hz hq ho n1;have hmm:=ht.split.2.2.2.2;have hnm:nn<=m:=by omega
 have hmx:max ((m:Int) - 1) 0=(nn:Int):=by omega
 have HMX:=aN hmx;have hcp:nn<=c:=by have:=ht.cap;omega
 clear hmm hnn;have:=oS KT S0;have hmx2:=HMX.out;have hmD:=D.n;have hmm2:m<=1000000:=by have:=ht.split.2.2.2.2;omega
 have:=oS KT S0;go_upto_block 33 with fail;refine gU (S0.kS [xP] fO #[.string ⟨#[87,72,69,78]⟩] rfl 1 rfl) λx1 S1=>?_;have:=oS KT S1;go_upto_block 34 with fail;refine gU (S1.pA ((mH.tree S1.low ht).take nn aB _) (by have:=D.n;rw[jV];omega) (λy hy=>D.l y (FE hy)) fO) λx2 S2=>?_;have:=oS KT S2;go_upto_block 35 with fail;refine(S2.apD ht nn).mono ?_;rintro e x3 ⟨⟨y3,rfl,hx3⟩,S3⟩;go_upto_block 35 with fail;refine gU (S3.LM hx3 (by have:=D.n;rw[zV];omega) (λy hy=>D.l y (zU hy)) fO) λx4 S4=>?_;have P:=Bb S4 b1 l ([xP].map W++(bI ((t.l.take nn).map (aL false))++(((t.l.drop nn).map (aL false)).flatten)));exact AK
def aJB: PG 131 22 λt n a s=>[gV].map W++((t.l.map (aL false)).flatten):=Cd
def aHl(wB:World)(hTab:fQ wB)(qb:Nat)(t:T)(D:PD wB qb t)(w:World)(v:Value)(l:List Tk)(n a:Int)(s:dL)(ao:iD)(m c:Nat)(hm:¬ (2:Int)<(m:Int))(h:Pt wB qb w v l)(ht:Tr wB t (vT 23 n a s ao m c))(hl:l.length+([Nq].map W++(aL false (Px.part t.l 0)++([pI].map W++(aL false (Px.part t.l 1))))).length<=fG) :
 AAA 131 #[pq qb,tg 23 n a s ao m c] w (lJ wB qb w v l ([Nq].map W++(aL false (Px.part t.l 0)++([pI].map W++(aL false (Px.part t.l 1)))))):=kQ
def aIE(wB:World)(hTab:fQ wB)(qb:Nat)(t:T)(D:PD wB qb t)(w:World)(v:Value)(l:List Tk)(n a:Int)(s:dL)(ao:iD)(m c:Nat)(hm:(2:Int)<(m:Int))(h:Pt wB qb w v l)(ht:Tr wB t (vT 23 n a s ao m c))(hl:l.length+([Nq].map W++(aL false (Px.part t.l 0)++([pI].map W++(aL false (Px.part t.l 1)++([qK].map W++(((t.l.drop 2).map (aL false)).flatten)))))).length<=fG) :
 AAA 131 #[pq qb,tg 23 n a s ao m c] w (lJ wB qb w v l ([Nq].map W++(aL false (Px.part t.l 0)++([pI].map W++(aL false (Px.part t.l 1)++([qK].map W++(((t.l.drop 2).map (aL false)).flatten))))))):=kQ
def aKf: PG 131 32 λt n a s=>[wON].map W++(aL false (Px.part t.l 0)++(((t.l.drop 1).map (aL false)).flatten)):=Cd
def aKe: PG 131 33 λt n a s=>[pN].map W++([aT].map O):=Cd
def aKB: PG 131 31 λt n a s=>[aT].map O:=Cd
def aFo(wB:World)(hTab:fQ wB)(qb:Nat)(t:T)(D:PD wB qb t)(w:World)(v:Value)(l:List Tk)(k n a:Int)(s:dL)(ao:iD)(m c:Nat)(h18:¬ k=18)(h19:¬ k=19)(h20:¬ k=20)(h21:¬ k=21)(h22:¬ k=22)(h23:¬ k=23)(h32:¬ k=32)(h33:¬ k=33)(h31:¬ k=31)(X:List Tk)(hX:∀ w v l,Pt wB qb w v l->l.length+X.length+1<=fG->AAA 147 #[pq qb,tg k n a s ao m c] w (lJ wB qb w v l X))(h:Pt wB qb w v l)(ht:Tr wB t (vT k n a s ao m c))(hl:l.length+(X++([aT].map O)).length<=fG) :
 AAA 131 #[pq qb,tg k n a s ao m c] w (lJ wB qb w v l (X++([aT].map O))):=kQ
def aKl: PG 131 19 λt n a s=>[LJ].map W++(aL false (Px.part t.l 0)++([tV].map O++(aL false (Px.part t.l 1)++(lK Fj (Px.part t.l 2) (aL false (Px.part t.l 2))++(lK Xd (Px.part t.l 3) (aL false (Px.part t.l 3))++(opt gF (Px.part t.l 4) (aL false (Px.part t.l 4))++(opt gA (Px.part t.l 5) (aL false (Px.part t.l 5))++(Px.group ((t.l.drop 6).map (aL false)))))))))):=by
 intro wB hTab qb t D w v l n a s ao m c h ht hl;obtain⟨b1,n1,h1,ho,hq,hz⟩:=XK h (tg 19 n a s ao m c);go_in;go_upto_region 1 with fail;generalize World.alloc w _=w1 at b1 n1 h1 hz ⊢;generalize w.heap.size=B3 at n1 ho hq hz ⊢;obtain⟨KT,S0,HZ,HN⟩:=kt1 h1 hz hq ho n1;have:=oS KT S0;go_upto_block 10 with fail;refine gU (S0.kS [LJ] fO #[.string ⟨#[68,79]⟩] rfl 1 rfl) λx1 S1=>?_;have:=oS KT S1;go_upto_block 11 with fail;refine(S1.kR ht 0).mono ?_;rintro e x2 ⟨⟨k2,n2,a2,s2,o2,m2,c2,rfl,hx2⟩,S2⟩;go_upto_block 11 with fail;refine gU (S2.eK (D.p 0) hx2 fO) λx3 S3=>?_;have:=oS KT S3;go_upto_block 12 with fail;refine gU (S3.opC [tV] fO #[.string ⟨#[61]⟩] rfl 1 rfl) λx4 S4=>?_;have:=oS KT S4;go_upto_block 13 with fail;refine(S4.kR ht 1).mono ?_;rintro e x5 ⟨⟨k5,n5,a5,s5,o5,m5,c5,rfl,hx5⟩,S5⟩;go_upto_block 13 with fail;refine gU (S5.eK (D.p 1) hx5 fO) λx6 S6=>?_;obtain⟨v5,P5,M5,_⟩:=S6.ex;have bb:=aJ x6 (.cells #[.string ⟨#[84,79]⟩,.string ⟨#[66,89]⟩] 9);have nx:=aP x6 (.cells #[.string ⟨#[84,79]⟩,.string ⟨#[66,89]⟩] 9);have hbq:x6.heap.size≠qb:=by have:=P5.lt;omega
 have hbo:v5.ownBlock≠some x6.heap.size:=λe=>by have:=(P5.own.lt _ e).2;omega
 have P6:=P5.below bb;have M6:=M5.below bb;have t6:=KT.out _ _ _ (S6.below bb);have hx6:x6.heap.size<(x6.alloc (.cells #[.string ⟨#[84,79]⟩,.string ⟨#[66,89]⟩] 9)).heap.size:=by simp
 have ho6:v5.ownBlock≠some B3:=λe=>by
  rcases M5.own _ e with h|h
  ·exact ho h
  ·have:=HZ.out;omega
 have:=oS KT S6;go_wp2_with fail;generalize World.alloc x6 _=wz at bb nx P6 M6 t6 hx6 ⊢;generalize x6.heap.size=Bx at nx hbq hbo hx6 ⊢;have OX:∀ (w':World) (l':List Tk) (rv:List (Nat×List Value)),SP wB qb wz v5 w' l' rv->TV w' B3 (iq 19) n a s (.slice ao m c):=λ_ _ _ S=>(S.old t6.lt hq ho6).trans t6
 have kr:∀ (w':World) (l':List Tk) (rv:List (Nat×List Value)),SP wB qb wz v5 w' l' rv->w'.heap[Bx]?=some (.cells #[.string ⟨#[84,79]⟩,.string ⟨#[66,89]⟩] 9 (0,0)):=λ_ _ _ S=>(S.old hx6 hbq hbo).trans nx
 have S6a:SP wB qb wz v5 wz (l++([LJ].map W++(aL false (Px.part t.l 0)++([tV].map O++(aL false (Px.part t.l 1)))))) []:=SP.begin (by simpa only[bT]using P6);clear KT;have KT:=aN OX;have KR:=aN kr;have HM6:=aN M6;clear OX kr M6 M5 P5 P6 t6 nx bb S0 S1 S2 S3 S4 S5 S6
 go_loopg [52] 2 (λg tt wr=>(tt=.int .i64 0/\g=2/\SP wB qb wz v5 wr (l++([LJ].map W++(aL false (Px.part t.l 0)++([tV].map O++(aL false (Px.part t.l 1)))))) [])\/(tt=.int .i64 1/\g=1/\SP wB qb wz v5 wr ((l++([LJ].map W++(aL false (Px.part t.l 0)++([tV].map O++(aL false (Px.part t.l 1))))))++lK Fj (Px.part t.l 2) (aL false (Px.part t.l 2))) [])\/(tt=.int .i64 2/\g=0/\SP wB qb wz v5 wr ((l++([LJ].map W++(aL false (Px.part t.l 0)++([tV].map O++(aL false (Px.part t.l 1))))))++(lK Fj (Px.part t.l 2) (aL false (Px.part t.l 2))++lK Xd (Px.part t.l 3) (aL false (Px.part t.l 3)))) []))
 case atStart=>exact .inl ⟨rfl,rfl,S6a⟩
 case round=>
  clear S6a
  rcases hrel with ⟨rfl,hg,S20⟩|⟨rfl,hg,S20⟩|⟨rfl,hg,S20⟩
  ·have HG:=aN hg;clear hg
   by_cases hk2:(Px.part t.l 2).kind=10
   ·have HP:=aN (show lK Fj (Px.part t.l 2) (aL false (Px.part t.l 2))=[]by unfold lK;rw[aF hk2]);have kr1:=KR.out _ _ _ S20;have c0:wr.cell? (AAF Bx 0)=some (.string ⟨#[84,79]⟩):=aK _ _ 0 _ _ _ kr1;clear kr1;have:=oS KT S20;go_upto_block 17 with fail;refine(S20.kR ht 2).mono ?_;rintro e x21 ⟨⟨k21,n21,a21,s21,o21,m21,c21,rfl,hx21⟩,S21⟩;have:=oS KT S21;go_upto_region 18 with fail;have S22:=S21.oF (vT k21 n21 a21 s21 o21 m21 c21) (tg k21 n21 a21 s21 o21 m21 c21) rfl _ rfl;generalize World.alloc x21 _=x22 at S22 ⊢;have hz0:k21=10:=hx21.split.1.trans hk2;subst hz0;clear hk2;have:=AAD (S22.facts 0 rfl);have SZ:=S22.less (rv':=[]) (λ_ h=>by cases h);clear S20 S21 S22;exact QJ
   ·have HP:=aN (show lK Fj (Px.part t.l 2) (aL false (Px.part t.l 2))=[Fj].map W++aL false (Px.part t.l 2)by unfold lK;rw[aC hk2];rfl);have hpl:(lK Fj (Px.part t.l 2) (aL false (Px.part t.l 2))).length=1+(aL false (Px.part t.l 2)).length:=by rw[HP.out];simp only[aO,bN,aV,dD]
    have kr1:=KR.out _ _ _ S20;have c0:wr.cell? (AAF Bx 0)=some (.string ⟨#[84,79]⟩):=aK _ _ 0 _ _ _ kr1;clear kr1;have:=oS KT S20;go_upto_block 17 with fail;refine(S20.kR ht 2).mono ?_;rintro e x21 ⟨⟨k21,n21,a21,s21,o21,m21,c21,rfl,hx21⟩,S21⟩;have:=oS KT S21;go_upto_region 18 with fail;have S22:=S21.oF (vT k21 n21 a21 s21 o21 m21 c21) (tg k21 n21 a21 s21 o21 m21 c21) rfl _ rfl;generalize World.alloc x21 _=x22 at S22 ⊢;have hz0:¬ k21=10:=λe=>hk2 (hx21.split.1.symm.trans e)
    clear hk2;have:=AAD (S22.facts 0 rfl);have:=oS KT S22;go_upto_block 19 with fail;refine gU (S22.kS [Fj] fO #[.string ⟨#[84,79]⟩] rfl 1 rfl) λx23 S23=>?_;have:=AAD (S23.facts 0 rfl);go_upto_block 20 with fail;refine gU (S23.eK (D.p 2) hx21 fO) λx24 S24=>?_;have SZ:=S24.less (rv':=[]) (λ_ h=>by cases h);clear S20 S21 S22 S23 S24;exact QJ
  ·have HG:=aN hg;clear hg
   by_cases hk2:(Px.part t.l 3).kind=10
   ·have HP:=aN (show lK Xd (Px.part t.l 3) (aL false (Px.part t.l 3))=[]by unfold lK;rw[aF hk2]);have kr1:=KR.out _ _ _ S20;have c0:wr.cell? (AAF Bx 1)=some (.string ⟨#[66,89]⟩):=aK _ _ 1 _ _ _ kr1;clear kr1;have:=oS KT S20;go_upto_block 17 with fail;refine(S20.kR ht 3).mono ?_;rintro e x21 ⟨⟨k21,n21,a21,s21,o21,m21,c21,rfl,hx21⟩,S21⟩;have:=oS KT S21;go_upto_region 18 with fail;have S22:=S21.oF (vT k21 n21 a21 s21 o21 m21 c21) (tg k21 n21 a21 s21 o21 m21 c21) rfl _ rfl;generalize World.alloc x21 _=x22 at S22 ⊢;have hz0:k21=10:=hx21.split.1.trans hk2;subst hz0;clear hk2;have:=AAD (S22.facts 0 rfl);have SZ:=S22.less (rv':=[]) (λ_ h=>by cases h);clear S20 S21 S22;exact Qt
   ·have HP:=aN (show lK Xd (Px.part t.l 3) (aL false (Px.part t.l 3))=[Xd].map W++aL false (Px.part t.l 3)by unfold lK;rw[aC hk2];rfl);have hpl:(lK Xd (Px.part t.l 3) (aL false (Px.part t.l 3))).length=1+(aL false (Px.part t.l 3)).length:=by rw[HP.out];simp only[aO,bN,aV,dD]
    have kr1:=KR.out _ _ _ S20;have c0:wr.cell? (AAF Bx 1)=some (.string ⟨#[66,89]⟩):=aK _ _ 1 _ _ _ kr1;clear kr1;have:=oS KT S20;go_upto_block 17 with fail;refine(S20.kR ht 3).mono ?_;rintro e x21 ⟨⟨k21,n21,a21,s21,o21,m21,c21,rfl,hx21⟩,S21⟩;have:=oS KT S21;go_upto_region 18 with fail;have S22:=S21.oF (vT k21 n21 a21 s21 o21 m21 c21) (tg k21 n21 a21 s21 o21 m21 c21) rfl _ rfl;generalize World.alloc x21 _=x22 at S22 ⊢;have hz0:¬ k21=10:=λe=>hk2 (hx21.split.1.symm.trans e)
    clear hk2;have:=AAD (S22.facts 0 rfl);have:=oS KT S22;go_upto_block 19 with fail;refine gU (S22.kS [Xd] fO #[.string ⟨#[66,89]⟩] rfl 1 rfl) λx23 S23=>?_;have:=AAD (S23.facts 0 rfl);go_upto_block 20 with fail;refine gU (S23.eK (D.p 3) hx21 fO) λx24 S24=>?_;have SZ:=S24.less (rv':=[]) (λ_ h=>by cases h);clear S20 S21 S22 S23 S24;exact Qt
  ·clear hg;have:=oS KT S20;go_upto_block 22 with fail;refine(S20.kR ht 4).mono ?_;rintro e x21 ⟨⟨k21,n21,a21,s21,o21,m21,c21,rfl,hx21⟩,S21⟩;go_upto_block 22 with fail;refine gU (S21.tW gF hx21 (λ_=>D.p 4) fO) λx22 S22=>?_;have:=oS KT S22;go_upto_block 23 with fail;refine(S22.kR ht 5).mono ?_;rintro e x23 ⟨⟨k23,n23,a23,s23,o23,m23,c23,rfl,hx23⟩,S23⟩;go_upto_block 23 with fail;refine gU (S23.tW gA hx23 (λ_=>D.p 5) fO) λx24 S24=>?_;have:=oS KT S24;go_upto_block 24 with fail;refine(S24.apD ht 6).mono ?_;rintro e x25 ⟨⟨y25,rfl,hx25⟩,S25⟩;go_upto_block 24 with fail;refine gU (S25.aCu hx25 (by have:=D.n;rw[zV];omega) (λy hy=>D.l y (zU hy)) fO) λx26 S26=>?_;have P:lJ wB qb w v l ([LJ].map W++(aL false (Px.part t.l 0)++([tV].map O++(aL false (Px.part t.l 1)++(lK Fj (Px.part t.l 2) (aL false (Px.part t.l 2))++(lK Xd (Px.part t.l 3) (aL false (Px.part t.l 3))++(opt gF (Px.part t.l 4) (aL false (Px.part t.l 4))++(opt gA (Px.part t.l 5) (aL false (Px.part t.l 5))++(Px.group ((t.l.drop 6).map (aL false))))))))))) (.returned (.tuple #[])) _:=lJ.pre (by obtain⟨vz,g1,g2,_⟩:=S26.ex;exact⟨rfl,vz,by simpa only[bT]using g1,HM6.out.trans g2⟩) b1;clear hl h h1 b1 S20 S21 S22 S23 S24 S25 S26
   go_wp2
   go_end0;exact P
end
