/- Part 14. -/
import Derived.Test.YtikalomcclefiaaGreatDoorV13
set_option linter.all false
set_option maxHeartbeats 0
set_option maxRecDepth 100000
namespace Go.Proofs.YtikalomcclefiaaGreatDoor
section
namespace Px
open Lx
def bw(K:Nat)(w:AAE):Nat:=if w.size<=K then 0 else 1000000
mutual
def XI(K:Nat):T->Nat
 | .mk _ _ _ w l=>1+bw K w+yQ K l
def yQ(K:Nat):List T->Nat
 | []=>0
 | t::r=>XI K t+yQ K r
end
class Mu (α:Type) where
 mu:Nat->α->Nat
instance:Mu T:=⟨XI⟩
instance:Mu (List T):=⟨yQ⟩
instance:Mu (T×T):=⟨λK p=>XI K p.1+XI K p.2⟩
instance:Mu Unit:=⟨λ_ _=>0⟩
instance:Mu ByteArray:=⟨bw⟩
instance:Mu Nat:=⟨λ_ _=>0⟩
instance:Mu Int:=⟨λ_ _=>0⟩
variable {K:Nat}
def aEr(x:T):Mu.mu K x=XI K x:=rfl
def aLC(x:List T):Mu.mu K x=yQ K x:=rfl
def aLk(x:T×T):Mu.mu K x=XI K x.1+XI K x.2:=rfl
def aFs(x:Unit):Mu.mu K x=0:=rfl
def aJS(x:AAE):Mu.mu K x=bw K x:=rfl
def aJF(x:Nat):Mu.mu K x=0:=rfl
def aLL(x:Int):Mu.mu K x=0:=rfl
def My(k n a:Int)(w:AAE)(l:List T):XI K (.mk k n a w l)=1+bw K w+yQ K l:=by rw[XI]
def aAO: bw K e0=0:=aF (aS _)
def Lh(k:Int)(a:Nat)(l:List T):XI K (node k a l)=1+yQ K l:=by unfold node;rw[My,aAO]
def alO: XI K none_=1:=Lh 10 0 []
def adO(l:List T):XI K (gQ l)=1+yQ K l:=by unfold gQ;rw[My,aAO]
def Cl: yQ K []=0:=by rw[yQ]
def aeG(x:T)(l:List T):yQ K (x::l)=XI K x+yQ K l:=by rw[yQ]
def arN: ∀ (l m:List T),yQ K (l++m)=yQ K l+yQ K m:=by
 intro l m
 induction l with
 | nil=>rw[dI,yQ];omega
 | cons x r ih=>rw[kE,yQ,yQ,ih];omega
def Nw{α:Type}[Mu α](K M k:Nat)(r:R α):Prop:=∀ x j,r=.ok (x,j)->k+Mu.mu K x<=16*j+1/\j<=M
section
variable {α β:Type} [Mu α] [Mu β] {M k m:Nat}
def Nw.err(a:Nat):Nw K M k (.error a:R α):=λ_ _ h=>by cases h
theorem Nw.ok{j:Nat}{x:α}(h:k+Mu.mu K x<=16*j+1)(g:j<=M):Nw K M k (.ok (x,j):R α):=λ_ _ e=>by cases e;exact⟨h,g⟩
def Nw.bind{r:R α}{f:α->Nat->R β}(h:Nw K M k r)(hf:∀ x j,k+Mu.mu K x<=16*j+1->j<=M->Nw K M m (f x j)):Nw K M m (aH r f):=by
 intro y l e
 cases r with
 | error a=>cases e
 | ok xj=>obtain⟨x,j⟩:=xj;exact hf x j (h x j rfl).1 (h x j rfl).2 y l e
def Nw.ite{c:Prop}[Decidable c]{r s:R α}(h:c->Nw K M k r)(g:¬ c->Nw K M k s):Nw K M k (if c then r else s):=by
 exact Ap
def Nw.le{r:R α}(h:Nw K M k r)(hm:m<=k):Nw K M m r:=λx j e=>⟨by have:=(h x j e).1;omega,(h x j e).2⟩
end
variable (L:List Tk)
class WK (K:Nat) (L:List Tk):Prop where
 tok:∀ i,bw K (tok L i).text=0
 NO:20<=K
def Of{i:Nat}{ss:List ByteArray}(h:cD L i ss=true):i<L.length:=by
 rcases cY i L.length with h'|h'
 ·exact h'
 ·unfold cD tok at h;exact AE
def aAp{i:Nat}{ss:List ByteArray}(h:iT L i ss=true):i<L.length:=by
 rcases cY i L.length with h'|h'
 ·exact h'
 ·unfold iT tok at h;exact AE
def aqD{i:Nat}(h:isName L i=true):i<L.length:=by
 rcases cY i L.length with h'|h'
 ·exact h'
 ·unfold isName tok at h;exact AE
def aCB{i:Nat}(h:dP L i=true):i<L.length:=by
 rcases cY i L.length with h'|h'
 ·exact h'
 ·unfold dP tok at h;exact AE
def aCl{i n:Nat}(h:nH (tok L i)=some n):i<L.length:=by
 rcases cY i L.length with h'|h'
 ·exact h'
 ·unfold tok at h;exact AE
def mK(i:Nat)(s:AAE):Nw K L.length (16*i+17) (aW L i s):=Nw.ite (λh=>.ok (by rw[aFs];omega) (Of L h)) (λ_=>.err _)
def CR(i:Nat)(ss:List ByteArray):Nw K L.length (16*i+17) (fV L i ss):=Nw.ite (λh=>.ok (by rw[aFs];omega) (aAp L h)) (λ_=>.err _)
def Vq(lo hi i:Nat):Nw K L.length (16*i+17) (gO L lo hi i):=by
 unfold gO
 split
 ·rename_i n hn
  exact Nw.ite (λ_=>.ok (by rw[aJF];omega) (aCl L hn)) (λ_=>.err _)
 ·exact .err _
def aGq[hWK:WK K L](s:AAE):bw K (nG s)<=bw K s:=by
 have h:=hWK.NO;have f:∀ w:ByteArray,w.size<=20->bw K w<=bw K s:=λw hw=>by unfold bw;rw[aF aB];omega
 unfold nG
 repeat (first|exact aG _|(split;exact f _ aE))
variable [hWK:WK K L]
def akI(i:Nat):bw K (tok L i).text=0:=hWK.tok i
def MF(i:Nat):Nw K L.length (16*i+17) (iN L i):=Nw.ite (λh=>.ok (by rw[aJS,akI];omega) (aqD L h)) (λ_=>.err _)
def sI(i:Nat):Nw K L.length (16*i+9) (cQ L i):=Nw.ite (λh=>.ok (by rw[aEr,My,Cl,akI];omega) (aCB L h)) (λ_=>.err _)
def nwA{p:Prop}(h:p:=by simp only[aEr,aLC,aLk,aFs,aJS,aJF,aLL,aAO,akI,My,Lh,alO,adO,Cl,aeG,arN]at *; omega):p:=h
omit hWK in
def gC{k:Nat}{α:Type}[Mu α]{r:R α}(h:Nw K L.length k r:=by repeat (first|exact Nw.err _|(refine JY L _ _ ?_;exact nwA)|(refine Nw.ok dF aB)|exact((jB L (λi _=>(uF L h i).le aB) _ _ aB).le dF)|exact((jB L (nw1 L ih) _ _ aB).le dF)|exact((jB L (nw1 L (Yq L)) _ _ aB).le dF)|exact((jB L ih _ _ aB).le dF)|exact((jB L (λi _=>Zn L i) _ _ aB).le dF)|exact((Mh L _).le dF)|exact((jB L (nw1 L h) _ _ aB).le dF)|exact((jB L (nw1 L (UN L)) _ _ aB).le dF)|exact((Ez L h _ _).le dF)|exact((h _).le dF)|exact((jB L (aeE L) _ _ aB).le dF)|exact((Wq L _ _).le dF)|exact((Mh L _).le dF)|exact((Uz L _ _).le dF)|exact((KG L _ _ aB).le dF)|exact((Zd L _ _ aB).le dF)|exact((LO L _ _ aB).le dF)|exact((UL L _ _ aB).le dF)|exact((KJ L _).le dF)|exact((mZ L _).le dF)|exact((aaM L _).le dF)|exact((jB L (nw1 L (Fc L)) _ _ aB).le dF)|exact((jB L (nw1 L (mZ L)) _ _ aB).le dF)|exact((jB L (nw1 L (sI L)) _ _ aB).le dF)|exact((ME L (mZ L) _).le dF)|exact((JP L (mZ L) _).le dF)|exact((uF L (mZ L) _).le dF)|exact((Fc L _).le dF)|exact((mK L _ _).le dF)|exact((CR L _ _).le dF)|exact((MF L _).le dF)|exact((Vq L _ _ _).le dF)|exact((sI L _).le dF)|(refine Nw.bind (by first|exact jB L (λi _=>(uF L h i).le aB) _ _ aB|exact jB L (nw1 L ih) _ _ aB|exact jB L (nw1 L (Yq L)) _ _ aB|exact jB L ih _ _ aB|exact jB L (λi _=>Zn L i) _ _ aB|exact Mh L _|exact jB L (nw1 L h) _ _ aB|exact jB L (nw1 L (UN L)) _ _ aB|exact Ez L h _ _|exact h _|exact jB L (aeE L) _ _ aB|exact Wq L _ _|exact Mh L _|exact Uz L _ _|exact KG L _ _ aB|exact Zd L _ _ aB|exact LO L _ _ aB|exact UL L _ _ aB|exact KJ L _|exact mZ L _|exact aaM L _|exact jB L (nw1 L (Fc L)) _ _ aB|exact jB L (nw1 L (mZ L)) _ _ aB|exact jB L (nw1 L (sI L)) _ _ aB|exact ME L (mZ L) _|exact JP L (mZ L) _|exact uF L (mZ L) _|exact Fc L _|exact mK L _ _|exact CR L _ _|exact MF L _|exact Vq L _ _ _|exact sI L _) (λ_ _ _ _=>?_))|(refine Nw.ite (λhc=>?_) (λhc=>?_)<;>(try have:=Of L hc)))):Nw K L.length k r:=h
def Fc(i:Nat):Nw K L.length (16*i+9) (mI L i):=by
 unfold mI;exact gC L
omit hWK in
def arM{read:Nat->R T}(h:∀ i,i<=L.length->Nw K L.length (16*i+1) (read i)):∀ n acc j k,j<=L.length->k+yQ K acc<=16*j+1->Nw K L.length k (iP L read n acc j):=by
 intro n
 induction n with
 | zero=>intro acc j k hj hk;unfold iP;exact .ok hk hj
 | succ n ih=>
  intro acc j k hj hk;unfold iP;exact Nw.ite (λhc=>(h (j+1) (Of L hc)).bind λx j' hj h'=>ih _ j' k h' dE) (λ_=>.ok hk hj)
def jB{read:Nat->R T}(h:∀ i,i<=L.length->Nw K L.length (16*i+1) (read i))(most i:Nat)(hi:i<=L.length):Nw K L.length (16*i+1) (eR L most read i):=
 (h i hi).bind λx j hj h'=>arM L h _ _ j _ h' dE
def aCx{sub:Nat->R T}(h:∀ i,Nw K L.length (16*i+9) (sub i))(ops:List ByteArray)(a:Nat):∀ f x j k,j<=L.length->k+XI K x<=16*j+1->Nw K L.length k (binGo L sub ops a f x j):=by
 intro f
 induction f with
 | zero=>intro x j k _ _;unfold binGo;exact .err _
 | succ f ih=>
  intro x j k hj hk;unfold binGo;exact Nw.ite (λ_=>(h (j+1)).bind λx j' hj h'=>ih _ j' k h' dE) (λ_=>.ok hk hj)
def ZU{prim:Nat->R T}(h:∀ i,Nw K L.length (16*i+9) (prim i)):∀ k i,Nw K L.length (16*i+9) (sY L prim k i):=by
 intro k
 induction k with
 | zero=>intro i;exact h i
 | succ k ih=>intro i;exact(ih i).bind λx j hj h'=>aCx L ih _ _ _ x j _ h' hj
omit hWK in
def uF{expr:Nat->R T}(h:∀ i,Nw K L.length (16*i+9) (expr i))(i:Nat):Nw K L.length (16*i+9) (cV L expr i):=Nw.ite (λhc=>.ok (by rw[aEr,Lh,Cl];omega) (Of L hc)) (λ_=>h i)
section
variable{expr:Nat->R T}(h:∀ i,Nw K L.length (16*i+9) (expr i))
include expr h
theorem ME(i:Nat):Nw K L.length (16*i+12) (qY L expr i):=by
 unfold qY;exact gC L
theorem amX:∀ n acc j k,j<=L.length->k+yQ K acc<=16*j+1->Nw K L.length k (iM L expr n acc j):=by
 intro n
 induction n with
 | zero=>intro acc j k hj hk;unfold iM;exact .ok hk hj
 | succ n ih=>
  intro acc j k hj hk;unfold iM;exact Nw.ite (λ_=>(ME L h (j+1)).bind λx j' hj h'=>ih _ j' k h' dE) (λ_=>.ok hk hj)
end
def JP{expr:Nat->R T}(h:∀ i,Nw K L.length (16*i+9) (expr i))(i:Nat):Nw K L.length (16*i+9) (mG L expr i):=
 (ME L h i).bind λx j hj h'=>(amX L h 7 _ j (16*i+12) h' dE).bind λl j' h2 h3=>.ok dE h3
def aBr{expr:Nat->R T}(h:∀ i,Nw K L.length (16*i+9) (expr i))(a:Nat):∀ n x j k,j<=L.length->k+XI K x<=16*j+1->Nw K L.length k (pZ L expr a n x j):=by
 intro n
 induction n with
 | zero=>intro x j k _ _;exact Dg
 | succ n ih=>
  intro x j k hj hk;unfold pZ;exact Nw.ite (λ_=>(JP L h (j+1)).bind λx j' hj h'=>ih _ j' k h' dE) (λ_=>.ok hk hj)
def KI{expr:Nat->R T}(h:∀ i,Nw K L.length (16*i+9) (expr i))(i:Nat):Nw K L.length (16*i+9) (eO L expr i):=
 (JP L h i).bind λx j hj h'=>aBr L h i _ x j _ h' hj
def awJ: ∀ f i,Nw K L.length (16*i+9) (fN L f i):=by
 intro f
 induction f with
 | zero=>exact DR
 | succ f ih=>
  intro i;unfold fN;exact Nw.ite (λ_=>(ih (i+1)).bind λx j hj h'=>.ok dE h') λ_=>
   Nw.ite (λ_=>(ZU L ih 6 (i+1)).bind λx j hj h'=>(mK L j dA).bind λ_ j' h2 h3=>.ok dE h3) λ_=>
   Nw.ite (λ_=>sI L i) (λ_=>KI L (ZU L ih 6) i)
def ayS(f i:Nat):Nw K L.length (16*i+9) (mY L f i):=ZU L (awJ L f) 6 i
def mZ(i:Nat):Nw K L.length (16*i+9) (dB L i):=ayS L _ i
def aaM(i:Nat):Nw K L.length (16*i+9) (yZ L i):=KI L (mZ L) i
omit hWK in
def nw1{read:Nat->R T}(h:∀ i,Nw K L.length (16*i+9) (read i))(i:Nat)(_:i<=L.length):Nw K L.length (16*i+1) (read i):=(h i).le aB
def KJ(i:Nat):Nw K L.length (16*i+9) (fB L i):=by
 unfold fB;exact gC L
section
variable(w:AAE)(i:Nat)(hi:i<=L.length)
include w i hi
theorem UL:Nw K L.length (16*i) (gL L w i):=by
 unfold gL;exact gC L
theorem LO:Nw K L.length (16*i) (jK L w i):=by
 unfold jK;exact gC L
theorem Zd:Nw K L.length (16*i) (nP L w i):=by
 unfold nP;exact gC L
theorem KG:Nw K L.length (16*i) (fH L w i):=by
 unfold fH;exact gC L
end
omit hWK in
def Uz(label:AAE)(i:Nat):Nw K L.length (16*i+17) (BP L label i):=by
 unfold BP;refine(CR L i [sO]).bind λ_ j hj _=>?_;refine(mK L _ aT).le ?_;rw[aFs]at hj
 split<;>omega
def ajQ{stmt:Nat->R T}(h:∀ i,Nw K L.length (16*i+9) (stmt i))(label:AAE):∀ f acc i k,k+yQ K acc<=16*i+1->Nw K L.length k (jE L stmt label f acc i):=by
 intro f
 induction f with
 | zero=>intro acc i k _;exact Dw
 | succ f ih=>
  intro acc i k hk;unfold jE;exact Nw.ite (λ_=>(Uz L label i).bind λ_ j hj h'=>.ok dE h') λ_=>(h i).bind λx j hj h'=>ih _ j k dE
def Ez{stmt:Nat->R T}(h:∀ i,Nw K L.length (16*i+9) (stmt i))(label:AAE)(i:Nat):Nw K L.length (16*i+1) (iO L stmt label i):=ajQ L h label _ _ i _ (by rw[Cl];omega)
omit hWK in
def JY{k:Nat}(t:T)(i:Nat)(h:k+XI K t<=16*i+17):Nw K L.length k (bK L t i):=by
 unfold bK;exact(mK L i aT).bind λ_ j hj h'=>.ok dE h'
def Mh(i:Nat):Nw K L.length (16*i+17) (rT L i):=by
 unfold rT;exact gC L
def Wq(arg:Bool)(i:Nat):Nw K L.length (16*i+9) (qL L arg i):=by
 unfold qL;exact gC L
def amF: ∀ f i,Nw K L.length (16*i+9) (hJ L f i):=by
 intro f
 induction f with
 | zero=>exact HY
 | succ f ih=>
  intro i;unfold hJ;exact gC L
def UN(i:Nat):Nw K L.length (16*i+9) (uZ L i):=amF L _ i
def Yq(i:Nat):Nw K L.length (16*i+9) (eC L i):=by
 unfold eC;simp only
 split
 ·exact uF L (mZ L) i
 ·refine Nw.ite (λ_=>Nw.ite (λ_=>?_) (λ_=>?_)) (λ_=>uF L (mZ L) i)
  ·exact(sI L (i+4)).bind λx j hj h'=>.ok dE h'
  ·exact(sI L (i+3)).bind λx j hj h'=>.ok dE h'
def KA(i:Nat):Nw K L.length (16*i+9) (dS L i):=by
 unfold dS;refine(MF L i).bind λs j hj h'=>?_;have hb:=aGq (K:=K) L s;simp only
 exact gC L
def ajF: ∀ n acc j k,j<=L.length->k+yQ K acc<=16*j+1->Nw K L.length k (jC L n acc j):=by
 intro n
 induction n with
 | zero=>intro acc j k hj hk;unfold jC;exact .ok hk hj
 | succ n ih=>
  intro acc j k hj hk;unfold jC;exact Nw.ite (λ_=>(KA L j).bind λx j' hj h'=>ih _ j' k h' dE) (λ_=>.ok hk hj)
def YO(most i:Nat)(hi:i<=L.length):Nw K L.length (16*i+1) (pR L most i):=ajF L most [] i _ hi (by rw[Cl];omega)
def Zn(i:Nat):Nw K L.length (16*i+1) (pS L i):=by
 unfold pS;exact gC L
def aDe: ∀ f i,i<=L.length->Nw K L.length (16*i+1) (mU L f i):=by
 intro f
 induction f with
 | zero=>intro i _;unfold mU;exact .err _
 | succ f ih=>
  intro i hi;unfold mU;refine Nw.bind (k:=16*i+1) ?_ λn j hj h'=>?_
  ·exact gC L
  refine Nw.bind (k:=16*j+9) ?_ λwhat j1 h1 h1'=>?_
  ·exact gC L
  refine Nw.bind (k:=16*j1) ?_ λbounds j2 h2 h2'=>?_
  ·exact gC L
  exact(YO L 12 j2 h2').bind λaSq j3 h3 h3'=>.ok dE h3'
def aeE(i:Nat)(hi:i<=L.length):Nw K L.length (16*i+1) (IQ L i):=aDe L _ i hi
def Wh(k:Int)(a:Nat){item:Nat->R T}(h:∀ i,Nw K L.length (16*i+9) (item i))(i:Nat)(hi:i<=L.length)(h0:1<=i):Nw K L.length (16*i) (jT L k a item i):=by
 unfold jT;refine Nw.bind (k:=16*i+1) ?_ λw j hj h'=>?_
 ·exact gC L
 refine Nw.bind (k:=16*j+1) ?_ λn j1 h1 h1'=>?_
 ·exact gC L
 have hj1:1<=j1:=by exact nwA
 refine Nw.bind (k:=16*j1 - 1) ?_ λlm j2 h2 h2'=>?_
 ·exact gC L
 refine JY L _ _ ?_;exact nwA
def OW(k:Int)(a i:Nat):Nw K L.length (16*i) (iQ L k a i):=by
 unfold iQ;exact gC L
def avN{inner:Nat->R T}(h:∀ i,Nw K L.length (16*i+9) (inner i)):∀ f acc i k,i<=L.length->k+yQ K acc<=16*i+1->Nw K L.length k (jW L inner f acc i):=by
 intro f
 induction f with
 | zero=>intro acc i k _ _;unfold jW;exact .err _
 | succ f ih=>
  intro acc i k hi hk;unfold jW;exact Nw.ite (λ_=>(mK L (i+1) cJ).bind λ_ j hj hj'=>(jB L (nw1 L (mZ L)) 8 j hj').bind λl j1 h1 h1'=>(mK L j1 dA).bind λ_ j2 h2 h2'=>(h j2).bind λx j3 h3 h3'=>ih _ j3 k h3' dE) (λ_=>.ok hk hi)
section
variable{stmt:Nat->R T}(h:∀ i,Nw K L.length (16*i+9) (stmt i))(a:Nat)(label:AAE)(i:Nat)(hi:i<=L.length)
include stmt h a label i hi
theorem Xr:Nw K L.length (16*i) (iE L stmt a label i):=by
 unfold iE;refine Nw.bind (k:=16*i) ?_ λparams j hj hj'=>?_
 ·exact gC L
 refine Nw.bind (k:=16*j+1) ?_ λn j1 h1 h1'=>?_
 ·refine Nw.ite (λhc=>?_) (λhc=>Nw.ite (λhd=>.ok dE (aAp L hd)) (λ_=>.ok dE hj'));exact gC L
 refine Nw.bind (k:=16*j1) ?_ λret j2 h2 h2'=>?_
 ·refine Nw.ite (λhc=>?_) (λhc=>.ok dE h1');exact(mK L (j1+1) cJ).bind λ_ k1 g1 g1'=>(KA L k1).bind λx k2 g2 g2'=>(YO L 3 k2 g2').bind λxs k3 g3 g3'=>(mK L k3 dA).bind λ_ k4 g4 g4'=>.ok dE g4'
 exact(mK L j2 aT).bind λ_ j3 h3 h3'=>(Ez L h label j3).bind λg j4 h4 h4'=>.ok dE h4'
theorem aIw:Nw K L.length (16*i) (doP L stmt a label i):=by
 unfold doP;exact gC L
end
section
variable{inner:Nat->R T}(h:∀ i,Nw K L.length (16*i+9) (inner i))
include inner h
theorem amU(a:Nat)(label:AAE)(i:Nat)(hi:i<=L.length):Nw K L.length (16*i) (lL L inner a label i):=by
 unfold lL;refine Nw.bind (k:=16*i) ?_ λx j hj hj'=>(mK L j aT).bind λ_ j1 h1 h1'=>(avN L h _ [x] j1 (16*i+15) h1' dE).bind λl j2 h2 h2'=>?_
 ·exact gC L
 refine Nw.bind (k:=16*i+13) ?_ λl2 j3 h3 h3'=>(Uz L label j3).bind λ_ j4 h4 h4'=>.ok dE h4'
 exact Nw.ite (λ_=>(h (j2+1)).bind λy j3 h3 h3'=>.ok dE h3') λ_=>.ok dE h2'
theorem aiU(a i:Nat):Nw K L.length (16*i) (qM L inner a i):=by
 unfold qM;exact gC L
end
def aDD(a i:Nat):Nw K L.length (16*i) (GL L a i):=by
 unfold GL;exact gC L
def aCf(a i:Nat):Nw K L.length (16*i) (Dm L a i):=by
 unfold Dm;exact gC L
def ahB(a i:Nat):Nw K L.length (16*i) (yS L a i):=by
 unfold yS;exact gC L
def aHu{inner:Nat->R T}(h:∀ i,Nw K L.length (16*i+9) (inner i))(a i:Nat):Nw K L.length (16*i) (onP L inner a i):=by
 unfold onP;simp only
 exact gC L
def ZN(a i:Nat):Nw K L.length (16*i) (pU L a i):=by
 unfold pU;exact gC L
def aCY(a i:Nat):Nw K L.length (16*i) (GD L a i):=by
 unfold GD;exact gC L
def aDx(a i:Nat):Nw K L.length (16*i) (GF L a i):=by
 unfold GF;exact gC L
def aeS(a i:Nat):Nw K L.length (16*i) (sK L a i):=by
 unfold sK;exact gC L
def asU(a i:Nat):Nw K L.length (16*i) (Ab L a i):=by
 unfold Ab;exact gC L
def alK(a i:Nat):Nw K L.length (16*i) (uB L a i):=by
 unfold uB;exact gC L
def aeA(a i:Nat)(hi:i<=L.length):Nw K L.length (16*i) (sM L a i):=by
 unfold sM;exact gC L
def oG{α:Type}{c:Prop}[Decidable c]{x r:α}{o:Option α}(h:(if c then some x else o)=some r):x=r\/o=some r:=by
 exact Sb
section
variable{stmt inner:Nat->R T}(h:∀ i,Nw K L.length (16*i+9) (stmt i))(g:∀ i,Nw K L.length (16*i+9) (inner i))
include stmt inner h g
theorem adQ(w:AAE)(a:Nat)(label:AAE)(i:Nat)(hi:i<=L.length)(h0:1<=i)(r:R T)(hr:bL L stmt inner w a label i=some r):Nw K L.length (16*i) r:=by
 unfold bL at hr;have end1:∀ k:Int,Nw K L.length (16*i) (bK L (node k a []) i):=λk=>JY L _ _ dE
 rcases oG hr with rfl|hr
 ·exact Xr L h a label i hi
 rcases oG hr with rfl|hr
 ·exact(mK L i aT).bind λ_ j hj hj'=>(Ez L h label j).bind λg j1 h1 h1'=>.ok dE h1'
 rcases oG hr with rfl|hr
 ·exact aIw L h a label i hi
 rcases oG hr with rfl|hr
 ·exact amU L g a label i hi
 rcases oG hr with rfl|hr
 ·exact aiU L g a i
 rcases oG hr with rfl|hr
 ·exact aDD L a i
 rcases oG hr with rfl|hr
 ·exact aCf L a i
 rcases oG hr with rfl|hr
 ·exact(CR L i [Fj]).bind λ_ j hj hj'=>(ahB L a j).le dE
 rcases oG hr with rfl|hr
 ·exact ahB L a i
 rcases oG hr with rfl|hr
 ·exact OW L 28 a i
 rcases oG hr with rfl|hr
 ·exact OW L 29 a i
 rcases oG hr with rfl|hr
 ·exact end1 _
 rcases oG hr with rfl|hr
 ·exact aHu L g a i
 rcases oG hr with rfl|hr
 ·exact OS
 rcases oG hr with rfl|hr
 ·exact OS
 rcases oG hr with rfl|hr
 ·exact ZN L a i
 rcases oG hr with rfl|hr
 ·exact aCY L a i
 rcases oG hr with rfl|hr
 ·exact Wh L 38 a (aaM L) i hi h0
 rcases oG hr with rfl|hr
 ·exact Wh L 39 a (mZ L) i hi h0
 rcases oG hr with rfl|hr
 ·exact aDx L a i
 rcases oG hr with rfl|hr
 ·exact asU L a i
 rcases oG hr with rfl|hr
 ·exact aeS L a i
 rcases oG hr with rfl|hr
 ·exact alK L a i
 rcases oG hr with rfl|hr
 ·exact aeA L a i hi
 cases hr
theorem arG(inr:Bool)(label:AAE)(i:Nat):Nw K L.length (16*i+9) (mS L stmt inner inr label i):=by
 unfold mS;refine Nw.ite (λhc=>.ok dE (Of L hc)) λ_=>Nw.ite (λ_=>?_) λ_=>?_
 ·exact gC L
 ·simp only
  refine Nw.ite (λ_=>.err _) λhn=>?_;have hl:i<L.length:=by
   refine aqD L ?_
   cases e:isName L i with
   | true=>rfl
   | false=>exact absurd (.inl e) hn
  split
  ·exact .err _
  ·rename_i r hr
   exact(adQ L h g _ i label (i+1) hl aB r hr).le aB
end
def BN{lab:Bool->ByteArray->Nat->R T}(h:∀ b s i,Nw K L.length (16*i+9) (lab b s i))(inr:Bool)(i:Nat):Nw K L.length (16*i+9) (cH L lab inr i):=by
 unfold cH;refine Nw.ite (λhc=>?_) λ_=>h _ _ _
 have:=Of L hc;exact(jB L (nw1 L (Fc L)) 4 (i+1) this).bind λl j hj hj'=>(mK L j dA).bind λ_ j1 h1 h1'=>(mK L j1 cU).bind λ_ j2 h2 h2'=>(h inr e0 j2).bind λx j3 h3 h3'=>.ok dE h3'
def apO: ∀ f b s i,Nw K L.length (16*i+9) (jG L f b s i):=by
 intro f
 induction f with
 | zero=>intro b s i;unfold jG;exact .err _
 | succ f ih=>
  intro b s i;unfold jG;exact Nw.ite (λ_=>arG L (BN L ih false) (BN L ih true) b s i) λ_=>(ih b _ (i+2)).bind λx j hj hj'=>.ok dE hj'
def UT(i:Nat):Nw K L.length (16*i+9) (rW L i):=BN L (apO L _) false i
def AV(i:Nat):Nw K L.length (16*i) (fC L i):=by
 unfold fC;exact(MF L i).bind λs j h0 _=>(mK L j cU).bind λ_ j1 h1 _=>(CR L j1 _).bind λ_ j2 h2 _=>(CR L j2 _).bind λ_ j3 h3 _=>(mK L j3 cJ).bind λ_ j4 h4 _=>
  (CR L j4 _).bind λ_ j5 h5 _=>(mK L j5 dA).bind λ_ j6 h6 _=>(mK L j6 aT).bind λ_ j7 h7 _=>(Ez L (UT L) s j7).bind λg j8 h8 h8'=>.ok dE h8'
omit hWK in
def arB{read:Nat->R T}{k:Nat}(h:Nw K L.length k (read 0)){t:T}(e:uN L read=.ok t):XI K t<=16*L.length+1:=by
 obtain⟨j,hr,_⟩:=Ec e;have:=h t j hr;rw[aEr]at this;omega
omit hWK
mutual
theorem aHb: ∀ (t:T),nodes t<=XI K t
 | .mk k n a w l=>by unfold nodes XI;have:=aDn l;omega
theorem aDn: ∀ (l:List T),bV l<=yQ K l
 | []=>by unfold bV yQ;omega
 | t::r=>by unfold bV yQ;have:=aHb t;have:=aDn r;omega
end
theorem aBs(h:∀ x,x∈L->x.text.size<=K)(hK:20<=K):WK K L:=⟨λi=>by
 unfold bw tok;rw[aF]
 rcases cY i L.length with h'|h'
 ·rw[dH,dQ h'];exact h _ (eJ h')
 ·rw[dH,tB h'];exact aS _,hK⟩
def acA: ∃ K,WK K L:=by
 have:∃ K,∀ x,x∈L->x.text.size<=K:=by
  induction L with
  | nil=>exact⟨0,λx h=>oU⟩
  | cons y r ih=>
   obtain⟨K,h⟩:=ih;exact⟨K+y.text.size,λx hx=>by rcases bO.1 hx with rfl|hx;omega;have:=h x hx;omega⟩
 obtain⟨K,h⟩:=this;exact⟨K+20,aBs L (λx hx=>by have:=h x hx;omega) aB⟩
def aiV{read:Nat->R T}{k:Nat}(h:∀ K,WK K L->Nw K L.length k (read 0)){t:T}(e:uN L read=.ok t):nodes t<=16*L.length+1:=by
 obtain⟨K,hK⟩:=acA L;have:=arB L (h K hK) e;have:=aHb (K:=K) t;omega
def Nw.up{α:Type}[Mu α]{K M k i:Nat}{r:R α}(h:Nw K M k r)(hk:16*i+2<=k):Up (i+1) r:=λx j e=>by have:=(h x j e).1;omega
def aaS(f:Nat)(b:Bool)(i:Nat):Up (i+1) (cH L (jG L f) b i):=by
 obtain⟨K,hK⟩:=acA L;exact(BN (K:=K) L (apO L f) b i).up aB
def adY(i:Nat):Up (i+1) (rW L i):=aaS L _ false i
end Px
end
section
namespace Px
open Lx
def ET: Nat->List Int->Nat->Prop
 | lo,[],hi=>lo<=hi
 | lo,x::r,hi=>∃ a:Nat,x=a/\lo<=a/\ET (a+1) r hi
def ET.le{lo hi:Nat}{l:List Int}(h:ET lo l hi):lo<=hi:=by
 induction l generalizing lo with
 | nil=>exact h
 | cons x r ih=>obtain⟨a,_,h1,h2⟩:=h;have:=ih h2;omega
theorem ET.lo{lo lo' hi:Nat}{l:List Int}(h:ET lo l hi)(g:lo'<=lo):ET lo' l hi:=by
 cases l with
 | nil=>exact aZ g h
 | cons x r=>obtain⟨a,h0,h1,h2⟩:=h;exact⟨a,h0,aZ g h1,h2⟩
def ET.app{lo m hi:Nat}{l r:List Int}(h:ET lo l m)(g:ET m r hi):ET lo (l++r) hi:=by
 induction l generalizing lo with
 | nil=>exact g.lo h
 | cons x l ih=>obtain⟨a,h0,h1,h2⟩:=h;exact⟨a,h0,h1,ih h2⟩
def ET.one{lo hi a:Nat}(h:lo<=a)(g:a<hi):ET lo [(a:Int)] hi:=⟨a,rfl,h,g⟩
end Px
end
section
namespace Px
open Lx
mutual
theorem aaD{P:Int->ByteArray->Nat->Prop}:∀ t,ev P (Js t)↔ev P t
 | .mk k n a w l=>by unfold Js ev;rw[agI l,anD,bN]
theorem agI{P:Int->ByteArray->Nat->Prop}:∀ l,Xz P (tH l)↔Xz P l
 | []=>by unfold tH;exact Iff.rfl
 | t::r=>by unfold tH Xz;rw[aaD t,agI r]
end
def aqS{P:Int->ByteArray->Nat->Prop}{a b:T}(h:dM a b=true)(g:ev P b):ev P a:=by rw[<- aaD,(uW a b).1 h,aaD];exact g
def BX{t:T}:oJ t=true↔nodes t<=4000/\depth t<=60:=by unfold oJ;simp
end Px
end
section
namespace Px
open Lx
def rZ{t:T}(h:qF t=true):t.kind=14/\∃ a1 w1 x y r,t.l=[.mk 15 1 a1 w1 (x::y::r)]/\x.l=[]/\y.kind=10:=by
 unfold qF at h
 split at h
 ·rename_i a1 w1 x y r h1 h2
  rw[bA,dX,dX]at h;exact⟨by simpa using h1,_,_,_,_,_,h2,h⟩
 ·cases h
def adG{t:T}{a1:Int}{w1:AAE}{x y:T}{r:List T}(h1:t.kind=14)(h2:t.l=[.mk 15 1 a1 w1 (x::y::r)])(h3:x.l=[])(h4:y.kind=10):qF t=true:=by
 obtain⟨k,n,a,w,l⟩:=t;obtain rfl:k=14:=h1;obtain rfl:l=_:=h2
 show (decide (x.l=[])&&decide (y.kind=10))=true
 rw[eQ h3,eQ h4];rfl
def amR{t t':T}(h:dM t' t=true)(hp:qF t=true):qF t'=true:=by
 obtain⟨h1,a1,w1,x,y,r,h2,h3,h4⟩:=rZ hp;obtain⟨g1,_,_,g2⟩:=xK h;rw[h2]at g2
 match hl:t'.l,g2 with
 | [q],g2=>
  unfold dK at g2;rw[bA]at g2;obtain⟨k,n,a,w,l⟩:=q;obtain⟨e1,e2,_,e4⟩:=xK g2.1;simp only[T.kind,T.n,T.l]at e1 e2 e4
  subst e1 e2
  match l,e4 with
  | [],e4=>unfold dK at e4;cases e4
  | [_],e4=>
   unfold dK at e4;rw[bA]at e4;have:=e4.2;unfold dK at this;cases this
  | x'::y'::r',e4=>
   unfold dK at e4;rw[bA]at e4;have e5:=e4.2;unfold dK at e5;rw[bA]at e5;refine adG (g1.trans h1) hl ?_ ((xK e5.1).1.trans h4);exact(WL (xK e4.1).2.2.2).mpr h3
 | [],g2=>unfold dK at g2;cases g2
 | _::_::_,g2=>
  unfold dK at g2;rw[bA]at g2;have:=g2.2;unfold dK at this;cases this
def aBI{t:T}(hv:V (.st false) t)(hp:qF t=true):Ny t:=by
 obtain⟨h1,a1,w1,x,y,r,h2,h3,h4⟩:=rZ hp;have h14:∃ a w,t=.mk 14 0 a w t.l:=by
  generalize hs:So.st false=s at hv
  cases hv with
  | stmt inr z hz=>
   cases hs
   cases hz with
   | label _ _ a w z h hx=>exact⟨a,w,rfl⟩
   | plain _ _ _ hp=>
    have:=aqL (V.stmt _ _ (V.plain _ _ _ hp))
    cases hp<;>simp_all [T.kind]
    all_goals omega
  | prefixed=>cases hs;simp[T.kind]at h1
  | _=>cases hs
 obtain⟨a,w,ht⟩:=h14;rw[ht,h2]at hv ⊢;obtain⟨z,hz,hw,hl⟩:=aDC hv
 cases hz
 generalize hq:T.mk 15 1 a1 w1 (x::y::r)=q at hl
 cases hl with
 | label=>cases hq
 | plain _ _ _ hp=>
  cases hp with
  | proc n a' a2 ps ret g hn hp8 hp hret hr4 hrv hg=>
   cases hq
   obtain rfl:ps=[]:=h3
   rcases hret with ⟨a3,rfl⟩|⟨a3,aSq,rfl,_⟩
   ·exact⟨_,_,_,_,_,_,rfl⟩
   ·simp[T.kind]at h4
  | leave _ _ k a' w' hk h=>cases hq
  | revert _ _ k a' c hk hc=>cases hq
  | stream0 _ _ k n a' w' x y hk=>exact IF
  | stream1 _ _ k n a' a2 w' l y hk=>exact IF
  | stream2 _ _ k n a' a2 a3 w' l m hk=>exact IF
  | _=>cases hq
def VO{t:T}(h:De t=true)(hp:qF t=true)(hl:(Eu t).length<=5000):∃ x,jM fC (Eu t)=(x,0,0)/\dM x t=true:=by
 obtain⟨h1,t',h2,h3⟩:=(BK t).1 h;have hp':=amR h2 hp;have hv:V (.st false) t':=h3.resolve_left λg=>by have:=apG g;have:=(rZ hp').1;omega
 obtain⟨x,h4,_,h5⟩:=auD hv (aBI hv hp');have e:aL false t'=Eu t:=Uy h2;have h5:=h5 false;rw[e]at h5;have hx:=Fx h4 h2;exact⟨x,UW hl (e ▸ Nt false hv) h5 (by rw[OQ hx];exact h1),hx⟩
end Px
end
