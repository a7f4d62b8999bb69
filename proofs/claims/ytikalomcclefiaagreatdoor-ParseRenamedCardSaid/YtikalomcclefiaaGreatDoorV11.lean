/- Part 11. -/
import Derived.Test.YtikalomcclefiaaGreatDoorV10
set_option linter.all false
set_option maxHeartbeats 0
set_option maxRecDepth 100000
namespace Go.Proofs.YtikalomcclefiaaGreatDoor
section
namespace Px
open Lx
def Sd{α:Type}(P:α->Nat->Prop)(r:R α):Prop:=∀ x j,r=.ok (x,j)->P x j
def Sd.err{α:Type}{P:α->Nat->Prop}(a:Nat):Sd P (.error a:R α):=λ_ _ h=>by cases h
theorem Sd.ok{α:Type}{P:α->Nat->Prop}{x:α}{j:Nat}(h:P x j):Sd P (.ok (x,j):R α):=λ_ _ e=>by cases e;exact h
def Sd.any{α:Type}(r:R α):Sd (λ_ _=>True) r:=λ_ _ _=>trivial
def Sd.bind{α β:Type}{P:α->Nat->Prop}{Q:β->Nat->Prop}{r:R α}{f:α->Nat->R β}(h:Sd P r)(hf:∀ x j,P x j->Sd Q (f x j)):Sd Q (aH r f):=by
 exact Ta
def Sd.then{α β:Type}{Q:β->Nat->Prop}{r:R α}{f:α->Nat->R β}(hf:∀ x j,Sd Q (f x j)):Sd Q (aH r f):=(Sd.any r).bind λx j _=>hf x j
def Sd.ite{α:Type}{P:α->Nat->Prop}{c:Prop}[Decidable c]{r s:R α}(h:c->Sd P r)(g:¬ c->Sd P s):Sd P (if c then r else s):=by
 exact Ap
def Sd.mono{α:Type}{P Q:α->Nat->Prop}{r:R α}(h:Sd P r)(g:∀ x j,P x j->Q x j):Sd Q r:=λx j e=>g x j (h x j e)
def sT(L:List Tk):Prop:=∀ i,i<L.length->eP (tok L i).kind (tok L i).text=true
def TZ{L:List Tk}{i:Nat}(h:L.length<=i):tok L i=⟨0,e0⟩:=by
 unfold tok;rw[dH,tB h];rfl
def Wv{L:List Tk}{i:Nat}(h:(tok L i).kind≠0):i<L.length:=by
 rcases cY i L.length with h'|h'
 ·exact h'
 ·rw[TZ h']at h;exact absurd rfl h
section
variable {L:List Tk} (hX:sT L)
include hX
def yF(i:Nat):Sd (λs _=>Ci s) (iN L i):=by
 unfold iN;refine Sd.ite (λh=>Sd.ok ?_) (λ_=>.err _);unfold isName at h;have hk:(tok L i).kind=1:=by simpa using h
 have:=hX i (Wv (by rw[hk];decide));rw[hk]at this;exact this
def Ff(i:Nat):Sd (λt _=>isWord t) (mI L i):=(yF hX i).bind λs j h=>.ok ⟨_,_,rfl,h⟩
def aCg(i:Nat)(k:Int)(hk:(tok L i).kind=k)(h:k=2\/k=3\/k=4\/k=5):cOK k (tok L i).text:=by
 refine⟨h,?_⟩;have:=hX i (Wv (by rw[hk];omega));rw[hk]at this;exact this
def Pb(i:Nat):Sd (λt _=>∃ n a w,t=.mk 1 n a w []/\cOK n w/\n=(tok L i).kind) (cQ L i):=by
 unfold cQ;refine Sd.ite (λh=>Sd.ok ⟨_,_,_,rfl,aCg hX i _ rfl ?_,rfl⟩) (λ_=>.err _);unfold dP at h
 simp at h
 rcases h with ((h|h)|h)|h<;>simp[h]
def aqE(i:Nat):Sd (λt _=>IY t) (cQ L i):=(Pb hX i).mono λt _ h=>by obtain⟨n,a,w,e,h,_⟩:=h;exact⟨n,a,w,e,h⟩
def aGZ(i:Nat)(hk:(tok L i).kind=4):Sd (λt _=>VL t) (cQ L i):=(Pb hX i).mono λt _ h=>by
 obtain⟨n,a,w,e,h,h4⟩:=h;rw[hk]at h4;subst h4;exact⟨a,w,e,h⟩
end
def Oy(L:List Tk)(lo hi i:Nat):Sd (λn _=>lo<=n/\n<=hi) (gO L lo hi i):=by
 unfold gO
 split
 ·exact Sd.ite (λh=>.ok h) (λ_=>.err _)
 ·exact .err _
def aBo{L:List Tk}{read:Nat->R T}{P:T->Prop}(h:∀ i,Sd (λt _=>P t) (read i)):∀ n acc j,(∀ x,x∈acc->P x)->Sd (λl _=>(∀ x,x∈l->P x)/\acc.length<=l.length/\l.length<=acc.length+n) (iP L read n acc j):=by
 intro n
 induction n with
 | zero=>intro acc j hacc;unfold iP;exact .ok ⟨hacc,aG _,aG _⟩
 | succ n ih=>
  intro acc j hacc;unfold iP;refine Sd.ite (λ_=>(h (j+1)).bind λx j' hx=>(ih (acc++[x]) j' ?_).mono λl _ hl=>?_) (λ_=>.ok ⟨hacc,aG _,by omega⟩)
  ·exact DA
  exact QU
def sF{L:List Tk}{read:Nat->R T}{P:T->Prop}(h:∀ i,Sd (λt _=>P t) (read i))(most:Nat)(h1:1<=most)(i:Nat):Sd (λl _=>(∀ x,x∈l->P x)/\1<=l.length/\l.length<=most) (eR L most read i):=
 (h i).bind λx j hx=>(aBo h (most - 1) [x] j (λy hy=>by rw[cO.1 hy];exact hx)).mono λl _ hl=>⟨hl.1,hl.2.1,by have:=hl.2.2;simp at this;omega⟩
def aBR{w:AAE}{m:Nat}(hm:m<=5)(h:eH w (hY m)=true):0<=level w:=by
 unfold level;have go:∀ k,5 - m<k->k<=6->0<=wU w k:=by
  intro k
  induction k with
  | zero=>intro h _;omega
  | succ k ih=>
   intro h1 h2;unfold wU
   split
   ·omega
   ·rename_i hn
    refine ih ?_ aB
    rcases cY (5 - m) k with h'|h'
    ·exact h'
    ·exfalso
     have:5 - k=m:=by omega
     rw[this]at hn;exact hn h
 exact go 6 aB aB
section
variable {L:List Tk} (hX:sT L) {expr:Nat->R T} (hE:∀ i,Sd (λt _=>V .expr t) (expr i))
include hX hE
omit hX in
def OM(i:Nat):Sd (λt _=>V .arg t) (cV L expr i):=Sd.ite (λ_=>.ok (V.star _)) (λ_=>(hE i).mono λ_ _ h=>V.arg _ h)
def aaX(i:Nat):Sd (λt _=>V .part t) (qY L expr i):=
 (yF hX i).bind λs j hs=>Sd.ite (λ_=>Sd.ite (λ_=>.ok (V.part1 _ _ _ hs aI Ay))
  (λ_=>(sF (OM hE) 16 aD _).bind λl j' hl=>Sd.then λ_ j2=>.ok (V.part1 _ _ _ hs hl.2.2 hl.1))) (λ_=>.ok (V.part0 _ _ hs))
def axI: ∀ n acc j,(∀ x,x∈acc->V .part x)->Sd (λl _=>(∀ x,x∈l->V .part x)/\acc.length<=l.length/\l.length<=acc.length+n) (iM L expr n acc j):=by
 intro n
 induction n with
 | zero=>intro acc j hacc;unfold iM;exact .ok ⟨hacc,aG _,aG _⟩
 | succ n ih=>
  intro acc j hacc;unfold iM;refine Sd.ite (λ_=>(aaX hX hE (j+1)).bind λx j' hx=>(ih (acc++[x]) j' ?_).mono λl _ hl=>?_) (λ_=>.ok ⟨hacc,aG _,by omega⟩)
  ·exact DA
  exact QU
def Wn(i:Nat):Sd (λt _=>V .expr t/\t.kind=2) (mG L expr i):=
 (aaX hX hE i).bind λx j hx=>(axI hX hE 7 [x] j (λy hy=>by rw[cO.1 hy];exact hx)).bind λl j' hl=>
  .ok ⟨V.ref _ _ hl.2.1 (by have:=hl.2.2;simp at this;omega) hl.1,rfl⟩
def aGB(a:Nat):∀ n x j,V .expr x->isRef x->Sd (λt _=>V .expr t/\isRef t) (pZ L expr a n x j):=by
 intro n
 induction n with
 | zero=>intro x j _ _;exact Dg
 | succ n ih=>
  intro x j hx hr;unfold pZ;exact Sd.ite (λ_=>(Wn hX hE (j+1)).bind λy j' hy=>ih _ j' (V.ptr _ _ _ hx hr hy.1 hy.2) (.inr rfl)) (λ_=>.ok ⟨hx,hr⟩)
def Nj(i:Nat):Sd (λt _=>V .expr t/\isRef t) (eO L expr i):=
 (Wn hX hE i).bind λx j hx=>aGB hX hE i _ x j hx.1 (.inl hx.2)
end
def aFv{L:List Tk}{sub:Nat->R T}(h:∀ i,Sd (λt _=>V .expr t) (sub i)){m:Nat}(hm:m<=5)(a:Nat):∀ f x j,V .expr x->Sd (λt _=>V .expr t) (binGo L sub (hY m) a f x j):=by
 intro f
 induction f with
 | zero=>intro x j _;unfold binGo;exact .err _
 | succ f ih=>
  intro x j hx;unfold binGo;refine Sd.ite (λhs=>(h (j+1)).bind λy j' hy=>ih _ j' (V.bin _ _ _ _ ?_ hx hy)) (λ_=>.ok hx);unfold cD at hs;simp only[bA]at hs
  exact aBR hm hs.2
def anI{L:List Tk}{prim:Nat->R T}(h:∀ i,Sd (λt _=>V .expr t) (prim i)):∀ k i,Sd (λt _=>V .expr t) (sY L prim k i):=by
 intro k
 induction k with
 | zero=>intro i;exact h i
 | succ k ih=>intro i;exact(ih i).bind λx j hx=>aFv ih aB _ _ x j hx
def aeH{t:T}(h:IY t):V .expr t:=by
 obtain⟨n,a,w,rfl,h⟩:=h;exact V.const _ _ _ h
def aDh{L:List Tk}(hX:sT L):∀ f i,Sd (λt _=>V .expr t) (fN L f i):=by
 intro f
 induction f with
 | zero=>exact DR
 | succ f ih=>
  intro i;unfold fN;refine Sd.ite (λhs=>(ih (i+1)).bind λx j hx=>.ok (V.un _ _ _ ?_ hx)) λ_=>
   Sd.ite (λ_=>(anI ih 6 (i+1)).bind λx j hx=>Sd.then λ_ j'=>.ok hx) λ_=>
   Sd.ite (λ_=>(aqE hX i).mono λt _ h=>aeH h) (λ_=>(Nj hX (anI ih 6) i).mono λ_ _ h=>h.1)
  exact Tv
def qH{L:List Tk}(hX:sT L)(i:Nat):Sd (λt _=>V .expr t) (dB L i):=anI (aDh hX _) 6 i
def LB{L:List Tk}(hX:sT L)(i:Nat):Sd (λt _=>V .expr t/\isRef t) (yZ L i):=Nj hX (qH hX) i
def mE: isNone none_:=⟨_,rfl⟩
def NH{t:T}(h:V .expr t):¬ isNone t:=by
 rintro⟨a,rfl⟩
 cases h
section
variable {L:List Tk} (hX:sT L)
include hX
def pW(i:Nat):Sd (λt _=>V .expr t) (fB L i):=Sd.then λ_ j=>(qH hX j).bind λx j' hx=>Sd.then λ_ _=>.ok hx
def EB(w:AAE)(i:Nat):Sd (λt _=>¬ isNone t->V .expr t) (gL L w i):=
 Sd.ite (λ_=>(pW hX _).mono λ_ _ h _=>h) (λ_=>.ok (λh=>absurd mE h))
def He(w:AAE)(i:Nat):Sd (λt _=>¬ isNone t->V .expr t) (jK L w i):=
 Sd.ite (λ_=>(qH hX _).mono λ_ _ h _=>h) (λ_=>.ok (λh=>absurd mE h))
def WV(w:AAE)(i:Nat):Sd (λt _=>¬ isNone t->V .expr t/\isRef t) (nP L w i):=
 Sd.ite (λ_=>Sd.then λ_ _=>(LB hX _).bind λr j' hr=>Sd.then λ_ _=>.ok λ_=>hr) (λ_=>.ok (λh=>absurd mE h))
def Fw(w:AAE)(i:Nat):Sd (λt _=>V .expr t/\isRef t) (fH L w i):=by
 unfold fH;refine Sd.ite (λh=>?_) (λ_=>.err _);unfold nP;rw[aF h];exact Sd.then λ_ _=>(LB hX _).bind λr j' hr=>Sd.then λ_ _=>.ok hr
def MT(i:Nat):Sd (λs _=>Ci s) (rT L i):=Sd.then λ_ _=>Sd.then λ_ _=>(yF hX _).bind λs _ hs=>Sd.then λ_ _=>.ok hs
def Uc(b:Bool)(i:Nat):Sd (λt _=>V .cond t) (qL L b i):=(yF hX i).bind λs j hs=>
 Sd.ite (λ_=>(Ff hX _).bind λx j' hx=>Sd.then λ_ _=>.ok (V.cond1 _ _ _ hs hx)) (λ_=>.ok (V.cond0 _ _ hs))
def auA: ∀ f i,Sd (λt _=>V .fmt t) (hJ L f i):=by
 intro f
 induction f with
 | zero=>exact HY
 | succ f ih=>
  intro i;unfold hJ;refine Sd.ite (λ_=>?_) (λ_=>?_)
  ·refine(Oy L 1 100 i).bind λn j hn=>Sd.then λ_ j1=>?_;intro t j' e
   cases hm:eR L L.length (hJ L f) j1 with
   | error a=>rw[hm]at e;cases e
   | ok lj=>
    obtain⟨l,j2⟩:=lj;have h1:1<=L.length:=by
     unfold gO at *
     rcases Nat.eq_zero_or_pos L.length with h0|h0
     ·exfalso
      have hL:L=[]:=kU h0;subst hL;unfold eR at hm
      cases f with
      | zero=>unfold hJ at hm;cases hm
      | succ f=>
       unfold hJ at hm;rw[aC (by rw[TZ aI];decide)]at hm;unfold iN isName at hm;rw[aC (by rw[TZ aI];decide)]at hm
       cases hm
     ·exact h0
    have hl:=sF ih L.length h1 j1 l j2 hm;rw[hm]at e;have:=(Sd.then (Q:=λt _=>V .fmt t) (r:=aW L j2 dA) (f:=λ_ j3=>.ok (.mk 42 n i e0 l,j3)) λ_ j3=>.ok (V.fmtN _ _ _ aB aB (by intro h;rw[h]at hl;exact absurd hl.2.1 aD) hl.1)) t j' e;exact this
  ·refine(yF hX i).bind λs j hs=>?_;refine Sd.ite (λhp=>Sd.ite (λhk=>(aGZ hX j hk).bind λx j' hx=>.ok ?_) λ_=>.err _) λhp=>
    Sd.ite (λ_=>(sF (aqE hX) 2 aD _).bind λl j' hl=>Sd.then λ_ j2=>.ok (V.fmt _ _ _ hp hs hl.2.2 hl.1)) λ_=>.ok (V.fmt _ _ _ hp hs aD Ay)
   rw[hp];exact V.fmtP _ _ hx
def auX(i:Nat):Sd (λt _=>V .fmt t) (uZ L i):=auA hX _ i
def aCO(i:Nat):Sd (λt _=>V .val t) (eC L i):=by
 unfold eC;have ha:Sd (λt _=>V .val t) (cV L (dB L) i):=(OM (qH hX) i).mono λ_ _ h=>V.val _ h
 simp only
 split
 ·exact ha
 ·rename_i n _
  refine Sd.ite (λhc=>?_) (λ_=>ha);simp only[bA,dX]at hc
  have h1:(1:Int)<=n:=by omega
  have h2:(n:Int)<=1000:=by omega
  refine Sd.ite (λhs=>(aqE hX _).bind λx j hx=>.ok (V.valR _ _ _ h1 h2 (.inr ⟨_,_,_,rfl,?_,hx⟩))) (λ_=>(aqE hX _).bind λx j hx=>.ok (V.valR _ _ _ h1 h2 (.inl hx)));exact Tv
end
def aDy(s:AAE)(h:Ci s):Ci (nG s)/\nG (nG s)=nG s:=by
 unfold nG
 by_cases h1:s=VQ
 ·rw[aF h1];exact oQ
 rw[aC h1]
 by_cases h2:s=akB
 ·rw[aF h2];exact oQ
 rw[aC h2]
 by_cases h3:s=anX
 ·rw[aF h3];exact oQ
 rw[aC h3]
 by_cases h4:s=amG
 ·rw[aF h4];exact oQ
 rw[aC h4]
 by_cases h5:s=akX
 ·rw[aF h5];exact oQ
 rw[aC h5]
 by_cases h6:s=Vk
 ·rw[aF h6];exact oQ
 rw[aC h6]
 by_cases h7:s=ajI
 ·rw[aF h7];exact oQ
 rw[aC h7]
 by_cases h8:s=We
 ·rw[aF h8];exact oQ
 rw[aC h8]
 by_cases h9:s=akT
 ·rw[aF h9];exact oQ
 rw[aC h9]
 by_cases h10:s=alQ
 ·rw[aF h10];exact oQ
 rw[aC h10];exact⟨h,by rw[aC h1,aC h2,aC h3,aC h4,aC h5,aC h6,aC h7,aC h8,aC h9,aC h10]⟩
section
variable {L:List Tk} (hX:sT L)
include hX
def Fk(i:Nat):Sd (λt _=>V .attr t) (dS L i):=by
 refine(yF hX i).bind λs0 j hs0=>?_;obtain⟨hs,hl⟩:=aDy s0 hs0;simp only
 generalize nG s0=s at hs hl;refine Sd.ite (λhp=>Sd.ite (λhk=>(aGZ hX j hk).bind λx j' hx=>.ok ?_) λ_=>.err _) λhp=>
  Sd.ite (λhq=>(Wn hX (qH hX) j).bind λx j' hx=>.ok ?_) λhq=>
  Sd.ite (λ_=>Sd.ite (λ_=>.ok (V.attr1 _ _ _ hs hp hq hl aD Ay)) λ_=>
   (sF (aCO hX) 60 aD _).bind λl j' hv=>Sd.then λ_ j2=>.ok (V.attr1 _ _ _ hs hp hq hl hv.2.2 hv.1)) λ_=>.ok (V.attr0 _ _ hs hp hq hl)
 ·rw[hp];exact V.attrP _ _ hx
 ·rw[hq];exact V.attrL _ _ hx.1 hx.2
def auT: ∀ n acc j,(∀ x,x∈acc->V .attr x)->Sd (λl _=>(∀ x,x∈l->V .attr x)/\l.length<=acc.length+n) (jC L n acc j):=by
 intro n
 induction n with
 | zero=>intro acc j hacc;unfold jC;exact .ok ⟨hacc,aG _⟩
 | succ n ih=>
  intro acc j hacc;unfold jC;refine Sd.ite (λ_=>(Fk hX j).bind λx j' hx=>(ih (acc++[x]) j' ?_).mono λl _ hl=>?_) (λ_=>.ok ⟨hacc,by omega⟩)
  ·exact DA
  ·obtain⟨h1,h3⟩:=hl;rw[aO,List.length_singleton]at h3;exact⟨h1,by omega⟩
def UY(n i:Nat):Sd (λl _=>(∀ x,x∈l->V .attr x)/\l.length<=n) (pR L n i):=(auT hX n [] i Ay).mono λl _ h=>⟨h.1,by have:=h.2;simp at this;exact this⟩
def aBN(i:Nat):Sd (λt _=>V .bound t) (pS L i):=(qH hX i).bind λx j hx=>
 Sd.ite (λ_=>(qH hX _).bind λy j' hy=>.ok (V.bound2 _ _ _ hx hy)) (λ_=>.ok (V.bound1 _ _ _ mE hx))
omit hX in
def AJ(l:List T):∃ a,gQ l=.mk 40 0 a e0 l:=⟨_,rfl⟩
def aEV: ∀ f i,Sd (λt _=>V .item t) (mU L f i):=by
 intro f
 induction f with
 | zero=>intro i;unfold mU;exact .err _
 | succ f ih=>
  intro i;unfold mU;refine Sd.bind (P:=λn _=>0<=n/\n<=99) (Sd.ite (λ_=>(Oy L 1 99 i).bind λn j hn=>.ok aB) (λ_=>.ok aB)) λn j hn=>?_;refine Sd.bind (P:=λx _=>(isWord x\/∃ a' its,x=.mk 40 0 a' e0 its/\its≠[])/\(x.kind=40->x.l.length<=30)/\(x.kind=40->∀ y,y∈x.l->V .item y)) (Sd.ite (λ_=>(sF ih 30 aD _).bind λl j' hl=>Sd.then λ_ j2=>.ok ?_) (λ_=>(Ff hX j).mono λx _ hx=>?_)) λwhat j1 hw=>?_
  ·obtain⟨a,ha⟩:=AJ l;rw[ha];exact⟨.inr ⟨_,_,rfl,by intro h;rw[h]at hl;exact absurd hl.2.1 aD⟩,λ_=>hl.2.2,λ_=>hl.1⟩
  ·refine⟨.inl hx,?_,?_⟩<;>(obtain⟨a,w,rfl,_⟩:=hx;intro h;exact absurd h (show ¬ (11:Int)=40 by decide))
  refine Sd.bind (P:=λbs _=>(∃ a' l,bs=.mk 40 0 a' e0 l)/\bs.l.length<=3/\∀ y,y∈bs.l->V .bound y) (Sd.ite (λ_=>(sF (aBN hX) 3 aD _).bind λl j' hl=>Sd.then λ_ j2=>.ok ?_) (λ_=>.ok ?_)) λbs j2 hb=>?_
  ·obtain⟨a,ha⟩:=AJ l;rw[ha];exact⟨⟨_,_,rfl⟩,hl.2.2,hl.1⟩
  ·exact⟨⟨_,_,rfl⟩,by decide,by intro y hy;cases hy⟩
  exact(UY hX 12 j2).bind λaSq j3 ha=>.ok (V.item _ _ _ _ _ hn.1 hn.2 hw.1 hw.2.1 hw.2.2 hb.1 hb.2.1 hb.2.2 ha.2 ha.1)
def aEA(i:Nat):Sd (λt _=>V .item t) (IQ L i):=aEV hX _ i
end
end Px
end
section
namespace Px
open Lx
def aaE{k n a:Int}{w:AAE}{l:List T}(h:k≠13/\k≠14/\k≠23/\k≠32):eN (.mk k n a w l)=false:=by
 obtain⟨h1,h2,h3,h4⟩:=h
 match l with
 | []=>unfold eN;rfl
 | [x]=>unfold eN;simp[h1,h2]
 | [x,y]=>unfold eN;simp[h1,h3,h4]
 | [x,y,z]=>unfold eN;simp[h1,h3]
 | [x,y,z,u]=>unfold eN;simp[h1]
 | [x,y,z,u,v]=>unfold eN;simp[h1]
 | x::y::z::u::v::r::s=>unfold eN;rfl
def agW{a:Int}{w:AAE}{ws:List T}{x:T}(h1:1<=ws.length)(h4:ws.length<=4):eN (.mk 13 0 a w (ws++[x]))=eN x:=by
 match ws with
 | []=>simp at h1
 | [y]=>
  show eN (.mk 13 0 a w [y,x])=_;conv=>lhs;unfold eN
  simp
 | [y,z]=>
  show eN (.mk 13 0 a w [y,z,x])=_;conv=>lhs;unfold eN
  simp
 | [y,z,u]=>
  show eN (.mk 13 0 a w [y,z,u,x])=_;conv=>lhs;unfold eN
  simp
 | [y,z,u,v]=>
  show eN (.mk 13 0 a w [y,z,u,v,x])=_;conv=>lhs;unfold eN
  simp
 | y::z::u::v::r::s=>simp at h4
def Wl{a:Int}{w:AAE}{x:T}:eN (.mk 14 0 a w [x])=eN x:=by conv=>lhs;unfold eN;rw[aF aD]
def acC{a:Int}{w:AAE}{c x:T}:eN (.mk 32 0 a w [c,x])=eN x:=by conv=>lhs;unfold eN;rw[aC aD,aF aD]
def ahU{a:Int}{w:AAE}{x y z:T}:eN (.mk 23 0 a w [x,y,z])=eN z:=by conv=>lhs;unfold eN;rw[aF aD]
def Qs(L:List Tk)(s:So)(t:T)(j:Nat):Prop:=V s t/\(eN t=true->keyword L j [qK]=false)
def Qs.no{L:List Tk}{s:So}{k n a:Int}{w:AAE}{l:List T}{j:Nat}(h:V s (.mk k n a w l))(hk:k≠13/\k≠14/\k≠23/\k≠32):Qs L s (.mk k n a w l) j:=⟨h,λho=>by rw[aaE hk]at ho;cases ho⟩
def lG{L:List Tk}{P:T->Nat->Prop}{t:T}{i:Nat}(h:∀ j,P t j):Sd P (bK L t i):=Sd.then λ_ j=>.ok (h j)
section
variable {L:List Tk} (hX:sT L) {stmt inner:Nat->R T} (hS:∀ i,Sd (λt _=>V (.st false) t) (stmt i)) (hI:∀ i,Sd (Qs L (.st true)) (inner i))
include hS
def auJ(label:AAE):∀ f acc i,(∀ x,x∈acc->V (.st false) x)->Sd (λl _=>∀ x,x∈l->V (.st false) x) (jE L stmt label f acc i):=by
 intro f
 induction f with
 | zero=>intro acc i _;exact Dw
 | succ f ih=>
  intro acc i hacc;unfold jE;refine Sd.ite (λ_=>Sd.then λ_ j=>.ok hacc) (λ_=>(hS i).bind λx j hx=>ih _ j ?_);exact DA
def Fa(label:AAE)(i:Nat):Sd (λl _=>∀ x,x∈l->V (.st false) x) (iO L stmt label i):=auJ hS label _ [] i Ay
include hX
def abB(a:Nat)(label:AAE)(i:Nat):Sd (Qs L (.pl false true)) (iE L stmt a label i):=by
 unfold iE;refine Sd.bind (P:=λp _=>∃ a' ps,p=.mk 40 0 a' e0 ps/\ps.length<=8/\∀ y,y∈ps->isWord y) (Sd.ite (λ_=>(sF (Ff hX) 8 aD _).bind λl j hl=>Sd.then λ_ _=>.ok ?_) (λ_=>.ok ?_)) λp j hp=>?_
 ·obtain⟨a',ha⟩:=AJ l;exact⟨a',l,ha,hl.2.2,hl.1⟩
 ·exact⟨0,[],rfl,by decide,by intro y hy;cases hy⟩
 refine Sd.bind (P:=λn _=>n=0\/n=1\/n=2) (Sd.ite (λ_=>Sd.then λ_ _=>Sd.then λ_ _=>Sd.then λ_ _=>.ok (.inr (.inl rfl))) (λ_=>Sd.ite (λ_=>.ok (.inr (.inr rfl))) (λ_=>.ok (.inl rfl)))) λn j1 hn=>?_;refine Sd.bind (P:=λr _=>(isNone r\/∃ a' aSq,r=.mk 40 0 a' e0 aSq/\aSq≠[])/\(r.kind=40->r.l.length<=4)/\(r.kind=40->∀ y,y∈r.l->V .attr y)) (Sd.ite (λ_=>Sd.then λ_ k1=>(Fk hX k1).bind λx k2 hx=>(UY hX 3 k2).bind λxs k3 hxs=>Sd.then λ_ _=>.ok ?_) (λ_=>.ok ?_)) λr j2 hr=>?_
 ·obtain⟨a',ha⟩:=AJ (x::xs);rw[ha];refine⟨.inr ⟨_,_,rfl,by simp⟩,λ_=>?_,λ_ y hy=>?_⟩
  ·show (x::xs).length<=4
   have:=hxs.2
   simp;omega
  ·rcases bO.1 hy with rfl|hy
   ·exact hx
   ·exact hxs.1 y hy
 ·exact⟨.inl mE,λh=>absurd h aD,λh=>absurd h aD⟩
 refine Sd.then λ_ j3=>(Fa hS label j3).bind λg j4 hg=>.ok ?_;obtain⟨a',ps,rfl,h8,hw⟩:=hp;exact Qs.no (V.proc _ _ _ _ _ _ hn h8 hw hr.1 hr.2.1 hr.2.2 hg) aD
def aJY(inr lab:Bool)(a:Nat)(label:AAE)(i:Nat):Sd (Qs L (.pl inr lab)) (doP L stmt a label i):=by
 unfold doP;refine Sd.ite (λ_=>(Fa hS label _).bind λg j hg=>.ok (Qs.no (V.do_ _ _ _ _ hg) aD)) λ_=>Sd.ite (λ_=>?_) λ_=>Sd.ite (λhw=>?_) λ_=>.err _
 ·exact(LB hX i).bind λr j hr=>Sd.then λ_ j1=>(qH hX j1).bind λx j2 hx=>(He hX _ j2).bind λt j3 ht=>(He hX _ j3).bind λb j4 hb=>
   (EB hX _ j4).bind λwh j5 hwh=>(EB hX _ j5).bind λun j6 hun=>Sd.then λ_ j7=>(Fa hS label j7).bind λg j8 hg=>
   .ok (Qs.no (V.loop _ _ _ _ _ _ _ _ _ _ hr.1 hr.2 hx ht hb hwh hun hg) aD)
 ·refine Sd.bind (P:=λx j=>(¬ isNone x->V .expr x)/\(isNone x->j=i/\iT L i [gF]=false)) ?_ λx j hx=>?_
  ·unfold gL;exact Sd.ite (λ_=>(pW hX _).mono λ_ _ h=>⟨λ_=>h,λhn=>absurd hn (NH h)⟩) (λhn=>.ok ⟨λh=>absurd mE h,λ_=>⟨rfl,by simpa using hn⟩⟩)
  ·refine Sd.bind (P:=λy _=>(¬ isNone y->V .expr y)/\(isNone y->iT L j [gA]=false)) ?_ λy j1 hy=>?_
   ·unfold gL;exact Sd.ite (λ_=>(pW hX _).mono λ_ _ h=>⟨λ_=>h,λhn=>absurd hn (NH h)⟩) (λhn=>.ok ⟨λh=>absurd mE h,λ_=>by simpa using hn⟩)
   ·refine Sd.then λ_ j2=>(Fa hS label j2).bind λg j3 hg=>.ok (Qs.no (V.while_ _ _ _ _ _ _ hx.1 hy.1 ?_ hg) aD)
    rintro⟨h1,h2⟩;obtain⟨rfl,h3⟩:=hx.2 h1;have h4:=hy.2 h2;unfold iT at hw h3 h4;simp only[bA]at hw
    rw[hw.1]at h3 h4;simp only[qV]at h3 h4
    have:=(eX _ _).1 hw.2
    rcases bO.1 this with e|e
    ·rw[e]at h3;exact absurd h3 aE
    ·rw[cO.1 e]at h4;exact absurd h4 aE
end
section
variable {L:List Tk} (hX:sT L) {stmt inner:Nat->R T} (hI:∀ i,Sd (Qs L (.st true)) (inner i))
include hX hI
def aBq: ∀ f acc i,Sd (λl _=>∃ ws,l=acc++ws/\∀ y,y∈ws->V .when_ y) (jW L inner f acc i):=by
 intro f
 induction f with
 | zero=>intro acc i;unfold jW;exact .err _
 | succ f ih=>
  intro acc i;unfold jW;refine Sd.ite (λ_=>Sd.then λ_ j=>(sF (qH hX) 8 aD j).bind λl j1 hl=>Sd.then λ_ j2=>(hI j2).bind λx j3 hx=>(ih _ j3).mono λl' _ h=>?_) (λ_=>.ok ⟨[],by simp,by intro y hy;cases hy⟩);obtain⟨ws,rfl,hw⟩:=h;refine⟨node 21 i (l++[x])::ws,by simp,λy hy=>?_⟩
  rcases bO.1 hy with rfl|hy
  ·exact V.when_ _ _ _ hl.2.1 hl.2.2 hl.1 hx.1
  ·exact hw y hy
def atS(inr lab:Bool)(a:Nat)(label:AAE)(i:Nat):Sd (Qs L (.pl inr lab)) (lL L inner a label i):=by
 unfold lL;refine Sd.bind (P:=λx _=>¬ isNone x->V .expr x) (Sd.ite (λ_=>(pW hX _).mono λ_ _ h _=>h) (λ_=>.ok λh=>absurd mE h)) λx j hx=>Sd.then λ_ j1=>(aBq hX hI _ [x] j1).bind λl j2 hl=>?_;obtain⟨ws,rfl,hw⟩:=hl;refine Sd.bind (P:=λl2 _=>∃ os,l2=[x]++ws++os/\os.length<=1/\∀ y,y∈os->V .other y) (Sd.ite (λ_=>(hI _).bind λy j3 hy=>.ok ⟨[node 22 j2 [y]],rfl,by simp,λz hz=>?_⟩) (λ_=>.ok ⟨[],by simp,by simp,by intro z hz;cases hz⟩)) λl2 j3 hl2=>?_
 ·rw[cO.1 hz];exact V.other _ _ hy.1
 obtain⟨os,rfl,h1,ho⟩:=hl2;refine Sd.then λ_ j4=>.ok ?_;rw[bT];exact Qs.no (V.select _ _ _ x ws os hx hw h1 ho) aD
def auB(inr lab:Bool)(a:Nat)(i:Nat):Sd (Qs L (.pl inr lab)) (qM L inner a i):=by
 unfold qM;refine(qH hX i).bind λx j hx=>Sd.then λ_ j1=>(hI j1).bind λy j2 hy=>Sd.ite (λhk=>(hI _).bind λz j3 hz=>.ok ⟨V.if3 _ _ _ _ _ _ hx hy.1 ?_ hz.1,?_⟩) (λhk=>.ok ⟨V.if2 _ _ _ _ _ hx hy.1,λ_=>by simpa using hk⟩)
 ·cases ho:eN y with
  | false=>rfl
  | true=>have:=hy.2 ho;rw[this]at hk;cases hk
 ·intro ho;exact hz.2 (by rw[<- ho];exact ahU.symm)
def aKw(inr lab:Bool)(a:Nat)(i:Nat):Sd (Qs L (.pl inr lab)) (onP L inner a i):=by
 unfold onP;simp only
 refine(Uc hX _ i).bind λc j hc=>Sd.ite (λ_=>lG λj'=>⟨V.on0 _ _ _ _ _ hc,λho=>?_⟩) (λ_=>(hI j).bind λx j1 hx=>.ok ⟨V.on1 _ _ _ _ _ hc hx.1,λho=>hx.2 (by rw[<- ho];exact acC.symm)⟩)
 rw[show eN (node 32 a [c,node 33 j []])=eN (node 33 j [])from acC,show eN (node 33 j [])=false from aaE aD]at ho
 cases ho
end
section
variable {L:List Tk} (hX:sT L)
include hX
def VI(inr lab:Bool)(k:Int)(hk:k=28\/k=29)(a i:Nat):Sd (Qs L (.pl inr lab)) (iQ L k a i):=by
 unfold iQ;have h4:k≠13/\k≠14/\k≠23/\k≠32:=by omega
 exact Sd.ite (λ_=>(yF hX i).bind λs j hs=>lG λj'=>Qs.no (V.leave _ _ _ _ _ hk (.inr hs)) h4) (λ_=>lG λj'=>Qs.no (V.leave _ _ _ _ _ hk (.inl rfl)) h4)
def Zj(inr lab:Bool)(k:Int)(hk:k=38\/k=39)(a:Nat){item:Nat->R T}(hit:∀ i,Sd (λt _=>V .expr t/\(k=38->isRef t)) (item i))(i:Nat):Sd (Qs L (.pl inr lab)) (jT L k a item i):=by
 unfold jT;have h4:k≠13/\k≠14/\k≠23/\k≠32:=by omega
 refine Sd.bind (P:=λw _=>w=e0\/Ci w) (Sd.ite (λ_=>(MT hX i).mono λ_ _ h=>.inr h) (λ_=>.ok (.inl rfl))) λw j hw=>?_;refine Sd.bind (P:=λn _=>(0:Int)<=n/\n<=99) (Sd.ite (λ_=>Sd.then λ_ _=>(Oy L 1 99 _).bind λn _ hn=>Sd.then λ_ _=>.ok aB) (λ_=>.ok aB)) λn j1 hn=>?_;refine Sd.bind (P:=λlm _=>∀ (a:Int) (w:AAE),(w=e0\/Ci w)->V (.pl inr lab) (.mk k n a w [lm.1,lm.2])) (Sd.ite (λ_=>Sd.then λ_ k1=>(sF hit 16 aD k1).bind λl k2 hl=>Sd.then λ_ k3=>Sd.ite (λ_=>Sd.then λ_ k4=>(sF (auX hX) 32 aD k4).bind λm k5 hm=>Sd.then λ_ _=>.ok ?_) (λ_=>.ok ?_)) (λ_=>.ok ?_)) λlm j2 hlm=>?_
 ·intro a w hw;obtain⟨a1,h1⟩:=AJ l;obtain⟨a2,h2⟩:=AJ m
  show V _ (.mk k n a w [gQ l,gQ m])
  rw[h1,h2];exact V.stream2 _ _ _ _ _ _ _ _ _ _ hk hn.1 hn.2 hw hl.2.1 hl.2.2 (λx hx=>(hl.1 x hx).1) (λh x hx=>(hl.1 x hx).2 h) hm.2.1 hm.2.2 hm.1
 ·intro a w hw;obtain⟨a1,h1⟩:=AJ l
  show V _ (.mk k n a w [gQ l,none_])
  rw[h1];exact V.stream1 _ _ _ _ _ _ _ _ _ hk hn.1 hn.2 hw hl.2.1 hl.2.2 (λx hx=>(hl.1 x hx).1) (λh x hx=>(hl.1 x hx).2 h) mE
 ·intro a w hw;exact V.stream0 _ _ _ _ _ _ _ _ hk hn.1 hn.2 hw mE mE
 ·exact lG λj'=>Qs.no (hlm _ _ hw) h4
end
def Sd.opt{P:T->Nat->Prop}{c:Prop}[Decidable c]{x r:R T}{o:Option (R T)}(h:(if c then some x else o)=some r)(hx:c->Sd P x)(ho:o=some r->¬ c->Sd P r):Sd P r:=by
 by_cases hc:c
 ·rw[aF hc]at h;cases h;exact hx hc
 ·rw[aC hc]at h;exact ho h hc
def ajZ{L:List Tk}(hX:sT L){stmt inner:Nat->R T}(hS:∀ i,Sd (λt _=>V (.st false) t) (stmt i))(hI:∀ i,Sd (Qs L (.st true)) (inner i))(inr:Bool)(w:AAE)(a:Nat)(label:AAE)(i:Nat)(r:R T)(hr:bL L stmt inner w a label i=some r)(hp:w=bB\/w=jL->inr=false/\label.size≠0)(hd:w=fK\/w=uP->inr=false):Sd (Qs L (.pl inr (decide (label.size≠0)))) r:=by
 unfold bL at hr;refine Sd.opt hr (λhc=>by obtain⟨e1,e2⟩:=hp hc;rw[e1,eQ e2];exact abB hX hS a label i) λhr _=>?_;refine Sd.opt hr (λhc=>Sd.then λ_ j=>(Fa hS label j).bind λg j1 hg=>.ok (Qs.no (V.begin_ _ _ _ _ hg) aD)) λhr _=>?_;refine Sd.opt hr (λhc=>aJY hX hS _ _ a label i) λhr _=>?_;refine Sd.opt hr (λhc=>atS hX hI _ _ a label i) λhr _=>?_;refine Sd.opt hr (λhc=>auB hX hI _ _ a i) λhr _=>?_;refine Sd.opt hr (λhc=>(aaX hX (qH hX) i).bind λx j hx=>lG λ_=>Qs.no (V.call _ _ _ _ _ hx) aD) λhr _=>?_;refine Sd.opt hr (λhc=>Sd.ite (λ_=>(pW hX _).bind λx j hx=>lG λ_=>Qs.no (V.ret1 _ _ _ _ hx) aD) (λ_=>lG λ_=>Qs.no (V.ret0 _ _ _) aD)) λhr _=>?_;refine Sd.opt hr (λhc=>Sd.then λ_ j=>(yF hX _).bind λs j hs=>lG λ_=>Qs.no (V.goto_ _ _ _ _ hs) aD) λhr _=>?_;refine Sd.opt hr (λhc=>(yF hX _).bind λs j hs=>lG λ_=>Qs.no (V.goto_ _ _ _ _ hs) aD) λhr _=>?_;refine Sd.opt hr (λhc=>VI hX _ _ 28 (.inl rfl) a i) λhr _=>?_;refine Sd.opt hr (λhc=>VI hX _ _ 29 (.inr rfl) a i) λhr _=>?_;refine Sd.opt hr (λhc=>lG λ_=>Qs.no (V.stop _ _ _) aD) λhr _=>?_;refine Sd.opt hr (λhc=>aKw hX hI _ _ a i) λhr _=>?_;refine Sd.opt hr (λhc=>(Uc hX true i).bind λc j hc=>lG λ_=>Qs.no (V.revert _ _ _ _ _ (.inl rfl) hc) aD) λhr _=>?_;refine Sd.opt hr (λhc=>(Uc hX true i).bind λc j hc=>lG λ_=>Qs.no (V.revert _ _ _ _ _ (.inr rfl) hc) aD) λhr _=>?_;refine Sd.opt hr (λhc=>(yF hX i).bind λs j hs=>(WV hX _ j).bind λx j1 hx=>(WV hX _ j1).bind λy j2 hy=>lG λ_=>Qs.no (V.alloc _ _ _ _ _ _ hs (λh=>(hx h).1) (λh=>(hx h).2) (λh=>(hy h).1) (λh=>(hy h).2)) aD) λhr _=>?_;refine Sd.opt hr (λhc=>(LB hX i).bind λr j hr=>(WV hX _ j).bind λx j1 hx=>lG λ_=>Qs.no (V.free _ _ _ _ _ hr.1 hr.2 (λh=>(hx h).1) (λh=>(hx h).2)) aD) λhr _=>?_;refine Sd.opt hr (λhc=>Zj hX _ _ 38 (.inl rfl) a (λi=>(LB hX i).mono λ_ _ h=>⟨h.1,λ_=>h.2⟩) i) λhr _=>?_;refine Sd.opt hr (λhc=>Zj hX _ _ 39 (.inr rfl) a (λi=>(qH hX i).mono λ_ _ h=>⟨h,λe=>absurd e aD⟩) i) λhr _=>?_;refine Sd.opt hr (λhc=>(MT hX i).bind λs j hs=>(Fw hX _ j).bind λr j1 hr=>(EB hX _ j1).bind λx j2 hx=>lG λ_=>Qs.no (V.rd _ _ _ _ _ _ _ (.inl rfl) hs hr.1 hr.2 hx (λe=>absurd e aD)) aD) λhr _=>?_;refine Sd.opt hr (λhc=>(MT hX i).bind λs j hs=>(Fw hX _ j).bind λr j1 hr=>Sd.then λ_ j2=>(pW hX j2).bind λx j3 hx=>lG λ_=>Qs.no (V.rd _ _ _ _ _ _ _ (.inr (.inl rfl)) hs hr.1 hr.2 (λ_=>hx) (λ_=>NH hx)) aD) λhr _=>?_;refine Sd.opt hr (λhc=>(MT hX i).bind λs j hs=>(Fw hX _ j).bind λr j1 hr=>(EB hX _ j1).bind λx j2 hx=>lG λ_=>Qs.no (V.rd _ _ _ _ _ _ _ (.inr (.inr rfl)) hs hr.1 hr.2 hx (λe=>absurd e aD)) aD) λhr _=>?_;refine Sd.opt hr (λhc=>(MT hX i).bind λs j hs=>Sd.then λ_ j1=>(pW hX j1).bind λx j2 hx=>lG λ_=>Qs.no (V.delete _ _ _ _ _ hs hx) aD) λhr _=>?_;refine Sd.opt hr (λhc=>(sF (aEA hX) 60 aD i).bind λl j hl=>lG λ_=>Qs.no (by rw[hd hc];exact V.declare _ _ _ hl.2.1 hl.2.2 hl.1) aD) λhr _=>?_
 cases hr
def aeB{L:List Tk}(hX:sT L){stmt inner:Nat->R T}(hS:∀ i,Sd (λt _=>V (.st false) t) (stmt i))(hI:∀ i,Sd (Qs L (.st true)) (inner i))(inr:Bool)(label:AAE)(i:Nat):Sd (Qs L (.pl inr (decide (label.size≠0)))) (mS L stmt inner inr label i):=by
 unfold mS;refine Sd.ite (λ_=>.ok (Qs.no (V.null _ _ _) aD)) λ_=>Sd.ite (λ_=>(LB hX i).bind λr j hr=>Sd.then λ_ j1=>(qH hX j1).bind λx j2 hx=>Sd.then λ_ _=>.ok (Qs.no (V.assign _ _ _ _ _ hr.1 hr.2 hx) aD)) λ_=>?_;simp only
 refine Sd.ite (λ_=>.err _) λhn=>?_
 cases hd:bL L stmt inner (tok L i).text i label (i+1) with
 | none=>exact .err _
 | some r=>
  have hn1:isName L i=true:=by cases h:isName L i with
   | true=>rfl
   | false=>exact absurd (.inl h) hn
  have hk:((tok L i).kind==1)=true:=hn1;have hw:∀ ss,(tok L i).text∈ss->iT L i ss=true:=λss h=>by
   unfold iT;rw[hk];simp only[qV];exact(eX _ _).2 h
  refine ajZ hX hS hI inr _ i label (i+1) r hd (λhp=>?_) (λhp=>?_)
  ·have:=hw [bB,jL] tT;refine⟨?_,λh=>hn (.inr (.inr ⟨this,h⟩))⟩
   cases inr with
   | false=>rfl
   | true=>exact absurd (.inr (.inl ⟨rfl,.inl this⟩)) hn
  ·have:=hw [fK,uP] tT
   cases inr with
   | false=>rfl
   | true=>exact absurd (.inr (.inl ⟨rfl,.inr this⟩)) hn
def Ia{L:List Tk}(hX:sT L){lab:Bool->ByteArray->Nat->R T}(h:∀ b l i,Sd (Qs L (.lb b (decide (l.size≠0)))) (lab b l i))(inr:Bool)(i:Nat):Sd (Qs L (.st inr)) (cH L lab inr i):=by
 unfold cH;refine Sd.ite (λ_=>(sF (Ff hX) 4 aD _).bind λl j hl=>Sd.then λ_ j1=>Sd.then λ_ j2=>(h inr e0 j2).bind λx j3 hx=>.ok ⟨V.prefixed _ _ _ _ hl.2.1 hl.2.2 hl.1 hx.1,λho=>hx.2 (by rw[<- ho];exact(agW hl.2.1 hl.2.2).symm)⟩) (λ_=>(h inr e0 i).mono λt _ hx=>⟨V.stmt _ _ hx.1,hx.2⟩)
def acQ{w:AAE}(h:Ci w):w.size≠0:=by
 intro e;have:w=⟨#[]⟩:=by
  obtain⟨⟨d⟩⟩:=w;have:d.length=0:=e;rw[nN]at this;rw[this]
 subst this;exact absurd h lH
def aAq{L:List Tk}(hX:sT L):∀ f inr label i,Sd (Qs L (.lb inr (decide (label.size≠0)))) (jG L f inr label i):=by
 intro f
 induction f with
 | zero=>intro inr label i;unfold jG;exact .err _
 | succ f ih=>
  intro inr label i;unfold jG;have hp:∀ b i,Sd (Qs L (.st b)) (cH L (jG L f) b i):=λb i=>Ia hX ih b i
  refine Sd.ite (λ_=>(aeB hX (λi=>(hp false i).mono λ_ _ h=>h.1) (hp true) inr label i).mono λt j h=>⟨V.plain _ _ _ h.1,h.2⟩) λhn=>?_;have hl:labelled L i=true:=by
   cases h:labelled L i with
   | true=>rfl
   | false=>rw[h]at hn;simp at hn
  have hk:Ci (tok L i).text:=by
   unfold labelled isName at hl;simp only[bA,kW]at hl
   have:=hX i (Wv (by rw[hl.1];decide));rw[hl.1]at this;exact this
  refine(ih inr (tok L i).text (i+2)).bind λx j hx=>.ok ⟨V.label _ _ _ _ _ hk ?_,λho=>hx.2 (by rw[<- ho];exact Wl.symm)⟩
  have:=hx.1
  rwa[eQ (acQ hk)]at this
def abH{L:List Tk}(hX:sT L)(i:Nat):Sd (λt _=>V (.st false) t) (rW L i):=(Ia hX (aAq hX _) false i).mono λ_ _ h=>h.1
def Ny(t:T):Prop:=∃ a w a1 a2 a3 g,t=.mk 14 0 a w [.mk 15 1 a1 e0 (.mk 40 0 a2 e0 [] :: .mk 10 0 a3 e0 []::g)]
end Px
end
section
namespace Px
open Lx
def nW(ts:List Tk):Prop:=∀ (L:List Tk) (i d f:Nat),cW L i ts->jF L (f+ts.length) i (d+1)=jF L f (i+ts.length) (d+1)
def Ym(x:Tk):Prop:=x.kind=6->x.text≠cJ/\x.text≠dA
def nL{L:List Tk}{i:Nat}{x:Tk}(h:tok L i=x){s:AAE}(hs:x.kind=6->x.text≠s):cD L i [s]=false:=by
 unfold cD;rw[h]
 by_cases hk:x.kind=6
 ·have:=hs hk
  simp[eH,hk];exact λe=>this e.symm
 ·simp[hk]
def Lj(L:List Tk)(f i d:Nat):jF L (f+1) i d=if L.length<=i then none else if cD L i [dA]then(if (if cD L i [cJ]then d+1 else d)=1 then some (i+1)else jF L f (i+1) ((if cD L i [cJ]then d+1 else d) - 1))else jF L f (i+1) (if cD L i [cJ]then d+1 else d):=by
 conv=>lhs;unfold jF
def nW.nil: nW []:=λL i d f _=>rfl
theorem nW.app{xs ys:List Tk}(hx:nW xs)(hy:nW ys):nW (xs++ys):=by
 intro L i d f h;obtain⟨h1,h2⟩:=cW.app h;rw[aO,show f+(xs.length+ys.length)=(f+ys.length)+xs.length from by omega,hx L i d _ h1,hy L _ d f h2,gJ]
theorem nW.one{x:Tk}(hn:Ym x):nW [x]:=by
 intro L i d f h;have h1:=h.one
 show jF L (f+1) i (d+1)=jF L f (i+1) (d+1)
 rw[Lj,aC aB,nL h1.1 (λh=>(hn h).2),nL h1.1 (λh=>(hn h).1)];rfl
def nW.cons{x:Tk}{xs:List Tk}(hn:Ym x)(hx:nW xs):nW (x::xs):=(nW.one hn).app hx
def Wy{L:List Tk}{i:Nat}(h:tok L i=O cJ)(hl:i<L.length)(f d:Nat):jF L (f+1) i d=jF L f (i+1) (d+1):=by
 rw[Lj,aC aB,show cD L i [dA]=false by(rw[eZ h];decide +kernel),show cD L i [cJ]=true by(rw[eZ h];decide +kernel)];rfl
def VH{L:List Tk}{i:Nat}(h:tok L i=O dA)(hl:i<L.length)(f d:Nat):jF L (f+1) i d=if d=1 then some (i+1)else jF L f (i+1) (d - 1):=by
 rw[Lj,aC aB,show cD L i [dA]=true by(rw[eZ h];decide +kernel),show cD L i [cJ]=false by(rw[eZ h];decide +kernel)];rfl
def nW.XR{xs:List Tk}(hx:nW xs):nW (O cJ::(xs++[O dA])):=by
 intro L i d f h;have h1:=h.cons;obtain⟨h2,h3⟩:=cW.app h1.2.1;have h4:=h3.one;rw[show f+(O cJ::(xs++[O dA])).length=((f+1)+xs.length)+1 from by simp;omega,Wy h1.1 h1.2.2,hx L (i+1) (d+1) (f+1) h2,VH h4.1 h4.2,aC aB];rw[show i+(O cJ::(xs++[O dA])).length=i+1+xs.length+1 from by simp;omega];rfl
def nW.closed{xs:List Tk}(hx:nW xs){L:List Tk}{i:Nat}(h:cW L i (O cJ::(xs++[O dA])))(f:Nat)(hf:xs.length+2<=f):jF L f i 0=some (i+xs.length+2):=by
 have h1:=h.cons;obtain⟨h2,h3⟩:=cW.app h1.2.1;have h4:=h3.one;obtain⟨g,rfl⟩:∃ g,f=((g+1)+xs.length)+1:=⟨f - xs.length - 2,by omega⟩
 rw[Wy h1.1 h1.2.2,hx L (i+1) 0 (g+1) h2,VH h4.1 h4.2,aF rfl]
 congr 1;omega
theorem nW.aR: ∀ {ps:List (List Tk)},(∀ p,p∈ps->nW p)->nW (aR ps):=by
 intro ps
 exact Sc
theorem nW.jN: ∀ {ps:List (List Tk)},(∀ p,p∈ps->nW p)->nW (jN ps):=by
 intro ps
 exact Sc
def nW.flat: ∀ {ps:List (List Tk)},(∀ p,p∈ps->nW p)->nW ps.flatten:=by
 intro ps
 induction ps with
 | nil=>intro _;exact nW.nil
 | cons p r ih=>intro h;exact(h p (eW ..)).app (ih (λx hx=>h x (jZ _ hx)))
def nW.FX{ps:List (List Tk)}(h:∀ p,p∈ps->nW p):nW (bI ps):=(nW.aR h).XR
theorem nW.operand{c:T}{p:List Tk}{m:Int}(h:nW p):nW (operand c p m):=by
 unfold Px.operand
 split
 ·exact nW.FX (by intro x hx;rw[cO.1 hx];exact h)
 ·exact h
def FU(w:AAE):Ym (W w):=λh=>absurd h rS
def aeD(n:Int):Ym (Nm n):=λh=>absurd h (by simp[Nm])
def Po{w:AAE}(h:0<=level w):Ym (O w):=by
 obtain⟨m,hm,_,hw,_⟩:=Nz w h;intro _;have hall:∀ m:Fin 6,((hY m.val).all λs=>decide (s≠cJ)&&decide (s≠dA))=true:=by decide +kernel
 have:=iJ.1 (hall ⟨m,by omega⟩) w ((eX _ _).1 hw);simp only[bA,dX]at this
 exact this
def YT{n:Int}{w:AAE}(h:cOK n w):Ym ⟨n,w⟩:=λh6=>by
 simp only at h6
 rcases h.1 with e|e|e|e<;>omega
def dU{b:Bool}{l:List T}{P:List Tk->Prop}(h:∀ x,x∈l->P (aL b x)):∀ p,p∈l.map (aL b)->P p:=by
 intro p hp;obtain⟨x,hx,rfl⟩:=iL.1 hp;exact h x hx
def Bm(b:Bool):So->T->Prop
 | .expr,t=>nW (aL b t)
 | .part,t=>nW (aL b t)
 | .arg,t=>nW (aL b t)
 | _,_=>True
def aaB{s:So}{t:T}(b:Bool)(h:V s t):Bm b s t:=by
 induction h with
 | const n a w h=>show nW _;rw[lR];exact nW.one (YT h)
 | ref a ps h1 h8 h ih=>show nW _;rw[Ge];exact nW.jN (dU ih)
 | ptr a x y hx hr hy h2 ihx ihy=>show nW _;rw[Ic];exact nW.app ihx (nW.cons (λ_=>by decide +kernel) ihy)
 | un a w x hw hx ih=>show nW _;rw[Ij];exact nW.cons (λ_=>by rcases hw with rfl|rfl|rfl<;>decide +kernel) (nW.operand ih)
 | bin a w x y hw hx hy ihx ihy=>show nW _;rw[Gh];exact nW.app (nW.operand ihx) (nW.cons (Po hw) (nW.operand ihy))
 | part0 a w h=>show nW _;rw[xV];exact nW.one (FU w)
 | part1 a w l h h16 hl ih=>show nW _;rw[yP];exact nW.cons (FU w) (nW.FX (dU ih))
 | arg x h ih=>exact ih
 | star a=>show nW _;rw[BV];exact nW.one (λ_=>by decide +kernel)
 | _=>trivial
def xJ{t:T}(b:Bool)(h:V .expr t):nW (aL b t):=aaB b h
def FD(L:List Tk)(f i:Nat):gW L (f+1) i=if isName L i=false then none
 else match (if cD L (i+1) [cJ]then jF L (L.length+1) (i+1) 0 else some (i+1)) with
  | none=>none
  | some j=>if cD L j [lI]||cD L j [fT]then gW L f (j+1)else some j:=rfl
def NZ(L:List Tk)(f e:Nat):Option Nat:=if cD L e [lI]||cD L e [fT]then gW L f (e+1)else some e
def Rch(b:Bool)(t:T):Prop:=∃ m,1<=m/\m<=len t/\∀ (L:List Tk) (i f:Nat),cW L i (aL b t)->cD L (i+len t) [cJ]=false->gW L (f+m) i=NZ L f (i+len t)
def aAD{b:Bool}{p:T}(h:V .part p):Rch b p:=by
 cases h with
 | part0 a w h=>
  have hlen:len (.mk 3 0 a w [])=1:=by unfold len;rw[xV];rfl
  refine⟨1,aG _,by omega,λL i f hst hS=>?_⟩;rw[xV]at hst;rw[hlen]at hS ⊢;rw[FD,aC (by unfold isName;rw[hst.one.1];exact(by decide:¬ ((1:Int)==1)=false)),hS];rfl
 | part1 a w l h h16 hl=>
  have hlen:len (.mk 3 1 a w l)=(aR (l.map (aL false))).length+3:=by unfold len;rw[yP];simp[bI]
  have hlc:(aR (l.map (aL b))).length=(aR (l.map (aL false))).length:=Cz _ _ Dr;refine⟨1,aG _,by omega,λL i f hst hS=>?_⟩;rw[yP]at hst;have h1:=hst.cons;have hb:nW (aR (l.map (aL b))):=nW.aR (dU λx hx=>aaB b (hl x hx));have hle:=h1.2.1.le aB;have hc:=hb.closed h1.2.1 (L.length+1) (by simp[bI]at hle;omega);rw[FD,aC (by unfold isName;rw[h1.1];exact(by decide:¬ ((1:Int)==1)=false)),aF (by rw[eZ (h1.2.1.cons.1)];decide +kernel),hc,hlen,hlc]
  show (if _ then _ else _)=NZ L f _
  rw[show i+1+(aR (l.map (aL false))).length+2=i+((aR (l.map (aL false))).length+3)from by omega];rfl
def aCs{b:Bool}:∀ (r:List T),r≠[]->(∀ x,x∈r->V .part x)->∃ m,1<=m/\m<=(jN (r.map (aL false))).length/\∀ (L:List Tk) (i f:Nat),cW L i (jN (r.map (aL b)))->cD L (i+(jN (r.map (aL false))).length) [cJ]=false->gW L (f+m) i=NZ L f (i+(jN (r.map (aL false))).length):=by
 intro r
 induction r with
 | nil=>intro h;exact absurd rfl h
 | cons x r ih=>
  intro _ hv;obtain⟨m1,hm1,hm2,h1⟩:=aAD (b:=b) (hv x (eW ..))
  cases r with
  | nil=>exact⟨m1,hm1,hm2,h1⟩
  | cons y r=>
   obtain⟨m2,hk1,hk2,h2⟩:=ih aI (λz hz=>hv z (jZ _ hz));have e:∀ b,jN ((x::y::r).map (aL b))=aL b x++O lI::jN ((y::r).map (aL b)):=λ_=>rfl
   have el:(jN ((x::y::r).map (aL false))).length=len x+(1+(jN ((y::r).map (aL false))).length):=by rw[e,aO,aV];unfold len;omega
   refine⟨m2+m1,by omega,by omega,λL i f hst hS=>?_⟩;rw[e]at hst;obtain⟨g1,g2⟩:=cW.app hst;rw[eV]at g2;have g3:=g2.cons;rw[<- gJ,h1 L i (f+m2) g1 (by rw[eZ g3.1];decide +kernel)];unfold NZ;rw[aF (by rw[eZ g3.1,eZ g3.1];decide +kernel)];rw[el]at hS ⊢;rw[h2 L (i+len x+1) f g3.2.1 (by rw[show i+len x+1+(jN ((y::r).map (aL false))).length=i+(len x+(1+(jN ((y::r).map (aL false))).length))from by omega];exact hS)];rw[show i+len x+1+(jN ((y::r).map (aL false))).length=i+(len x+(1+(jN ((y::r).map (aL false))).length))from by omega];rfl
def Rm(b:Bool):So->T->Prop
 | .expr,t=>isRef t->Rch b t
 | _,_=>True
def aDU{s:So}{t:T}(b:Bool)(h:V s t):Rm b s t:=by
 induction h with
 | const n a w h=>exact Jv
 | un a w x hw hx ih=>exact Jv
 | bin a w x y hw hx hy ihx ihy=>exact Jv
 | ref a ps h1 h8 h ih=>
  intro _;obtain⟨m,g1,g2,g3⟩:=aCs (b:=b) ps (by intro e;rw[e]at h1;simp at h1) h;have el:len (.mk 2 0 a e0 ps)=(jN (ps.map (aL false))).length:=by unfold len;rw[Ge]
  refine⟨m,g1,by rw[el];exact g2,λL i f hst hS=>?_⟩;rw[Ge]at hst;rw[el]at hS ⊢;exact g3 L i f hst hS
 | ptr a x y hx hr hy h2 ihx ihy=>
  intro _;obtain⟨m1,f1,f2,f3⟩:=ihx hr;obtain⟨m2,g1,g2,g3⟩:=ihy (.inl h2);have el:len (.mk 4 0 a e0 [x,y])=len x+1+len y:=by unfold len;rw[Ic,aO,aV];omega
  refine⟨m2+m1,by omega,by omega,λL i f hst hS=>?_⟩;rw[Ic]at hst;obtain⟨k1,k2⟩:=cW.app hst;rw[eV]at k2;have k3:=k2.cons;rw[<- gJ,f3 L i (f+m2) k1 (by rw[eZ k3.1];decide +kernel)];unfold NZ;rw[aF (by rw[eZ k3.1,eZ k3.1];decide +kernel)];rw[el]at hS ⊢;rw[g3 L (i+len x+1) f k3.2.1 (by rw[show i+len x+1+len y=i+(len x+1+len y)from by omega];exact hS)];rw[show i+len x+1+len y=i+(len x+1+len y)from by omega];rfl
 | _=>trivial
def Iq{b:Bool}{r:T}(h:V .expr r)(hr:isRef r){L:List Tk}{i:Nat}(hst:cW L i (aL b r))(he:tok L (i+len r)=O tV):eF L i=true:=by
 obtain⟨m,h1,h2,h3⟩:=aDU b h hr;have hpos:1<=len r:=by omega
 have hi:i<=L.length:=by
  rcases cY i L.length with h'|h'
  ·omega
  ·exfalso
   obtain⟨post,hp⟩:=hst;rw[iF h']at hp;have:=congrArg List.length hp;rw[aO,eV]at this
   simp at this;omega
 have hle:=hst.le hi;rw[eV]at hle;unfold eF;rw[show L.length+1=(L.length+1 - m)+m from by omega,h3 L i _ hst (by rw[eZ he];decide +kernel)];unfold NZ;rw[aC (by rw[eZ he,eZ he];decide +kernel)]
 show cD L (i+len r) [tV]=true
 rw[eZ he];decide +kernel
def eD{L:List Tk}{i:Nat}{x:Tk}(hx:tok L (i+1)=x)(h:x.kind=6->x.text≠cJ/\x.text≠lI/\x.text≠fT/\x.text≠tV):eF L i=false:=by
 unfold eF;rw[FD]
 by_cases hn:isName L i=false
 ·rw[aF hn]
 ·rw[aC hn,nL hx (λk=>(h k).1)]
  show (match (match some (i+1) with|none=>none|some j=>if cD L j [lI]||cD L j [fT]then gW L L.length (j+1)else some j) with|none=>false|some j=>cD L j [tV])=false
  simp only
  rw[nL hx (λk=>(h k).2.1),nL hx (λk=>(h k).2.2.1)];exact nL hx (λk=>(h k).2.2.2)
def wY{L:List Tk}{i:Nat}{xs:List Tk}(hb:nW xs)(hst:cW L (i+1) (O cJ::(xs++[O dA]))){x:Tk}(hx:tok L (i+1+xs.length+2)=x)(h:x.kind=6->x.text≠lI/\x.text≠fT/\x.text≠tV):eF L i=false:=by
 have h1:=hst.cons;have hle:=hst.le aB;have hc:=hb.closed hst (L.length+1) (by simp at hle;omega);unfold eF;rw[FD]
 by_cases hn:isName L i=false
 ·rw[aF hn]
 ·rw[aC hn,aF IM,hc];simp only
  rw[nL hx (λk=>(h k).1),nL hx (λk=>(h k).2.1)];exact nL hx (λk=>(h k).2.2)
end Px
end
section
namespace Px
open Lx
def cW.fit{L:List Tk}{i:Nat}{ts:List Tk}(h:cW L i ts)(hn:ts≠[]):i+ts.length<=L.length:=by
 cases ts with
 | nil=>exact absurd rfl hn
 | cons x r=>exact h.le (iH h.cons.2.2)
def WJ{t:T}(h:V .expr t)(b:Bool):aL b t≠[]:=by
 obtain⟨x,h1,_⟩:=xN h;obtain⟨r,hr⟩:=h1 b;rw[hr];simp
def Mm{t:T}(h:V .expr t){L:List Tk}{b:Bool}{i:Nat}(hst:cW L i (aL b t)):i+len t<=L.length:=by
 have:=hst.fit (WJ h b)
 rwa[eV]at this
def RdB(read:List Tk->Nat->R T)(S:Tk->Bool)(t:T):Prop:=∀ L:Bool->List Tk,Rd (λb=>b) L (λb=>read (L b)) S t
def CC(ss:List ByteArray)(x:Tk):Bool:=!(x.kind==6&&eH x.text ss)
def Cu{L:List Tk}{j:Nat}{ss:List ByteArray}(h:CC ss (tok L j)=true):cD L j ss=false:=by
 unfold CC at h;unfold cD
 cases hh:((tok L j).kind==6&&eH (tok L j).text ss) with
 | false=>rfl
 | true=>rw[hh]at h;cases h
def Gr{t:T}(h:V .expr t):RdB dB (qD 6) t:=by
 intro L i hst;obtain⟨t',h1,h2,_⟩:=(Ys h).1 L i hst;exact⟨t',h1,λhS b=>h2 ((L b).length+1) 6 (by have:=Mm h (hst b);omega) (aG _) aB hS b⟩
def aBJ{t:T}(h:V .expr t)(hr:isRef t):RdB yZ Pa t:=by
 intro L i hst;obtain⟨t',h1,_,_,h2,_⟩:=(Ys h).1 L i hst;refine⟨t',h1,λhS b=>?_⟩;have hle:=Mm h (hst b);obtain⟨g,hg,h3⟩:=h2 hr ((L b).length+1) aB (λb=>aoE (hS b)) b;obtain⟨g',rfl⟩:∃ g',g=g'+1:=⟨g - 1,by omega⟩
 refine(show yZ (L b) i=eO (L b) (mY (L b) ((L b).length+1)) i from rfl).trans (h3.trans ?_);unfold pZ;rw[aC (by rw[(Zr (hS b)).2.2];decide)]
def aDG{t:T}(h:V .expr t)(h2:t.kind=2):RdB (λL=>mG L (dB L)) xB t:=by
 intro L i hst;obtain⟨t',h1,_,_,_,h3⟩:=(Ys h).1 L i hst;exact⟨t',h1,λhS b=>h3 h2 ((L b).length+1) (by have:=Mm h (hst b);omega) hS b⟩
def aFh{t:T}(h:V .part t):RdB (λL=>qY L (dB L)) (CC [cJ]) t:=by
 intro L i hst;obtain⟨hc,x,hf,_⟩:=Ys h;obtain⟨t',h1,h3⟩:=hc L i hst;refine⟨t',h1,λhS b=>h3 ((L b).length+1) ?_ (λb=>Cu (hS b)) b⟩;obtain⟨r,hr⟩:=hf b;have:=(hst b).fit (by rw[hr];simp);rw[eV]at this;omega
def aHc{t:T}(h:V .arg t):RdB (λL=>cV L (dB L)) (qD 6) t:=by
 intro L i hst;obtain⟨t',h1,h3⟩:=(Ys h:atF t) L i hst;refine⟨t',h1,λhS b=>h3 ((L b).length+1) ?_ hS b⟩
 cases h with
 | arg _ he=>have:=Mm he (hst b);omega
 | star a=>
  have:len (.mk 7 0 a e0 [])=1:=by unfold len;rw[BV];rfl
  omega
def aHt{t:T}(h:IY t):RdB cQ (λ_=>true) t:=by
 obtain⟨n,a,w,rfl,h⟩:=h;intro L i hst;have hlen:len (.mk 1 n a w [])=1:=by unfold len;rw[lR];rfl
 refine⟨.mk 1 n i w [],bY bQ,λ_ b=>?_⟩;have ht:=hst b;rw[lR]at ht
 show cQ (L b) i=_
 unfold cQ;rw[aF (by unfold dP;rw[ht.one.1];rcases h.1 with rfl|rfl|rfl|rfl<;>rfl),ht.one.1,hlen]
def sX(b:Bool)(a:Int)(w:AAE):aL b (.mk 11 0 a w [])=[W w]:=by rw[eM];rfl
def CJ{L:List Tk}{i:Nat}{w:AAE}(h:tok L i=W w):isName L i=true:=by unfold isName;rw[h];rfl
def qN{L:List Tk}{i:Nat}{w:AAE}(h:tok L i=W w):iN L i=.ok (w,i+1):=by unfold iN;rw[aF (CJ h),h];rfl
def dV{L:List Tk}{i:Nat}{s:AAE}(h:tok L i=O s):aW L i s=.ok ((),i+1):=by
 unfold aW;rw[aF (by rw[eZ h];simp[eH])]
def aaU{t:T}(h:isWord t):RdB mI (λ_=>true) t:=by
 obtain⟨a,w,rfl,h⟩:=h;intro L i hst;have hlen:len (.mk 11 0 a w [])=1:=by unfold len;rw[sX];rfl
 refine⟨.mk 11 0 i w [],bY bQ,λ_ b=>?_⟩;have ht:=hst b;rw[sX]at ht
 show mI (L b) i=_
 unfold mI;rw[qN ht.one.1,hlen];rfl
def aBC(b:Bool)(l:List T):(aR (l.map (aL b))).length=(aR (l.map (aL false))).length:=Cz _ _ Dr
def Oh{ι:Type}(bi:ι->Bool)(L:ι->List Tk)(read:ι->Nat->R T)(S:Tk->Bool)(hc:S (O jS)=true)(hR:S (O dA)=true)(l:List T)(hne:l≠[])(hl:∀ x,x∈l->Rd bi L read S x)(i:Nat)(hst:∀ b,cW (L b) i (bI (l.map (aL (bi b))))):∃ l',dK l' l=true/\∀ b most,l.length<=most->tok (L b) i=O cJ/\eR (L b) most (read b) (i+1)=.ok (l',i+1+(aR (l.map (aL false))).length)/\tok (L b) (i+1+(aR (l.map (aL false))).length)=O dA:=by
 obtain⟨l',h1,h2⟩:=abG bi L read S hc l hne hl (i+1) (λb=>(cW.app (hst b).cons.2.1).1);have ht:∀ b,tok (L b) (i+1+(aR (l.map (aL false))).length)=O dA:=λb=>by
  have:=(cW.app (hst b).cons.2.1).2;rw[aBC]at this;exact this.one.1
 exact⟨l',h1,λb most hm=>⟨(hst b).cons.1,h2 (λb=>⟨by rw[ht b];exact hR,by rw[eZ (ht b)];decide +kernel⟩) b most hm,ht b⟩⟩
def aGU(n:Nat):Bool:=decide (nH (Nm n)=some n)
def aGM: ∀ n:Fin 1001,aGU n.val=true:=by decide +kernel
def afD{n:Int}(h0:0<=n)(h1:n<=1000):nH (Nm n)=some n.toNat:=by
 have:=aGM ⟨n.toNat,by omega⟩;unfold aGU at this;simp only[dX]at this
 rwa[show ((n.toNat:Nat):Int)=n from by omega]at this
def LA{L:List Tk}{i:Nat}{n:Int}(h:tok L i=Nm n)(lo hi:Nat)(h0:(lo:Int)<=n)(h1:n<=hi)(h2:hi<=1000):gO L lo hi i=.ok (n.toNat,i+1):=by
 unfold gO;rw[h,afD aB aB]
 show (if lo<=n.toNat/\n.toNat<=hi then _ else _)=_
 rw[aF aB]
def fu{N:Nat}(b:Bool)(f:Nat)(h:N<=f):Fu N:=⟨(b,f),h⟩
def RdN(read:List Tk->Nat->Nat->R T)(S:Tk->Bool)(t:T):Prop:=∀ (L:Bool->List Tk) (N:Nat),len t<=N->Rd (ι:=Fu N) (λp=>p.1.1) (λp=>L p.1.1) (λp=>read (L p.1.1) p.1.2) S t
section
variable(b:Bool)(n a:Int)
include b n a
theorem Ub(w:AAE)(l:List T)(h:isConst (part l 0)=false):aL b (.mk 42 n a w l)=Nm n::bI (l.map (aL b)):=by
 rw[eM]
 show (if isConst (part l 0)=true then _ else _)=_
 rw[h];rfl
theorem Gt(w:AAE)(c:T)(h:isConst c=true):aL b (.mk 42 n a w [c])=O cJ::Nm n::O dA::aL b c:=by
 rw[eM]
 show (if isConst c=true then _ else _)=_
 rw[h];rfl
theorem UF(c:T):aL b (.mk 41 n a wP [c])=W wP::aL b c:=by
 rw[eM]
 show W wP::(if _ then _ else _)=_
 rw[aC (by rintro (⟨_,h⟩|⟨_,h,_⟩)<;>exact absurd rfl h)];rfl
theorem UE(w:AAE):aL b (.mk 41 n a w [])=[W w]:=by
 rw[eM]
 show W w::(if _ then _ else _)=_
 rw[aC (by rintro (⟨_,h⟩|⟨_,_,h⟩)<;>exact absurd rfl h)];rfl
theorem Uo(w:AAE)(l:List T)(hw:w≠wP)(hl:l≠[]):aL b (.mk 41 n a w l)=W w::bI (l.map (aL b)):=by
 rw[eM]
 show W w::(if _ then _ else _)=_
 rw[aF (.inr ⟨rfl,hw,hl⟩)]
end
def aAI{t:T}(h:V .fmt t):t.kind=42\/t.kind=41:=by cases h<;>simp[T.kind]
def NX{l:List T}(hne:l≠[])(hl:∀ x,x∈l->V .fmt x):isConst (part l 0)=false:=by
 cases l with
 | nil=>exact absurd rfl hne
 | cons x r=>
  have:=aAI (hl x (eW ..))
  show isConst x=false
  unfold isConst
  rcases this with e|e<;>(rw[e];rfl)
def Yl{t:T}(h:V .fmt t)(b:Bool):aL b t≠[]:=by
 cases h with
 | fmtN n a l h1 h2 hne hl=>rw[Ub _ _ _ _ _ (NX hne hl)];exact wH
 | fmtP a c h=>rw[UF];exact wH
 | fmt a w l hw h h2 hl=>
  by_cases hn:l=[]
  ·subst hn;rw[UE];exact wH
  ·rw[Uo _ _ _ _ _ hw hn];exact wH
def Fm2: So->T->Prop
 | .fmt,t=>RdN hJ (CC [cJ]) t
 | _,_=>True
def aaR{l:List T}(h:∀ x,x∈l->1<=len x):l.length<=(aR (l.map (aL false))).length:=by
 induction l with
 | nil=>simp
 | cons x r ih=>
  have h1:=h x (eW ..);have h2:=ih λy hy=>h y (jZ _ hy)
  cases r with
  | nil=>exact h1
  | cons y r=>
   show _<=(aL false x++O jS::aR ((y::r).map (aL false))).length
   rw[aO,aV];simp only[aV]at h2 ⊢
   unfold len at h1;omega
def aJZ{s:So}{t:T}(h:V s t):Fm2 s t:=by
 induction h with
 | fmtN n a l h1 h2 hne hl ih=>
  intro L N hN i hst;have hic:isConst (part l 0)=false:=NX hne hl;have hlen:len (.mk 42 n a e0 l)=(aR (l.map (aL false))).length+3:=by unfold len;rw[Ub _ _ _ _ _ hic];simp[bI]
  rw[hlen]at hN ⊢;have hst':∀ b,cW (L b) i (Nm n::bI (l.map (aL b))):=λb=>by
   have:cW (L b) i (aL b (.mk 42 n a e0 l)):=hst (fu b N (aG _))
   rwa[Ub b n a e0 l hic]at this
  obtain⟨M,rfl⟩:∃ M,N=M+1:=⟨N - 1,by omega⟩
  obtain⟨l',hl1,hl2⟩:=Oh (ι:=Fu M) (λp=>p.1.1) (λp=>L p.1.1) (λp=>hJ (L p.1.1) p.1.2) (CC [cJ]) aE aE l hne
   (λx hx=>ih x hx L M (by have:=abF hx;omega)) (i+1) (λp=>(hst' p.1.1).cons.2.1)
  refine⟨.mk 42 n i e0 l',bY hl1,λ_ p=>?_⟩;obtain⟨⟨b,f⟩,hf⟩:=p;simp only
  obtain⟨f,rfl⟩:∃ g,f=g+1:=⟨f - 1,by simp only at hf;omega⟩
  have hM:M<=f:=by simp only at hf;omega
  have hcnt:l.length<=(L b).length:=by
   have hp := aaR (l := l) (λx hx => by
     have := Yl (hl x hx) false
     unfold len
     rcases Nat.eq_zero_or_pos (aL false x).length with e | e
     · exact absurd (kU e) this
     · exact e)
   have:=(hst' b).fit aI;rw[aV,show (bI (l.map (aL b))).length=(aR (l.map (aL b))).length+2 by simp[bI],aBC]at this;omega
  obtain⟨g1,g2,g3⟩:=hl2 (fu b f hM) (L b).length hcnt;replace g1:tok (L b) (i+1)=O cJ:=g1;replace g3:tok (L b) (i+1+1+(aR (l.map (aL false))).length)=O dA:=g3;have ht:=(hst' b).cons;unfold hJ;rw[aF (by rw[ht.1];rfl),LA ht.1 1 100 aB aB aB]
  show (aH (aW (L b) (i+1) cJ) _)=_
  rw[dV g1]
  show (aH (eR (L b) (L b).length (hJ (L b) f) (i+1+1)) _)=_
  rw[show eR (L b) (L b).length (hJ (L b) f) (i+1+1)=_ from g2]
  show (aH (aW (L b) _ dA) _)=_
  rw[dV g3]
  show Except.ok (T.mk 42 (n.toNat:Int) i e0 l',_)=_
  rw[show ((n.toNat:Nat):Int)=n from by omega]
  congr 2
  omega
 | fmtP a c h=>
  intro L N hN i hst;obtain⟨a',w,rfl,hc⟩:=h;have hlen:len (.mk 41 0 a wP [.mk 1 4 a' w []])=2:=by unfold len;rw[UF,lR];rfl
  rw[hlen]at hN ⊢;refine⟨.mk 41 0 i wP [.mk 1 4 ((i+1:Nat):Int) w []],bY (bG (bY bQ) bQ),λ_ p=>?_⟩;obtain⟨⟨b,f⟩,hf⟩:=p;simp only
  obtain⟨f,rfl⟩:∃ g,f=g+1:=⟨f - 1,by simp only at hf;omega⟩
  have hs:cW (L b) i [W wP,⟨4,w⟩]:=by
   have:cW (L b) i (aL b (.mk 41 0 a wP [.mk 1 4 a' w []])):=hst (fu b N (aG _))
   rwa[UF b 0 a _,lR]at this
  have h1:=hs.cons;have h2:=h1.2.1.one;unfold hJ;rw[aC (by rw[h1.1];decide),qN h1.1];unfold aH;simp only[↓reduceIte]
  rw[aF (by rw[h2.1])];unfold cQ;rw[aF (by unfold dP;rw[h2.1];rfl),h2.1]
 | fmt a w l hw h h2 hl=>
  intro L N hN i hst
  by_cases hne:l=[]
  ·subst hne;have hlen:len (.mk 41 0 a w [])=1:=by unfold len;rw[UE];rfl
   rw[hlen]at hN ⊢;refine⟨.mk 41 0 i w [],bY bQ,λhS p=>?_⟩;have hS':=Cu (hS p);obtain⟨⟨b,f⟩,hf⟩:=p;simp only at hS' ⊢
   obtain⟨f,rfl⟩:∃ g,f=g+1:=⟨f - 1,by simp only at hf;omega⟩
   have hs:cW (L b) i [W w]:=by
    have:cW (L b) i (aL b (.mk 41 0 a w [])):=hst (fu b N (aG _))
    rwa[UE b 0 a w]at this
   unfold hJ;rw[aC (by rw[hs.one.1];exact(by decide:¬ (1:Int)=2)),qN hs.one.1]
   show (if w=wP then _ else _)=_
   rw[aC hw,aC (by rw[hS'];decide)]
  ·have hlen:len (.mk 41 0 a w l)=(aR (l.map (aL false))).length+3:=by unfold len;rw[Uo _ _ _ _ _ hw hne];simp[bI]
   rw[hlen]at hN ⊢;have hst':∀ b,cW (L b) i (W w::bI (l.map (aL b))):=λb=>by
    have:cW (L b) i (aL b (.mk 41 0 a w l)):=hst (fu b N (aG _))
    rwa[Uo b 0 a w l hw hne]at this
   obtain⟨l',hl1,hl2⟩:=Oh (λb=>b) L (λb=>cQ (L b)) (λ_=>true) rfl rfl l hne (λx hx=>aHt (hl x hx) L) (i+1) (λb=>(hst' b).cons.2.1);refine⟨.mk 41 0 i w l',bY hl1,λ_ p=>?_⟩;obtain⟨⟨b,f⟩,hf⟩:=p;simp only
   obtain⟨f,rfl⟩:∃ g,f=g+1:=⟨f - 1,by simp only at hf;omega⟩
   have h1:=(hst' b).cons;obtain⟨g1,g2,g3⟩:=hl2 b 2 h2;unfold hJ;rw[aC (by rw[h1.1];exact(by decide:¬ (1:Int)=2)),qN h1.1]
   show (if w=wP then _ else _)=_
   rw[aC hw,aF Ig];rw[show eR (L b) 2 (cQ (L b)) (i+1+1)=_ from g2]
   show (aH (aW (L b) _ dA) _)=_
   rw[dV g3]
   show Except.ok (T.mk 41 0 i w l',_)=_
   congr 2
   omega
 | _=>trivial
def aIo{t:T}(h:V .fmt t):RdB uZ (CC [cJ]) t:=by
 intro L i hst;obtain⟨t',h1,h2⟩:=(aJZ h:RdN hJ (CC [cJ]) t) L (len t) (aG _) i (λp=>hst p.1.1);refine⟨t',h1,λhS b=>h2 (λp=>hS p.1.1) (fu b ((L b).length+1) ?_)⟩;have:=(hst b).fit (Yl h b);rw[eV]at this;omega
end Px
end
section
namespace Px
open Lx
def Op2(b:Bool)(t:T):Prop:=(∀ y r,t.kind=6->aL b t=y::r->y.kind=2->∃ w r',r=O w::r'/\0<=level w)/\(∀ s,aL b t=O cJ::s->∃ y r,s=y::r/\(y.kind=2->∃ w r',r=O w::r'/\0<=level w))
def Om(b:Bool):So->T->Prop
 | .expr,t=>Op2 b t
 | _,_=>True
def NK{b:Bool}{t:T}(h:V .expr t)(hk:t.kind≠6)(hu:t.kind≠5):∀ s,aL b t≠O cJ::s:=by
 intro s e
 cases h with
 | const n a w h=>rw[lR]at e;cases e;rcases h.1 with h|h|h|h<;>exact absurd h aD
 | ref a ps h1 h8 h=>
  obtain⟨x,g1,_,g3⟩:=xN (V.ref a ps h1 h8 h);obtain⟨r,hr⟩:=g1 b;rw[e]at hr;cases hr;exact absurd (g3 (.inl (.inl rfl))) aD
 | ptr a x y hx hr hy h2=>
  obtain⟨z,g1,_,g3⟩:=xN (V.ptr a x y hx hr hy h2);obtain⟨r,hr⟩:=g1 b;rw[e]at hr;cases hr;exact absurd (g3 (.inl (.inr rfl))) aD
 | un a w x hw hx=>exact hu rfl
 | bin a w x y hw hx hy=>exact hk rfl
def aFq{s:So}{t:T}(b:Bool)(h:V s t):Om b s t:=by
 induction h with
 | const n a w h=>exact⟨λy r hk=>absurd hk fZ,λs e=>absurd e (NK (V.const n a w h) fZ fZ s)⟩
 | ref a ps h1 h8 h ih=>exact⟨λy r hk=>absurd hk fZ,λs e=>absurd e (NK (V.ref a ps h1 h8 h) fZ fZ s)⟩
 | ptr a x y hx hr hy h2 ihx ihy=>exact⟨λy r hk=>absurd hk fZ,λs e=>absurd e (NK (V.ptr a x y hx hr hy h2) fZ fZ s)⟩
 | un a w x hw hx ih=>
  refine⟨λy r hk=>absurd hk fZ,λs e=>?_⟩;rw[Ij]at e
  injection e with e1 e2
  rcases hw with rfl|rfl|rfl<;>exact absurd e1 aD
 | bin a w x y hw hx hy ihx ihy=>
  have hne:=WJ hx b
  by_cases hb:x.kind=6/\level x.word<level w
  ·have e0:aL b (.mk 6 0 a w [x,y])=O cJ::(aL b x++(O dA::(O w::operand y (aL b y) (level w+1)))):=by
    rw[Gh]
    show operand x (aL b x) (level w)++_=_
    unfold operand;rw[aF hb]
    simp[bI,aR]
   refine⟨λz r _ e hz=>?_,λs e=>?_⟩
   ·rw[e0]at e;injection e with e1 _;rw[<- e1]at hz;exact absurd hz aD
   ·rw[e0]at e;injection e with _ e2;obtain⟨z,rx,hx0⟩:∃ z rx,aL b x=z::rx:=by
     cases hh:aL b x with
     | nil=>exact absurd hh hne
     | cons z rx=>exact⟨z,rx,rfl⟩
    rw[hx0]at e2;refine⟨z,rx++(O dA::(O w::operand y (aL b y) (level w+1))),e2.symm,λhz=>?_⟩;obtain⟨w',r',h1,h2⟩:=ihx.1 z rx hb.1 hx0 hz;exact⟨w',r'++(O dA::(O w::operand y (aL b y) (level w+1))),by rw[h1];rfl,h2⟩
  ·have e0:aL b (.mk 6 0 a w [x,y])=aL b x++O w::operand y (aL b y) (level w+1):=by
    rw[Gh]
    show operand x (aL b x) (level w)++_=_
    conv=>lhs;unfold operand
    rw[aC hb];rfl
   obtain⟨z,rx,hx0⟩:∃ z rx,aL b x=z::rx:=by
    cases hh:aL b x with
    | nil=>exact absurd hh hne
    | cons z rx=>exact⟨z,rx,rfl⟩
   refine⟨λz' r _ e hz=>?_,λs e=>?_⟩
   ·rw[e0,hx0]at e
    injection e with e1 e2
    subst e1
    by_cases h6:x.kind=6
    ·obtain⟨w',r',h1,h2⟩:=ihx.1 z rx h6 hx0 hz;exact⟨w',r'++O w::operand y (aL b y) (level w+1),by rw[<- e2,h1];rfl,h2⟩
    ·cases hx with
     | const n a' w' h'=>
      rw[lR]at hx0
      cases hx0
      exact⟨w,operand y (aL b y) (level w+1),e2.symm,hw⟩
     | ref a' ps h1 h8 h=>
      obtain⟨q,g1,_,g3⟩:=xN (V.ref a' ps h1 h8 h);obtain⟨r',hr'⟩:=g1 b;rw[hx0]at hr';cases hr';rw[g3 (.inl (.inl rfl))]at hz;exact absurd hz aD
     | ptr a' x1 y1 hx1 hr1 hy1 h2=>
      obtain⟨q,g1,_,g3⟩:=xN (V.ptr a' x1 y1 hx1 hr1 hy1 h2);obtain⟨r',hr'⟩:=g1 b;rw[hx0]at hr';cases hr';rw[g3 (.inl (.inr rfl))]at hz;exact absurd hz aD
     | un a' w' x1 hw' hx1=>
      rw[Ij]at hx0
      cases hx0
      exact absurd hz (by simp[O])
     | bin a' w' x1 y1 hw' hx1 hy1=>exact absurd rfl h6
   ·rw[e0,hx0]at e
    injection e with e1 e2
    subst e1;obtain⟨q,r,h1,h2⟩:=ihx.2 rx hx0;refine⟨q,r++O w::operand y (aL b y) (level w+1),by rw[<- e2,h1];rfl,λhq=>?_⟩;obtain⟨w',r',h3,h4⟩:=h2 hq;exact⟨w',r'++O w::operand y (aL b y) (level w+1),by rw[h3];rfl,h4⟩
 | _=>trivial
def akW{x:Tk}{n:Nat}(h:nH x=some n):x.kind=2:=by
 unfold nH at h
 split at h
 ·rename_i hc;exact hc.1
 ·cases h
def axQ{x:T}(h:V .arg x){L:List Tk}{b:Bool}{i:Nat}(hst:cW L i (aL b x)):eC L i=cV L (dB L) i:=by
 unfold eC;simp only
 cases hw:nH (tok L (i+1)) with
 | none=>rfl
 | some n=>
  simp only
  rw[aC];intro hc;simp only[bA]at hc
  have h1:=hc.1.1.1.1;have h2:=hc.1.2
  cases h with
  | star a=>
   rw[BV]at hst;rw[eZ hst.one.1]at h1;exact absurd h1 aE
  | arg _ he=>
   obtain⟨z,rx,hx0⟩:∃ z rx,aL b x=z::rx:=by
    cases hh:aL b x with
    | nil=>exact absurd hh (WJ he b)
    | cons z rx=>exact⟨z,rx,rfl⟩
   rw[hx0]at hst;have ht:=hst.cons;have hz:z=O cJ:=by
    unfold cD at h1;rw[ht.1]at h1;simp only[bA,kW]at h1
    have:=(eX _ _).1 h1.2;obtain⟨k,s⟩:=z;simp only at h1 this
    obtain⟨rfl,_⟩:=h1;rw[cO.1 this];rfl
   subst hz;obtain⟨y,r,h3,h4⟩:=(aFq b he).2 rx hx0;rw[h3]at ht;have ht2:=ht.2.1.cons;obtain⟨w,r',h5,h6⟩:=h4 (by rw[<- ht2.1];exact akW hw);rw[h5]at ht2;have ht3:=ht2.2.1.cons;rw[eZ ht3.1]at h2;have:=(eX _ _).1 h2;rw[cO.1 this]at h6;exact absurd h6 aE
def rd_val{t:T}(h:V .val t):RdB eC (qD 6) t:=by
 cases h with
 | val _ ha=>
  intro L i hst;obtain⟨t',h1,h2⟩:=aHc ha L i hst;exact⟨t',h1,λhS b=>(axQ ha (hst b)).trans (h2 hS b)⟩
 | valR n a c h1 h2 hc=>
  have hN:∀ {L:List Tk} {i:Nat},tok L (i+1)=Nm n->nH (tok L (i+1))=some n.toNat:=λh=>by rw[h];exact afD aB h2
  have hd1:decide (1<=n.toNat)=true:=eQ aB;have hd2:decide (n.toNat<=1000)=true:=eQ aB
  rcases hc with ⟨k,a',w,rfl,hk⟩|⟨a',w,c',rfl,hw,k,a2,w2,rfl,hk⟩
  ·have hic:isConst (.mk 1 k a' w [])=true:=rfl;intro L i hst;have hlen:len (.mk 42 n a e0 [.mk 1 k a' w []])=4:=by unfold len;rw[Gt _ _ _ _ _ hic,lR];rfl
   refine⟨.mk 42 n i e0 [.mk 1 k ((i+3:Nat):Int) w []],bY (bG (bY bQ) bQ),λ_ b=>?_⟩;have hs:cW (L b) i [O cJ,Nm n,O dA,⟨k,w⟩]:=by
    have:cW (L b) i (aL b (.mk 42 n a e0 [.mk 1 k a' w []])):=hst b
    rwa[Gt _ _ _ _ _ hic,lR]at this
   have t0:=hs.cons;have t1:=t0.2.1.cons;have t2:=t1.2.1.cons;have t3:tok (L b) (i+3)=⟨k,w⟩:=t2.2.1.one.1;have hn6:(k==6)=false:=by rcases hk.1 with rfl|rfl|rfl|rfl<;>rfl
   have hsg:cD (L b) (i+3) [jR,gG,rA]=false:=by rw[Ms t3,hn6];rfl
   have hcn:dP (L b) (i+3)=true:=by unfold dP;rw[t3];rcases hk.1 with rfl|rfl|rfl|rfl<;>rfl
   show eC (L b) i=_
   unfold eC;simp only
   rw[hN t1.1];simp only
   rw[show cD (L b) i [cJ]=true by(rw[eZ t0.1];decide +kernel),hd1,hd2,show cD (L b) (i+2) [dA]=true by(rw[eZ t2.1];decide +kernel),hsg];simp only[qV,FY,if_false,hcn,if_true]
   unfold cQ;rw[aF hcn,t3]
   show Except.ok (T.mk 42 ((n.toNat:Nat):Int) i e0 _,_)=_
   rw[show ((n.toNat:Nat):Int)=n from by omega,hlen]
  ·have hic:isConst (.mk 5 0 a' w [.mk 1 k a2 w2 []])=true:=rfl;have hpr:∀ b,aL b (.mk 5 0 a' w [.mk 1 k a2 w2 []])=[O w,⟨k,w2⟩]:=λb=>by
    rw[Ij];unfold operand;rw[aC (λh=>absurd h.1 (show ¬ (1:Int)=6 by decide)),lR]
   intro L i hst;have hlen:len (.mk 42 n a e0 [.mk 5 0 a' w [.mk 1 k a2 w2 []]])=5:=by unfold len;rw[Gt _ _ _ _ _ hic,hpr];rfl
   refine⟨.mk 42 n i e0 [.mk 5 0 ((i+3:Nat):Int) w [.mk 1 k ((i+4:Nat):Int) w2 []]],bY (bG (bY (bG (bY bQ) bQ)) bQ),λ_ b=>?_⟩;have hs:cW (L b) i [O cJ,Nm n,O dA,O w,⟨k,w2⟩]:=by
    have:cW (L b) i (aL b (.mk 42 n a e0 [.mk 5 0 a' w [.mk 1 k a2 w2 []]])):=hst b
    rwa[Gt _ _ _ _ _ hic,hpr]at this
   have t0:=hs.cons;have t1:=t0.2.1.cons;have t2:=t1.2.1.cons;have t3':=t2.2.1.cons;have t3:tok (L b) (i+3)=O w:=t3'.1;have t4:tok (L b) (i+4)=⟨k,w2⟩:=t3'.2.1.one.1;have hsg:cD (L b) (i+3) [jR,gG,rA]=true:=by rw[eZ t3];rcases hw with rfl|rfl|rfl<;>decide +kernel
   have hcn:dP (L b) (i+4)=true:=by unfold dP;rw[t4];rcases hk.1 with rfl|rfl|rfl|rfl<;>rfl
   show eC (L b) i=_
   unfold eC;simp only
   rw[hN t1.1];simp only
   rw[show cD (L b) i [cJ]=true by(rw[eZ t0.1];decide +kernel),hd1,hd2,show cD (L b) (i+2) [dA]=true by(rw[eZ t2.1];decide +kernel),hsg];simp only[qV,hcn,if_true]
   unfold cQ;rw[aF hcn,t4,t3]
   show Except.ok (T.mk 42 ((n.toNat:Nat):Int) i e0 _,_)=_
   rw[show ((n.toNat:Nat):Int)=n from by omega,hlen];rfl
def LX{L:List Tk}{i j:Nat}{s0 s:AAE}(h:iN L i=.ok (s0,j))(hs:nG s0=s):dS L i =
 if s=iC then(if (tok L j).kind=4 then aH (cQ L j) λx j'=>.ok (.mk 50 0 i s [x],j')else .error j)
 else if s=uH then aH (mG L (dB L) j) λx j'=>.ok (.mk 50 0 i s [x],j')
 else if cD L j [cJ]then
  (if cD L (j+1) [dA]then .ok (.mk 50 1 i s [],j+2)
   else aH (eR L 60 (eC L) (j+1)) λl j'=>aH (aW L j' dA) λ_ j2=>.ok (.mk 50 1 i s l,j2))
 else .ok (.mk 50 0 i s [],j):=by subst hs;unfold dS;rw[h];rfl
def aiX{w:AAE}(h:nG w=w):nG (mJ w)=w:=by
 unfold mJ
 by_cases h1:w=vY
 ·rw[aF h1,h1];decide +kernel
 rw[aC h1]
 by_cases h2:w=Db
 ·rw[aF h2,h2];decide +kernel
 rw[aC h2]
 by_cases h3:w=FF
 ·rw[aF h3,h3];decide +kernel
 rw[aC h3]
 by_cases h4:w=iC
 ·rw[aF h4,h4];decide +kernel
 rw[aC h4]
 by_cases h5:w=Cw
 ·rw[aF h5,h5];decide +kernel
 rw[aC h5]
 by_cases h6:w=Cq
 ·rw[aF h6,h6];decide +kernel
 rw[aC h6]
 by_cases h7:w=Cv
 ·rw[aF h7,h7];decide +kernel
 rw[aC h7]
 by_cases h8:w=vU
 ·rw[aF h8,h8];decide +kernel
 rw[aC h8]
 by_cases h9:w=tM
 ·rw[aF h9,h9];decide +kernel
 rw[aC h9]
 by_cases h10:w=CW
 ·rw[aF h10,h10];decide +kernel
 rw[aC h10];exact h
def kA(b:Bool)(a:Int)(w:AAE):ByteArray:=kw b a w (mJ w)
def Ni{w:AAE}(h:nG w=w)(b:Bool)(a:Int):nG (kA b a w)=w:=by
 unfold kA kw
 split
 ·exact aiX h
 ·exact h
def qI(b:Bool)(a:Int)(w:AAE)(l:List T):aL b (.mk 50 0 a w l)=W (kA b a w)::aR (l.map (aL b)):=by
 rw[eM]
 show W (kA b a w)::(if _ then _ else _)=_
 rw[aC (by rintro (⟨h,_⟩|⟨h,_⟩)<;>exact absurd h aD)]
def Hw(b:Bool)(a:Int)(w:AAE)(l:List T):aL b (.mk 50 1 a w l)=W (kA b a w)::bI (l.map (aL b)):=by
 rw[eM]
 show W (kA b a w)::(if _ then _ else _)=_
 rw[aF (.inl ⟨rfl,by decide⟩)]
def Cr{t:T}(h:V .attr t)(b:Bool):∃ w r,aL b t=W w::r:=by
 cases h with
 | attrP a c h=>rw[qI];exact⟨_,_,rfl⟩
 | attrL a x h h2=>rw[qI];exact⟨_,_,rfl⟩
 | attr0 a w h h1 h2 h3=>rw[qI];exact⟨_,_,rfl⟩
 | attr1 a w l h h1 h2 h3 h60 hl=>rw[Hw];exact⟨_,_,rfl⟩
def asD{t:T}(h:V .val t)(b:Bool):∃ x r,aL b t=x::r/\(x.kind=6->x.text≠dA):=by
 cases h with
 | val _ ha=>
  cases ha with
  | arg _ he=>
   obtain⟨x,h1,h2,_⟩:=xN he;obtain⟨r,hr⟩:=h1 b;exact⟨x,r,hr,λhk=>by rcases h2 hk with e|e|e|e<;>(rw[e];decide +kernel)⟩
  | star a=>exact⟨_,_,BV b _ _ _ _,λ_=>by decide +kernel⟩
 | valR n a c h1 h2 hc=>
  have hic:isConst c=true:=by
   exact Qa
  exact⟨_,_,Gt b _ _ _ _ hic,λ_=>by decide +kernel⟩
def apM{t:T}(h:V .attr t):RdB dS xB t:=by
 intro L i hst
 cases h with
 | attrP a c h=>
  obtain⟨a',w,rfl,hc⟩:=h;have hlen:len (.mk 50 0 a iC [.mk 1 4 a' w []])=2:=by unfold len;rw[qI];rfl
  refine⟨.mk 50 0 i iC [.mk 1 4 ((i+1:Nat):Int) w []],bY (bG (bY bQ) bQ),λ_ b=>?_⟩;have hs:cW (L b) i [W (kA b a iC),⟨4,w⟩]:=by
   have:cW (L b) i (aL b (.mk 50 0 a iC [.mk 1 4 a' w []])):=hst b
   rwa[qI]at this
  have h1:=hs.cons;have h2:=h1.2.1.one
  show dS (L b) i=_
  rw[LX (qN h1.1) (Ni aE b a),aF rfl,aF (by rw[h2.1])];unfold cQ;rw[aF (by unfold dP;rw[h2.1];rfl),h2.1,hlen];rfl
 | attrL a x h h2=>
  have hpr:∀ b,aL b (.mk 50 0 a uH [x])=W (kA b a uH)::aL b x:=λb=>qI b a uH [x]
  have hlen:len (.mk 50 0 a uH [x])=1+len x:=by unfold len;rw[hpr,aV];omega
  have hs:∀ b,cW (L b) i (W (kA b a uH)::aL b x):=λb=>by
   have:cW (L b) i (aL b (.mk 50 0 a uH [x])):=hst b
   rwa[hpr]at this
  obtain⟨x',hx1,hx2⟩:=aDG h h2 L (i+1) (λb=>(hs b).cons.2.1);refine⟨.mk 50 0 i uH [x'],bY (bG hx1 bQ),λhS b=>?_⟩;rw[hlen,<- gJ]at hS ⊢;have h1:=(hs b).cons
  show dS (L b) i=_
  rw[LX (qN h1.1) (Ni aE b a),aC aE,aF rfl];rw[show mG (L b) (dB (L b)) (i+1)=_ from hx2 hS b];rfl
 | attr0 a w h h1 h2 h3=>
  have hlen:len (.mk 50 0 a w [])=1:=by unfold len;rw[qI];rfl
  refine⟨.mk 50 0 i w [],bY bQ,λhS b=>?_⟩;have hs:cW (L b) i [W (kA b a w)]:=by
   have:cW (L b) i (aL b (.mk 50 0 a w [])):=hst b
   rwa[qI]at this
  rw[hlen]at hS ⊢
  show dS (L b) i=_
  rw[LX (qN hs.one.1) (Ni h3 b a),aC h1,aC h2,aC (by rw[(EC (hS b)).1];decide)]
 | attr1 a w l h h1 h2 h3 h60 hl=>
  have hlen:len (.mk 50 1 a w l)=(aR (l.map (aL false))).length+3:=by unfold len;rw[Hw];simp[bI]
  have hs:∀ b,cW (L b) i (W (kA b a w)::bI (l.map (aL b))):=λb=>by
   have:cW (L b) i (aL b (.mk 50 1 a w l)):=hst b
   rwa[Hw]at this
  cases l with
  | nil=>
   refine⟨.mk 50 1 i w [],bY bQ,λ_ b=>?_⟩;have g1:=(hs b).cons;have g2:=g1.2.1.cons;have g3:tok (L b) (i+1+1)=O dA:=g2.2.1.one.1
   show dS (L b) i=_
   rw[LX (qN g1.1) (Ni h3 b a),aC h1,aC h2,aF (by rw[eZ g2.1];decide +kernel),aF (by rw[eZ g3];decide +kernel),hlen];rfl
  | cons x r=>
   obtain⟨l',hl1,hl2⟩:=Oh (λb=>b) L (λb=>eC (L b)) (qD 6) aE aE (x::r) aI (λy hy=>rd_val (hl y hy) L) (i+1) (λb=>(hs b).cons.2.1);refine⟨.mk 50 1 i w l',bY hl1,λ_ b=>?_⟩;have g1:=(hs b).cons;obtain⟨k1,k2,k3⟩:=hl2 b 60 h60;have hnr:cD (L b) (i+1+1) [dA]=false:=by
    obtain⟨y,s,q1,q2⟩:=asD (hl x (eW ..)) b;have q3:cW (L b) (i+1+1) (aR ((x::r).map (aL b))):=(cW.app g1.2.1.cons.2.1).1;have q4:tok (L b) (i+1+1)=y:=by
     cases r with
     | nil=>
      have:cW (L b) (i+1+1) (aL b x):=q3;rw[q1]at this;exact this.cons.1
     | cons z r=>
      have:=(cW.app q3).1;rw[q1]at this;exact this.cons.1
    exact nL q4 q2
   show dS (L b) i=_
   rw[LX (qN g1.1) (Ni h3 b a),aC h1,aC h2,aF (by rw[eZ k1];decide +kernel),aC (by rw[hnr];decide)];rw[show eR (L b) 60 (eC (L b)) (i+1+1)=_ from k2]
   show (aH (aW (L b) _ dA) _)=_
   rw[dV k3]
   show Except.ok (T.mk 50 1 i w l',_)=_
   rw[hlen]
   congr 2
   omega
def aiI(L:Bool->List Tk):∀ (aSq:List T),(∀ x,x∈aSq->V .attr x)->∀ i,(∀ b,cW (L b) i ((aSq.map (aL b)).flatten))->∃ as',dK as' aSq=true/\((∀ b,isName (L b) (i+((aSq.map (aL false)).flatten).length)=false/\xB (tok (L b) (i+((aSq.map (aL false)).flatten).length))=true)->∀ b acc n,aSq.length<=n->jC (L b) n acc i=.ok (acc++as',i+((aSq.map (aL false)).flatten).length)):=by
 intro aSq
 induction aSq with
 | nil=>
  intro _ i _;refine⟨[],bQ,λhS b acc n _=>?_⟩
  cases n with
  | zero=>unfold jC;simp
  | succ n=>unfold jC;rw[aC (by have:=(hS b).1;simp at this;rw[this];decide)];simp
 | cons x r ih=>
  intro hv i hst;have hst:∀ b,cW (L b) i (aL b x++(r.map (aL b)).flatten):=hst;have hrest:∀ b,cW (L b) (i+len x) ((r.map (aL b)).flatten):=λb=>by
   exact GX
  obtain⟨x',hx1,hx2⟩:=apM (hv x (eW ..)) L i (λb=>(cW.app (hst b)).1);obtain⟨r',hr1,hr2⟩:=ih (λy hy=>hv y (jZ _ hy)) (i+len x) hrest;have hlen:i+(((x::r).map (aL false)).flatten).length=i+len x+((r.map (aL false)).flatten).length:=by
   show i+(aL false x++(r.map (aL false)).flatten).length=_
   rw[aO];unfold len;omega
  refine⟨x'::r',bG hx1 hr1,λhS b acc n hn=>?_⟩;rw[hlen]at hS ⊢;obtain⟨m,rfl⟩:∃ m,n=m+1:=⟨n - 1,by simp at hn;omega⟩
  obtain⟨w,s,hw⟩:=Cr (hv x (eW ..)) b;have hname:tok (L b) i=W w:=by have:=(cW.app (hst b)).1;rw[hw]at this;exact this.cons.1
  have hSx:∀ b,xB (tok (L b) (i+len x))=true:=by
   intro b
   cases r with
   | nil=>have:=(hS b).2;simpa using this
   | cons y r=>
    obtain⟨w2,s2,hw2⟩:=Cr (hv y aI) b;have h3:cW (L b) (i+len x) (aL b y++(r.map (aL b)).flatten):=hrest b;have:=(cW.app h3).1;rw[hw2]at this;rw[this.cons.1];rfl
  unfold jC;rw[aF (CJ hname),show dS (L b) i=_ from hx2 hSx b];unfold aH;simp only
  rw[hr2 hS b (acc++[x']) m Dh]
  simp
end Px
end
section
namespace Px
open Lx
def aqU(x:Tk):Bool:=qD 6 x&&CC [cU] x
def Ou(b:Bool)(n a:Int)(w:AAE)(x y:T)(h:x.kind≠10):aL b (.mk 49 n a w [x,y])=aL b x++O cU::aL b y:=by
 rw[eM]
 show (if x.kind=10 then []else aL b x++[O cU])++aL b y=_
 rw[aC h,bT];rfl
def OB(b:Bool)(n a:Int)(w:AAE)(x y:T)(h:x.kind=10):aL b (.mk 49 n a w [x,y])=aL b y:=by
 rw[eM]
 show (if x.kind=10 then []else aL b x++[O cU])++aL b y=_
 rw[aF h];rfl
def uT{t:T}(h:V .expr t):t.kind≠10:=by
 rcases Yn h with e|e|e|e|e<;>rw[e]<;>decide
def aBU{t:T}(h:V .bound t):RdB pS aqU t:=by
 intro L i hst
 cases h with
 | bound2 a x y hx hy=>
  have hpr:=λb=>Ou b 0 a e0 x y (uT hx)
  have hlen:len (.mk 49 0 a e0 [x,y])=len x+1+len y:=by unfold len;rw[hpr,aO,aV];omega
  have hs:∀ b,cW (L b) i (aL b x++O cU::aL b y):=λb=>by
   have:cW (L b) i (aL b (.mk 49 0 a e0 [x,y])):=hst b
   rwa[hpr]at this
  have hs2:∀ b,tok (L b) (i+len x)=O cU/\cW (L b) (i+len x+1) (aL b y):=λb=>by
   have:=(cW.app (hs b)).2;rw[eV]at this;exact⟨this.cons.1,this.cons.2.1⟩
  obtain⟨x',hx1,hx2⟩:=Gr hx L i (λb=>(cW.app (hs b)).1);obtain⟨y',hy1,hy2⟩:=Gr hy L (i+len x+1) (λb=>(hs2 b).2);refine⟨node 49 i [x',y'],bY (bG hx1 (bG hy1 bQ)),λhS b=>?_⟩;rw[hlen]at hS ⊢
  show pS (L b) i=_
  unfold pS;rw[show dB (L b) i=_ from hx2 (λb=>by rw[(hs2 b).1];decide +kernel) b]
  show (if _ then _ else _)=_
  rw[aF (by rw[eZ (hs2 b).1];decide +kernel)]
  rw[show dB (L b) (i+len x+1)=_ from hy2 (λb=>by
   have:=hS b
   unfold aqU at this
   simp only[bA]at this
   rw[show i+len x+1+len y=i+(len x+1+len y)from by omega];exact this.1) b]
  show Except.ok (node 49 i [x',y'],_)=_
  congr 2
  omega
 | bound1 a x y hx hy=>
  have hk:x.kind=10:=by obtain⟨a,rfl⟩:=hx;rfl
  have hpr:=λb=>OB b 0 a e0 x y hk
  have hlen:len (.mk 49 0 a e0 [x,y])=len y:=by unfold len;rw[hpr]
  obtain⟨y',hy1,hy2⟩:=Gr hy L i (λb=>by
   have:cW (L b) i (aL b (.mk 49 0 a e0 [x,y])):=hst b
   rwa[hpr]at this)
  refine⟨node 49 i [none_,y'],bY (bG (by obtain⟨a,rfl⟩:=hx;exact bY bQ) (bG hy1 bQ)),λhS b=>?_⟩;rw[hlen]at hS ⊢;have hS':∀ b,qD 6 (tok (L b) (i+len y))=true/\CC [cU] (tok (L b) (i+len y))=true:=λb=>by
   have:=hS b;unfold aqU at this
   simpa only[bA]using this
  show pS (L b) i=_
  unfold pS;rw[show dB (L b) i=_ from hy2 (λb=>(hS' b).1) b]
  show (if _ then _ else _)=_
  rw[aC (by rw[Cu (hS' b).2];decide)]
def SI(x:Tk):Bool:=!(x.kind==1)&&xB x
def aqQ{L:List Tk}{i:Nat}(h:SI (tok L i)=true):isName L i=false/\xB (tok L i)=true:=by
 unfold SI at h;simp only[bA,Gx]at h
 exact⟨h.1,h.2⟩
def LK(b:Bool)(n a:Int)(w:AAE)(x bs:T)(aSq:List T):aL b (.mk 48 n a w (x::bs::aSq))=(if n=0 then []else [Nm n])++((if x.kind=40 then bI (x.l.map (aL b))else aL b x)++((if bs.l=[]then []else bI (bs.l.map (aL b)))++(aSq.map (aL b)).flatten)):=by
 rw[eM]
 show (if n=0 then []else [Nm n])++((if x.kind=40 then lY b x else aL b x)++((if bs.l=[]then []else lY b bs)++(aSq.map (aL b)).flatten))=_
 rw[zX,zX]
def pY(b:Bool)(l:List T):(bI (l.map (aL b))).length=(aR (l.map (aL false))).length+2:=by simp[bI,aBC]
def Wi(b:Bool)(l:List T):((l.map (aL b)).flatten).length=((l.map (aL false)).flatten).length:=Hf _ _ Dr
def Oa{x:T}(h:isWord x):x.kind≠40:=by obtain⟨a,w,rfl,_⟩:=h;exact show ¬ (11:Int)=40 by decide
def CY{l l':List T}{a:Int}(h:dK l' l=true):dM (gQ l') (.mk 40 0 a e0 l)=true:=by
 obtain⟨a',e⟩:=AJ l';rw[e];exact bY h
def Im: So->T->Prop
 | .item,t=>RdN mU SI t
 | _,_=>True
def avH{x:T}(hx:isWord x\/∃ a' its,x=.mk 40 0 a' e0 its/\its≠[])(hxs:x.kind=40->x.l.length<=30)(ih:x.kind=40->∀ y,y∈x.l->RdN mU SI y)(L:Bool->List Tk)(M i:Nat)(hM:(if x.kind=40 then bI (x.l.map (aL false))else aL false x).length<=M+1)(hst:∀ b,cW (L b) i (if x.kind=40 then bI (x.l.map (aL b))else aL b x)):(∀ b,(tok (L b) i).kind≠2)/\∃ x',dM x' x=true/\∀ b f,M<=f->(if cD (L b) i [cJ]then aH (eR (L b) 30 (mU (L b) f) (i+1)) λl j'=>aH (aW (L b) j' dA) λ_ j2=>.ok (gQ l,j2)else mI (L b) i)=.ok (x',i+(if x.kind=40 then bI (x.l.map (aL false))else aL false x).length):=by
 rcases hx with hw|⟨a',its,rfl,hne⟩
 ·have hk:=Oa hw;simp only[aC hk]at hst ⊢
  obtain⟨x',h1,h2⟩:=aaU hw L i hst;have ht:∀ b,∃ w,tok (L b) i=W w:=λb=>by
   obtain⟨a,w,rfl,_⟩:=hw;have:=hst b;rw[sX]at this;exact⟨w,this.one.1⟩
  refine⟨λb=>by obtain⟨w,e⟩:=ht b;rw[e];exact show ¬ (1:Int)=2 by decide,x',h1,λb f _=>?_⟩;obtain⟨w,e⟩:=ht b;rw[aC (by rw[yG e];decide)];exact h2 (λ_=>rfl) b
 ·have hk:(T.mk 40 0 a' e0 its).kind=40:=rfl;simp only[aF hk]at hst hM ⊢
  have hst:∀ b,cW (L b) i (bI (its.map (aL b))):=hst;have hM:(bI (its.map (aL false))).length<=M+1:=hM;rw[pY]at hM;obtain⟨l',h1,h2⟩:=Oh (ι:=Fu M) (λp=>p.1.1) (λp=>L p.1.1) (λp=>mU (L p.1.1) p.1.2) SI aE aE its hne
   (λy hy=>ih hk y hy L M (by have:=abF hy;omega)) i (λp=>hst p.1.1)
  refine⟨λb=>by rw[(hst b).cons.1];decide,gQ l',CY h1,λb f hf=>?_⟩;obtain⟨g1,g2,g3⟩:=h2 (fu b f hf) 30 (hxs hk);replace g1:tok (L b) i=O cJ:=g1;replace g3:tok (L b) (i+1+(aR (its.map (aL false))).length)=O dA:=g3;rw[aF Ig,show eR (L b) 30 (mU (L b) f) (i+1)=_ from g2]
  show (aH (aW (L b) _ dA) _)=_
  rw[dV g3]
  show Except.ok (gQ l',_)=Except.ok (gQ l',i+(bI (its.map (aL false))).length)
  rw[pY]
  congr 2
  omega
def ahF{lb:List T}{ab:Int}(hbs:lb.length<=3)(hbv:∀ y,y∈lb->V .bound y)(L:Bool->List Tk)(i:Nat)(hst:∀ b,cW (L b) i (if lb=[]then []else bI (lb.map (aL b)))):∃ x',dM x' (.mk 40 0 ab e0 lb)=true/\((∀ b,xB (tok (L b) (i+(if lb=[]then []else bI (lb.map (aL false))).length))=true)->∀ b,(if cD (L b) i [cJ]then aH (eR (L b) 3 (pS (L b)) (i+1)) λl j'=>aH (aW (L b) j' dA) λ_ j2=>.ok (gQ l,j2)else .ok (node 40 0 [],i))=.ok (x',i+(if lb=[]then []else bI (lb.map (aL false))).length)):=by
 by_cases hn:lb=[]
 ·subst hn;refine⟨node 40 0 [],bY bQ,λhS b=>?_⟩;have:=(EC (hS b)).1;rw[aF rfl]at this ⊢;rw[aC (by rw[show cD (L b) i [cJ]=false from this];decide)];rfl
 ·simp only[aC hn]at hst ⊢
  obtain⟨l',h1,h2⟩:=Oh (λb=>b) L (λb=>pS (L b)) aqU aE aE lb hn (λy hy=>aBU (hbv y hy) L) i hst;refine⟨gQ l',CY h1,λ_ b=>?_⟩;obtain⟨g1,g2,g3⟩:=h2 b 3 hbs;rw[aF Ig,show eR (L b) 3 (pS (L b)) (i+1)=_ from g2]
  show (aH (aW (L b) _ dA) _)=_
  rw[dV g3]
  show Except.ok (gQ l',_)=_
  rw[pY]
  congr 2
  omega
def anB(L:List Tk)(f i:Nat):mU L (f+1) i=aH (if (tok L i).kind=2 then aH (gO L 1 99 i) λn j=>.ok ((n:Int),j)else .ok (0,i)) λn j=>aH (if cD L j [cJ]then aH (eR L 30 (mU L f) (j+1)) λl j'=>aH (aW L j' dA) λ_ j2=>.ok (gQ l,j2)else mI L j) λwhat j1=>aH (if cD L j1 [cJ]then aH (eR L 3 (pS L) (j1+1)) λl j'=>aH (aW L j' dA) λ_ j2=>.ok (gQ l,j2)else .ok (node 40 0 [],j1)) λbounds j2=>aH (pR L 12 j2) λaSq j3=>.ok (.mk 48 n i e0 (what::bounds::aSq),j3):=by
 conv=>lhs;unfold mU
def aHE{s:So}{t:T}(h:V s t):Im s t:=by
 induction h with
 | item n a x bs aSq h0 h99 hx hxs hi hb hbs hbv has hav ih1 ih2 ih3=>
  obtain⟨ab,lb,rfl⟩:=hb;intro L N hN i hst;have hpr:=λb=>LK b n a e0 x (.mk 40 0 ab e0 lb) aSq
  have hlen:len (.mk 48 n a e0 (x :: .mk 40 0 ab e0 lb::aSq))=(if n=0 then []else [Nm n]).length+((if x.kind=40 then bI (x.l.map (aL false))else aL false x).length+((if lb=[]then []else bI (lb.map (aL false))).length+((aSq.map (aL false)).flatten).length)):=by
   unfold len;rw[hpr,aO,aO,aO];rfl
  rw[hlen]at hN ⊢;have hs:∀ b,cW (L b) i ((if n=0 then []else [Nm n])++((if x.kind=40 then bI (x.l.map (aL b))else aL b x)++((if lb=[]then []else bI (lb.map (aL b)))++(aSq.map (aL b)).flatten))):=λb=>by
   have:cW (L b) i (aL b (.mk 48 n a e0 (x :: .mk 40 0 ab e0 lb::aSq))):=hst (fu b N (aG _))
   rwa[hpr]at this
  have hw1:∀ b,(if x.kind=40 then bI (x.l.map (aL b))else aL b x).length=(if x.kind=40 then bI (x.l.map (aL false))else aL false x).length:=λb=>by
   split
   ·rw[pY,pY]
   ·rw[eV,eV]
  have hw2:∀ b,(if lb=[]then []else bI (lb.map (aL b))).length=(if lb=[]then []else bI (lb.map (aL false))).length:=λb=>by
   split
   ·rfl
   ·rw[pY,pY]
  obtain ⟨M, rfl⟩ : ∃ M, N = M + 1 := ⟨N - 1, by
    have : 1 <= (if x.kind = 40 then bI (x.l.map (aL false)) else aL false x).length := by
      rcases hx with hw | ⟨a', its, rfl, hne⟩
      · rw [aC (Oa hw)]
        obtain ⟨a, w, rfl, _⟩ := hw
        rw [sX]; exact aG 1
      · rw [aF (show (T.mk 40 0 a' e0 its).kind = 40 from rfl)]
        show 1 <= (bI _).length
        simp [bI]
    omega⟩
  generalize hln:(if n=0 then []else [Nm n]).length=ln at hN ⊢;have hs1:∀ b,cW (L b) (i+ln) ((if x.kind=40 then bI (x.l.map (aL b))else aL b x)++((if lb=[]then []else bI (lb.map (aL b)))++(aSq.map (aL b)).flatten)):=λb=>by
   have:=(cW.app (hs b)).2
   rwa[hln]at this
  obtain⟨hk2,x',hx1,hx2⟩:=avH hx hxs ih1 L M (i+ln) aB (λb=>(cW.app (hs1 b)).1);have hs2:∀ b,cW (L b) (i+ln+(if x.kind=40 then bI (x.l.map (aL false))else aL false x).length) ((if lb=[]then []else bI (lb.map (aL b)))++(aSq.map (aL b)).flatten):=λb=>by
   have:=(cW.app (hs1 b)).2
   rwa[hw1]at this
  generalize (if x.kind=40 then bI (x.l.map (aL false))else aL false x).length=lw at hN hx2 hs2 ⊢;obtain⟨y',hy1,hy2⟩:=ahF (lb:=lb) (ab:=ab) hbs hbv L (i+ln+lw) (λb=>(cW.app (hs2 b)).1);have hs3:∀ b,cW (L b) (i+ln+lw+(if lb=[]then []else bI (lb.map (aL false))).length) ((aSq.map (aL b)).flatten):=λb=>by
   have:=(cW.app (hs2 b)).2
   rwa[hw2]at this
  generalize (if lb=[]then []else bI (lb.map (aL false))).length=lv at hN hy2 hs3 ⊢;obtain⟨as',ha1,ha2⟩:=aiI L aSq hav (i+ln+lw+lv) hs3;have hnum:∀ b,(if (tok (L b) i).kind=2 then aH (gO (L b) 1 99 i) λn j=>.ok ((n:Int),j)else .ok (0,i))=(Except.ok (n,i+ln):R Int):=by
   intro b
   by_cases hn0:n=0
   ·rw[aF hn0]at hln;have hln:ln=0:=hln.symm;subst hln;rw[aC (show ¬ (tok (L b) i).kind=2 from hk2 b),hn0];rfl
   ·rw[aC hn0]at hln;have hln:ln=1:=hln.symm;subst hln;have ht:tok (L b) i=Nm n:=by
     have:=hs b;rw[aC hn0]at this;exact this.cons.1
    rw[aF (by rw[ht];rfl),LA ht 1 99 aB aB aB]
    show Except.ok (((n.toNat:Nat):Int),_)=_
    rw[show ((n.toNat:Nat):Int)=n from by omega]
  refine⟨.mk 48 n i e0 (x'::y'::as'),bY (bG hx1 (bG hy1 ha1)),λhS p=>?_⟩;have hS:∀ b,SI (tok (L b) (i+ln+lw+lv+((aSq.map (aL false)).flatten).length))=true:=λb=>by
   have:=hS (fu b (M+1) (aG _));rw[show i+(ln+(lw+(lv+((aSq.map (aL false)).flatten).length)))=i+ln+lw+lv+((aSq.map (aL false)).flatten).length from by omega]at this;exact this
  obtain⟨⟨b,f⟩,hf⟩:=p;obtain⟨f,rfl⟩:∃ g,f=g+1:=⟨f - 1,by simp only at hf;omega⟩
  have hf':M<=f:=by simp only at hf;omega
  have hsb:∀ b,xB (tok (L b) (i+ln+lw+lv))=true:=λb=>by
   cases aSq with
   | nil=>exact(aqQ (hS b)).2
   | cons y r=>
    obtain⟨w2,s2,hw2⟩:=Cr (hav y (eW ..)) b;have h3:cW (L b) (i+ln+lw+lv) (aL b y++(r.map (aL b)).flatten):=hs3 b;have:=(cW.app h3).1;rw[hw2]at this;rw[this.cons.1];rfl
  show mU (L b) (f+1) i=_
  rw[anB,hnum b]
  show (aH (if cD (L b) (i+ln) [cJ]then _ else _) _)=_
  rw[hx2 b f hf']
  show (aH (if cD (L b) (i+ln+lw) [cJ]then _ else _) _)=_
  rw[hy2 hsb b]
  show (aH (pR (L b) 12 (i+ln+lw+lv)) _)=_
  rw[show pR (L b) 12 (i+ln+lw+lv)=_ from ha2 (λb=>aqQ (hS b)) b [] 12 has]
  show Except.ok (T.mk 48 n i e0 (x'::y'::([]++as')),_)=_
  rw[dI,show i+(ln+(lw+(lv+((aSq.map (aL false)).flatten).length)))=i+ln+lw+lv+((aSq.map (aL false)).flatten).length from by omega]
 | _=>trivial
end Px
end
section
namespace Px
open Lx
def ayQ(x:Tk):Prop:=x.kind=6->x.text=dA
def yR(L:List Tk)(i j:Nat):Prop:=i<j/\∀ m,i<=m->m<j->cD L m [aT]=false
def Lz(L:List Tk)(i j:Nat):Prop:=yR L i j/\ayQ (tok L (j - 1))
def yR.one{L:List Tk}{i:Nat}(h:cD L i [aT]=false):yR L i (i+1):=by
 refine⟨pC _,λm h1 h2=>?_⟩;obtain rfl:m=i:=by omega
 exact h
def yR.cons{L:List Tk}{i j:Nat}(h:cD L i [aT]=false)(g:yR L (i+1) j):yR L i j:=⟨by have:=g.1;omega,λm h1 h2=>by
 rcases cY i m with h3|h3
 ·exact g.2 m h3 h2
 ·obtain rfl:m=i:=by omega
  exact h⟩
def yR.app{L:List Tk}{i j k:Nat}(h:yR L i j)(g:yR L j k):yR L i k:=⟨tP h.1 g.1,λm h1 h2=>by
 rcases cY m j with h3|h3
 ·exact h.2 m h1 h3
 ·exact g.2 m h3 h2⟩
theorem Lz.cons{L:List Tk}{i j:Nat}(h:cD L i [aT]=false)(g:Lz L (i+1) j):Lz L i j:=⟨yR.cons h g.1,g.2⟩
theorem Lz.app{L:List Tk}{i j k:Nat}(h:yR L i j)(g:Lz L j k):Lz L i k:=⟨h.app g.1,g.2⟩
section
variable{L:List Tk}{i:Nat}
include L i
theorem tL{ss:List ByteArray}(h:cD L i ss=true)(hs:eH aT ss=false):cD L i [aT]=false:=by
 unfold cD at h ⊢;simp only[bA,kW]at h
 cases hh:((tok L i).kind==6&&eH (tok L i).text [aT]) with
 | false=>rfl
 | true=>
  simp only[bA]at hh
  have:=(eX _ _).1 hh.2;rw[cO.1 this]at h;rw[hs]at h;exact absurd h.2 aD
theorem XO(h:(tok L i).kind≠6):cD L i [aT]=false:=by
 unfold cD;rw[show ((tok L i).kind==6)=false from dR.2 h];rfl
theorem aqM{s:AAE}(hs:eH aT [s]=false):Sd (λ_ j=>j=i+1/\cD L i [aT]=false/\cD L i [s]=true) (aW L i s):=by
 unfold aW;exact Sd.ite (λh=>.ok ⟨rfl,tL h hs,h⟩) (λ_=>.err _)
theorem alZ(h:cD L i [dA]=true):ayQ (tok L i):=by
 unfold cD at h;simp only[bA]at h
 intro _;have:=(eX _ _).1 h.2;exact cO.1 this
end
def aDQ{L:List Tk}(i:Nat):Sd (λ_ j=>j=i+1/\Lz L i j) (iN L i):=by
 unfold iN;refine Sd.ite (λh=>.ok ⟨rfl,yR.one (XO ?_),?_⟩) (λ_=>.err _)
 ·unfold isName at h;simp only[kW]at h;rw[h];decide
 ·unfold isName at h;simp only[kW]at h;intro h6;rw[show i+1 - 1=i from rfl,h]at h6;exact absurd h6 aD
def aeO{L:List Tk}(i:Nat):Sd (λ_ j=>Lz L i j) (cQ L i):=by
 unfold cQ;refine Sd.ite (λh=>.ok ?_) (λ_=>.err _);have hk:(tok L i).kind≠6:=by
  unfold dP at h
  simp at h
  rcases h with ((h|h)|h)|h<;>rw[h]<;>decide
 exact⟨yR.one (XO hk),λh6=>absurd h6 hk⟩
section
variable {L:List Tk} {expr:Nat->R T} (hE:∀ i,Sd (λ_ j=>Lz L i j) (expr i))
include hE
def afY(i:Nat):Sd (λ_ j=>yR L i j) (cV L expr i):=Sd.ite (λh=>.ok (yR.one (tL h aE))) (λ_=>(hE i).mono λ_ _ h=>h.1)
omit hE in
def aCK{read:Nat->R T}(h:∀ i,Sd (λ_ j=>yR L i j) (read i))(i:Nat):∀ n acc j,yR L i j->Sd (λ_ j'=>yR L i j') (iP L read n acc j):=by
 intro n
 induction n with
 | zero=>intro acc j hj;unfold iP;exact .ok hj
 | succ n ih=>
  intro acc j hj;unfold iP;exact Sd.ite (λhs=>(h (j+1)).bind λx j' hx=>ih _ _ (hj.app (yR.cons (tL hs aE) hx))) (λ_=>.ok hj)
omit hE in
def aGz{read:Nat->R T}(h:∀ i,Sd (λ_ j=>yR L i j) (read i))(most i:Nat):Sd (λ_ j'=>yR L i j') (eR L most read i):=(h i).bind λx j hj=>aCK h i _ _ j hj
def aoN(i:Nat):Sd (λ_ j=>Lz L i j) (qY L expr i):=
 (aDQ i).bind λs j hj=>Sd.ite (λhs=>Sd.ite (λht=>.ok ⟨(hj.2.1.app (yR.cons (tL hs aE) (yR.one (tL ht aE)))),alZ ht⟩)
  (λ_=>(aGz (afY hE) 16 (j+1)).bind λl j' hl=>(aqM aE).bind λ_ j2 h2=>.ok (by
   obtain⟨rfl,h3,h4⟩:=h2
   exact⟨(hj.2.1.app (yR.cons (tL hs aE) hl)).app (yR.one h3),alZ h4⟩))) (λ_=>.ok hj.2)
def awO(i:Nat):∀ n acc j,Lz L i j->Sd (λ_ j'=>Lz L i j') (iM L expr n acc j):=by
 intro n
 induction n with
 | zero=>intro acc j hj;unfold iM;exact .ok hj
 | succ n ih=>
  intro acc j hj;unfold iM;exact Sd.ite (λhs=>(aoN hE (j+1)).bind λx j' hx=>ih _ _ (Lz.app hj.1 (Lz.cons (tL hs aE) hx))) (λ_=>.ok hj)
def ahD(i:Nat):Sd (λ_ j=>Lz L i j) (mG L expr i):=(aoN hE i).bind λx j hj=>(awO hE i 7 _ j hj).bind λl j' h2=>.ok h2
def aFC(a i:Nat):∀ n x j,Lz L i j->Sd (λ_ j'=>Lz L i j') (pZ L expr a n x j):=by
 intro n
 induction n with
 | zero=>intro x j _;exact Dg
 | succ n ih=>
  intro x j hj;unfold pZ;exact Sd.ite (λhs=>(ahD hE (j+1)).bind λy j' hy=>ih _ _ (Lz.app hj.1 (Lz.cons (tL hs aE) hy))) (λ_=>.ok hj)
def aaA(i:Nat):Sd (λ_ j=>Lz L i j) (eO L expr i):=(ahD hE i).bind λx j hj=>aFC hE i i _ x j hj
end
def aBz(m:Nat):eH aT (hY m)=false:=by
 rcases cY m 5 with h|h
 ·have:∀ m:Fin 5,eH aT (hY m.val)=false:=by decide +kernel
  exact this ⟨m,h⟩
 ·obtain⟨k,rfl⟩:∃ k,m=k+5:=⟨m - 5,by omega⟩
  exact(by decide +kernel:eH aT [Cn,aKH]=false)
def aEe{L:List Tk}{sub:Nat->R T}(h:∀ i,Sd (λ_ j=>Lz L i j) (sub i))(m a i:Nat):∀ f x j,Lz L i j->Sd (λ_ j'=>Lz L i j') (binGo L sub (hY m) a f x j):=by
 intro f
 induction f with
 | zero=>intro x j _;unfold binGo;exact .err _
 | succ f ih=>
  intro x j hj;unfold binGo;exact Sd.ite (λhs=>(h (j+1)).bind λy j' hy=>ih _ _ (Lz.app hj.1 (Lz.cons (tL hs (aBz m)) hy))) (λ_=>.ok hj)
def akD{L:List Tk}{prim:Nat->R T}(h:∀ i,Sd (λ_ j=>Lz L i j) (prim i)):∀ k i,Sd (λ_ j=>Lz L i j) (sY L prim k i):=by
 intro k
 induction k with
 | zero=>intro i;exact h i
 | succ k ih=>intro i;exact(ih i).bind λx j hx=>aEe ih _ _ i _ x j hx
def aBw{L:List Tk}:∀ f i,Sd (λ_ j=>Lz L i j) (fN L f i):=by
 intro f
 induction f with
 | zero=>exact DR
 | succ f ih=>
  intro i;unfold fN;refine Sd.ite (λhs=>(ih (i+1)).bind λx j hx=>.ok (Lz.cons (tL hs aE) hx)) λ_=>
   Sd.ite (λhs=>(akD ih 6 (i+1)).bind λx j hx=>(aqM aE).bind λ_ j' h2=>.ok ?_) λ_=>
   Sd.ite (λ_=>aeO i) (λ_=>aaA (akD ih 6) i)
  obtain⟨rfl,h3,h4⟩:=h2;exact⟨(yR.cons (tL hs aE) hx.1).app (yR.one h3),alZ h4⟩
def aEW{L:List Tk}(i:Nat):Sd (λ_ j=>Lz L i j) (dB L i):=akD (aBw _) 6 i
def xH: List Tk->Prop
 | []=>True
 | [_]=>True
 | x::y::r=>(ayQ x->y.kind=6)/\xH (y::r)
def xH.tail{x:Tk}{r:List Tk}(h:xH (x::r)):xH r:=by
 cases r with
 | nil=>trivial
 | cons y r=>exact h.2
def xH.op{x:Tk}{r:List Tk}(h1:¬ ayQ x)(h:xH r):xH (x::r):=by
 cases r with
 | nil=>trivial
 | cons y r=>exact⟨λe=>absurd e h1,h⟩
def xH.app{y:Tk}{ys:List Tk}(hk:y.kind=6)(hy:xH (y::ys)):∀ {xs:List Tk},xH xs->xH (xs++y::ys):=by
 intro xs
 induction xs with
 | nil=>intro _;exact hy
 | cons x r ih=>
  intro h
  cases r with
  | nil=>exact⟨λ_=>hk,hy⟩
  | cons z r=>exact⟨h.1,ih h.2⟩
def xH.sep{s:AAE}{xs ys:List Tk}(hs:s≠dA)(hx:xH xs)(hy:xH ys):xH (xs++O s::ys):=xH.app rfl (xH.op (λh=>hs (h rfl)) hy) hx
def xH.shut{xs:List Tk}(hx:xH xs):xH (O cJ::(xs++[O dA])):=xH.op (λh=>absurd (h rfl) aD) (xH.app rfl (show xH [O dA]from trivial) hx)
theorem xH.aR: ∀ {ps:List (List Tk)},(∀ p,p∈ps->xH p)->xH (aR ps):=by
 intro ps
 exact RW
theorem xH.jN: ∀ {ps:List (List Tk)},(∀ p,p∈ps->xH p)->xH (jN ps):=by
 intro ps
 exact RW
theorem xH.operand{c:T}{p:List Tk}{m:Int}(h:xH p):xH (operand c p m):=by
 unfold Px.operand
 split
 ·exact xH.shut h
 ·exact h
def arI{w:AAE}(h:0<=level w):w≠dA:=(Po h rfl).2
def Am(b:Bool):So->T->Prop
 | .expr,t=>xH (aL b t)
 | .part,t=>xH (aL b t)
 | .arg,t=>xH (aL b t)
 | _,_=>True
def aEG{s:So}{t:T}(b:Bool)(h:V s t):Am b s t:=by
 induction h with
 | const n a w h=>show xH _;rw[lR];trivial
 | ref a ps h1 h8 h ih=>show xH _;rw[Ge];exact xH.jN (dU ih)
 | ptr a x y hx hr hy h2 ihx ihy=>show xH _;rw[Ic];exact xH.sep aD ihx ihy
 | un a w x hw hx ih=>show xH _;rw[Ij];exact xH.op (λh=>by have:=h rfl;rcases hw with rfl|rfl|rfl<;>exact absurd this aD) (xH.operand ih)
 | bin a w x y hw hx hy ihx ihy=>show xH _;rw[Gh];exact xH.sep (arI hw) (xH.operand ihx) (xH.operand ihy)
 | part0 a w h=>show xH _;rw[xV];trivial
 | part1 a w l h h16 hl ih=>show xH _;rw[yP];exact⟨λ_=>rfl,xH.shut (xH.aR (dU ih))⟩
 | arg x h ih=>exact ih
 | star a=>show xH _;rw[BV];trivial
 | _=>trivial
def ahG{t:T}(b:Bool)(h:V .expr t):xH (aL b t):=aEG b h
def aHj{L:List Tk}:∀ {ts:List Tk} {i:Nat},xH ts->cW L i ts->∀ m,m+1<ts.length->ayQ (tok L (i+m))->(tok L (i+m+1)).kind=6:=by
 intro ts
 induction ts with
 | nil=>intro i _ _ m hm;simp at hm
 | cons x r ih=>
  intro i ha hs m hm he;have h1:=hs.cons
  cases m with
  | zero=>
   cases r with
   | nil=>simp at hm
   | cons y r=>
    have h2:=h1.2.1.cons
    show (tok L (i+1)).kind=6
    rw[h2.1];exact ha.1 (by rw[<- h1.1];exact he)
  | succ m=>
   have:=ih ha.tail h1.2.1 m (by simp at hm;omega) (by rw[show i+1+m=i+(m+1)from by omega];exact he)
   rwa[show i+1+m+1=i+(m+1)+1 from by omega]at this
def Xt{b:Bool}{r x:T}(hr:V .expr r)(hx:V .expr x){L:List Tk}{i:Nat}(hst:cW L i (aL b r++O tV::(aL b x++[O aT]))):pQ L i=false:=by
 unfold pQ
 cases hw:iT L i [Nq] with
 | false=>rfl
 | true=>
  cases he:dB L (i+1) with
  | error a=>rfl
  | ok tj=>
   obtain⟨t,j⟩:=tj
   show (true&&iT L j [pI])=false
   have hE:Lz L (i+1) j:=aEW (i+1) t j he;have ha:xH (aL b r++O tV::(aL b x++[O aT])):=xH.sep aD (ahG b hr) (xH.app rfl (show xH [O aT]from trivial) (ahG b hx));have hlen:(aL b r++O tV::(aL b x++[O aT])).length=len r+len x+2:=by simp[eV];omega
   have h1:tok L (i+len r+1+len x)=O aT:=by
    have:=(cW.app hst).2.cons.2.1;have:=(cW.app this).2.one.1
    rwa[eV,eV]at this
   have hj:j<=i+len r+1+len x:=by
    rcases cY (i+len r+1+len x) j with h2|h2
    ·have:=hE.1.2 _ aB h2;rw[eZ h1]at this;exact absurd this aE
    ·exact h2
   have hij:=hE.1.1;have hk:=aHj ha hst (j - 1 - i) (by rw[hlen];omega) (by rw[show i+(j - 1 - i)=j - 1 from by omega];exact hE.2);rw[show i+(j - 1 - i)+1=j from by omega]at hk;unfold iT;rw[hk];rfl
def VB{t:T}(b:Bool)(h:isWord t):nW (aL b t):=by
 obtain⟨a,w,rfl,_⟩:=h;rw[sX];exact nW.one (FU w)
def apW{t:T}(b:Bool)(h:IY t):nW (aL b t):=by
 obtain⟨n,a,w,rfl,h⟩:=h;rw[lR];exact nW.one (YT h)
def aEy{t:T}(b:Bool)(h:V .val t):nW (aL b t):=by
 cases h with
 | val _ ha=>exact aaB b ha
 | valR n a c h1 h2 hc=>
  have hic:isConst c=true:=by
   exact Qa
  rw[Gt b n a e0 c hic];have hb:nW (aL b c):=by
   rcases hc with hc|⟨a',w,c',rfl,hw,hc'⟩
   ·exact apW b hc
   ·exact xJ b (V.un a' w c' hw (aeH hc'))
  exact nW.app (xs:=[O cJ,Nm n,O dA]) (nW.XR (xs:=[Nm n]) (nW.one (aeD n))) hb
def aDr{t:T}(b:Bool)(h:V .attr t):nW (aL b t):=by
 cases h with
 | attrP a c h=>
  obtain⟨a',w,rfl,hc⟩:=h;rw[qI];exact nW.cons (FU _) (apW b ⟨4,a',w,rfl,hc⟩)
 | attrL a x h h2=>rw[qI];exact nW.cons (FU _) (xJ b h)
 | attr0 a w h h1 h2 h3=>rw[qI];exact nW.one (FU _)
 | attr1 a w l h h1 h2 h3 h60 hl=>rw[Hw];exact nW.cons (FU _) (nW.FX (dU λx hx=>aEy b (hl x hx)))
def atV{t:T}(b:Bool)(h:V .bound t):nW (aL b t):=by
 cases h with
 | bound2 a x y hx hy=>rw[Ou b _ _ _ _ _ (uT hx)];exact nW.app (xJ b hx) (nW.cons (λ_=>by decide +kernel) (xJ b hy))
 | bound1 a x y hx hy=>rw[OB b _ _ _ _ _ (by obtain⟨a,rfl⟩:=hx;rfl)];exact xJ b hy
def Bi(b:Bool):So->T->Prop
 | .item,t=>nW (aL b t)
 | _,_=>True
def axJ{s:So}{t:T}(b:Bool)(h:V s t):Bi b s t:=by
 induction h with
 | item n a x bs aSq h0 h99 hx hxs hi hb hbs hbv has hav ih1 ih2 ih3=>
  show nW _
  rw[LK];refine nW.app ?_ (nW.app ?_ (nW.app ?_ ?_))
  ·split
   ·exact nW.nil
   ·exact nW.one (aeD n)
  ·split
   ·rename_i hk;exact nW.FX (dU λy hy=>ih1 hk y hy)
   ·rename_i hk
    rcases hx with hw|⟨a',its,rfl,_⟩
    ·exact VB b hw
    ·exact absurd rfl hk
  ·split
   ·exact nW.nil
   ·exact nW.FX (dU λy hy=>atV b (hbv y hy))
  ·exact nW.flat (dU λy hy=>aDr b (hav y hy))
 | _=>trivial
def azA{t:T}(b:Bool)(h:V .item t):nW (aL b t):=axJ b h
end Px
end
section
namespace Px
open Lx
variable (L:List Tk)
def Eb{α:Type}{k:Nat}{r:R α}(h:Up k r:=by repeat (first|exact Up.err _|(exact Up.ok aB)|exact((bM L _ _).le aB)|exact((oZ L _ _).le aB)|exact((sN L _).le aB)|exact((oX L _).le aB)|exact((vW L _ _ _).le aB)|exact((lQ L _).le aB)|exact((fI L _).le aB)|exact((Br L _).le aB)|exact((iZ L (oX L) _ _).le aB)|exact((iZ L (fI L) _ _).le aB)|exact((iZ L (lQ L) _ _).le aB)|exact((CB L (fI L) _).le aB)|exact((zW L (fI L) _).le aB)|exact((uA L (fI L) _).le aB)|exact((oV L _).le aB)|exact((mQ L _ _).le aB)|exact((rY L _ _).le aB)|exact((EE L _ _).le aB)|exact((uY L _ _).le aB)|exact((Gn L _ _).le aB)|exact((Cj L _).le aB)|exact((jU L _ _).le aB)|exact((Ex L _ _).le aB)|(refine Up.bind (k:=?_) (by first|exact bM L _ _|exact oZ L _ _|exact sN L _|exact oX L _|exact vW L _ _ _|exact lQ L _|exact fI L _|exact Br L _|exact iZ L (oX L) _ _|exact iZ L (fI L) _ _|exact iZ L (lQ L) _ _|exact CB L (fI L) _|exact zW L (fI L) _|exact uA L (fI L) _|exact oV L _|exact mQ L _ _|exact rY L _ _|exact EE L _ _|exact uY L _ _|exact Gn L _ _|exact Cj L _|exact jU L _ _|exact Ex L _ _|exact Up.ok (aG _)) (λ_ _ _=>?_))|(refine Up.ite (λ_=>?_) (λ_=>?_)))):Up k r:=h
def oV(i:Nat):Up (i+1) (fB L i):=by
 unfold fB;exact Eb
def mQ(w:AAE)(i:Nat):Up i (gL L w i):=by
 unfold gL;exact Eb
def rY(w:AAE)(i:Nat):Up i (jK L w i):=by
 unfold jK;exact Eb
def EE(w:AAE)(i:Nat):Up i (nP L w i):=by
 unfold nP;exact Eb
def uY(w:AAE)(i:Nat):Up i (fH L w i):=by
 unfold fH;exact Eb
def Gn(label:AAE)(i:Nat):Up (i+1) (BP L label i):=by
 unfold BP;refine(oZ L i [sO]).bind λ_ j hj=>?_;refine(bM L _ aT).le ?_
 split<;>omega
def Cj(i:Nat):Up (i+1) (rT L i):=by
 unfold rT;exact Eb
def jU(t:T)(i:Nat):Up (i+1) (bK L t i):=by
 unfold bK;exact Eb
def Ex(arg:Bool)(i:Nat):Up (i+1) (qL L arg i):=by
 unfold qL;exact Eb
def Wf: ∀ f i,Up (i+1) (hJ L f i):=by
 intro f
 induction f with
 | zero=>exact HY
 | succ f ih=>
  intro i;unfold hJ;refine Up.ite (λ_=>?_) (λ_=>?_)
  ·exact(vW L 1 100 i).bind λn j hj=>(bM L j cJ).bind λ_ j1 h1=>(iZ L ih L.length j1).bind λl j2 h2=>(bM L j2 dA).bind λ_ j3 h3=>.ok aB
  ·refine(sN L i).bind λs j hj=>?_;exact Up.ite (λ_=>Up.ite (λ_=>(lQ L j).bind λx j' h'=>.ok aB) λ_=>.err _) λ_=>
    Up.ite (λ_=>(iZ L (lQ L) 2 (j+1)).bind λl j' h'=>(bM L j' dA).bind λ_ j2 h2=>.ok aB) λ_=>.ok aB
def Ws(i:Nat):Up (i+1) (uZ L i):=Wf L _ i
def Oo(i:Nat):Up (i+1) (eC L i):=by
 unfold eC;simp only
 split
 ·exact uA L (fI L) i
 ·refine Up.ite (λ_=>Up.ite (λ_=>?_) (λ_=>?_)) (λ_=>uA L (fI L) i)
  ·exact(lQ L (i+4)).bind λx j hj=>.ok aB
  ·exact(lQ L (i+3)).bind λx j hj=>.ok aB
def uV(i:Nat):Up (i+1) (dS L i):=by
 unfold dS;refine(sN L i).bind λs j hj=>?_;simp only
 exact Up.ite (λ_=>Up.ite (λ_=>(lQ L j).bind λx j' h'=>.ok aB) λ_=>.err _) λ_=>
  Up.ite (λ_=>(zW L (fI L) j).bind λx j' h'=>.ok aB) λ_=>
  Up.ite (λ_=>Up.ite (λ_=>.ok aB) λ_=>(iZ L (Oo L) 60 (j+1)).bind λl j' h'=>(bM L j' dA).bind λ_ j2 h2=>.ok aB) λ_=>.ok aB
def alS: ∀ n acc j,Up j (jC L n acc j):=by
 intro n
 induction n with
 | zero=>intro acc j;unfold jC;exact .ok (aG _)
 | succ n ih=>
  intro acc j;unfold jC;exact Up.ite (λ_=>(uV L j).bind λx j' hj=>(ih _ j').le aB) (λ_=>.ok (aG _))
def JU(most i:Nat):Up i (pR L most i):=alS L most [] i
def XV(i:Nat):Up (i+1) (pS L i):=by
 unfold pS;exact(fI L i).bind λx j hj=>Up.ite (λ_=>(fI L (j+1)).bind λy j' h'=>.ok aB) λ_=>.ok aB
def acL: ∀ f i,Up (i+1) (mU L f i):=by
 intro f
 induction f with
 | zero=>intro i;unfold mU;exact .err _
 | succ f ih=>
  intro i;unfold mU;refine Up.bind (k:=i) (Up.ite (λ_=>(vW L 1 99 i).bind λn j hj=>.ok aB) λ_=>.ok (aG _)) λn j hj=>?_;refine Up.bind (k:=i+1) (Up.ite (λ_=>(iZ L ih 30 (j+1)).bind λl j' h'=>(bM L j' dA).bind λ_ j2 h2=>.ok aB) λ_=>(oX L j).le aB) λwhat j1 h1=>?_;refine Up.bind (k:=i+1) (Up.ite (λ_=>(iZ L (XV L) 3 (j1+1)).bind λl j' h'=>(bM L j' dA).bind λ_ j2 h2=>.ok aB) λ_=>.ok h1) λbounds j2 h2=>?_;exact(JU L 12 j2).bind λaSq j3 h3=>.ok aB
def aeX(i:Nat):Up (i+1) (IQ L i):=acL L _ i
end Px
end
