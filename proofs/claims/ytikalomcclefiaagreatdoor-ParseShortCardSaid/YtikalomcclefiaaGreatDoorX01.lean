/- Part 01. -/
import Derived.Test.YtikalomcclefiaaGreatDoorV10
set_option linter.all false
set_option maxHeartbeats 0
set_option maxRecDepth 100000
namespace Go.Proofs.YtikalomcclefiaaGreatDoor
section
namespace Px
open Lx
def prs: List (ByteArray×ByteArray):=[(jL,bB),(uP,fK),(rL,iR),(qR,gV),(VQ,vY),(akB,Db),(anX,FF),(amG,iC),(akX,Cw),(Vk,Cq),(ajI,Cv),(We,vU),(akT,tM),(alQ,CW)]
def clI: List (ByteArray×ByteArray)->ByteArray->ByteArray
 | [],s=>s
 | q::r,s=>if s=q.1 then q.2 else clI r s
def cl(s:AAE):ByteArray:=clI prs s
def acO{ss:List ByteArray}(s:AAE):∀ l:List (ByteArray×ByteArray),(l.all λq=>eH q.1 ss==eH q.2 ss)=true->eH (clI l s) ss=eH s ss:=by
 intro l
 induction l with
 | nil=>intro _;rfl
 | cons q r ih=>
  intro h;simp only[pH,bA,kW]at h
  unfold clI
  split
  ·next g=>rw[g];exact h.1.symm
  ·exact ih h.2
def acE{ss:List ByteArray}(h:(prs.all λq=>eH q.1 ss==eH q.2 ss)=true){s t:AAE}(e:cl s=cl t):eH s ss=eH t ss:=by
 have h1:=acO (ss:=ss) s prs h;have h2:=acO (ss:=ss) t prs h;rw[<- h1,<- h2];exact congrArg (eH · ss) e
def uX(w:AAE)(h:(prs.all λq=>eH q.1 [w]==eH q.2 [w])=true){s t:AAE}(e:cl s=cl t):(s=w)=(t=w):=by
 have:=acE h e;simp only[eH,List.any_cons,List.any_nil,Bool.or_false]at this
 have h2:=decide_eq_decide.1 this;exact propext ⟨λh=>(h2.1 h.symm).symm,λh=>(h2.2 h.symm).symm⟩
def anY(v w:AAE)(h:(prs.all λq=>eH q.1 [v,w]==eH q.2 [v,w])=true){s t:AAE}(e:cl s=cl t):(s=v\/s=w)=(t=v\/t=w):=by
 have:=acE h e;have h2:∀ s:ByteArray,eH s [v,w]=true↔(s=v\/s=w):=λs=>by rw[eX];simp
 exact propext (by rw[<- h2,<- h2,this])
def kwL(k a:Int)(w:AAE):List (Int×ByteArray):=
 if k=15 then [(a,jL)]else if k=47 then [(a,uP)]else if k=36 then [(a,rL)]else if k=22 then [(a,qR)]else if k=50/\mJ w≠w then [(a,mJ w)]else []
mutual
def uK: T->List (Int×ByteArray)
 | .mk k _ a w l=>kwL k a w++jJ l
def jJ: List T->List (Int×ByteArray)
 | []=>[]
 | x::r=>uK x++jJ r
end
def Ek(k n a:Int)(w:AAE)(l:List T):uK (.mk k n a w l)=kwL k a w++jJ l:=by rw[uK]
def dG: jJ []=[]:=by rw[jJ]
def bP(x:T)(r:List T):jJ (x::r)=uK x++jJ r:=by rw[jJ]
def Ai(l m:List T):jJ (l++m)=jJ l++jJ m:=by
 induction l with
 | nil=>rw[dI,dG,dI]
 | cons x r ih=>rw[kE,bP,bP,ih,bT]
def noK(k:Int):Bool:=decide (k≠15/\k≠47/\k≠36/\k≠22/\k≠50)
def aIF{k:Int}(h:noK k=true)(a:Int)(w:AAE):kwL k a w=[]:=by
 have h:=iG h;unfold kwL;rw[aC h.1,aC h.2.1,aC h.2.2.1,aC h.2.2.2.1,aC λg=>h.2.2.2.2 g.1]
def qQ{k:Int}(h:noK k=true)(n a:Int)(w:AAE)(l:List T):uK (.mk k n a w l)=jJ l:=by rw[Ek,aIF h];rfl
def mL{k:Int}(h:noK k=true)(a:Nat)(l:List T):uK (node k a l)=jJ l:=qQ h 0 a e0 l
def zL(l:List T):uK (gQ l)=jJ l:=by unfold gQ;exact qQ rfl _ _ _ _
def xZ: uK none_=[]:=by rw[none_,qQ rfl,dG]
class Kn (α:Type) where
 K:α->List (Int×ByteArray)
instance:Kn T:=⟨uK⟩
instance:Kn (List T):=⟨jJ⟩
instance:Kn (T×T):=⟨λp=>uK p.1++uK p.2⟩
instance:Kn Unit:=⟨λ_=>[]⟩
instance:Kn ByteArray:=⟨λ_=>[]⟩
instance:Kn Nat:=⟨λ_=>[]⟩
instance:Kn Int:=⟨λ_=>[]⟩
def tU(x:T):Kn.K x=uK x:=rfl
def aLD(x:List T):Kn.K x=jJ x:=rfl
def aIR(x:T×T):Kn.K x=uK x.1++uK x.2:=rfl
def aKm(x:Unit):Kn.K x=[]:=rfl
structure Sh (L L':List Tk):Prop where
 len:L'.length=L.length
 at_:∀ p,tok L' p=tok L p\/((tok L p).kind=1/\(tok L' p).kind=1/\cl (tok L' p).text=cl (tok L p).text)
theorem Sh.symm{L L':List Tk}(h:Sh L L'):Sh L' L:=⟨h.len.symm,λp=>(h.at_ p).imp Eq.symm λg=>⟨g.2.1,g.1,g.2.2.symm⟩⟩
section
variable {L L':List Tk} (hS:Sh L L')
include hS
theorem Sh.kind(p:Nat):(tok L' p).kind=(tok L p).kind:=by
 rcases hS.at_ p with h|h
 ·rw[h]
 ·rw[h.1,h.2.1]
theorem Sh.cl(p:Nat):cl (tok L' p).text=cl (tok L p).text:=by
 rcases hS.at_ p with h|h
 ·rw[h]
 ·exact h.2.2
def Sh.same{p:Nat}(h:(tok L p).kind≠1):tok L' p=tok L p:=by
 rcases hS.at_ p with g|g
 ·exact g
 ·exact absurd g.1 h
theorem Sh.cD(p:Nat)(ss:List ByteArray):cD L' p ss=cD L p ss:=by
 unfold Px.cD
 by_cases h:(tok L p).kind=6
 ·rw[hS.same qC]
 ·rw[hS.kind,show ((tok L p).kind==6)=false from dR.2 h];rfl
def Sh.nm(p:Nat):isName L' p=isName L p:=by unfold isName;rw[hS.kind]
theorem Sh.iT(p:Nat)(ss:List ByteArray)(h:(prs.all λq=>eH q.1 ss==eH q.2 ss)=true):iT L' p ss=iT L p ss:=by
 unfold Px.iT;rw[hS.kind,acE h (hS.cl p)]
theorem Sh.aW(p:Nat)(s:AAE):aW L' p s=aW L p s:=by unfold Px.aW;rw[hS.cD]
theorem Sh.fV(p:Nat)(ss:List ByteArray)(h:(prs.all λq=>eH q.1 ss==eH q.2 ss)=true):fV L' p ss=fV L p ss:=by unfold Px.fV;rw[hS.iT p ss h]
def Sh.whole(p:Nat):nH (tok L' p)=nH (tok L p):=by
 by_cases h:(tok L p).kind=2
 ·rw[hS.same qC]
 ·unfold nH;rw[hS.kind];simp[h]
def Sh.number(lo hi p:Nat):gO L' lo hi p=gO L lo hi p:=by unfold gO;rw[hS.whole]
def Sh.next(p:Nat):dP L' p=dP L p:=by unfold dP;rw[hS.kind]
def Sh.const(p:Nat):cQ L' p=cQ L p:=by
 unfold cQ;rw[hS.next]
 by_cases h:dP L p=true
 ·rw[hS.same (p:=p) (by intro g;simp[dP,g]at h)]
 ·rw[aC h,aC h]
def Sh.sign{p:Nat}{ss:List ByteArray}(h:Px.cD L p ss=true):tok L' p=tok L p:=by
 unfold Px.cD at h;exact hS.same λg=>by rw[g]at h;simp at h
def Sh.close: ∀ f i d,jF L' f i d=jF L f i d:=by
 intro f
 induction f with
 | zero=>intro i d;rfl
 | succ f ih=>intro i d;unfold jF;simp only[hS.len,hS.cD,ih]
def Sh.reach: ∀ f i,gW L' f i=gW L f i:=by
 intro f
 induction f with
 | zero=>intro i;rfl
 | succ f ih=>intro i;unfold gW;simp only[hS.len,hS.cD,hS.nm,hS.close,ih]
theorem Sh.eF(i:Nat):eF L' i=eF L i:=by unfold Px.eF;simp only[hS.len,hS.reach,hS.cD]
theorem Sh.labelled(i:Nat):labelled L' i=labelled L i:=by unfold Px.labelled;simp only[hS.nm,hS.cD]
theorem Sh.keyword(p:Nat)(ss:List ByteArray)(h:(prs.all λq=>eH q.1 ss==eH q.2 ss)=true):keyword L' p ss=keyword L p ss:=by unfold Px.keyword;simp only[hS.iT p ss h,hS.eF,hS.labelled]
end
def aJV(L L':List Tk)(i j:Nat):Prop:=∀ p,i<=p->p<j->tok L' p=tok L p
def E{α:Type}[Kn α](L L':List Tk)(q:Prop)(i:Nat)(r r':R α):Prop:=∀ x j,r=.ok (x,j)->i<=j/\Kn.K x=[]/\∃ x',r'=.ok (x',j)/\(q->aJV L L' i j->x'=x)
section
variable {α β:Type} [Kn α] [Kn β] {L L':List Tk} {q:Prop} {i:Nat}
def E.err(a:Nat)(r':R α):E L L' q i (.error a) r':=λ_ _ h=>by cases h
theorem E.ok{x x':α}{j:Nat}(h:i<=j)(hK:Kn.K x=[])(e:q->aJV L L' i j->x'=x):E L L' q i (.ok (x,j)) (.ok (x',j)):=λ_ _ h'=>by cases h';exact⟨h,hK,x',rfl,e⟩
def E.bind{r r':R α}{f f':α->Nat->R β}(h:E L L' q i r r')(g:∀ x x' j,i<=j->Kn.K x=[]->E L L' (q/\x'=x) j (f x j) (f' x' j)):E L L' q i (aH r f) (aH r' f'):=by
 intro y l e
 cases r with
 | error a=>cases e
 | ok xj=>
  obtain⟨x,j⟩:=xj;obtain⟨h1,hK,x',rfl,h2⟩:=h x j rfl;obtain⟨g1,gK,y',g2,g3⟩:=g x x' j h1 hK y l e;exact⟨aZ h1 g1,gK,y',g2,λhq ha=>g3 ⟨hq,h2 hq λp h3 h4=>ha p h3 (gH h4 g1)⟩ λp h3 h4=>ha p (aZ h1 h3) h4⟩
def E.ite{c:Prop}[Decidable c]{r s r' s':R α}(h:c->E L L' q i r r')(g:¬ c->E L L' q i s s'):E L L' q i (if c then r else s) (if c then r' else s'):=by
 exact Qz
def E.w{p:Prop}{r r':R α}(h:E L L' q i r r')(g:p->q):E L L' p i r r':=λx j e=>by
 obtain⟨h1,hK,x',h2,h3⟩:=h x j e;exact⟨h1,hK,x',h2,λhp=>h3 (g hp)⟩
def E.le{k:Nat}{r r':R α}(h:E L L' q k r r')(g:i<=k):E L L' q i r r':=λx j e=>by
 obtain⟨h1,hK,x',h2,h3⟩:=h x j e;exact⟨aZ g h1,hK,x',h2,λhp ha=>h3 hp λp h4 h5=>ha p (aZ g h4) h5⟩
def E.rf{r:R α}(h:∀ x j,r=.ok (x,j)->i<=j/\Kn.K x=[]):E L L' q i r r:=λx j e=>⟨(h x j e).1,(h x j e).2,x,e,λ_ _=>rfl⟩
def eA(s:AAE):E L L' q i (aW L i s) (aW L i s):=E.rf λx j e=>by
 unfold aW at e;split at e<;>cases e;exact⟨bU _,rfl⟩
def xI(ss:List ByteArray):E L L' q i (fV L i ss) (fV L i ss):=E.rf λx j e=>by
 unfold fV at e;split at e<;>cases e;exact⟨bU _,rfl⟩
def Oc(lo hi:Nat):E L L' q i (gO L lo hi i) (gO L lo hi i):=E.rf λx j e=>by
 unfold gO at e
 split at e
 ·split at e<;>cases e;exact⟨bU _,rfl⟩
 ·cases e
def Fe: E L L' q i (cQ L i) (cQ L i):=E.rf λx j e=>by
 unfold cQ at e;split at e<;>cases e;exact⟨bU _,by rw[tU,qQ rfl,dG]⟩
end
section
variable {L L':List Tk} (hS:Sh L L')
include hS
def xT{q:Prop}(i:Nat):E L L' q i (iN L i) (iN L' i):=by
 unfold iN;rw[hS.nm];exact .ite (λ_=>.ok (bU _) rfl λ_ h=>by rw[h i (aG _) (pC _)]) λ_=>.err _ _
omit hS
def Er(L L':List Tk)(f f':Nat->R T):Prop:=∀ q i,E L L' q i (f i) (f' i)
end
end Px
end
section
namespace Px
open Lx
section
variable {L L':List Tk} (hS:Sh L L')
include hS
def JE: Er L L' (mI L) (mI L'):=λq i=>(xT hS i).bind λs s' j _ _=>.ok (aG _) Dt λhq _=>by rw[hq.2]
def awX: Er L L' (cQ L) (cQ L'):=λq i=>by rw[hS.const];exact Fe
variable {f f':Nat->R T} (h:Er L L' f f')
include h
def arR: ∀ n acc acc' q j,jJ acc=[]->(q->acc'=acc)->E L L' q j (iP L f n acc j) (iP L' f' n acc' j):=by
 intro n
 induction n with
 | zero=>intro acc acc' q j hK e;unfold iP;exact .ok (aG _) hK λhq _=>e hq
 | succ n ih=>
  intro acc acc' q j hK e;unfold iP;rw[hS.cD];exact .ite (λ_=>((h q (j+1)).le (bU _)).bind λx x' j' _ hx=>ih _ _ _ j' Rn λhq=>by rw[e hq.1,hq.2]) λ_=>.ok (aG _) hK λhq _=>e hq
def AX(n:Nat)(q:Prop)(i:Nat):E L L' q i (eR L n f i) (eR L' n f' i):=(h q i).bind λx x' j _ hx=>arR hS h _ _ _ _ j QX λhq=>by rw[hq.2]
def aDb(ops:List ByteArray)(a:Nat):∀ n x x' q j,uK x=[]->(q->x'=x)->E L L' q j (binGo L f ops a n x j) (binGo L' f' ops a n x' j):=by
 intro n
 induction n with
 | zero=>intro x x' q j _ _;unfold binGo;exact .err _ _
 | succ n ih=>
  intro x x' q j hK e;unfold binGo;rw[hS.cD];refine .ite (λhs=>?_) λ_=>.ok (aG _) hK λhq _=>e hq
  rw[hS.sign hs];exact((h q (j+1)).le (bU _)).bind λy y' j' _ hy=>ih _ _ _ j' (by rw[qQ rfl,bP,bP,dG,hK,(show uK y=[]from hy)];rfl) λhq=>by rw[e hq.1,hq.2]
def ZO: ∀ k,Er L L' (sY L f k) (sY L' f' k):=by
 intro k
 induction k with
 | zero=>exact h
 | succ k ih=>intro q i;unfold sY;rw[hS.len];exact(ih q i).bind λx x' j _ hx=>aDb hS ih _ _ _ _ _ _ j hx λhq=>hq.2
def Gy: Er L L' (cV L f) (cV L' f'):=λq i=>by
 unfold cV;rw[hS.cD];exact .ite (λ_=>.ok (bU _) Jq λ_ _=>rfl) λ_=>h q i
def VE: Er L L' (qY L f) (qY L' f'):=λq i=>by
 unfold qY;simp only[hS.cD,hS.aW]
 exact(xT hS i).bind λs s' j _ _=>.ite (λ_=>.ite (λ_=>.ok aB Dt λhq _=>by rw[hq.2]) λ_=>
  ((AX hS (Gy hS h) 16 _ (j+1)).le (bU _)).bind λl l' j' _ hl=>(eA _).bind λ_ _ j2 _ _=>.ok (aG _) (by rw[tU,qQ rfl];exact hl) λhq _=>by rw[hq.1.2,hq.1.1.2])
  λ_=>.ok (aG _) Dt λhq _=>by rw[hq.2]
def amA: ∀ n acc acc' q j,jJ acc=[]->(q->acc'=acc)->E L L' q j (iM L f n acc j) (iM L' f' n acc' j):=by
 intro n
 induction n with
 | zero=>intro acc acc' q j hK e;unfold iM;exact .ok (aG _) hK λhq _=>e hq
 | succ n ih=>
  intro acc acc' q j hK e;unfold iM;rw[hS.cD];exact .ite (λ_=>((VE hS h q (j+1)).le (bU _)).bind λx x' j' _ hx=>ih _ _ _ j' Rn λhq=>by rw[e hq.1,hq.2]) λ_=>.ok (aG _) hK λhq _=>e hq
def Ob: Er L L' (mG L f) (mG L' f'):=λq i=>
 (VE hS h q i).bind λx x' j _ hx=>(amA hS h 7 [x] [x'] _ j QX λhq=>by rw[hq.2]).bind λl l' j' _ hl=>.ok (aG _) (by rw[tU,mL rfl];exact hl) λhq _=>by rw[hq.2]
def aAe(a:Nat):∀ n x x' q j,uK x=[]->(q->x'=x)->E L L' q j (pZ L f a n x j) (pZ L' f' a n x' j):=by
 intro n
 induction n with
 | zero=>intro x x' q j _ _;unfold pZ;exact .err _ _
 | succ n ih=>
  intro x x' q j hK e;unfold pZ;rw[hS.cD];exact .ite (λ_=>((Ob hS h q (j+1)).le (bU _)).bind λy y' j' _ hy=>ih _ _ _ j' (by rw[mL rfl,bP,bP,dG,hK,(show uK y=[]from hy)];rfl) λhq=>by rw[e hq.1,hq.2]) λ_=>.ok (aG _) hK λhq _=>e hq
def KK: Er L L' (eO L f) (eO L' f'):=λq i=>by
 unfold eO;rw[hS.len];exact(Ob hS h q i).bind λx x' j _ hx=>aAe hS h i _ _ _ _ j hx λhq=>hq.2
omit h
def axD: ∀ n,Er L L' (fN L n) (fN L' n):=by
 intro n
 induction n with
 | zero=>intro q i;unfold fN;exact .err _ _
 | succ n ih=>
  intro q i;unfold fN;simp only[hS.cD,hS.next,hS.const,hS.aW]
  refine .ite (λhs=>?_) λ_=>.ite (λ_=>?_) λ_=>.ite (λ_=>Fe) λ_=>KK hS (ZO hS ih 6) q i
  ·rw[hS.sign hs];exact((ih q (i+1)).le (bU _)).bind λx x' j _ hx=>.ok (aG _) Jx λhq _=>by rw[hq.2]
  ·exact((ZO hS ih 6 q (i+1)).le (bU _)).bind λx x' j _ hx=>(eA _).bind λ_ _ _ _ _=>.ok (aG _) hx λhq _=>hq.1.2
def nY: Er L L' (dB L) (dB L'):=λq i=>by unfold dB mY;rw[hS.len];exact ZO hS (axD hS _) 6 q i
def Nf: Er L L' (yZ L) (yZ L'):=KK hS (nY hS)
def uR: Er L L' (fB L) (fB L'):=λq i=>by
 unfold fB;simp only[hS.aW];exact(eA _).bind λ_ _ j _ _=>(nY hS _ j).bind λx x' j' _ hx=>(eA _).bind λ_ _ _ _ _=>.ok (aG _) hx λhq _=>hq.1.2
theorem Sh.pQ(i:Nat):pQ L' i=pQ L i:=by
 unfold Px.pQ;rw[hS.iT i [Nq] aE]
 cases h1:dB L (i+1) with
 | ok xj=>
  obtain⟨x,j⟩:=xj;obtain⟨_,_,x',h2,_⟩:=nY hS True (i+1) x j h1;rw[h2]
  show (_&&Px.iT L' j [pI])=_
  rw[hS.iT j [pI] aE]
 | error e=>
  cases h2:dB L' (i+1) with
  | ok xj=>
   obtain⟨x,j⟩:=xj;obtain⟨_,_,x',h3,_⟩:=nY hS.symm True (i+1) x j h2;rw[h1]at h3;cases h3
  | error e=>rfl
variable {w:AAE} (hw:(prs.all λq=>eH q.1 [w]==eH q.2 [w])=true)
include hw
def zR: Er L L' (gL L w) (gL L' w):=λq i=>by
 unfold gL;rw[hS.iT i _ hw];exact .ite (λ_=>(uR hS q (i+1)).le (bU _)) λ_=>.ok (aG _) xZ λ_ _=>rfl
def Nh: Er L L' (jK L w) (jK L' w):=λq i=>by
 unfold jK;rw[hS.iT i _ hw];exact .ite (λ_=>(nY hS q (i+1)).le (bU _)) λ_=>.ok (aG _) xZ λ_ _=>rfl
def JV: Er L L' (nP L w) (nP L' w):=λq i=>by
 unfold nP;simp only[hS.iT i _ hw,hS.aW];exact .ite (λ_=>((eA (i:=i+1) _).le (bU _)).bind λ_ _ j _ _=>(Nf hS _ j).bind λx x' j' _ hx=>(eA _).bind λ_ _ _ _ _=>.ok (aG _) hx λhq _=>hq.1.2) λ_=>.ok (aG _) xZ λ_ _=>rfl
def Ej: Er L L' (fH L w) (fH L' w):=λq i=>by
 unfold fH;rw[hS.iT i _ hw];exact .ite (λ_=>JV hS hw q i) λ_=>.err _ _
omit hw
def Hb(q:Prop)(i:Nat):E L L' q i (rT L i) (rT L' i):=by
 unfold rT;simp only[hS.aW,hS.fV _ [gR] aE];exact(xI _).bind λ_ _ _ _ _=>(eA _).bind λ_ _ _ _ _=>(xT hS _).bind λ_ _ _ _ _=>(eA _).bind λ_ _ _ _ _=>.ok (aG _) rfl λhq _=>hq.1.2
def UO(b:Bool):Er L L' (qL L b) (qL L' b):=λq i=>by
 unfold qL;simp only[hS.aW,hS.cD];exact(xT hS i).bind λs s' j _ _=>.ite (λ_=>((JE hS _ (j+1)).le (bU _)).bind λx x' _ _ hx=>(eA _).bind λ_ _ _ _ _=>.ok (aG _) Jx λhq _=>by rw[hq.1.2,hq.1.1.2])
  λ_=>.ok (aG _) Dt λhq _=>by rw[hq.2]
def axN: Er L L' (eC L) (eC L'):=λq i=>by
 unfold eC;simp only[hS.cD,hS.whole,hS.next,hS.const]
 split
 ·exact Gy hS (nY hS) q i
 ·next n _=>
  refine .ite (λ_=>.ite (λhs=>?_) λ_=>?_) λ_=>Gy hS (nY hS) q i
  ·rw[hS.sign hs];exact((Fe (i:=i+4)).le (Nat.le_add_right _ _)).bind λx x' _ _ hx=>.ok (aG _) (by rw[tU,qQ rfl,bP,dG,qQ rfl,bP,dG,(show uK x=[]from hx)];rfl) λhq _=>by rw[hq.2]
  ·exact((Fe (i:=i+3)).le (Nat.le_add_right _ _)).bind λx x' _ _ hx=>.ok (aG _) Jx λhq _=>by rw[hq.2]
def auI: Er L L' (pS L) (pS L'):=λq i=>by
 unfold pS;simp only[hS.cD];exact(nY hS q i).bind λx x' j _ hx=>.ite (λ_=>((nY hS _ (j+1)).le (bU _)).bind λy y' _ _ hy=>.ok (aG _) (by rw[tU,mL rfl,bP,bP,dG,(show uK x=[]from hx),(show uK y=[]from hy)];rfl) λhq _=>by rw[hq.2,hq.1.2])
  λ_=>.ok (aG _) (by rw[tU,mL rfl,bP,bP,dG,xZ,(show uK x=[]from hx)];rfl) λhq _=>by rw[hq.2]
end
end Px
end
section
namespace Px
open Lx
def In(L:List Tk)(i j:Nat)(a:Int×ByteArray):Prop:=∃ n:Nat,a.1=n/\i<=n/\n<j/\(tok L n).kind=1/\cl (tok L n).text=cl a.2
def I{α:Type}[Kn α](L L':List Tk)(A:List (Int×ByteArray))(i:Nat)(r r':R α):Prop:=(∀ a,a∈A->a.1<i)->∀ x j,r=.ok (x,j)->
 i<=j/\(∀ a,a∈Kn.K x->a∈A\/In L i j a)/\((∀ p,i<=p->p<j->tok L' p≠tok L p->∃ a,a∈Kn.K x/\a.1=(p:Int))->r'=.ok (x,j))
def In.le{L:List Tk}{i j k l:Nat}{a:Int×ByteArray}(h:In L i j a)(g:k<=i)(g2:j<=l):In L k l a:=by
 obtain⟨n,h0,h1,h2,h3⟩:=h;exact⟨n,h0,aZ g h1,gH h2 g2,h3⟩
section
variable {α β:Type} [Kn α] [Kn β] {L L':List Tk} {A:List (Int×ByteArray)} {i:Nat}
def I.err(a:Nat)(r':R α):I L L' A i (.error a) r':=λ_ _ _ h=>by cases h
theorem I.ok{x:α}{j:Nat}(h:i<=j)(hK:∀ a,a∈Kn.K x->a∈A):I L L' A i (.ok (x,j)) (.ok (x,j)):=λ_ _ _ h'=>by cases h';exact⟨h,λa ha=>.inl (hK a ha),λ_=>rfl⟩
def I.ite{c:Prop}[Decidable c]{r s r' s':R α}(h:c->I L L' A i r r')(g:¬ c->I L L' A i s s'):I L L' A i (if c then r else s) (if c then r' else s'):=by
 exact Qz
def I.skip{k:Nat}{B:List (Int×ByteArray)}{r r':R α}(g:i<=k)(hB:∀ b,b∈B->In L i k b)(h:I L L' (A++B) k r r'):I L L' A i r r':=λhA x j e=>by
 obtain ⟨h1, h2, h3⟩ := h (λa ha => by
   rcases fP.1 ha with ha | ha
   · have := hA a ha; omega
   · obtain ⟨n, h0, _, h2, _⟩ := hB a ha; omega) x j e
 refine⟨aZ g h1,λa ha=>?_,λhc=>h3 λp h4 h5=>hc p (aZ g h4) h5⟩
 rcases h2 a ha with h|h
 ·rcases fP.1 h with h|h
  ·exact .inl h
  ·exact .inr ((hB a h).le (aG _) h1)
 ·exact .inr (h.le g (aG _))
def I.le{k:Nat}{r r':R α}(h:I L L' A k r r')(g:i<=k):I L L' A i r r':=I.skip (B:=[]) g (λ_ h=>by cases h) (by rw[bD];exact h)
def I.aHa{r r':R α}{f f':α->Nat->R β}(h:I L L' A i r r')(g:∀ x j,i<=j->I L L' (A++Kn.K x) j (f x j) (f' x j)):I L L' A i (aH r f) (aH r' f'):=by
 intro hA y l e
 cases r with
 | error a=>cases e
 | ok xj=>
  obtain⟨x,j⟩:=xj;obtain⟨h1,hx,h3⟩:=h hA x j rfl
  obtain ⟨g1, g2, g3⟩ := g x j h1 (λa ha => by
    rcases fP.1 ha with ha | ha
    · have := hA a ha; omega
    · rcases hx a ha with ha | ⟨n, h0, _, h2, _⟩
      · have := hA a ha; omega
      · omega) y l e
  refine⟨aZ h1 g1,λa ha=>?_,λhc=>?_⟩
  ·rcases g2 a ha with h|h
   ·rcases fP.1 h with h|h
    ·exact .inl h
    ·exact(hx a h).imp id λh=>h.le (aG _) g1
   ·exact .inr (h.le h1 (aG _))
  ·have e1:r'=.ok (x,j):=h3 λp h4 h5 h6=>by
    obtain⟨a,ha,hp⟩:=hc p h4 (gH h5 g1) h6
    rcases g2 a ha with h|h
    ·rcases fP.1 h with h|h
     ·have:=hA a h;omega
     ·exact⟨a,h,hp⟩
    ·obtain⟨n,h0,h1',_⟩:=h;omega
   rw[e1];exact g3 λp h4 h5=>hc p (aZ h1 h4) h5
def I.w{r r':R α}(h:Px.I L L' [] i r r'):I L L' A i r r':=λ_ x j e=>by
 obtain⟨h1,h2,h3⟩:=h (λ_ h=>by cases h) x j e;exact⟨h1,λa ha=>(h2 a ha).imp (λh=>by cases h) id,h3⟩
def I.bind{r r':R α}{f f':α->Nat->R β}(h:I L L' [] i r r')(g:∀ x j,i<=j->I L L' (A++Kn.K x) j (f x j) (f' x j)):I L L' A i (aH r f) (aH r' f'):=I.aHa h.w g
def E.eB{r r':R α}{f f':α->Nat->R β}(h:E L L' True i r r')(g:∀ x j,i<=j->Kn.K x=[]->I L L' A j (f x j) (f' x j)):I L L' A i (aH r f) (aH r' f'):=by
 intro hA y l e
 cases r with
 | error a=>cases e
 | ok xj=>
  obtain⟨x,j⟩:=xj;obtain⟨h1,hK,x',h2,h3⟩:=h x j rfl;obtain⟨g1,g2,g3⟩:=g x j h1 hK (λa ha=>by have:=hA a ha;omega) y l e;refine⟨aZ h1 g1,λa ha=>(g2 a ha).imp id λh=>h.le h1 (aG _),λhc=>?_⟩;have e1:x'=x:=h3 trivial λp h4 h5=>by
   refine Gj λh6=>?_;obtain⟨a,ha,hp⟩:=hc p h4 (gH h5 g1) h6
   rcases g2 a ha with h|h
   ·have:=hA a h;omega
   ·obtain⟨n,h0,h1',_⟩:=h;omega
  rw[h2,e1];exact g3 λp h4 h5=>hc p (aZ h1 h4) h5
theorem E.I{r r':R α}(h:E L L' True i r r'):I L L' [] i r r':=λ_ x j e=>by
 obtain⟨h1,hK,x',h2,h3⟩:=h x j e;refine⟨h1,λa ha=>by rw[hK]at ha;exact .inl ha,λhc=>?_⟩;rw[h2,h3 trivial λp h4 h5=>Gj λh6=>by obtain⟨a,ha,_⟩:=hc p h4 h5 h6;rw[hK]at ha;cases ha]
end
section
variable {L L':List Tk} (hS:Sh L L')
theorem Er.I{f f':Nat->R T}(h:Er L L' f f'):∀ i,I L L' [] i (f i) (f' i):=λi=>E.I (h True i)
include hS
section
variable {f f':Nat->R T} (h:∀ i,I L L' [] i (f i) (f' i))
include h
def aAW: ∀ n acc A j,(∀ a,a∈jJ acc->a∈A)->I L L' A j (iP L f n acc j) (iP L' f' n acc j):=by
 intro n
 induction n with
 | zero=>intro acc A j e;unfold iP;exact .ok (aG _) e
 | succ n ih=>
  intro acc A j e;unfold iP;rw[hS.cD]
  exact .ite (λ_=>((h (j+1)).le (bU _)).bind λx j' _=>ih _ _ j' λa ha=>by
   rw[Ai,bP,dG,bD]at ha
   exact fP.2 ((fP.1 ha).imp (e a) id)) λ_=>.ok (aG _) e
def TY(n i:Nat):I L L' [] i (eR L n f i) (eR L' n f' i):=(h i).bind λx j _=>aAW hS h _ _ _ j λa ha=>by rw[bP,dG,bD]at ha;exact ha
end
def atL: ∀ n i,I L L' [] i (hJ L n i) (hJ L' n i):=by
 intro n
 induction n with
 | zero=>intro i;unfold hJ;exact .err _ _
 | succ n ih=>
  intro i;unfold hJ;simp only[hS.kind,hS.number,hS.aW,hS.cD,hS.const,hS.len]
  refine .ite (λ_=>(Oc 1 100).eB λn j _ _=>(eA _).eB λ_ j1 _ _=>(TY hS ih _ j1).bind λl j2 _=>(eA _).eB λ_ j3 _ _=>.ok (aG _) λa ha=>by rw[tU,qQ rfl]at ha;exact ha) λ_=>?_;refine(xT hS i).eB λs j _ _=>.ite (λ_=>.ite (λ_=>Fe.eB λx j' _ hx=>.ok (aG _) λa ha=>by rw[tU,qQ rfl,bP,dG,show uK x=[]from hx]at ha;exact ha) λ_=>.err _ _) λ_=>.ite (λ_=>?_) λ_=>.ok (aG _) λa ha=>by rw[tU,qQ rfl,dG]at ha;exact ha
  exact((AX hS (awX hS) 2 True (j+1)).le (bU _)).eB λl j' _ hl=>(eA _).eB λ_ j2 _ _=>.ok (aG _) λa ha=>by rw[tU,qQ rfl,show jJ l=[]from hl]at ha;exact ha
omit hS in
def apH(s:AAE):cl s=if s=jL then bB else if s=uP then fK else if s=rL then iR else if s=qR then gV else nG s:=rfl
omit hS in
def anV{s:AAE}(h:mJ s≠s):cl (mJ s)=s:=by
 unfold mJ at h ⊢
 repeat (split at h;· next e=>(subst e;decide +kernel))
 exact absurd rfl h
omit hS in
def awF{s t:AAE}(h:mJ (nG s)≠nG s)(e:cl t=cl s):nG t=nG s:=by
 have h1:cl s=nG s:=by
  exact Qy
 rw[h1]at e;rw[<- e]at h ⊢;rw[apH]at h ⊢
 split at h
 ·exact DT
 split at h
 ·exact DT
 split at h
 ·exact DT
 split at h
 ·exact DT
 rw[aC ‹_›,aC ‹_›,aC ‹_›,aC ‹_›]
omit hS in
def aFl{s:AAE}(h:mJ (nG s)≠nG s):cl s=nG s:=by
 exact Qy
omit hS in
def amC{a:Int}{s:AAE}{b:Int×ByteArray}(h:b∈kwL 50 a s):b=(a,mJ s)/\mJ s≠s:=by
 unfold kwL at h;rw[aC aD,aC aD,aC aD,aC aD]at h
 split at h
 ·next g=>exact⟨cO.1 h,g.2⟩
 ·cases h
def aqW(L:List Tk)(i:Nat)(s:AAE)(j:Nat):R T:=
 if s=iC then(if (tok L j).kind=4 then aH (cQ L j) λx j'=>.ok (.mk 50 0 i s [x],j')else .error j)
 else if s=uH then aH (mG L (dB L) j) λx j'=>.ok (.mk 50 0 i s [x],j')
 else if cD L j [cJ]then
  (if cD L (j+1) [dA]then .ok (.mk 50 1 i s [],j+2)
   else aH (eR L 60 (eC L) (j+1)) λl j'=>aH (aW L j' dA) λ_ j2=>.ok (.mk 50 1 i s l,j2))
 else .ok (.mk 50 0 i s [],j)
def Ng(i:Nat):I L L' [] i (dS L i) (dS L' i):=by
 have G:∀ s j,I L L' (kwL 50 i s) j (aqW L i s j) (aqW L' i s j):=λs j=>by
  unfold aqW;simp only[hS.kind,hS.const,hS.cD,hS.aW]
  have K:∀ (n:Int) l,jJ l=[]->∀ a,a∈Kn.K (T.mk 50 n i s l)->a∈kwL 50 i s:=λn l hl a ha=>by rw[tU,Ek,hl,bD]at ha;exact ha
  have K1:∀ (x:T),Kn.K x=[]->jJ [x]=[]:=λx hx=>by rw[bP,dG,show uK x=[]from hx];rfl
  refine .ite (λ_=>.ite (λ_=>Fe.eB λx j' _ hx=>.ok (aG _) (K _ _ (K1 x hx))) λ_=>.err _ _) λ_=>.ite (λ_=>(Ob hS (nY hS) True j).eB λx j' _ hx=>.ok (aG _) (K _ _ (K1 x hx))) λ_=>
   .ite (λ_=>.ite (λ_=>.ok aB (K _ _ dG)) λ_=>((AX hS (axN hS) 60 True (j+1)).le (bU _)).eB λl j' _ hl=>(eA _).eB λ_ _ _ _=>.ok (aG _) (K _ _ hl)) λ_=>.ok (aG _) (K _ _ dG)
 intro _ x j e;have u:∀ L,dS L i=aH (iN L i) λs0 j=>aqW L i (nG s0) j:=λ_=>rfl
 rw[u]at e ⊢;unfold iN at e ⊢
 by_cases hn:isName L i=true
 ·rw[aF hn]at e;rw[hS.nm,aF hn];obtain⟨h1,h2,h3⟩:=G (nG (tok L i).text) (i+1) (λa ha=>by rw[(amC ha).1];show (i:Int)<_;omega) x j e;refine⟨by omega,λa ha=>.inr ?_,λhc=>?_⟩
  ·rcases h2 a ha with h|h
   ·obtain⟨rfl,hs⟩:=amC h;exact⟨i,rfl,aG _,h1,kW.1 hn,by rw[anV hs,aFl hs]⟩
   ·exact h.le (bU _) (aG _)
  ·have e1:nG (tok L' i).text=nG (tok L i).text:=by
    by_cases ht:tok L' i=tok L i
    ·rw[ht]
    ·obtain⟨a,ha,hp⟩:=hc i (aG _) h1 ht
     rcases h2 a ha with h|h
     ·exact awF (amC h).2 (hS.cl i)
     ·obtain⟨n,h0,h1',_⟩:=h;omega
   have:=h3 λp h4 h5=>hc p aB h5
   rw[<- e1]at this;exact this
 ·rw[aC hn]at e;cases e
def asK: ∀ n acc A j,(∀ a,a∈jJ acc->a∈A)->I L L' A j (jC L n acc j) (jC L' n acc j):=by
 intro n
 induction n with
 | zero=>intro acc A j e;unfold jC;exact .ok (aG _) e
 | succ n ih=>
  intro acc A j e;unfold jC;rw[hS.nm]
  exact .ite (λ_=>(Ng hS j).bind λx j' _=>ih _ _ j' λa ha=>by
   rw[Ai,bP,dG,bD]at ha
   exact fP.2 ((fP.1 ha).imp (e a) id)) λ_=>.ok (aG _) e
def aeK(n i:Nat):I L L' [] i (pR L n i) (pR L' n i):=asK hS n [] [] i λa ha=>by rw[dG]at ha;exact ha
def aEU: ∀ n i,I L L' [] i (mU L n i) (mU L' n i):=by
 intro n
 induction n with
 | zero=>intro i;unfold mU;exact .err _ _
 | succ n ih=>
  intro i;unfold mU;simp only[hS.kind,hS.number,hS.aW,hS.cD]
  refine E.eB (.ite (λ_=>(Oc 1 99).bind λn n' j _ _=>.ok (aG _) rfl λhq _=>by rw[hq.2]) λ_=>.ok (aG _) rfl λ_ _=>rfl) λn j _ _=>?_;refine I.bind (.ite (λ_=>((TY hS ih 30 (j+1)).le (bU _)).bind λl j' _=>(eA _).eB λ_ _ _ _=>.ok (aG _) λa ha=>by rw[tU,zL]at ha;exact ha) λ_=>(JE hS True j).I) λwh j1 _=>?_;refine E.eB (.ite (λ_=>((AX hS (auI hS) 3 True (j1+1)).le (bU _)).bind λl l' j' _ hl=>(eA _).bind λ_ _ _ _ _=>.ok (aG _) (by rw[tU,zL];exact hl) λhq _=>by rw[hq.1.2]) λ_=>.ok (aG _) Jq λ_ _=>rfl) λbs j2 _ hb=>?_;exact(aeK hS 12 j2).bind λaSq j3 _=>.ok (aG _) λa ha=>by
   rw[tU,qQ rfl,bP,bP,show uK bs=[]from hb]at ha;exact ha
end
end Px
end
section
namespace Px
open Lx
section
variable {L L':List Tk} (hS:Sh L L')
include hS
def aAc(label:AAE)(i:Nat):I L L' [] i (BP L label i) (BP L' label i):=by
 unfold BP;rw[hS.fV _ [sO] aE];refine(xI _).eB λ_ j _ _=>λ_ x k e=>?_;have hK:∀ a,a∈Kn.K x->a∈([]:List (Int×ByteArray))\/In L j k a:=λa ha=>by rw[aKm]at ha;cases ha
 unfold aW at e ⊢
 by_cases hc:label.size≠0/\iT L j [label]=true
 ·rw[aF hc]at e
  split at e
  ·next hs=>
   cases e
   refine⟨by omega,hK,λh=>?_⟩;have ht:tok L' j=tok L j:=Gj λg=>by obtain⟨a,ha,_⟩:=h j (aG _) aB g;rw[aKm]at ha;cases ha
   rw[aF (show label.size≠0/\iT L' j [label]=true from⟨hc.1,by unfold iT;rw[ht];exact hc.2⟩),hS.cD,aF hs]
  ·cases e
 ·rw[aC hc]at e
  split at e
  ·next hs=>
   cases e
   refine⟨by omega,hK,λh=>?_⟩;rw[aC (show ¬ (label.size≠0/\iT L' j [label]=true)from λg=>hc ⟨g.1,by have:=g.2;unfold iT at this ⊢; rw[hS.sign hs]at this;exact this⟩),hS.cD,aF hs]
  ·cases e
def Mj{A:List (Int×ByteArray)}{t:T}(i:Nat)(h:∀ a,a∈uK t->a∈A):I L L' A i (bK L t i) (bK L' t i):=by
 unfold bK;rw[hS.aW];exact(eA _).eB λ_ _ _ _=>.ok (aG _) h
omit hS in
def aBt{i:Nat}{ss:List ByteArray}{s:AAE}(h:iT L i ss=true)(hs:(ss.all λx=>decide (cl x=cl s))=true):In L i (i+1) ((i:Int),s):=by
 unfold iT at h;simp only[bA,kW,eX]at h
 exact⟨i,rfl,aG _,pC _,h.1,by have:=iJ.1 hs _ h.2;exact iG this⟩
variable {st st' nr nr':Nat->R T} (hT:∀ i,I L L' [] i (st i) (st' i)) (hN:∀ i,I L L' [] i (nr i) (nr' i))
section
include hT
def atM(label:AAE):∀ n acc A i,(∀ a,a∈jJ acc->a∈A)->I L L' A i (jE L st label n acc i) (jE L' st' label n acc i):=by
 intro n
 induction n with
 | zero=>intro acc A i _;unfold jE;exact .err _ _
 | succ n ih=>
  intro acc A i h;unfold jE;rw[hS.keyword _ [sO] aE];exact .ite (λ_=>(aAc hS label i).bind λ_ j _=>.ok (aG _) λa ha=>CQ _ (h a ha)) λ_=>(hT i).bind λx j _=>ih _ _ j λa ha=>by
   rw[Ai,bP,dG,bD]at ha;exact QA
def Fh(label:AAE)(i:Nat):I L L' [] i (iO L st label i) (iO L' st' label i):=by
 unfold iO;rw[hS.len];exact atM hS hT label _ [] [] i λa ha=>by rw[dG]at ha;exact ha
def aaF(a:Nat)(label:AAE)(i:Nat):I L L' [((a:Int),jL)] i (iE L st a label i) (iE L' st' a label i):=by
 unfold iE;simp only[hS.cD,hS.aW,hS.iT _ [gB] aE,hS.fV _ [pO] aE,hS.iT _ [gE] aE,hS.iT _ [gP] aE]
 refine E.eB (.ite (λ_=>((AX hS (JE hS) 8 True (i+1)).le (bU _)).bind λl l' j _ hl=>(eA _).bind λ_ _ _ _ _=>.ok (aG _) (by rw[tU,zL];exact hl) λhq _=>by rw[hq.1.2]) λ_=>.ok (aG _) Jq λ_ _=>rfl) λps j _ hp=>?_;refine E.eB (.ite (λ_=>((eA (i:=j+1) _).le (bU _)).bind λ_ _ _ _ _=>(xI _).bind λ_ _ _ _ _=>(eA _).bind λ_ _ _ _ _=>.ok (aG _) rfl λ_ _=>rfl) λ_=>.ite (λ_=>.ok (bU _) rfl λ_ _=>rfl) λ_=>.ok (aG _) rfl λ_ _=>rfl) λn j1 _ _=>?_
 refine I.bind (.ite (λ_=>((eA (i:=j1+1) _).le (bU _)).eB λ_ k1 _ _=>(Ng hS k1).bind λx k2 _=>(aeK hS 3 k2).bind λxs k3 _=>(eA _).eB λ_ k4 _ _=>.ok (aG _) λa ha=>by rw[tU,zL,bP]at ha;exact ha)
  λ_=>.ok (aG _) λa ha=>by rw[tU,xZ]at ha;cases ha) λret j2 _=>?_
 refine(eA _).eB λ_ j3 _ _=>(Fh hS hT label j3).bind λg j4 _=>.ok (aG _) λb hb=>?_;rw[tU,Ek,bP,bP,show uK ps=[]from hp]at hb;rw[bT];exact hb
def aJE(a:Nat)(label:AAE)(i:Nat):I L L' [] i (doP L st a label i) (doP L' st' a label i):=by
 unfold doP;simp only[hS.cD,hS.aW,hS.eF,hS.iT _ [gF,gA] aE]
 refine .ite (λ_=>((Fh hS hT label (i+1)).le (bU _)).bind λg j _=>.ok (aG _) λb hb=>by rw[tU,mL rfl]at hb;exact hb) λ_=>.ite (λ_=>?_) λ_=>.ite (λ_=>?_) λ_=>.err _ _
 ·refine(Nf hS True i).eB λr j _ h0=>(eA _).eB λ_ j1 _ _=>(nY hS True j1).eB λx j2 _ h2=>(Nh hS (w:=Fj) aE True j2).eB λt j3 _ h3=>(Nh hS (w:=Xd) aE True j3).eB λc j4 _ h4=>
   (zR hS (w:=gF) aE True j4).eB λwh j5 _ h5=>(zR hS (w:=gA) aE True j5).eB λun j6 _ h6=>(eA _).eB λ_ j7 _ _=>(Fh hS hT label j7).bind λg j8 _=>.ok (aG _) λb hb=>?_
  rw[tU,mL rfl,bP,bP,bP,bP,bP,bP,show uK r=[]from h0,show uK x=[]from h2,show uK t=[]from h3,show uK c=[]from h4,show uK wh=[]from h5,show uK un=[]from h6]at hb;exact hb
 ·refine(zR hS (w:=gF) aE True i).eB λwh j _ h0=>(zR hS (w:=gA) aE True j).eB λun j1 _ h1=>(eA _).eB λ_ j2 _ _=>(Fh hS hT label j2).bind λg j3 _=>.ok (aG _) λb hb=>?_;rw[tU,mL rfl,bP,bP,show uK wh=[]from h0,show uK un=[]from h1]at hb;exact hb
end
def Yy(k:Int)(hk:noK k=true)(a:Nat){f f':Nat->R T}(hf:Er L L' f f')(i:Nat):I L L' [] i (jT L k a f i) (jT L' k a f' i):=by
 unfold jT;simp only[hS.aW,hS.number,hS.iT _ [gR] aE,hS.iT _ [sV] aE,hS.iT _ [wQ,rX] aE,hS.iT _ [rX] aE]
 refine E.eB (.ite (λ_=>Hb hS _ i) λ_=>.ok (aG _) rfl λ_ _=>rfl) λw j _ _=>?_;refine E.eB (.ite (λ_=>((eA (i:=j+1) _).le (bU _)).bind λ_ _ _ _ _=>(Oc 1 99).bind λn n' _ _ _=>(eA _).bind λ_ _ _ _ _=>.ok (aG _) rfl λhq _=>by rw[hq.1.2]) λ_=>.ok (aG _) rfl λ_ _=>rfl) λn j1 _ _=>?_
 refine I.bind (.ite (λ_=>((eA (i:=j1+1) _).le (bU _)).eB λ_ k1 _ _=>(AX hS hf 16 True k1).eB λl k2 _ hl=>(eA _).eB λ_ k3 _ _=>
  .ite (λ_=>(eA _).eB λ_ k4 _ _=>(TY hS (λi=>by unfold uZ;rw[hS.len];exact atL hS _ i) 32 k4).bind λm k5 _=>(eA _).eB λ_ k6 _ _=>.ok (aG _) λb hb=>?_)
   λ_=>.ok (aG _) λb hb=>?_) λ_=>.ok (aG _) λb hb=>?_) λlm j2 _=>Mj hS j2 λb hb=>?_
 ·rw[aIR,zL,zL,show jJ l=[]from hl]at hb;exact hb
 ·rw[aIR,zL,xZ,show jJ l=[]from hl]at hb;exact hb
 ·rw[aIR,xZ]at hb;exact hb
 ·rw[qQ hk,bP,bP,dG,bD]at hb;exact hb
def pD{A:List (Int×ByteArray)}{k n a:Int}{w:AAE}{l:List T}(hk:noK k=true)(hl:jJ l=[])(j:Nat):I L L' A j (bK L (.mk k n a w l) j) (bK L' (.mk k n a w l) j):=Mj hS j λb hb=>by
 rw[qQ hk,hl]at hb;cases hb
omit hS in
def ks1{x:T}(h:Kn.K x=[]):jJ [x]=[]:=by rw[bP,dG,show uK x=[]from h];rfl
omit hS in
def ks2{x y:T}(h:Kn.K x=[])(g:Kn.K y=[]):jJ [x,y]=[]:=by rw[bP,show uK x=[]from h,ks1 g];rfl
def Vo(k:Int)(hk:noK k=true)(a i:Nat):I L L' [] i (iQ L k a i) (iQ L' k a i):=by
 unfold iQ;rw[hS.nm];exact .ite (λ_=>(xT hS i).eB λs j _ _=>pD hS hk dG j) λ_=>pD hS hk dG i
def aDR(a i:Nat):I L L' [] i (GL L a i) (GL L' a i):=(VE hS (nY hS) True i).eB λx j _ hx=>pD hS rfl (by unfold node;rw[bP,dG,qQ rfl,ks1 hx];rfl) j
def aGJ(a i:Nat):I L L' [] i (Dm L a i) (Dm L' a i):=by
 unfold Dm;rw[hS.cD];exact .ite (λ_=>(uR hS True i).eB λx j _ hx=>pD hS rfl (ks1 hx) j) λ_=>pD hS rfl dG i
def apN(a i:Nat):I L L' [] i (yS L a i) (yS L' a i):=(xT hS i).eB λs j _ _=>pD hS rfl dG j
def aeM(a i:Nat):I L L' [((a:Int),rL)] i (pU L a i) (pU L' a i):=(xT hS i).eB λs j _ _=>(JV hS (w:=GN) aE True j).eB λx j1 _ hx=>(JV hS (w:=JJ) aE True j1).eB λy j2 _ hy=>Mj hS j2 λb hb=>by
 rw[Ek,ks2 hx hy,bD]at hb;exact hb
def aGN(a i:Nat):I L L' [] i (GD L a i) (GD L' a i):=(Nf hS True i).eB λr j _ hr=>(JV hS (w:=JJ) aE True j).eB λx j1 _ hx=>pD hS rfl (ks2 hr hx) j1
def aFP(a i:Nat):I L L' [] i (GF L a i) (GF L' a i):=(Hb hS True i).eB λs j _ _=>(Ej hS (w:=yV) aE True j).eB λr j1 _ hr=>(zR hS (w:=oW) aE True j1).eB λx j2 _ hx=>pD hS rfl (ks2 hr hx) j2
def aDz(a i:Nat):I L L' [] i (Ab L a i) (Ab L' a i):=by
 unfold Ab;simp only[hS.fV _ [nJ] aE];exact(Hb hS True i).eB λs j _ _=>(Ej hS (w:=oE) aE True j).eB λr j1 _ hr=>(xI _).eB λ_ j2 _ _=>(uR hS True j2).eB λx j3 _ hx=>pD hS rfl (ks2 hr hx) j3
def alY(a i:Nat):I L L' [] i (sK L a i) (sK L' a i):=(Hb hS True i).eB λs j _ _=>(Ej hS (w:=oE) aE True j).eB λr j1 _ hr=>(zR hS (w:=oW) aE True j1).eB λx j2 _ hx=>pD hS rfl (ks2 hr hx) j2
def ayF(a i:Nat):I L L' [] i (uB L a i) (uB L' a i):=by
 unfold uB;simp only[hS.fV _ [oW] aE];exact(Hb hS True i).eB λs j _ _=>(xI _).eB λ_ j1 _ _=>(uR hS True j1).eB λx j2 _ hx=>pD hS rfl (ks1 hx) j2
def alG(a i:Nat):I L L' [((a:Int),uP)] i (sM L a i) (sM L' a i):=(TY hS (λi=>by unfold IQ;rw[hS.len];exact aEU hS _ i) 60 i).bind λl j _=>Mj hS j λb hb=>by
 unfold node at hb;rw[Ek]at hb;exact hb
section
include hN
def aDd: ∀ n acc A i,(∀ a,a∈jJ acc->a∈A)->I L L' A i (jW L nr n acc i) (jW L' nr' n acc i):=by
 intro n
 induction n with
 | zero=>intro acc A i _;unfold jW;exact .err _ _
 | succ n ih=>
  intro acc A i h;unfold jW;simp only[hS.aW,hS.iT _ [xP] aE]
  refine .ite (λ_=>?_) λ_=>.ok (aG _) h
  refine((eA (i:=i+1) _).le (bU _)).eB λ_ j _ _=>(AX hS (nY hS) 8 True j).eB λl j1 _ hl=>(eA _).eB λ_ j2 _ _=>(hN j2).bind λx j3 _=>ih _ _ j3 λa ha=>?_;rw[Ai,bP,dG,bD,mL rfl,Ai,bP,dG,bD,show jJ l=[]from hl]at ha;exact QA
def auH(a:Nat)(label:AAE)(i:Nat):I L L' [] i (lL L nr a label i) (lL L' nr' a label i):=by
 unfold lL;simp only[hS.cD,hS.aW,hS.iT _ [gV,qR] aE,hS.len]
 refine E.eB (.ite (λ_=>uR hS True i) λ_=>.ok (aG _) xZ λ_ _=>rfl) λx j _ hx=>(eA _).eB λ_ j1 _ _=>I.bind (aDd hS hN _ [x] [] j1 λa ha=>by rw[ks1 hx]at ha;exact ha) λl j2 _=>?_;refine I.aHa (.ite (λho=>?_) λ_=>.ok (aG _) λa ha=>ha) λl2 j3 _=>(aAc hS label j3).bind λ_ j4 _=>.ok (aG _) λb hb=>?_
 ·refine I.skip (B:=[((j2:Int),qR)]) (bU _) (λb hb=>by rw[cO.1 hb];exact aBt ho aE) ((hN (j2+1)).bind λy j3 _=>.ok (aG _) λb hb=>?_);rw[aLD,Ai,bP,dG,bD]at hb;unfold node at hb;rw[Ek,bP,dG,bD,<- bT]at hb;exact hb
 ·rw[tU,mL rfl]at hb;exact CQ _ (GA _ hb)
def atG(a i:Nat):I L L' [] i (qM L nr a i) (qM L' nr' a i):=by
 unfold qM;simp only[hS.fV _ [pI] aE,hS.keyword _ [qK] aE]
 refine(nY hS True i).eB λx j _ hx=>(xI _).eB λ_ j1 _ _=>(hN j1).bind λy j2 _=>.ite (λ_=>((hN (j2+1)).le (bU _)).bind λz j3 _=>.ok (aG _) λb hb=>?_) λ_=>.ok (aG _) λb hb=>?_
 ·rw[tU,mL rfl,bP,bP,bP,dG,show uK x=[]from hx,bD]at hb;exact hb
 ·rw[tU,mL rfl,bP,bP,dG,show uK x=[]from hx,bD]at hb;exact hb
def aJv(a i:Nat):I L L' [] i (onP L nr a i) (onP L' nr' a i):=by
 unfold onP;simp only[hS.cD,hS.nm,hS.keyword _ [pN] aE]
 refine(UO hS _ True i).eB λc j _ hc=>.ite (λ_=>(pD hS rfl (ks2 hc (by unfold node;rw[tU,qQ rfl,dG])) (j+1)).le (bU _)) λ_=>(hN j).bind λx j1 _=>.ok (aG _) λb hb=>?_;rw[tU,mL rfl,bP,bP,dG,show uK c=[]from hc,bD]at hb;exact hb
end
end
end Px
end
section
namespace Px
open Lx
def Uu{P:R T->R T->Prop}{c:Prop}{d d':Decidable c}{x x':R T}{y y':Option (R T)}{r:R T}(hr:@ite _ c d (some x) y=some r)(h1:c->P x x')(h2:y=some r->∃ r',y'=some r'/\P r r'):∃ r',@ite _ c d' (some x') y'=some r'/\P r r':=by
 by_cases h:c
 ·rw[aF h]at hr ⊢; cases hr;exact⟨x',rfl,h1 h⟩
 ·rw[aC h]at hr ⊢; exact h2 hr
def Ow(L L':List Tk)(a:Nat)(w:AAE)(i:Nat)(r r':R T):Prop:=∃ A:List (Int×ByteArray),(∀ b,b∈A->b.1=(a:Int)/\cl b.2=cl w)/\I L L' A i r r'
def Ow.no{L L':List Tk}{a:Nat}{w:AAE}{i:Nat}{r r':R T}(h:I L L' [] i r r'):Ow L L' a w i r r':=⟨[],λ_ h=>oU,h⟩
def Ow.one{L L':List Tk}{a:Nat}{w s:AAE}{i:Nat}{r r':R T}(hs:cl s=cl w)(h:I L L' [((a:Int),s)] i r r'):Ow L L' a w i r r':=⟨_,λb hb=>by rw[cO.1 hb];exact⟨rfl,hs⟩,h⟩
section
variable {L L':List Tk} (hS:Sh L L')
include hS
section
variable {st st' nr nr':Nat->R T} (hT:∀ i,I L L' [] i (st i) (st' i)) (hN:∀ i,I L L' [] i (nr i) (nr' i))
include hT hN
def akJ{w w':AAE}(e:cl w'=cl w)(a:Nat)(label:AAE)(i:Nat)(r:R T)(hr:bL L st nr w a label i=some r):∃ r',bL L' st' nr' w' a label i=some r'/\Ow L L' a w i r r':=by
 unfold bL at hr ⊢
 simp only[anY bB jL aE e,uX Bg aE e,uX LJ aE e,uX qB aE e,uX Nq aE e,uX Ch aE e,uX lM aE e,
  uX wGO aE e,uX aeU aE e,uX pM aE e,uX jO aE e,uX DN aE e,uX wON aE e,uX rD aE e,uX rC aE e,
  anY iR rL aE e,uX CA aE e,uX FA aE e,uX FC aE e,uX Bj aE e,uX uM aE e,uX nZ aE e,uX sC aE e,anY fK uP aE e]
 refine Uu hr (λh=>.one Iy (aaF hS hT a label i)) λhr=>?_;refine Uu hr (λ_=>.no (by rw[hS.aW];exact(eA _).eB λ_ j _ _=>(Fh hS hT label j).bind λg j1 _=>.ok (aG _) λb hb=>by rw[tU,mL rfl]at hb;exact hb)) λhr=>?_;refine Uu hr (λ_=>.no (aJE hS hT a label i)) λhr=>?_;refine Uu hr (λ_=>.no (auH hS hN a label i)) λhr=>?_;refine Uu hr (λ_=>.no (atG hS hN a i)) λhr=>?_;refine Uu hr (λ_=>.no (aDR hS a i)) λhr=>?_;refine Uu hr (λ_=>.no (aGJ hS a i)) λhr=>?_;refine Uu hr (λ_=>.no (by rw[hS.fV _ [Fj] aE];exact(xI _).eB λ_ j _ _=>apN hS a j)) λhr=>?_;refine Uu hr (λ_=>.no (apN hS a i)) λhr=>?_;refine Uu hr (λ_=>.no (Vo hS 28 rfl a i)) λhr=>?_;refine Uu hr (λ_=>.no (Vo hS 29 rfl a i)) λhr=>?_;refine Uu hr (λ_=>.no (pD hS rfl dG i)) λhr=>?_;refine Uu hr (λ_=>.no (aJv hS hN a i)) λhr=>?_;refine Uu hr (λ_=>.no ((UO hS true True i).eB λc j _ hc=>pD hS rfl (ks1 hc) j)) λhr=>?_;refine Uu hr (λ_=>.no ((UO hS true True i).eB λc j _ hc=>pD hS rfl (ks1 hc) j)) λhr=>?_;refine Uu hr (λh=>.one Iy (aeM hS a i)) λhr=>?_;refine Uu hr (λ_=>.no (aGN hS a i)) λhr=>?_;refine Uu hr (λ_=>.no (Yy hS 38 rfl a (Nf hS) i)) λhr=>?_;refine Uu hr (λ_=>.no (Yy hS 39 rfl a (nY hS) i)) λhr=>?_;refine Uu hr (λ_=>.no (aFP hS a i)) λhr=>?_;refine Uu hr (λ_=>.no (aDz hS a i)) λhr=>?_;refine Uu hr (λ_=>.no (alY hS a i)) λhr=>?_;refine Uu hr (λ_=>.no (ayF hS a i)) λhr=>?_;refine Uu hr (λh=>.one Iy (alG hS a i)) λhr=>?_
 cases hr
def aCq(inr:Bool)(label:AAE)(i:Nat):I L L' [] i (mS L st nr inr label i) (mS L' st' nr' inr label i):=by
 unfold mS;simp only[hS.cD,hS.eF,hS.pQ,hS.aW,hS.nm,hS.iT _ [bB,jL] aE,hS.iT _ [fK,uP] aE]
 refine .ite (λ_=>.ok (bU _) λb hb=>by rw[tU,mL rfl,dG]at hb;exact hb) λ_=>.ite (λ_=>?_) λ_=>.ite (λ_=>.err _ _) λhc=>?_
 ·exact(Nf hS True i).eB λr j _ hr=>(eA _).eB λ_ j1 _ _=>(nY hS True j1).eB λx j2 _ hx=>(eA _).eB λ_ j3 _ _=>.ok (aG _) λb hb=>by rw[tU,mL rfl,ks2 hr hx]at hb;exact hb
 ·cases hd:bL L st nr (tok L i).text i label (i+1) with
  | none=>exact .err _ _
  | some r=>
   obtain⟨r',h',A,hA,hI⟩:=akJ hS hT hN (hS.cl i) i label (i+1) r hd;rw[h'];refine I.skip (B:=A) (bU i) (λb hb=>⟨i,(hA b hb).1,aG _,pC _,?_,(hA b hb).2.symm⟩) (by rw[dI];exact hI);have hn:isName L i=true:=by cases hn:isName L i with|true=>rfl|false=>exact absurd (.inl hn) hc
   exact kW.1 hn
end
def Iz{lab lab':Bool->ByteArray->Nat->R T}(h:∀ b s i,I L L' [] i (lab b s i) (lab' b s i))(inr:Bool)(i:Nat):I L L' [] i (cH L lab inr i) (cH L' lab' inr i):=by
 unfold cH;simp only[hS.cD,hS.aW]
 exact .ite (λ_=>((AX hS (JE hS) 4 True (i+1)).le (bU _)).eB λl j _ hl=>(eA _).eB λ_ j1 _ _=>(eA _).eB λ_ j2 _ _=>(h inr e0 j2).bind λx j3 _=>.ok (aG _) λb hb=>by
  rw[tU,mL rfl,Ai,show jJ l=[]from hl,bP,dG,bD]at hb;exact hb) λ_=>h inr e0 i
def aIJ: ∀ n b s i,I L L' [] i (jG L n b s i) (jG L' n b s i):=by
 intro n
 induction n with
 | zero=>intro b s i;unfold jG;exact .err _ _
 | succ n ih=>
  intro b s i;unfold jG;rw[hS.eF,hS.labelled];refine .ite (λ_=>aCq hS (Iz hS ih false) (Iz hS ih true) b s i) λ_=>?_;have h0:I L L' [] (i+2) (aH (jG L n b (tok L i).text (i+2)) λx j=>.ok (T.mk 14 0 i (tok L i).text [x],j)) (aH (jG L' n b (tok L i).text (i+2)) λx j=>.ok (T.mk 14 0 i (tok L i).text [x],j)):=
   (ih b _ (i+2)).bind λx j _=>.ok (aG _) λa ha=>by rw[tU,qQ rfl,bP,dG,bD]at ha;exact ha
  intro hA x j e;obtain⟨h1,h2,h3⟩:=h0 (λ_ h=>by cases h) x j e;refine⟨by omega,λa ha=>(h2 a ha).imp id λh=>h.le aB (aG _),λhc=>?_⟩;have ht:tok L' i=tok L i:=Gj λg=>by
   obtain⟨a,ha,hp⟩:=hc i (aG _) aB g
   rcases h2 a ha with h|⟨n,h0,h1',_⟩
   ·cases h
   ·omega
  rw[ht];exact h3 λp h4 h5=>hc p aB h5
def aDZ(i:Nat):I L L' [] i (rW L i) (rW L' i):=by unfold rW;rw[hS.len];exact Iz hS (aIJ hS _) false i
def LD(i:Nat):I L L' [] i (fC L i) (fC L' i):=by
 unfold fC;simp only[hS.aW,hS.fV _ [bB,jL] aE,hS.fV _ [gB] aE,hS.fV _ [pO] aE]
 refine(xT hS i).eB λs j _ _=>(eA _).eB λ_ j1 _ _=>?_;have u:∀ f:Unit->Nat->R T,aH (fV L j1 [bB,jL]) f=if iT L j1 [bB,jL]=true then f () (j1+1)else .error j1:=λf=>by unfold fV;split<;>rfl
 rw[u,u];refine .ite (λhw=>I.skip (B:=[((j1:Int),jL)]) (bU _) (λb hb=>by rw[cO.1 hb];exact aBt hw aE) ?_) λ_=>.err _ _
 refine(xI _).eB λ_ j3 _ _=>(eA _).eB λ_ j4 _ _=>(xI _).eB λ_ j5 _ _=>(eA _).eB λ_ j6 _ _=>(eA _).eB λ_ j7 _ _=>(Fh hS (aDZ hS) s j7).bind λg j8 _=>.ok (aG _) λb hb=>?_;rw[tU,qQ rfl,bP,dG,bD,Ek,bP,bP,xZ,mL rfl,dG]at hb;exact hb
end
def chW(w:List Int)(n:Nat):Bool:=decide (w=[])||decide ((w.getD (n % w.length) 0).tmod 2≠0)
def shG(w:List Int):List (Int×ByteArray)->Nat->List Tk->Option (List Tk)
 | [],_,l=>some l
 | a::r,n,l=>if chW w (n+1)then(if a.1<0\/(l.length:Int)<=a.1\/(tok l a.1.toNat).kind≠1 then none else shG w r (n+1) (l.set a.1.toNat ⟨1,a.2⟩))else shG w r (n+1) l
def apZ(l:List Tk)(n p:Nat)(h:n<l.length)(t:Tk):tok (l.set n t) p=if n=p then t else tok l p:=by
 unfold tok;rw[dH,zG]
 by_cases e:n=p
 ·rw[aF e,aF e];subst e;rw[aF h];rfl
 ·rw[aC e,aC e,dH]
def aLv{L:List Tk}{w:List Int}{j:Nat}(hj:j<=L.length):∀ (A:List (Int×ByteArray)) (B:List (Int×ByteArray)) (n:Nat) (l:List Tk),Sh L l->(∀ p,tok l p≠tok L p->∃ a,a∈B/\a.1=(p:Int))->(∀ a,a∈A->In L 0 j a/\a∈B)->∃ l',shG w A n l=some l'/\Sh L l'/\∀ p,tok l' p≠tok L p->∃ a,a∈B/\a.1=(p:Int):=by
 intro A
 induction A with
 | nil=>intro B n l hS hc _;exact⟨l,rfl,hS,hc⟩
 | cons a r ih=>
  intro B n l hS hc hA;unfold shG;obtain⟨⟨m,h0,_,h1,h2,h3⟩,hB⟩:=hA a (.head _);have hl:=hS.len
  split
  ·rw[aC (by rw[h0,CG,hS.kind];exact λg=>g.elim (λg=>by omega) λg=>g.elim (λg=>by omega) λg=>g h2),h0,CG];refine ih B (n+1) _ ⟨by rw[List.length_set];exact hl,λp=>?_⟩ (λp hp=>?_) λb hb=>hA b (.tail _ hb)
   ·rw[apZ l m p aB]
    split
    ·next e=>subst e;exact .inr ⟨h2,rfl,h3.symm⟩
    ·exact hS.at_ p
   ·rw[apZ l m p aB]at hp
    split at hp
    ·next e=>subst e;exact⟨a,hB,h0⟩
    ·exact hc p hp
  ·exact ih B (n+1) l hS hc λb hb=>hA b (.tail _ hb)
def axZ{L:List Tk}{x:T}{j:Nat}(h:fC L 0=.ok (x,j))(hj:j<=L.length)(w:List Int):∃ l',shG w (uK x) 0 L=some l'/\l'.length=L.length/\fC l' 0=.ok (x,j):=by
 have h0:Sh L L:=⟨rfl,λ_=>.inl rfl⟩
 obtain⟨_,h1,_⟩:=LD h0 0 (λ_ h=>by cases h) x j h;have hin:∀ a,a∈uK x->In L 0 j a:=λa ha=>(h1 a ha).resolve_left λg=>by cases g
 obtain⟨l',h2,hS,hc⟩:=aLv (w:=w) hj (uK x) (uK x) 0 L h0 (λp hp=>absurd rfl hp) λa ha=>⟨hin a ha,ha⟩
 obtain⟨_,_,h3⟩:=LD hS 0 (λ_ h=>by cases h) x j h;exact⟨l',h2,hS.len,h3 λp _ _ hp=>hc p hp⟩
end Px
end
section
namespace Px
open Lx
def aGg{P:Tk->Prop}(w:List Int):∀ (A:List (Int×ByteArray)) (n:Nat) (l l':List Tk),(∀ a,a∈A->P ⟨1,a.2⟩)->(∀ x,x∈l->P x)->shG w A n l=some l'->∀ x,x∈l'->P x:=by
 intro A
 induction A with
 | nil=>intro n l l' _ hl h;unfold shG at h;cases h;exact hl
 | cons a r ih=>
  intro n l l' hA hl h;have hr:∀ b,b∈r->P ⟨1,b.2⟩:=λb hb=>hA b (.tail _ hb)
  unfold shG at h
  split at h
  ·split at h
   ·cases h
   ·refine ih _ _ _ hr (λx hx=>?_) h
    rcases List.mem_or_eq_of_mem_set hx with hx|rfl
    ·exact hl x hx
    ·exact hA a (.head _)
  ·exact ih _ _ _ hr hl h
def okW(s:AAE):Prop:=eP 1 s=true/\s.size<=1000
def asF{w:AAE}(h:mJ w≠w):okW (mJ w):=by
 unfold mJ at h ⊢
 repeat' split at h
 all_goals (try exact absurd rfl h)
 all_goals (unfold okW;simp only[*,if_true,if_false];decide +kernel)
def aEs(k a:Int)(w:AAE):∀ b,b∈kwL k a w->okW b.2:=by
 intro b hb;unfold kwL at hb
 repeat' split at hb
 all_goals first
  | (cases hb;done)
  | (obtain rfl:=cO.1 hb;dsimp only;unfold okW;decide +kernel)
  | skip
 rename_i h
 rw[cO.1 hb];exact asF h.2
mutual
theorem ZG: ∀ t:T,∀ b,b∈uK t->okW b.2
 | .mk k n a w l,b,hb=>by
  rw[Ek]at hb;exact(fP.1 hb).elim (aEs k a w b) (adE l b)
theorem adE: ∀ l:List T,∀ b,b∈jJ l->okW b.2
 | [],b,hb=>by rw[dG]at hb;cases hb
 | x::r,b,hb=>by
  rw[bP]at hb;exact(fP.1 hb).elim (ZG x b) (adE r b)
end
def aGe(k a:Int)(w:AAE):(kwL k a w).length<=1:=by
 unfold kwL
 repeat' split
 all_goals simp
mutual
theorem aoM: ∀ t:T,(uK t).length<=nodes t
 | .mk k n a w l=>by
  have h1:=aGe k a w;have h2:=afS l;rw[Ek,aO,nodes];omega
theorem afS: ∀ l:List T,(jJ l).length<=bV l
 | []=>by rw[dG];exact aS _
 | x::r=>by
  have h1:=aoM x;have h2:=afS r;rw[bP,aO,bV];omega
end
def aBh{L:List Tk}{x:T}{j:Nat}(h:fC L 0=.ok (x,j))(hj:j<=L.length):∀ a,a∈uK x->∃ p:Nat,a.1=p/\p<L.length/\(tok L p).kind=1:=λa ha=>by
 obtain⟨_,h1,_⟩:=LD (⟨rfl,λ_=>.inl rfl⟩:Sh L L) 0 (λ_ h=>by cases h) x j h;obtain⟨n,h2,_,h3,h4,_⟩:=(h1 a ha).resolve_left λg=>by cases g
 exact⟨n,h2,by omega,h4⟩
end Px
end
