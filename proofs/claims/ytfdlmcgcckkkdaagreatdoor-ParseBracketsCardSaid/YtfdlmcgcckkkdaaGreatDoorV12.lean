/- ParseWhole, part 12: what it stands on. -/
import Derived.Test.YtfdlmcgcckkkdaaGreatDoorV11
import Derived.Test.YtfdlmcgcckkkdaaGreatDoorV07
import Derived.Test.YtfdlmcgcckkkdaaGreatDoorV10
import Derived.Shelf.SlicesE.Index
import Derived.ArgAppend
import Derived.Recover
import Derived.IntWalk
import Derived.StillTailTactics
set_option linter.all false
set_option maxHeartbeats 40000000
set_option maxRecDepth 100000
namespace Go.Proofs.YtfdlmcgcckkkdaaGreatDoor
section
namespace Px
open Lx
class Mu (α:Type) where
 mu:α→Nat
instance:Mu T:=⟨nodes⟩
instance:Mu (List T):=⟨aH⟩
instance:Mu (T×T):=⟨fun p=>nodes p.1+nodes p.2⟩
instance:Mu Unit:=⟨fun _=>0⟩
instance:Mu ByteArray:=⟨fun _=>0⟩
instance:Mu Nat:=⟨fun _=>0⟩
instance:Mu Int:=⟨fun _=>0⟩
theorem Qd(x:T):Mu.mu x=nodes x:=rfl
theorem RX(x:List T):Mu.mu x=aH x:=rfl
theorem RJ(x:T×T):Mu.mu x=nodes x.1+nodes x.2:=rfl
theorem PV(x:Unit):Mu.mu x=0:=rfl
theorem Rh(x:ByteArray):Mu.mu x=0:=rfl
theorem Rj(x:Nat):Mu.mu x=0:=rfl
theorem RI(x:Int):Mu.mu x=0:=rfl
theorem rX(k n a:Int)(w:ByteArray)(l:List T):nodes (.mk k n a w l)=1+aH l:=by rw[nodes]
theorem yY(k:Int)(a:Nat)(l:List T):nodes (node k a l)=1+aH l:=rX ..
theorem Fb: nodes none_=1:=rX ..
theorem Dp(l:List T):nodes (gC l)=1+aH l:=rX ..
theorem kV: aH []=0:=by rw[aH]
theorem DM(x:T)(l:List T):aH (x::l)=nodes x+aH l:=by rw[aH]
theorem Ib: ∀ (l m:List T),aH (l++m)=aH l+aH m:=by
 intro l m
 induction l with
 | nil=>rw[List.nil_append,aH];omega
 | cons x r ih=>rw[List.cons_append,aH,aH,ih];omega
def Nw{α:Type}[Mu α](M k:Nat)(r:R α):Prop:=∀ x j,r=.ok (x,j)→k+Mu.mu x≤16*j+1∧j≤M
section
variable {α β:Type} [Mu α] [Mu β] {M k m:Nat}
theorem Nw.err(a:Nat):Nw M k (.error a:R α):=fun _ _ h=>by cases h
theorem Nw.ok{j:Nat}{x:α}(h:k+Mu.mu x≤16*j+1)(g:j≤M):Nw M k (.ok (x,j):R α):=fun _ _ e=>by cases e;exact⟨h,g⟩
theorem Nw.bind{r:R α}{f:α→Nat→R β}(h:Nw M k r)(hf:∀ x j,k+Mu.mu x≤16*j+1→j≤M→Nw M m (f x j)):Nw M m (aB r f):=by
 intro y l e
 cases r with
 | error a=>cases e
 | ok xj=>obtain⟨x,j⟩:=xj;exact hf x j (h x j rfl).1 (h x j rfl).2 y l e
theorem Nw.ite{c:Prop}[Decidable c]{r s:R α}(h:c→Nw M k r)(g:¬ c→Nw M k s):Nw M k (if c then r else s):=by
 split
 ·exact h ‹_›
 ·exact g ‹_›
theorem Nw.le{r:R α}(h:Nw M k r)(hm:m≤k):Nw M m r:=fun x j e=>⟨by have:=(h x j e).1;omega,(h x j e).2⟩
end
variable (L:List Tk)
theorem zN{i:Nat}{ss:List ByteArray}(h:sgn L i ss=true):i<L.length:=by
 rcases Nat.lt_or_ge i L.length with h'|h'
 ·exact h'
 ·unfold sgn tok at h;rw[List.getD_eq_getElem?_getD,List.getElem?_eq_none h']at h;cases h
theorem MG{i:Nat}{ss:List ByteArray}(h:wrd L i ss=true):i<L.length:=by
 rcases Nat.lt_or_ge i L.length with h'|h'
 ·exact h'
 ·unfold wrd tok at h;rw[List.getD_eq_getElem?_getD,List.getElem?_eq_none h']at h;cases h
theorem Im{i:Nat}(h:isName L i=true):i<L.length:=by
 rcases Nat.lt_or_ge i L.length with h'|h'
 ·exact h'
 ·unfold isName tok at h;rw[List.getD_eq_getElem?_getD,List.getElem?_eq_none h']at h;cases h
theorem LK{i:Nat}(h:bQ L i=true):i<L.length:=by
 rcases Nat.lt_or_ge i L.length with h'|h'
 ·exact h'
 ·unfold bQ tok at h;rw[List.getD_eq_getElem?_getD,List.getElem?_eq_none h']at h;cases h
theorem Kw{i n:Nat}(h:iU (tok L i)=some n):i<L.length:=by
 rcases Nat.lt_or_ge i L.length with h'|h'
 ·exact h'
 ·unfold tok at h;rw[List.getD_eq_getElem?_getD,List.getElem?_eq_none h']at h;cases h
theorem dS(i:Nat)(s:ByteArray):Nw L.length (16*i+17) (aM L i s):=Nw.ite (fun h=>.ok (by rw[PV];omega) (zN L h)) (fun _=>.err _)
theorem lV(i:Nat)(ss:List ByteArray):Nw L.length (16*i+17) (gU L i ss):=Nw.ite (fun h=>.ok (by rw[PV];omega) (MG L h)) (fun _=>.err _)
theorem uP(i:Nat):Nw L.length (16*i+17) (fN L i):=Nw.ite (fun h=>.ok (by rw[Rh];omega) (Im L h)) (fun _=>.err _)
theorem zM(lo hi i:Nat):Nw L.length (16*i+17) (fA L lo hi i):=by
 unfold fA
 split
 ·rename_i n hn
  exact Nw.ite (fun _=>.ok (by rw[Rj];omega) (Kw L hn)) (fun _=>.err _)
 ·exact .err _
theorem fQ(i:Nat):Nw L.length (16*i+9) (bH L i):=Nw.ite (fun h=>.ok (by rw[Qd,rX,kV];omega) (LK L h)) (fun _=>.err _)
theorem nwA{p:Prop}(h:p:=by simp only[Qd,RX,RJ,PV,Rh,Rj,RI,rX,yY,Fb,Dp,kV,DM,Ib]at *; omega):p:=h
theorem bL{k:Nat}{α:Type}[Mu α]{r:R α}(h:Nw L.length k r:=by repeat (first|exact Nw.err _|(refine nW L _ _ ?_;exact nwA)|(refine Nw.ok (by first|omega|exact nwA) (by omega))|exact((cJ L (fun i _=>(gM L h i).le (by omega)) _ _ (by omega)).le (by first|omega|exact nwA))|exact((cJ L (nw1 L ih) _ _ (by omega)).le (by first|omega|exact nwA))|exact((cJ L (nw1 L (BL L)) _ _ (by omega)).le (by first|omega|exact nwA))|exact((cJ L ih _ _ (by omega)).le (by first|omega|exact nwA))|exact((cJ L (fun i _=>Cj L i) _ _ (by omega)).le (by first|omega|exact nwA))|exact((uQ L _).le (by first|omega|exact nwA))|exact((cJ L (nw1 L h) _ _ (by omega)).le (by first|omega|exact nwA))|exact((cJ L (nw1 L (yL L)) _ _ (by omega)).le (by first|omega|exact nwA))|exact((nJ L h _ _).le (by first|omega|exact nwA))|exact((h _).le (by first|omega|exact nwA))|exact((cJ L (EG L) _ _ (by omega)).le (by first|omega|exact nwA))|exact((uT L _ _).le (by first|omega|exact nwA))|exact((uQ L _).le (by first|omega|exact nwA))|exact((As L _ _).le (by first|omega|exact nwA))|exact((rI L _ _ (by omega)).le (by first|omega|exact nwA))|exact((Be L _ _ (by omega)).le (by first|omega|exact nwA))|exact((uA L _ _ (by omega)).le (by first|omega|exact nwA))|exact((zS L _ _ (by omega)).le (by first|omega|exact nwA))|exact((rQ L _).le (by first|omega|exact nwA))|exact((eH L _).le (by first|omega|exact nwA))|exact((Cw L _).le (by first|omega|exact nwA))|exact((cJ L (nw1 L (oK L)) _ _ (by omega)).le (by first|omega|exact nwA))|exact((cJ L (nw1 L (eH L)) _ _ (by omega)).le (by first|omega|exact nwA))|exact((cJ L (nw1 L (fQ L)) _ _ (by omega)).le (by first|omega|exact nwA))|exact((uV L (eH L) _).le (by first|omega|exact nwA))|exact((rJ L (eH L) _).le (by first|omega|exact nwA))|exact((gM L (eH L) _).le (by first|omega|exact nwA))|exact((oK L _).le (by first|omega|exact nwA))|exact((dS L _ _).le (by first|omega|exact nwA))|exact((lV L _ _).le (by first|omega|exact nwA))|exact((uP L _).le (by first|omega|exact nwA))|exact((zM L _ _ _).le (by first|omega|exact nwA))|exact((fQ L _).le (by first|omega|exact nwA))|(refine Nw.bind (by first|exact cJ L (fun i _=>(gM L h i).le (by omega)) _ _ (by omega)|exact cJ L (nw1 L ih) _ _ (by omega)|exact cJ L (nw1 L (BL L)) _ _ (by omega)|exact cJ L ih _ _ (by omega)|exact cJ L (fun i _=>Cj L i) _ _ (by omega)|exact uQ L _|exact cJ L (nw1 L h) _ _ (by omega)|exact cJ L (nw1 L (yL L)) _ _ (by omega)|exact nJ L h _ _|exact h _|exact cJ L (EG L) _ _ (by omega)|exact uT L _ _|exact uQ L _|exact As L _ _|exact rI L _ _ (by omega)|exact Be L _ _ (by omega)|exact uA L _ _ (by omega)|exact zS L _ _ (by omega)|exact rQ L _|exact eH L _|exact Cw L _|exact cJ L (nw1 L (oK L)) _ _ (by omega)|exact cJ L (nw1 L (eH L)) _ _ (by omega)|exact cJ L (nw1 L (fQ L)) _ _ (by omega)|exact uV L (eH L) _|exact rJ L (eH L) _|exact gM L (eH L) _|exact oK L _|exact dS L _ _|exact lV L _ _|exact uP L _|exact zM L _ _ _|exact fQ L _) (fun _ _ _ _=>?_))|(refine Nw.ite (fun hc=>?_) (fun hc=>?_)<;>(try have:=zN L hc)))):Nw L.length k r:=h
theorem oK(i:Nat):Nw L.length (16*i+9) (iX L i):=by
 unfold iX;exact bL L
theorem Ju{read:Nat→R T}(h:∀ i,i≤L.length→Nw L.length (16*i+1) (read i)):∀ n acc j k,j≤L.length→k+aH acc≤16*j+1→Nw L.length k (gK L read n acc j):=by
 intro n
 induction n with
 | zero=>intro acc j k hj hk;unfold gK;exact .ok hk hj
 | succ n ih=>
  intro acc j k hj hk;unfold gK;exact Nw.ite (fun hc=>(h (j+1) (zN L hc)).bind fun x j' hj h'=>ih _ j' k h' (by exact nwA)) (fun _=>.ok hk hj)
theorem cJ{read:Nat→R T}(h:∀ i,i≤L.length→Nw L.length (16*i+1) (read i))(most i:Nat)(hi:i≤L.length):Nw L.length (16*i+1) (eD L most read i):=
 (h i hi).bind fun x j hj h'=>Ju L h _ _ j _ h' (by exact nwA)
theorem LN{sub:Nat→R T}(h:∀ i,Nw L.length (16*i+9) (sub i))(ops:List ByteArray)(a:Nat):∀ f x j k,j≤L.length→k+nodes x≤16*j+1→Nw L.length k (nF L sub ops a f x j):=by
 intro f
 induction f with
 | zero=>intro x j k _ _;unfold nF;exact .err _
 | succ f ih=>
  intro x j k hj hk;unfold nF;exact Nw.ite (fun _=>(h (j+1)).bind fun x j' hj h'=>ih _ j' k h' (by exact nwA)) (fun _=>.ok hk hj)
theorem CW{prim:Nat→R T}(h:∀ i,Nw L.length (16*i+9) (prim i)):∀ k i,Nw L.length (16*i+9) (tG L prim k i):=by
 intro k
 induction k with
 | zero=>intro i;exact h i
 | succ k ih=>intro i;exact(ih i).bind fun x j hj h'=>LN L ih _ _ _ x j _ h' hj
theorem gM{expr:Nat→R T}(h:∀ i,Nw L.length (16*i+9) (expr i))(i:Nat):Nw L.length (16*i+9) (aP L expr i):=Nw.ite (fun hc=>.ok (by rw[Qd,yY,kV];omega) (zN L hc)) (fun _=>h i)
theorem uV{expr:Nat→R T}(h:∀ i,Nw L.length (16*i+9) (expr i))(i:Nat):Nw L.length (16*i+12) (nY L expr i):=by
 unfold nY;exact bL L
theorem Fk{expr:Nat→R T}(h:∀ i,Nw L.length (16*i+9) (expr i)):∀ n acc j k,j≤L.length→k+aH acc≤16*j+1→Nw L.length k (fS L expr n acc j):=by
 intro n
 induction n with
 | zero=>intro acc j k hj hk;unfold fS;exact .ok hk hj
 | succ n ih=>
  intro acc j k hj hk;unfold fS;exact Nw.ite (fun _=>(uV L h (j+1)).bind fun x j' hj h'=>ih _ j' k h' (by exact nwA)) (fun _=>.ok hk hj)
theorem rJ{expr:Nat→R T}(h:∀ i,Nw L.length (16*i+9) (expr i))(i:Nat):Nw L.length (16*i+9) (iN L expr i):=
 (uV L h i).bind fun x j hj h'=>(Fk L h 7 _ j (16*i+12) h' (by exact nwA)).bind fun l j' h2 h3=>.ok (by exact nwA) h3
theorem Le{expr:Nat→R T}(h:∀ i,Nw L.length (16*i+9) (expr i))(a:Nat):∀ n x j k,j≤L.length→k+nodes x≤16*j+1→Nw L.length k (qG L expr a n x j):=by
 intro n
 induction n with
 | zero=>intro x j k _ _;unfold qG;exact .err _
 | succ n ih=>
  intro x j k hj hk;unfold qG;exact Nw.ite (fun _=>(rJ L h (j+1)).bind fun x j' hj h'=>ih _ j' k h' (by exact nwA)) (fun _=>.ok hk hj)
theorem rC{expr:Nat→R T}(h:∀ i,Nw L.length (16*i+9) (expr i))(i:Nat):Nw L.length (16*i+9) (cU L expr i):=
 (rJ L h i).bind fun x j hj h'=>Le L h i _ x j _ h' hj
theorem Hc: ∀ f i,Nw L.length (16*i+9) (eB L f i):=by
 intro f
 induction f with
 | zero=>intro i;unfold eB;exact .err _
 | succ f ih=>
  intro i;unfold eB;exact Nw.ite (fun _=>(ih (i+1)).bind fun x j hj h'=>.ok (by exact nwA) h') fun _=>
   Nw.ite (fun _=>(CW L ih 6 (i+1)).bind fun x j hj h'=>(dS L j sRP).bind fun _ j' h2 h3=>.ok (by exact nwA) h3) fun _=>
   Nw.ite (fun _=>fQ L i) (fun _=>rC L (CW L ih 6) i)
theorem LC(f i:Nat):Nw L.length (16*i+9) (pC L f i):=CW L (Hc L f) 6 i
theorem eH(i:Nat):Nw L.length (16*i+9) (bM L i):=LC L _ i
theorem Cw(i:Nat):Nw L.length (16*i+9) (Cr L i):=rC L (eH L) i
theorem nw1{read:Nat→R T}(h:∀ i,Nw L.length (16*i+9) (read i))(i:Nat)(_:i≤L.length):Nw L.length (16*i+1) (read i):=(h i).le (by omega)
theorem rQ(i:Nat):Nw L.length (16*i+9) (cQ L i):=by
 unfold cQ;exact bL L
theorem zS(w:ByteArray)(i:Nat)(hi:i≤L.length):Nw L.length (16*i) (fC L w i):=by
 unfold fC;exact bL L
theorem uA(w:ByteArray)(i:Nat)(hi:i≤L.length):Nw L.length (16*i) (gB L w i):=by
 unfold gB;exact bL L
theorem Be(w:ByteArray)(i:Nat)(hi:i≤L.length):Nw L.length (16*i) (kL L w i):=by
 unfold kL;exact bL L
theorem rI(w:ByteArray)(i:Nat)(hi:i≤L.length):Nw L.length (16*i) (dX L w i):=by
 unfold dX;exact bL L
theorem As(label:ByteArray)(i:Nat):Nw L.length (16*i+17) (Cs L label i):=by
 unfold Cs;refine(lV L i [GP]).bind fun _ j hj _=>?_;refine(dS L _ aS).le ?_;rw[PV]at hj
 split<;>omega
theorem Fl{stmt:Nat→R T}(h:∀ i,Nw L.length (16*i+9) (stmt i))(label:ByteArray):∀ f acc i k,k+aH acc≤16*i+1→Nw L.length k (fJ L stmt label f acc i):=by
 intro f
 induction f with
 | zero=>intro acc i k _;unfold fJ;exact .err _
 | succ f ih=>
  intro acc i k hk;unfold fJ;exact Nw.ite (fun _=>(As L label i).bind fun _ j hj h'=>.ok (by exact nwA) h') fun _=>(h i).bind fun x j hj h'=>ih _ j k (by exact nwA)
theorem nJ{stmt:Nat→R T}(h:∀ i,Nw L.length (16*i+9) (stmt i))(label:ByteArray)(i:Nat):Nw L.length (16*i+1) (fF L stmt label i):=Fl L h label _ _ i _ (by rw[kV];omega)
theorem nW{k:Nat}(t:T)(i:Nat)(h:k+nodes t≤16*i+17):Nw L.length k (aG L t i):=by
 unfold aG;exact(dS L i aS).bind fun _ j hj h'=>.ok (by exact nwA) h'
theorem uQ(i:Nat):Nw L.length (16*i+17) (pA L i):=by
 unfold pA;exact bL L
theorem uT(arg:Bool)(i:Nat):Nw L.length (16*i+9) (pD L arg i):=by
 unfold pD;exact bL L
theorem Gp: ∀ f i,Nw L.length (16*i+9) (gJ L f i):=by
 intro f
 induction f with
 | zero=>intro i;unfold gJ;exact .err _
 | succ f ih=>
  intro i;unfold gJ;exact bL L
theorem yL(i:Nat):Nw L.length (16*i+9) (mY L i):=Gp L _ i
theorem BL(i:Nat):Nw L.length (16*i+9) (bK L i):=by
 unfold bK;simp only
 split
 ·exact gM L (eH L) i
 ·refine Nw.ite (fun _=>Nw.ite (fun _=>?_) (fun _=>?_)) (fun _=>gM L (eH L) i)
  ·exact(fQ L (i+4)).bind fun x j hj h'=>.ok (by exact nwA) h'
  ·exact(fQ L (i+3)).bind fun x j hj h'=>.ok (by exact nwA) h'
theorem qW(i:Nat):Nw L.length (16*i+9) (bT L i):=by
 unfold bT;refine(uP L i).bind fun s j hj h'=>?_;simp only
 exact bL L
theorem FF: ∀ n acc j k,j≤L.length→k+aH acc≤16*j+1→Nw L.length k (fD L n acc j):=by
 intro n
 induction n with
 | zero=>intro acc j k hj hk;unfold fD;exact .ok hk hj
 | succ n ih=>
  intro acc j k hj hk;unfold fD;exact Nw.ite (fun _=>(qW L j).bind fun x j' hj h'=>ih _ j' k h' (by exact nwA)) (fun _=>.ok hk hj)
theorem Bp(most i:Nat)(hi:i≤L.length):Nw L.length (16*i+1) (lG L most i):=FF L most [] i _ hi (by rw[kV];omega)
theorem Cj(i:Nat):Nw L.length (16*i+1) (qV L i):=by
 unfold qV;exact bL L
theorem Li: ∀ f i,i≤L.length→Nw L.length (16*i+1) (mI L f i):=by
 intro f
 induction f with
 | zero=>intro i _;unfold mI;exact .err _
 | succ f ih=>
  intro i hi;unfold mI;refine Nw.bind (k:=16*i+1) ?_ fun n j hj h'=>?_
  ·exact bL L
  refine Nw.bind (k:=16*j+9) ?_ fun what j1 h1 h1'=>?_
  ·exact bL L
  refine Nw.bind (k:=16*j1) ?_ fun bounds j2 h2 h2'=>?_
  ·exact bL L
  exact(Bp L 12 j2 h2').bind fun aSq j3 h3 h3'=>.ok (by exact nwA) h3'
theorem EG(i:Nat)(hi:i≤L.length):Nw L.length (16*i+1) (Gh L i):=Li L _ i hi
theorem yG(k:Int)(a:Nat){item:Nat→R T}(h:∀ i,Nw L.length (16*i+9) (item i))(i:Nat)(hi:i≤L.length)(h0:1≤i):Nw L.length (16*i) (fO L k a item i):=by
 unfold fO;refine Nw.bind (k:=16*i+1) ?_ fun w j hj h'=>?_
 ·exact bL L
 refine Nw.bind (k:=16*j+1) ?_ fun n j1 h1 h1'=>?_
 ·exact bL L
 have hj1:1≤j1:=by exact nwA
 refine Nw.bind (k:=16*j1 - 1) ?_ fun lm j2 h2 h2'=>?_
 ·exact bL L
 refine nW L _ _ ?_;exact nwA
theorem vP(k:Int)(a i:Nat):Nw L.length (16*i) (fH L k a i):=by
 unfold fH;exact bL L
theorem IX{inner:Nat→R T}(h:∀ i,Nw L.length (16*i+9) (inner i)):∀ f acc i k,i≤L.length→k+aH acc≤16*i+1→Nw L.length k (gV L inner f acc i):=by
 intro f
 induction f with
 | zero=>intro acc i k _ _;unfold gV;exact .err _
 | succ f ih=>
  intro acc i k hi hk;unfold gV;exact Nw.ite (fun _=>(dS L (i+1) sLP).bind fun _ j hj hj'=>(cJ L (nw1 L (eH L)) 8 j hj').bind fun l j1 h1 h1'=>(dS L j1 sRP).bind fun _ j2 h2 h2'=>(h j2).bind fun x j3 h3 h3'=>ih _ j3 k h3' (by exact nwA)) (fun _=>.ok hk hi)
theorem Aw{stmt:Nat→R T}(h:∀ i,Nw L.length (16*i+9) (stmt i))(a:Nat)(label:ByteArray)(i:Nat)(hi:i≤L.length):Nw L.length (16*i) (eX L stmt a label i):=by
 unfold eX;refine Nw.bind (k:=16*i) ?_ fun params j hj hj'=>?_
 ·exact bL L
 refine Nw.bind (k:=16*j+1) ?_ fun n j1 h1 h1'=>?_
 ·refine Nw.ite (fun hc=>?_) (fun hc=>Nw.ite (fun hd=>.ok (by exact nwA) (MG L hd)) (fun _=>.ok (by exact nwA) hj'));exact bL L
 refine Nw.bind (k:=16*j1) ?_ fun ret j2 h2 h2'=>?_
 ·refine Nw.ite (fun hc=>?_) (fun hc=>.ok (by exact nwA) h1');exact(dS L (j1+1) sLP).bind fun _ k1 g1 g1'=>(qW L k1).bind fun x k2 g2 g2'=>(Bp L 3 k2 g2').bind fun xs k3 g3 g3'=>(dS L k3 sRP).bind fun _ k4 g4 g4'=>.ok (by exact nwA) g4'
 exact(dS L j2 aS).bind fun _ j3 h3 h3'=>(nJ L h label j3).bind fun g j4 h4 h4'=>.ok (by exact nwA) h4'
theorem Pw{stmt:Nat→R T}(h:∀ i,Nw L.length (16*i+9) (stmt i))(a:Nat)(label:ByteArray)(i:Nat)(hi:i≤L.length):Nw L.length (16*i) (doP L stmt a label i):=by
 unfold doP;exact bL L
theorem ES{inner:Nat→R T}(h:∀ i,Nw L.length (16*i+9) (inner i))(a:Nat)(label:ByteArray)(i:Nat)(hi:i≤L.length):Nw L.length (16*i) (iA L inner a label i):=by
 unfold iA;refine Nw.bind (k:=16*i) ?_ fun x j hj hj'=>(dS L j aS).bind fun _ j1 h1 h1'=>(IX L h _ [x] j1 (16*i+15) h1' (by exact nwA)).bind fun l j2 h2 h2'=>?_
 ·exact bL L
 refine Nw.bind (k:=16*i+13) ?_ fun l2 j3 h3 h3'=>(As L label j3).bind fun _ j4 h4 h4'=>.ok (by exact nwA) h4'
 exact Nw.ite (fun _=>(h (j2+1)).bind fun y j3 h3 h3'=>.ok (by exact nwA) h3') fun _=>.ok (by exact nwA) h2'
theorem FC{inner:Nat→R T}(h:∀ i,Nw L.length (16*i+9) (inner i))(a i:Nat):Nw L.length (16*i) (qA L inner a i):=by
 unfold qA;exact bL L
theorem Kr(a i:Nat):Nw L.length (16*i) (Dw L a i):=by
 unfold Dw;exact bL L
theorem LZ(a i:Nat):Nw L.length (16*i) (Dg L a i):=by
 unfold Dg;exact bL L
theorem Ef(a i:Nat):Nw L.length (16*i) (wQ L a i):=by
 unfold wQ;exact bL L
theorem PI{inner:Nat→R T}(h:∀ i,Nw L.length (16*i+9) (inner i))(a i:Nat):Nw L.length (16*i) (onP L inner a i):=by
 unfold onP;simp only
 exact bL L
theorem Ch(a i:Nat):Nw L.length (16*i) (jP L a i):=by
 unfold jP;exact bL L
theorem Mi(a i:Nat):Nw L.length (16*i) (DE L a i):=by
 unfold DE;exact bL L
theorem Ly(a i:Nat):Nw L.length (16*i) (DS L a i):=by
 unfold DS;exact bL L
theorem Dq(a i:Nat):Nw L.length (16*i) (mJ L a i):=by
 unfold mJ;exact bL L
theorem Ic(a i:Nat):Nw L.length (16*i) (vQ L a i):=by
 unfold vQ;exact bL L
theorem FK(a i:Nat):Nw L.length (16*i) (qH L a i):=by
 unfold qH;exact bL L
theorem Ds(a i:Nat)(hi:i≤L.length):Nw L.length (16*i) (mH L a i):=by
 unfold mH;exact bL L
theorem fE{α:Type}{c:Prop}[Decidable c]{x r:α}{o:Option α}(h:(if c then some x else o)=some r):x=r∨o=some r:=by
 by_cases hc:c
 ·rw[if_pos hc]at h;exact .inl (Option.some.inj h)
 ·rw[if_neg hc]at h;exact .inr h
theorem Di{stmt inner:Nat→R T}(h:∀ i,Nw L.length (16*i+9) (stmt i))(g:∀ i,Nw L.length (16*i+9) (inner i))(w:ByteArray)(a:Nat)(label:ByteArray)(i:Nat)(hi:i≤L.length)(h0:1≤i)(r:R T)(hr:gW L stmt inner w a label i=some r):Nw L.length (16*i) r:=by
 unfold gW at hr;have end1:∀ k:Int,Nw L.length (16*i) (aG L (node k a []) i):=fun k=>nW L _ _ (by exact nwA)
 rcases fE hr with rfl|hr
 ·exact Aw L h a label i hi
 rcases fE hr with rfl|hr
 ·exact(dS L i aS).bind fun _ j hj hj'=>(nJ L h label j).bind fun g j1 h1 h1'=>.ok (by exact nwA) h1'
 rcases fE hr with rfl|hr
 ·exact Pw L h a label i hi
 rcases fE hr with rfl|hr
 ·exact ES L g a label i hi
 rcases fE hr with rfl|hr
 ·exact FC L g a i
 rcases fE hr with rfl|hr
 ·exact Kr L a i
 rcases fE hr with rfl|hr
 ·exact LZ L a i
 rcases fE hr with rfl|hr
 ·exact(lV L i [wTO]).bind fun _ j hj hj'=>(Ef L a j).le (by exact nwA)
 rcases fE hr with rfl|hr
 ·exact Ef L a i
 rcases fE hr with rfl|hr
 ·exact vP L 28 a i
 rcases fE hr with rfl|hr
 ·exact vP L 29 a i
 rcases fE hr with rfl|hr
 ·exact end1 _
 rcases fE hr with rfl|hr
 ·exact PI L g a i
 rcases fE hr with rfl|hr
 ·exact(uT L _ i).bind fun c j hj hj'=>nW L _ _ (by exact nwA)
 rcases fE hr with rfl|hr
 ·exact(uT L _ i).bind fun c j hj hj'=>nW L _ _ (by exact nwA)
 rcases fE hr with rfl|hr
 ·exact Ch L a i
 rcases fE hr with rfl|hr
 ·exact Mi L a i
 rcases fE hr with rfl|hr
 ·exact yG L 38 a (Cw L) i hi h0
 rcases fE hr with rfl|hr
 ·exact yG L 39 a (eH L) i hi h0
 rcases fE hr with rfl|hr
 ·exact Ly L a i
 rcases fE hr with rfl|hr
 ·exact Ic L a i
 rcases fE hr with rfl|hr
 ·exact Dq L a i
 rcases fE hr with rfl|hr
 ·exact FK L a i
 rcases fE hr with rfl|hr
 ·exact Ds L a i hi
 cases hr
theorem Io{stmt inner:Nat→R T}(h:∀ i,Nw L.length (16*i+9) (stmt i))(g:∀ i,Nw L.length (16*i+9) (inner i))(inr:Bool)(label:ByteArray)(i:Nat):Nw L.length (16*i+9) (iT L stmt inner inr label i):=by
 unfold iT;refine Nw.ite (fun hc=>.ok (by exact nwA) (zN L hc)) fun _=>Nw.ite (fun _=>?_) fun _=>?_
 ·exact bL L
 ·simp only
  refine Nw.ite (fun _=>.err _) fun hn=>?_;have hl:i<L.length:=by
   refine Im L ?_
   cases e:isName L i with
   | true=>rfl
   | false=>exact absurd (.inl e) hn
  split
  ·exact .err _
  ·rename_i r hr
   exact(Di L h g _ i label (i+1) hl (by omega) r hr).le (by omega)
theorem nU{lab:Bool→ByteArray→Nat→R T}(h:∀ b s i,Nw L.length (16*i+9) (lab b s i))(inr:Bool)(i:Nat):Nw L.length (16*i+9) (cH L lab inr i):=by
 unfold cH;refine Nw.ite (fun hc=>?_) fun _=>h _ _ _
 have:=zN L hc;exact(cJ L (nw1 L (oK L)) 4 (i+1) this).bind fun l j hj hj'=>(dS L j sRP).bind fun _ j1 h1 h1'=>(dS L j1 bY).bind fun _ j2 h2 h2'=>(h inr e0 j2).bind fun x j3 h3 h3'=>.ok (by exact nwA) h3'
theorem MQ: ∀ f b s i,Nw L.length (16*i+9) (qK L f b s i):=by
 intro f
 induction f with
 | zero=>intro b s i;unfold qK;exact .err _
 | succ f ih=>
  intro b s i;unfold qK;exact Nw.ite (fun _=>Io L (nU L ih false) (nU L ih true) b s i) fun _=>(ih b _ (i+2)).bind fun x j hj hj'=>.ok (by exact nwA) hj'
theorem Eo(i:Nat):Nw L.length (16*i+9) (qJ L i):=nU L (MQ L _) false i
theorem De(i:Nat):Nw L.length (16*i) (gH L i):=by
 unfold gH;exact(uP L i).bind fun s j h0 _=>(dS L j bY).bind fun _ j1 h1 _=>(lV L j1 _).bind fun _ j2 h2 _=>(lV L j2 _).bind fun _ j3 h3 _=>(dS L j3 sLP).bind fun _ j4 h4 _=>
  (lV L j4 _).bind fun _ j5 h5 _=>(dS L j5 sRP).bind fun _ j6 h6 _=>(dS L j6 aS).bind fun _ j7 h7 _=>(nJ L (Eo L) s j7).bind fun g j8 h8 h8'=>.ok (by exact nwA) h8'
theorem Ig{read:Nat→R T}{k:Nat}(h:Nw L.length k (read 0)){t:T}(e:Bb L read=.ok t):nodes t≤16*L.length+1:=by
 obtain⟨j,hr,_⟩:=Om e;have:=h t j hr;rw[Qd]at this;omega
end Px
end
section
open Go.RowKit Lx Px
def Tryz.FR: Go.Shelf.Ren:=⟨fun|29=>35|31=>34|n=>n,fun|22=>64|23=>9|4=>4|3=>3|0=>0|n=>n,fun|n=>n⟩
theorem Tryz.Am: Go.Proofs.SlLaysE.n31 Tryz.prog Tryz.FR:={
 mixed:=by kernel_rfl
 f29:=⟨Tryz.f35.name,by decide,Tryz.func35.trans (congrArg some (by kernel_rfl))⟩
 f31:=⟨Tryz.f34.name,by decide,Tryz.func34.trans (congrArg some (by kernel_rfl))⟩
 t0:=Tryz.underlying0
 a0:=Tryz.isAgg0
 z0:=Tryz.sizeOf0
 v0:=Tryz.zeroValue0
 t3:=Tryz.underlying3
 a3:=Tryz.isAgg3
 z3:=Tryz.sizeOf3
 v3:=Tryz.zeroValue3
 t4:=Tryz.underlying4
 a4:=Tryz.isAgg4
 z4:=Tryz.sizeOf4
 v4:=Tryz.zeroValue4
 t22:=Tryz.underlying64
 a22:=Tryz.isAgg64
 z22:=Tryz.sizeOf64
 v22:=Tryz.zeroValue64
 a23:=Tryz.isAgg9
 z23:=Tryz.sizeOf9 }
def bJ(w:World)(v:Value)(ss:List ByteArray):Prop:=∃ b off cap,v=.slice (some ⟨b,off,none⟩) ss.length cap∧b<w.heap.size∧∀ j,j<ss.length→w.cell? ⟨b,off+j,none⟩=some (.string ss[j]!)
theorem Lg(s:ByteArray)(ss:List ByteArray):(ss.any fun y=>s.toList==y.toList)=mV s ss:=by
 unfold mV
 congr 1
 funext y
 rw[Bool.eq_iff_iff,beq_iff_eq,decide_eq_true_iff,ByteArray.toList_eq,ByteArray.toList_eq];obtain⟨⟨x⟩⟩:=s;obtain⟨⟨z⟩⟩:=y
 simp[eq_comm]
theorem jE(v:Value)(ss:List ByteArray)(s:ByteArray)(w:World)(h:bJ w v ss)(hl:ss.length≤9223372036854775807):Calls Tryz.prog 34 #[v,.string s] w fun e w'=>e=.returned (.bool (mV s ss))∧w'=w:=by
 obtain⟨b,off,cap,rfl,_,hc⟩:=h;refine(AnyE.slices_Contains Tryz.Am Value.string (fun x y=>x.toList==y.toList) (EqlAt.string Tryz.prog 9) b off ss.length cap ss s w (Nat.le_refl _) hl hc).mono ?_;rintro e w' ⟨rfl,rfl⟩;rw[List.take_length,Lg];exact⟨rfl,rfl⟩
def T3.tk(t:T3):Tk:=⟨t.kind,t.text⟩
def Psr(w:World)(pb:Nat)(lv:Value)(i:Nat):Prop:=w.heap[pb]?=some (.cells #[lv,.int .i64 i] 122 (0,0))
structure PS (w:World) (pb:Nat) (L:List T3) (i:Nat):Prop where
 blk:∃ ao cap,Psr w pb (.slice ao L.length cap) i∧(L≠[]→∃ b off,ao=some ⟨b,off,none⟩∧b<w.heap.size∧b<pb∧∀ j,j<L.length→∀ i u,(EB L[j]!)[i]?=some u→w.cell? ⟨b,off+j*3+i,none⟩=some u)
 le:i≤L.length
 bd:L.length≤1000000
theorem aF{w w':World}(r:Option Nat)(h:Below w.heap.size w w'):w.grownBy w' r:=⟨h.os,h.tape,h.output,h.size,fun k hk _=>h.block k hk⟩
theorem PS.lt{w:World}{pb:Nat}{L:List T3}{i:Nat}(h:PS w pb L i):pb<w.heap.size:=by
 obtain⟨ao,cap,hb,_⟩:=h.blk;exact(Array.getElem?_eq_some_iff.1 hb).1
theorem PS.below{w w':World}{pb:Nat}{L:List T3}{i:Nat}(h:PS w pb L i)(hb:Below w.heap.size w w'):PS w' pb L i:=by
 obtain⟨ao,cap,h1,h2⟩:=h.blk;refine⟨⟨ao,cap,(hb.block pb h.lt).trans h1,fun hne=>?_⟩,h.le,h.bd⟩;obtain⟨b,off,e,hlt,hn,hc⟩:=h2 hne;exact⟨b,off,e,Nat.lt_of_lt_of_le hlt hb.size,hn,fun j hj i u hu=>(hb.cell (p:=⟨b,off+j*3+i,none⟩) hlt).trans (hc j hj i u hu)⟩
theorem PS.Rk{w w':World}{pb:Nat}{L:List T3}{i:Nat}(h:PS w pb L i)(hs:w.heap.size≤w'.heap.size)(hb:∀ k,k≤pb→w'.heap[k]?=w.heap[k]?):PS w' pb L i:=by
 obtain⟨ao,cap,h1,h2⟩:=h.blk;refine⟨⟨ao,cap,(hb pb (Nat.le_refl _)).trans h1,fun hne=>?_⟩,h.le,h.bd⟩;obtain⟨b,off,e,hlt,hn,hc⟩:=h2 hne;exact⟨b,off,e,Nat.lt_of_lt_of_le hlt hs,hn,fun j hj i u hu=>(World.cell?_of_block (a:=⟨b,off+j*3+i,none⟩) (hb b (Nat.le_of_lt hn))).trans (hc j hj i u hu)⟩
theorem PS.drewN{w:World}{pb:Nat}{L:List T3}{i:Nat}(h:PS w pb L i)(n:Nat):PS (w.drewN n) pb L i:=⟨h.blk,h.le,h.bd⟩
theorem PS.set{w:World}{pb:Nat}{L:List T3}{i:Nat}(h:PS w pb L i)(j:Nat)(hj:j≤L.length):PS (w.setCell ⟨pb,1,none⟩ (.int .i64 j)) pb L j:=by
 obtain⟨ao,cap,h1,h2⟩:=h.blk;refine⟨⟨ao,cap,?_,fun hne=>?_⟩,hj,h.bd⟩
 ·unfold Psr at *; simp[World.setCell,Array.getElem?_modify,h1]
 ·obtain⟨b,off,e,hlt,hn,hc⟩:=h2 hne;refine⟨b,off,e,by simpa[World.setCell]using hlt,hn,fun j hj i u hu=>?_⟩;rw[World.cell?_setCell_far _ _ _ _ (by simp;omega)];exact hc j hj i u hu
theorem dJ(w:World)(pb j:Nat)(v:Value):w.grownBy (w.setCell ⟨pb,j,none⟩ v) (some pb):=
 ⟨rfl,rfl,rfl,by simp[World.setCell],fun k _ hk=>Below.heap_setCell _ _ _ _ (fun e=>hk (by simp[e]))⟩
theorem Bw{L:List T3}{j:Nat}(h:j<L.length):tok (L.map T3.tk) j=⟨L[j]!.kind,L[j]!.text⟩:=by
 unfold tok;rw[List.getD_eq_getElem?_getD,List.getElem?_map,List.getElem?_eq_getElem h]
 simp[T3.tk,List.getElem!_eq_getElem?_getD,List.getElem?_eq_getElem h]
theorem wS{L:List T3}{j:Nat}(h:L.length≤j):tok (L.map T3.tk) j=⟨0,e0⟩:=by
 unfold tok;rw[List.getD_eq_getElem?_getD,List.getElem?_map,List.getElem?_eq_none h];rfl
theorem aX(pb:Nat)(L:List T3)(i a:Nat)(ha:a≤9)(w:World)(h:PS w pb L i):Calls Tryz.prog 125 #[.pointer (some ⟨pb,0,none⟩),.int .i64 a] w fun e w'=>(∃ p:Int,e=.returned (.agg #[.int .i64 (tok (L.map T3.tk) (i+a)).kind,.string (tok (L.map T3.tk) (i+a)).text,.int .i64 p]))∧Below w.heap.size w w':=by
 have hle:=h.le;have hbd:=h.bd;go_enter Tryz.func125,Tryz.ntmps125;go_upto_block 0 with fail;have b1:=aC w (.cells #[.int .i64 0,.string ⟨#[]⟩,.int .i64 0] 43);have n1:=heap_alloc_new w (.cells #[.int .i64 0,.string ⟨#[]⟩,.int .i64 0] 43);generalize w.alloc (.cells #[.int .i64 0,.string ⟨#[]⟩,.int .i64 0] 43)=w1 at b1 n1 ⊢;obtain⟨ao,cap,h1,h2⟩:=h.blk;have hpl:=h.lt;have hpb:w.heap.size≠pb:=by omega
 replace h1:=(b1.block pb hpl).trans h1;have k0:=cell_of_row w1 pb 0 _ _ _ h1;have k1:=cell_of_row w1 pb 1 _ _ _ h1;have q0:w1.cell? ⟨w.heap.size,0,none⟩=some (.int .i64 0):=cell_of_row w1 w.heap.size 0 _ _ _ n1;have q1:w1.cell? ⟨w.heap.size,1,none⟩=some (.string ⟨#[]⟩):=cell_of_row w1 w.heap.size 1 _ _ _ n1;have q2:w1.cell? ⟨w.heap.size,2,none⟩=some (.int .i64 0):=cell_of_row w1 w.heap.size 2 _ _ _ n1;have f0:=Lib.frozen_of_heap n1 0;have f1:=Lib.frozen_of_heap n1 1;have f2:=Lib.frozen_of_heap n1 2
 by_cases hin:i+a<L.length
 ·obtain⟨b,off,rfl,hlt,hn,hc⟩:=h2 (by intro e;rw[e]at hin;simp at hin);have hlt':¬ ((L.length:Int)≤(i:Int)+a):=by omega
  have c0:=hc (i+a) hin 0 _ rfl;have c1:=hc (i+a) hin 1 _ rfl;have c2:=hc (i+a) hin 2 _ rfl;rw[Nat.add_zero]at c0;have htk:=Bw hin;generalize hk:L[i+a]!.kind=tk at c0 htk;generalize ht:L[i+a]!.text=tt at c1 htk;have HTK:=Lib.hid htk;clear htk hk ht;generalize L[i+a]!.at_=tp at c2;have hbn:w.heap.size≠b:=by omega
  replace c0:=(b1.cell (p:=⟨b,off+(i+a)*3,none⟩) hlt).trans c0;replace c1:=(b1.cell (p:=⟨b,off+(i+a)*3+1,none⟩) hlt).trans c1;replace c2:=(b1.cell (p:=⟨b,off+(i+a)*3+2,none⟩) hlt).trans c2;clear h2 h1 h hc n1
  go_quiet (fail)
  go_wp2_with fail;have hnb:off+(i+a)*3=off+((i:Int)+a).toNat*3:=by congr 2
  rw[hnb]at c0 c1 c2;clear hnb;replace k0:(w1.drewN nq).cell? _=_:=k0;replace k1:(w1.drewN nq).cell? _=_:=k1;replace c0:(w1.drewN nq).cell? _=_:=c0;replace c1:(w1.drewN nq).cell? _=_:=c1;replace c2:(w1.drewN nq).cell? _=_:=c2;replace q0:(w1.drewN nq).cell? _=_:=q0;replace q1:(w1.drewN nq).cell? _=_:=q1;replace q2:(w1.drewN nq).cell? _=_:=q2;replace f0:(w1.drewN nq).frozen? _=_:=f0;replace f1:(w1.drewN nq).frozen? _=_:=f1;replace f2:(w1.drewN nq).frozen? _=_:=f2;have b2:=below_drewN b1 nq;have hwr:IntKind.i64.wrap ((i:Int)+a)=(i:Int)+a:=IntWalk.i64_in _ (by omega);have hge:(0:Int)≤(i:Int)+a:=by omega
  have hlt2:(i:Int)+a<(L.length:Int):=by omega
  generalize w1.drewN nq=w2 at k0 k1 c0 c1 c2 q0 q1 q2 f0 f1 f2 b2 ⊢
  go_region_held3 (fun w'=>w'.cell? ⟨pb,0,none⟩=some (.slice (some ⟨b,off,none⟩) L.length cap)∧w'.cell? ⟨pb,1,none⟩=some (.int .i64 i)∧w'.cell? ⟨b,off+((i:Int)+a).toNat*3,none⟩=some (.int .i64 tk)∧w'.cell? ⟨b,off+((i:Int)+a).toNat*3+1,none⟩=some (.string tt)∧w'.cell? ⟨b,off+((i:Int)+a).toNat*3+2,none⟩=some (.int .i64 tp)) (first|exact⟨k0,k1,c0,c1,c2⟩|exact⟨(Hr hpb _ _ _ _ _).trans k0,(Hr hpb _ _ _ _ _).trans k1,(Hr hbn _ _ _ _ _).trans c0,(Hr hbn _ _ _ _ _).trans c1,(Hr hbn _ _ _ _ _).trans c2⟩) (first|fail)
  go_wp2_with fail;refine bodyPost_ret (v:=.agg #[.int .i64 tk,.string tt,.int .i64 tp]) (by simp[results,Tryz.results125,go_sem,q0,q1,q2]) rfl ⟨⟨tp,?_⟩,?_⟩
  ·rw[HTK.out]
  ·exact(cO b2 _ _ _).drew
 ·have hlt':(L.length:Int)≤(i:Int)+a:=by omega
  have hwr:IntKind.i64.wrap ((i:Int)+a)=(i:Int)+a:=IntWalk.i64_in _ (by omega);have htk:=Lib.hid (wS (L:=L) (j:=i+a) (by omega));clear h2 h1 h n1
  go_quiet (fail)
  go_wp2_with fail;refine bodyPost_ret (v:=.agg #[.int .i64 0,.string ⟨#[]⟩,.int .i64 0]) (by simp[results,Tryz.results125,go_sem,q0,q1,q2]) rfl ⟨⟨0,?_⟩,?_⟩
  ·rw[htk.out];rfl
  ·exact cO (below_drewN b1 _) _ _ _
end
end Go.Proofs.YtfdlmcgcckkkdaaGreatDoor
