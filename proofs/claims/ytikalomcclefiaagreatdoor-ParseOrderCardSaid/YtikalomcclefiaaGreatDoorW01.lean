/- Part 01. -/
import Derived.Test.YtikalomcclefiaaGreatDoorV14
set_option linter.all false
set_option maxHeartbeats 0
set_option maxRecDepth 100000
namespace Go.Proofs.YtikalomcclefiaaGreatDoor
section
namespace Px
open Lx
section
variable {L:List Tk} (hX:sT L) {stmt inner:Nat->R T} (hS:∀ i,Sd (λt _=>V (.st false) t) (stmt i)) (hI:∀ i,Sd (Qs L (.st true)) (inner i))
include hS
include hX
end
section
variable {L:List Tk} (hX:sT L) {stmt inner:Nat->R T} (hI:∀ i,Sd (Qs L (.st true)) (inner i))
include hX hI
end
section
variable {L:List Tk} (hX:sT L)
include hX
end
def anH{L:List Tk}(hX:sT L)(i:Nat):Sd (λt _=>V (.st false) t/\Ny t) (fC L i):=by
 unfold fC;refine(yF hX i).bind λs j hs=>Sd.then λ_ j1=>Sd.then λ_ j2=>Sd.then λ_ j3=>Sd.then λ_ j4=>Sd.then λ_ j5=>Sd.then λ_ j6=>Sd.then λ_ j7=>(Fa (abH hX) s j7).bind λg j8 hg=>.ok ⟨?_,⟨_,_,_,_,_,_,rfl⟩⟩
 exact V.stmt _ _ (V.label _ _ _ _ _ hs (V.plain _ _ _ (V.proc 1 _ _ [] _ _ (.inr (.inl rfl)) aD (by intro y hy;cases hy) (.inl mE) (λh=>absurd h aD) (λh=>absurd h aD) hg)))
end Px
end
section
open Px
namespace Px
def MB: T->List Int->Option T
 | t,[]=>some t
 | t,i::r=>if 0<=i then(match t.l[i.toNat]? with|some x=>MB x r|none=>none)else none
def aGv{t:T}{i:Int}{r:List Int}{a:T}(h:MB t (i::r)=some a):0<=i/\∃ hi:i.toNat<t.l.length,MB (t.l[i.toNat]'hi) r=some a:=by
 unfold MB at h
 split at h
 ·rename_i h0
  refine⟨h0,?_⟩
  split at h
  ·rename_i x hx
   obtain⟨h1,h2⟩:=lS.1 hx;exact⟨h1,by rw[h2];exact h⟩
  ·cases h
 ·cases h
def aGP{t:T}{i:Int}{r:List Int}(h0:0<=i)(hi:i.toNat<t.l.length):MB t (i::r)=MB (t.l[i.toNat]'hi) r:=by
 conv=>lhs;unfold MB
 rw[aF h0,dQ hi]
end Px
end
section
namespace Px
open Lx
variable (L:List Tk)
def anZ{stmt:Nat->R T}(h:∀ i,Up (i+1) (stmt i))(label:AAE):∀ f acc i,Up (i+1) (jE L stmt label f acc i):=by
 intro f
 induction f with
 | zero=>intro acc i;exact Dw
 | succ f ih=>
  intro acc i;unfold jE;exact Up.ite (λ_=>(Gn L label i).bind λ_ j hj=>.ok hj) λ_=>(h i).bind λx j hj=>(ih _ j).le aB
def EL{stmt:Nat->R T}(h:∀ i,Up (i+1) (stmt i))(label:AAE)(i:Nat):Up (i+1) (iO L stmt label i):=anZ L h label _ _ i
def Vi(k:Int)(a:Nat){item:Nat->R T}(h:∀ i,Up (i+1) (item i))(i:Nat):Up i (jT L k a item i):=by
 unfold jT;refine Up.bind (k:=i) (Up.ite (λ_=>(Cj L i).le aB) λ_=>.ok (aG _)) λw j hj=>?_;refine Up.bind (k:=i) (Up.ite (λ_=>(bM L (j+1) cJ).bind λ_ j1 h1=>(vW L 1 99 j1).bind λn j2 h2=>(bM L j2 dA).bind λ_ j3 h3=>.ok aB) λ_=>.ok hj) λn j1 h1=>?_
 refine Up.bind (k:=i) (Up.ite (λ_=>(bM L (j1+1) cJ).bind λ_ k1 g1=>(iZ L h 16 k1).bind λl k2 g2=>(bM L k2 dA).bind λ_ k3 g3=>
  Up.ite (λ_=>(bM L k3 cJ).bind λ_ k4 g4=>(iZ L (Ws L) 32 k4).bind λm k5 g5=>(bM L k5 dA).bind λ_ k6 g6=>.ok aB) λ_=>.ok aB) λ_=>.ok h1) λlm j2 h2=>?_
 exact(jU L _ j2).le aB
def SM(k:Int)(a i:Nat):Up i (iQ L k a i):=by
 unfold iQ;exact Up.ite (λ_=>(sN L i).bind λs j hj=>(jU L _ j).le aB) λ_=>(jU L _ i).le aB
def atC{inner:Nat->R T}(h:∀ i,Up (i+1) (inner i)):∀ f acc i,Up i (jW L inner f acc i):=by
 intro f
 induction f with
 | zero=>intro acc i;unfold jW;exact .err _
 | succ f ih=>
  intro acc i;unfold jW;exact Up.ite (λ_=>(bM L (i+1) cJ).bind λ_ j hj=>(iZ L (fI L) 8 j).bind λl j1 h1=>(bM L j1 dA).bind λ_ j2 h2=>(h j2).bind λx j3 h3=>(ih _ j3).le aB) λ_=>.ok (aG _)
section
variable{stmt:Nat->R T}(h:∀ i,Up (i+1) (stmt i))(a:Nat)(label:AAE)(i:Nat)
include stmt h a label i
theorem Xe:Up i (iE L stmt a label i):=by
 unfold iE;refine Up.bind (k:=i) (Up.ite (λ_=>(iZ L (oX L) 8 (i+1)).bind λl j hj=>(bM L j dA).bind λ_ j' h'=>.ok aB) λ_=>.ok (aG _)) λparams j hj=>?_;refine Up.bind (k:=i) (Up.ite (λ_=>(bM L (j+1) cJ).bind λ_ j1 h1=>(oZ L j1 [pO]).bind λ_ j2 h2=>(bM L j2 dA).bind λ_ j3 h3=>.ok aB) λ_=>Up.ite (λ_=>.ok aB) λ_=>.ok hj) λn j1 h1=>?_;refine Up.bind (k:=i) (Up.ite (λ_=>(bM L (j1+1) cJ).bind λ_ k1 g1=>(uV L k1).bind λx k2 g2=>(JU L 3 k2).bind λxs k3 g3=>(bM L k3 dA).bind λ_ k4 g4=>.ok aB) λ_=>.ok h1) λret j2 h2=>?_;exact(bM L j2 aT).bind λ_ j3 h3=>(EL L h label j3).bind λg j4 h4=>.ok aB
theorem aIm:Up i (doP L stmt a label i):=by
 unfold doP;refine Up.ite (λ_=>(EL L h label (i+1)).bind λg j hj=>.ok aB) λ_=>Up.ite (λ_=>?_) λ_=>Up.ite (λ_=>?_) λ_=>.err _
 ·exact(Br L i).bind λr j h0=>(bM L j tV).bind λ_ j1 h1=>(fI L j1).bind λx j2 h2=>(rY L Fj j2).bind λt j3 h3=>(rY L Xd j3).bind λb j4 h4=>
   (mQ L gF j4).bind λwh j5 h5=>(mQ L gA j5).bind λun j6 h6=>(bM L j6 aT).bind λ_ j7 h7=>(EL L h label j7).bind λg j8 h8=>.ok aB
 ·exact(mQ L gF i).bind λwh j h0=>(mQ L gA j).bind λun j1 h1=>(bM L j1 aT).bind λ_ j2 h2=>(EL L h label j2).bind λg j3 h3=>.ok aB
end
def ajY{inner:Nat->R T}(h:∀ i,Up (i+1) (inner i))(a:Nat)(label:AAE)(i:Nat):Up i (lL L inner a label i):=by
 unfold lL;refine Up.bind (k:=i) (Up.ite (λ_=>(oV L i).le aB) λ_=>.ok (aG _)) λx j hj=>(bM L j aT).bind λ_ j1 h1=>(atC L h _ [x] j1).bind λl j2 h2=>?_;refine Up.bind (k:=i) (Up.ite (λ_=>(h (j2+1)).bind λy j3 h3=>.ok aB) λ_=>.ok aB) λl2 j3 h3=>(Gn L label j3).bind λ_ j4 h4=>.ok aB
def akV{inner:Nat->R T}(h:∀ i,Up (i+1) (inner i))(a i:Nat):Up i (qM L inner a i):=by
 unfold qM;exact(fI L i).bind λx j h0=>(oZ L j [pI]).bind λ_ j1 h1=>(h j1).bind λy j2 h2=>Up.ite (λ_=>(h (j2+1)).bind λz j3 h3=>.ok aB) λ_=>.ok aB
def aBA(a i:Nat):Up i (GL L a i):=by
 unfold GL;exact(CB L (fI L) i).bind λx j hj=>(jU L _ j).le aB
def aCE(a i:Nat):Up i (Dm L a i):=by
 unfold Dm;exact Up.ite (λ_=>(oV L i).bind λx j hj=>(jU L _ j).le aB) λ_=>(jU L _ i).le aB
def agB(a i:Nat):Up i (yS L a i):=by
 unfold yS;exact(sN L i).bind λs j hj=>(jU L _ j).le aB
def aHY{inner:Nat->R T}(h:∀ i,Up (i+1) (inner i))(a i:Nat):Up i (onP L inner a i):=by
 unfold onP;simp only
 exact(Ex L _ i).bind λc j h0=>Up.ite (λ_=>(jU L _ (j+1)).le aB) λ_=>(h j).bind λx j1 h1=>.ok aB
def abK(a i:Nat):Up i (pU L a i):=by
 unfold pU;exact(sN L i).bind λs j h0=>(EE L GN j).bind λx j1 h1=>(EE L JJ j1).bind λy j2 h2=>(jU L _ j2).le aB
def aAk(a i:Nat):Up i (GD L a i):=by
 unfold GD;exact(Br L i).bind λr j h0=>(EE L JJ j).bind λx j1 h1=>(jU L _ j1).le aB
def aAi(a i:Nat):Up i (GF L a i):=by
 unfold GF;exact(Cj L i).bind λs j h0=>(uY L yV j).bind λr j1 h1=>(mQ L oW j1).bind λx j2 h2=>(jU L _ j2).le aB
def afX(a i:Nat):Up i (sK L a i):=by
 unfold sK;exact(Cj L i).bind λs j h0=>(uY L oE j).bind λr j1 h1=>(mQ L oW j1).bind λx j2 h2=>(jU L _ j2).le aB
def avX(a i:Nat):Up i (Ab L a i):=by
 unfold Ab;exact(Cj L i).bind λs j h0=>(uY L oE j).bind λr j1 h1=>(oZ L j1 [nJ]).bind λ_ j2 h2=>(oV L j2).bind λx j3 h3=>(jU L _ j3).le aB
def aoB(a i:Nat):Up i (uB L a i):=by
 unfold uB;exact(Cj L i).bind λs j h0=>(oZ L j [oW]).bind λ_ j1 h1=>(oV L j1).bind λx j2 h2=>(jU L _ j2).le aB
def aiB(a i:Nat):Up i (sM L a i):=by
 unfold sM;exact(iZ L (aeX L) 60 i).bind λl j hj=>(jU L _ j).le aB
def eL{α:Type}{c:Prop}[Decidable c]{x r:α}{o:Option α}(h:(if c then some x else o)=some r):x=r\/o=some r:=by
 exact Sb
section
variable{stmt inner:Nat->R T}(h:∀ i,Up (i+1) (stmt i))(g:∀ i,Up (i+1) (inner i))
include stmt inner h g
theorem QQ(w:AAE)(a:Nat)(label:AAE)(i:Nat)(r:R T)(hr:bL L stmt inner w a label i=some r):Up i r:=by
 unfold bL at hr;have end1:=λt=>(jU L t i).le (bU i)
 rcases eL hr with rfl|hr
 ·exact Xe L h a label i
 rcases eL hr with rfl|hr
 ·exact(bM L i aT).bind λ_ j hj=>(EL L h label j).bind λg j1 h1=>.ok aB
 rcases eL hr with rfl|hr
 ·exact aIm L h a label i
 rcases eL hr with rfl|hr
 ·exact ajY L g a label i
 rcases eL hr with rfl|hr
 ·exact akV L g a i
 rcases eL hr with rfl|hr
 ·exact aBA L a i
 rcases eL hr with rfl|hr
 ·exact aCE L a i
 rcases eL hr with rfl|hr
 ·exact(oZ L i [Fj]).bind λ_ j hj=>(agB L a j).le aB
 rcases eL hr with rfl|hr
 ·exact agB L a i
 rcases eL hr with rfl|hr
 ·exact SM L 28 a i
 rcases eL hr with rfl|hr
 ·exact SM L 29 a i
 rcases eL hr with rfl|hr
 ·exact end1 _
 rcases eL hr with rfl|hr
 ·exact aHY L g a i
 rcases eL hr with rfl|hr
 ·exact RJ
 rcases eL hr with rfl|hr
 ·exact RJ
 rcases eL hr with rfl|hr
 ·exact abK L a i
 rcases eL hr with rfl|hr
 ·exact aAk L a i
 rcases eL hr with rfl|hr
 ·exact Vi L 38 a (Br L) i
 rcases eL hr with rfl|hr
 ·exact Vi L 39 a (fI L) i
 rcases eL hr with rfl|hr
 ·exact aAi L a i
 rcases eL hr with rfl|hr
 ·exact avX L a i
 rcases eL hr with rfl|hr
 ·exact afX L a i
 rcases eL hr with rfl|hr
 ·exact aoB L a i
 rcases eL hr with rfl|hr
 ·exact aiB L a i
 cases hr
theorem avE(inr:Bool)(label:AAE)(i:Nat):Up (i+1) (mS L stmt inner inr label i):=by
 unfold mS;simp only
 refine Up.ite (λ_=>.ok (aG _)) λ_=>Up.ite (λ_=>?_) λ_=>Up.ite (λ_=>.err _) λ_=>?_
 ·exact(Br L i).bind λr j h0=>(bM L j tV).bind λ_ j1 h1=>(fI L j1).bind λx j2 h2=>(bM L j2 aT).bind λ_ j3 h3=>.ok aB
 ·split
  ·exact .err _
  ·exact QQ L h g _ _ _ _ _ ‹_›
end
def BM{lab:Bool->ByteArray->Nat->R T}(h:∀ b l i,Up (i+1) (lab b l i))(inr:Bool)(i:Nat):Up (i+1) (cH L lab inr i):=by
 unfold cH;exact Up.ite (λ_=>(iZ L (oX L) 4 (i+1)).bind λl j h0=>(bM L j dA).bind λ_ j1 h1=>(bM L j1 cU).bind λ_ j2 h2=>(h inr e0 j2).bind λx j3 h3=>.ok aB) λ_=>h inr e0 i
def apQ: ∀ f inr label i,Up (i+1) (jG L f inr label i):=by
 intro f
 induction f with
 | zero=>intro inr label i;unfold jG;exact .err _
 | succ f ih=>
  intro inr label i;unfold jG;exact Up.ite (λ_=>avE L (λi=>BM L ih false i) (λi=>BM L ih true i) inr label i) λ_=>(ih _ _ (i+2)).bind λx j hj=>.ok aB
end Px
end
section
namespace Px
open Lx
mutual
def Df: T->List Int
 | .mk k _ a _ l=>(if GP k=true then [a]else [])++zH l
def zH: List T->List Int
 | []=>[]
 | x::r=>Df x++zH r
end
def azN(k n a:Int)(w:AAE)(l:List T):Df (.mk k n a w l)=(if GP k=true then [a]else [])++zH l:=by rw[Df]
def bZ: zH []=[]:=by rw[zH]
def bJ(x:T)(r:List T):zH (x::r)=Df x++zH r:=by rw[zH]
def LU(l m:List T):zH (l++m)=zH l++zH m:=by
 induction l with
 | nil=>rw[dI,bZ,dI]
 | cons x r ih=>rw[kE,bJ,bJ,ih,bT]
def uE{l:List T}(h:∀ x,x∈l->Df x=[]):zH l=[]:=by
 induction l with
 | nil=>exact bZ
 | cons x r ih=>rw[bJ,h x (.head _),ih λy hy=>h y (.tail _ hy)];rfl
theorem ET.hi{lo hi hi':Nat}{l:List Int}(h:ET lo l hi)(g:hi<=hi'):ET lo l hi':=by
 induction l generalizing lo with
 | nil=>exact aZ h g
 | cons x r ih=>obtain⟨a,h0,h1,h2⟩:=h;exact⟨a,h0,h1,ih h2⟩
def eS(k:Int)(h:GP k=false)(n a:Int)(w:AAE)(l:List T):Df (.mk k n a w l)=zH l:=by rw[azN,h];rfl
def kI(k:Int)(h:GP k=true)(n a:Int)(w:AAE)(l:List T):Df (.mk k n a w l)=a::zH l:=by rw[azN,aF h];rfl
def noS: So->Bool
 | .expr | .part | .arg | .fmt | .attr | .val | .bound | .item | .cond=>true
 | _=>false
def Us{t:T}(h:isWord t):Df t=[]:=by obtain⟨a,w,rfl,_⟩:=h;rw[eS 11 rfl,bZ]
def amT{t:T}(h:IY t):Df t=[]:=by obtain⟨n,a,w,rfl,_⟩:=h;rw[eS 1 rfl,bZ]
def aDB{t:T}(h:VL t):Df t=[]:=by obtain⟨a,w,rfl,_⟩:=h;rw[eS 1 rfl,bZ]
def MQ{t:T}(h:isNone t):Df t=[]:=by obtain⟨a,rfl⟩:=h;rw[eS 10 rfl,bZ]
def adX{s:So}{t:T}(h:V s t):noS s=true->Df t=[]:=by
 induction h with
 | const n a w h=>intro _;rw[eS 1 rfl,bZ]
 | ref a ps h1 h8 h ih=>intro _;rw[eS 2 rfl];exact Ea
 | ptr a x y hx hr hy h2 ix iy=>intro _;rw[eS 4 rfl,bJ,bJ,bZ,ix rfl,iy rfl];rfl
 | un a w x hw hx ix=>intro _;rw[eS 5 rfl,bJ,bZ,ix rfl];rfl
 | bin a w x y hw hx hy ix iy=>intro _;rw[eS 6 rfl,bJ,bJ,bZ,ix rfl,iy rfl];rfl
 | part0 a w h=>intro _;rw[eS 3 rfl,bZ]
 | part1 a w l h h16 hl ih=>intro _;rw[eS 3 rfl];exact Ea
 | arg x h ih=>intro _;exact ih rfl
 | star a=>intro _;rw[eS 7 rfl,bZ]
 | fmtN n a l h1 h2 hne hl ih=>intro _;rw[eS 42 rfl];exact Ea
 | fmtP a c h=>intro _;rw[eS 41 rfl,bJ,bZ,aDB h];rfl
 | fmt a w l hw h h2 hl=>intro _;rw[eS 41 rfl];exact uE λx hx=>amT (hl x hx)
 | attrP a c h=>intro _;rw[eS 50 rfl,bJ,bZ,aDB h];rfl
 | attrL a x h h2 ih=>intro _;rw[eS 50 rfl,bJ,bZ,ih rfl];rfl
 | attr0 a w h h1 h2 h3=>intro _;rw[eS 50 rfl,bZ]
 | attr1 a w l h h1 h2 h3 h60 hl ih=>intro _;rw[eS 50 rfl];exact Ea
 | val x h ih=>intro _;exact ih rfl
 | valR n a c h1 h2 hc=>
  intro _;rw[eS 42 rfl,bJ,bZ,bD]
  rcases hc with hc|⟨a',w,c',rfl,_,hc⟩
  ·exact amT hc
  ·rw[eS 5 rfl,bJ,bZ,amT hc];rfl
 | bound2 a x y hx hy ix iy=>intro _;rw[eS 49 rfl,bJ,bJ,bZ,ix rfl,iy rfl];rfl
 | bound1 a x y hx hy iy=>intro _;rw[eS 49 rfl,bJ,bJ,bZ,MQ hx,iy rfl];rfl
 | item n a x bs aSq h0 h99 hx hxs hi hb hbs hbv has hav ii ib ia=>
  intro _;rw[eS 48 rfl,bJ,bJ,uE λy hy=>ia y hy rfl,bD];obtain⟨a',l,rfl⟩:=hb;rw[eS 40 rfl,uE (l:=l) λy hy=>ib y hy rfl,bD]
  rcases hx with hx|⟨a2,its,rfl,_⟩
  ·exact Us hx
  ·rw[eS 40 rfl,uE (l:=its) λy hy=>ii rfl y hy rfl]
 | cond0 a w h=>intro _;rw[eS 12 rfl,bZ]
 | cond1 a w x h hx=>intro _;rw[eS 12 rfl,bJ,bZ,Us hx];rfl
 | _=>intro h;cases h
def Fb{t:T}(h:V .expr t):Df t=[]:=adX h rfl
def YC{t:T}(h:¬ isNone t->V .expr t):Df t=[]:=by
 by_cases g:isNone t
 ·exact MQ g
 ·exact Fb (h g)
def YH: List Int:=[15,16,17,18,19,20,23,32]
def awT{inr lab:Bool}{t:T}(h:V (.pl inr lab) t)(hk:t.kind∉YH):Df t=[t.at_]:=by
 cases h with
 | null=>rw[kI 31 rfl,bZ];rfl
 | assign _ _ a r x hr h hx=>rw[kI 24 rfl,bJ,bJ,bZ,Fb hr,Fb hx];rfl
 | call _ _ a a' p hp=>rw[kI 25 rfl,bJ,bZ,eS 2 rfl,bJ,bZ,adX hp rfl];rfl
 | ret0=>rw[kI 26 rfl,bZ];rfl
 | ret1 _ _ a x hx=>rw[kI 26 rfl,bJ,bZ,Fb hx];rfl
 | goto_=>rw[kI 27 rfl,bZ];rfl
 | leave _ _ k a w hk' h=>rw[kI k Az,bZ];rfl
 | stop=>rw[kI 30 rfl,bZ];rfl
 | revert _ _ k a c hk' hc=>rw[kI k Az,bJ,bZ,adX hc rfl];rfl
 | alloc _ _ a w x y h hx hxr hy hyr=>rw[kI 36 rfl,bJ,bJ,bZ,YC hx,YC hy];rfl
 | free _ _ a r x hr h hx hxr=>rw[kI 37 rfl,bJ,bJ,bZ,Fb hr,YC hx];rfl
 | stream0 _ _ k n a w x y hk' h0 h99 hw hx hy=>rw[kI k Az,bJ,bJ,bZ,MQ hx,MQ hy];rfl
 | stream1 _ _ k n a a' w l y hk' h0 h99 hw h1 h16 hl hr hy=>rw[kI k Az,bJ,bJ,bZ,MQ hy,eS 40 rfl,uE λx hx=>Fb (hl x hx)];rfl
 | stream2 _ _ k n a a' a2 w l m hk' h0 h99 hw h1 h16 hl hr h2 h32 hm=>rw[kI k Az,bJ,bJ,bZ,eS 40 rfl,uE λx hx=>Fb (hl x hx),eS 40 rfl,uE λx hx=>adX (hm x hx) rfl];rfl
 | rd _ _ k a w r x hk' h hr hrr hx h44=>rw[kI k (by rcases hk' with rfl|rfl|rfl<;>rfl),bJ,bJ,bZ,Fb hr,YC hx];rfl
 | delete _ _ a w x h hx=>rw[kI 46 rfl,bJ,bZ,Fb hx];rfl
 | declare _ a l h1 h60 hl=>rw[kI 47 rfl,uE λx hx=>adX (hl x hx) rfl];rfl
 | _=>simp[YH,T.kind]at hk
section
variable {L:List Tk} (hX:sT L)
def Sd.and{α:Type}{P Q:α->Nat->Prop}{r:R α}(h:Sd P r)(g:Sd Q r):Sd (λx j=>P x j/\Q x j) r:=λx j e=>⟨h x j e,g x j e⟩
def Nn(k:Nat)(t:T)(j:Nat):Prop:=Df t=[]/\k<=j
include hX
def acG(i:Nat):Sd (Nn (i+1)) (dB L i):=λx j e=>⟨Fb (qH hX i x j e),fI L i x j e⟩
def aDJ(i:Nat):Sd (Nn (i+1)) (yZ L i):=λx j e=>⟨Fb (LB hX i x j e).1,Br L i x j e⟩
def Kb(w:AAE)(i:Nat):Sd (Nn i) (gL L w i):=λx j e=>⟨YC (EB hX w i x j e),mQ L w i x j e⟩
def Tq(w:AAE)(i:Nat):Sd (Nn i) (jK L w i):=λx j e=>⟨YC (He hX w i x j e),rY L w i x j e⟩
def abM(i:Nat):Sd (Nn (i+1)) (fB L i):=λx j e=>⟨Fb (pW hX i x j e),oV L i x j e⟩
def aEu(b:Bool)(i:Nat):Sd (Nn (i+1)) (qL L b i):=λx j e=>⟨adX (Uc hX b i x j e) rfl,Ex L b i x j e⟩
omit hX
def Hd(a:Nat)(r:R T):Prop:=Sd (λx _=>x.at_=(a:Int)/\x.kind∉YH) r
def azG{a:Nat}{t:T}{i:Nat}(h:t.at_=(a:Int)/\t.kind∉YH):Hd a (bK L t i):=lG λ_=>h
def rF{a:Nat}{r:R T}(h:Hd a r:=by repeat (first|exact Sd.err _|exact azG ⟨rfl,by simp[YH,T.kind,node]⟩|exact Sd.ok ⟨rfl,by simp[YH,T.kind,node]⟩|(refine Sd.then λ_ _=>?_)|(refine Sd.ite (λ_=>?_) (λ_=>?_)))):Hd a r:=h
def lX{a i:Nat}{inr lab:Bool}{r:R T}(hV:Sd (Qs L (.pl inr lab)) r)(hU:Up i r)(hi:a<i)(hH:Hd a r):Sd (λx j=>ET a (Df x) j) r:=λx j e=>by
 have h1:=hH x j e
 show ET a (Df x) j
 rw[awT (hV x j e).1 h1.2,h1.1];exact ET.one (aG _) (by have:=hU x j e;omega)
def Od(f:Nat->R T):Prop:=∀ i,Sd (λx j=>ET i (Df x) j) (f i)
variable {stmt inner:Nat->R T} (hS:Od stmt) (uS:∀ i,Up (i+1) (stmt i)) (hI:Od inner)
include hS
def ayA(label:AAE):∀ f acc i lo,ET lo (zH acc) i->Sd (λl j=>ET lo (zH l) j) (jE L stmt label f acc i):=by
 intro f
 induction f with
 | zero=>intro acc i lo _;exact Dw
 | succ f ih=>
  intro acc i lo h;unfold jE;refine Sd.ite (λ_=>Sd.bind (P:=λ_ j=>i+1<=j) (Gn L label i) λ_ j hj=>.ok (h.hi aB)) λ_=>(hS i).bind λx j hx=>ih _ j lo ?_;rw[LU,bJ,bZ,bD];exact h.app hx
def EF(label:AAE)(i:Nat):Sd (λl j=>ET i (zH l) j) (iO L stmt label i):=ayA hS label _ [] i i (by rw[bZ];exact aG _)
omit hS
def Ag{k n:Int}(hk:GP k=true){a m j:Nat}{w:AAE}{l:List T}(ha:a<m)(h:ET m (zH l) j):ET a (Df (.mk k n a w l)) j:=by
 rw[kI k hk];exact⟨a,rfl,aG _,h.lo ha⟩
include hX hS
def ZF(a:Nat)(label:AAE)(i:Nat)(ha:a<i):Sd (λx j=>ET a (Df x) j) (iE L stmt a label i):=by
 unfold iE;refine Sd.bind (P:=λp j=>Df p=[]/\i<=j) ?_ λparams j hj=>?_
 ·exact Sd.ite (λ_=>((sF (Ff hX) 8 aD (i+1)).and (iZ L (oX L) 8 (i+1))).bind λl j hl=>Sd.bind (P:=λ_ j'=>j+1<=j') (bM L j dA) λ_ j' h'=>.ok ⟨by unfold gQ;rw[eS 40 rfl];exact uE λx hx=>Us (hl.1.1 x hx),by have:=hl.2;omega⟩) λ_=>.ok ⟨by unfold node;rw[eS 40 rfl,bZ],aG _⟩
 refine Sd.bind (P:=λ_ j'=>j<=j') ?_ λn j1 h1=>?_
 ·exact Sd.ite (λ_=>Sd.bind (P:=λ_ j'=>j+2<=j') (bM L (j+1) cJ) λ_ j1 h1=>Sd.bind (P:=λ_ j'=>j1+1<=j') (oZ L j1 [pO]) λ_ j2 h2=>Sd.bind (P:=λ_ j'=>j2+1<=j') (bM L j2 dA) λ_ j3 h3=>.ok aB) λ_=>Sd.ite (λ_=>.ok aB) λ_=>.ok aB
 refine Sd.bind (P:=λp j'=>Df p=[]/\j1<=j') ?_ λret j2 h2=>?_
 ·refine Sd.ite (λ_=>?_) λ_=>.ok ⟨by unfold none_;rw[eS 10 rfl,bZ],aG _⟩
  refine Sd.bind (P:=λ_ j'=>j1+2<=j') (bM L (j1+1) cJ) λ_ k1 g1=>((Fk hX k1).and (uV L k1)).bind λx k2 g2=>((UY hX 3 k2).and (JU L 3 k2)).bind λxs k3 g3=>Sd.bind (P:=λ_ j'=>k3+1<=j') (bM L k3 dA) λ_ k4 g4=>.ok ⟨?_,?_⟩
  ·unfold gQ;rw[eS 40 rfl];refine uE λy hy=>?_
   rcases bO.1 hy with rfl|hy
   ·exact adX g2.1 rfl
   ·exact adX (g3.1.1 y hy) rfl
  ·have:=g2.2;have:=g3.2;omega
 refine Sd.bind (P:=λ_ j'=>j2+1<=j') (bM L j2 aT) λ_ j3 h3=>(EF hS label j3).bind λg j4 h4=>.ok (Ag (m:=j3) rfl (by have:=hj.2;have:=h2.2;omega) ?_)
 rw[bJ,bJ,hj.1,h2.1];exact h4
def aJW(a:Nat)(label:AAE)(i:Nat)(ha:a<i):Sd (λx j=>ET a (Df x) j) (doP L stmt a label i):=by
 unfold doP;refine Sd.ite (λ_=>(EF hS label (i+1)).bind λg j hj=>.ok (Ag (m:=i+1) rfl aB hj)) λ_=>Sd.ite (λ_=>?_) λ_=>Sd.ite (λ_=>?_) λ_=>.err _
 ·refine(aDJ hX i).bind λr j h0=>Sd.bind (P:=λ_ j'=>j+1<=j') (bM L j tV) λ_ j1 h1=>(acG hX j1).bind λx j2 h2=>(Tq hX Fj j2).bind λt j3 h3=>(Tq hX Xd j3).bind λb j4 h4=>
   (Kb hX gF j4).bind λwh j5 h5=>(Kb hX gA j5).bind λun j6 h6=>Sd.bind (P:=λ_ j'=>j6+1<=j') (bM L j6 aT) λ_ j7 h7=>(EF hS label j7).bind λg j8 h8=>.ok (Ag (m:=j7) rfl ?_ ?_)
  ·have:=h0.2;have:=h2.2;have:=h3.2;have:=h4.2;have:=h5.2;have:=h6.2;omega
  ·simp only[bJ,h0.1,h2.1,h3.1,h4.1,h5.1,h6.1,dI];exact h8
 ·refine(Kb hX gF i).bind λwh j h0=>(Kb hX gA j).bind λun j1 h1=>Sd.bind (P:=λ_ j'=>j1+1<=j') (bM L j1 aT) λ_ j2 h2=>(EF hS label j2).bind λg j3 h3=>.ok (Ag (m:=j2) rfl ?_ ?_)
  ·have:=h0.2;have:=h1.2;omega
  ·simp only[bJ,h0.1,h1.1,dI];exact h3
omit hS
include hI
def aBZ: ∀ f acc i lo,ET lo (zH acc) i->Sd (λl j=>ET lo (zH l) j) (jW L inner f acc i):=by
 intro f
 induction f with
 | zero=>intro acc i lo _;unfold jW;exact .err _
 | succ f ih=>
  intro acc i lo h;unfold jW;refine Sd.ite (λ_=>?_) λ_=>.ok h
  refine Sd.bind (P:=λ_ j'=>i+2<=j') (bM L (i+1) cJ) λ_ j hj=>((sF (qH hX) 8 aD j).and (iZ L (fI L) 8 j)).bind λl j1 h1=>Sd.bind (P:=λ_ j'=>j1+1<=j') (bM L j1 dA) λ_ j2 h2=>(hI j2).bind λx j3 h3=>ih _ j3 lo ?_;rw[LU,bJ,bZ,bD];refine(h.hi (hi':=j2) (by have:=h1.2;omega)).app ?_;unfold node;rw[eS 21 rfl,LU,uE λy hy=>Fb (h1.1.1 y hy),bJ,bZ,bD];exact h3
def auZ(a:Nat)(label:AAE)(i:Nat)(ha:a<i):Sd (λx j=>ET a (Df x) j) (lL L inner a label i):=by
 unfold lL;refine Sd.bind (P:=λp j=>Df p=[]/\i<=j) ?_ λx j hj=>Sd.bind (P:=λ_ j'=>j+1<=j') (bM L j aT) λ_ j1 h1=>(aBZ hX hI _ [x] j1 (a+1) ?_).bind λl j2 h2=>?_
 ·exact Sd.ite (λ_=>(abM hX i).mono λ_ _ h=>⟨h.1,by have:=h.2;omega⟩) λ_=>.ok ⟨by unfold none_;rw[eS 10 rfl,bZ],aG _⟩
 ·rw[bJ,bZ,hj.1];have:=hj.2;exact iH aB
 refine Sd.bind (P:=λl2 j3=>ET (a+1) (zH l2) j3) ?_ λl2 j3 h3=>Sd.bind (P:=λ_ j'=>j3+1<=j') (Gn L label j3) λ_ j4 h4=>.ok (Ag (m:=a+1) rfl aB (h3.hi aB))
 refine Sd.ite (λ_=>(hI (j2+1)).bind λy j3 h3=>.ok ?_) λ_=>.ok h2
 rw[LU,bJ,bZ,bD];unfold node;rw[eS 22 rfl,bJ,bZ,bD];exact h2.app (h3.lo aB)
def awC(a i:Nat)(ha:a<i):Sd (λx j=>ET a (Df x) j) (qM L inner a i):=by
 unfold qM;refine(acG hX i).bind λx j h0=>Sd.bind (P:=λ_ j'=>j+1<=j') (oZ L j [pI]) λ_ j1 h1=>(hI j1).bind λy j2 h2=>Sd.ite (λ_=>(hI (j2+1)).bind λz j3 h3=>.ok ?_) λ_=>.ok ?_
 ·refine Ag (m:=j1) rfl (by have:=h0.2;omega) ?_;rw[bJ,bJ,bJ,bZ,h0.1,bD,dI];exact h2.app (h3.lo aB)
 ·refine Ag (m:=j1) rfl (by have:=h0.2;omega) ?_;rw[bJ,bJ,bZ,h0.1,bD,dI];exact h2
def aJw(a i:Nat)(ha:a<i):Sd (λx j=>ET a (Df x) j) (onP L inner a i):=by
 unfold onP;simp only
 refine(aEu hX _ i).bind λc j h0=>Sd.ite (λ_=>Sd.bind (P:=λ_ j'=>j+2<=j') (bM L (j+1) aT) λ_ j1 h1=>.ok ?_) λ_=>(hI j).bind λx j1 h1=>.ok ?_
 ·refine Ag (m:=j) rfl (by have:=h0.2;omega) ?_;unfold node;rw[bJ,bJ,bZ,h0.1,eS 33 rfl,bZ];exact iH aB
 ·refine Ag (m:=j) rfl (by have:=h0.2;omega) ?_;rw[bJ,bJ,bZ,h0.1,bD,dI];exact h1
include hS uS
def amV(vS:∀ i,Sd (λt _=>V (.st false) t) (stmt i))(vI:∀ i,Sd (Qs L (.st true)) (inner i))(uI:∀ i,Up (i+1) (inner i))(inr:Bool)(w:AAE)(a:Nat)(label:AAE)(i:Nat)(ha:a<i)(r:R T)(hr:bL L stmt inner w a label i=some r)(hV:Sd (Qs L (.pl inr (decide (label.size≠0)))) r):Sd (λx j=>ET a (Df x) j) r:=by
 have hU:=QQ L uS uI w a label i r hr;unfold bL at hr
 rcases eL hr with rfl|hr
 ·exact ZF hX hS a label i ha
 rcases eL hr with rfl|hr
 ·exact Sd.bind (P:=λ_ j'=>i+1<=j') (bM L i aT) λ_ j hj=>(EF hS label j).bind λg j1 h1=>.ok (Ag (m:=j) rfl aB h1)
 rcases eL hr with rfl|hr
 ·exact aJW hX hS a label i ha
 rcases eL hr with rfl|hr
 ·exact auZ hX hI a label i ha
 rcases eL hr with rfl|hr
 ·exact awC hX hI a i ha
 rcases eL hr with rfl|hr
 ·exact lX hV hU ha (by unfold GL;exact rF)
 rcases eL hr with rfl|hr
 ·exact lX hV hU ha (by unfold Dm;exact rF)
 rcases eL hr with rfl|hr
 ·exact lX hV hU ha (by unfold yS;exact rF)
 rcases eL hr with rfl|hr
 ·exact lX hV hU ha (by unfold yS;exact rF)
 rcases eL hr with rfl|hr
 ·exact Qq
 rcases eL hr with rfl|hr
 ·exact Qq
 rcases eL hr with rfl|hr
 ·exact lX hV hU ha rF
 rcases eL hr with rfl|hr
 ·exact aJw hX hI a i ha
 rcases eL hr with rfl|hr
 ·exact lX hV hU ha rF
 rcases eL hr with rfl|hr
 ·exact lX hV hU ha rF
 rcases eL hr with rfl|hr
 ·exact lX hV hU ha (by unfold pU;exact rF)
 rcases eL hr with rfl|hr
 ·exact lX hV hU ha (by unfold GD;exact rF)
 rcases eL hr with rfl|hr
 ·exact Rq
 rcases eL hr with rfl|hr
 ·exact Rq
 rcases eL hr with rfl|hr
 ·exact lX hV hU ha (by unfold GF;exact rF)
 rcases eL hr with rfl|hr
 ·exact lX hV hU ha (by unfold Ab;exact rF)
 rcases eL hr with rfl|hr
 ·exact lX hV hU ha (by unfold sK;exact rF)
 rcases eL hr with rfl|hr
 ·exact lX hV hU ha (by unfold uB;exact rF)
 rcases eL hr with rfl|hr
 ·exact lX hV hU ha (by unfold sM;exact rF)
 cases hr
def aCM(vS:∀ i,Sd (λt _=>V (.st false) t) (stmt i))(vI:∀ i,Sd (Qs L (.st true)) (inner i))(uI:∀ i,Up (i+1) (inner i))(inr:Bool)(label:AAE)(i:Nat):Sd (λx j=>ET i (Df x) j) (mS L stmt inner inr label i):=by
 have hV:=aeB hX vS vI inr label i;unfold mS at hV ⊢
 by_cases h1:cD L i [aT]=true
 ·rw[aF h1];exact .ok (by unfold node;rw[kI 31 rfl,bZ];exact ET.one (aG _) (pC _))
 rw[aC h1]at hV ⊢
 by_cases h2:(eF L i&&!pQ L i)=true
 ·rw[aF h2];refine(aDJ hX i).bind λr j h0=>Sd.bind (P:=λ_ j'=>j+1<=j') (bM L j tV) λ_ j1 g1=>(acG hX j1).bind λx j2 g2=>Sd.bind (P:=λ_ j'=>j2+1<=j') (bM L j2 aT) λ_ j3 g3=>.ok ?_;unfold node;rw[kI 24 rfl,bJ,bJ,bZ,h0.1,g2.1];exact ET.one (aG _) (by have:=h0.2;have:=g2.2;omega)
 rw[aC h2]at hV ⊢;simp only at hV ⊢
 revert hV
 split
 ·intro _;exact .err _
 ·cases hd:bL L stmt inner (tok L i).text i label (i+1) with
  | none=>intro _;exact .err _
  | some r=>intro hV;exact amV hX hS uS hI vS vI uI inr _ i label (i+1) (pC i) r hd hV
end
section
variable {L:List Tk} (hX:sT L)
include hX
def Iv{lab:Bool->ByteArray->Nat->R T}(h:∀ b s i,Sd (λx j=>ET i (Df x) j) (lab b s i))(inr:Bool)(i:Nat):Sd (λx j=>ET i (Df x) j) (cH L lab inr i):=by
 unfold cH;refine Sd.ite (λ_=>?_) λ_=>h inr e0 i
 refine((sF (Ff hX) 4 aD (i+1)).and (iZ L (oX L) 4 (i+1))).bind λl j hl=>Sd.bind (P:=λ_ j'=>j+1<=j') (bM L j dA) λ_ j1 h1=>Sd.bind (P:=λ_ j'=>j1+1<=j') (bM L j1 cU) λ_ j2 h2=>(h inr e0 j2).bind λx j3 h3=>.ok ?_;unfold node;rw[eS 13 rfl,LU,uE λy hy=>Us (hl.1.1 y hy),bJ,bZ,bD];exact h3.lo (by have:=hl.2;omega)
def aIC: ∀ f b s i,Sd (λx j=>ET i (Df x) j) (jG L f b s i):=by
 intro f
 induction f with
 | zero=>intro b s i;unfold jG;exact .err _
 | succ f ih=>
  intro b s i;unfold jG;have hp:∀ b i,Sd (Qs L (.st b)) (cH L (jG L f) b i):=λb i=>Ia hX (aAq hX f) b i
  refine Sd.ite (λ_=>aCM hX (Iv hX ih false) (λi=>BM L (apQ L f) false i) (Iv hX ih true) (λi=>(hp false i).mono λ_ _ h=>h.1) (hp true) (λi=>BM L (apQ L f) true i) b s i) λ_=>(ih b _ (i+2)).bind λx j hx=>.ok ?_;rw[eS 14 rfl,bJ,bZ,bD];exact hx.lo aB
def aDW: Od (rW L):=Iv hX (aIC hX _) false
def anE(i:Nat):Sd (λx j=>ET i (Df x) j/\1<=(Df x).length) (fC L i):=by
 unfold fC;refine Sd.bind (P:=λ_ j'=>i+1<=j') (sN L i) λs j h0=>Sd.bind (P:=λ_ j'=>j+1<=j') (bM L j cU) λ_ j1 h1=>Sd.bind (P:=λ_ j'=>j1+1<=j') (oZ L j1 _) λ_ j2 h2=>Sd.bind (P:=λ_ j'=>j2+1<=j') (oZ L j2 _) λ_ j3 h3=>
  Sd.bind (P:=λ_ j'=>j3+1<=j') (bM L j3 cJ) λ_ j4 h4=>Sd.bind (P:=λ_ j'=>j4+1<=j') (oZ L j4 _) λ_ j5 h5=>Sd.bind (P:=λ_ j'=>j5+1<=j') (bM L j5 dA) λ_ j6 h6=>Sd.bind (P:=λ_ j'=>j6+1<=j') (bM L j6 aT) λ_ j7 h7=>(EF (aDW hX) s j7).bind λg j8 h8=>.ok ?_
 unfold node none_;rw[eS 14 rfl,bJ,bZ,bD,kI 15 rfl,bJ,eS 40 rfl,bZ,bJ,eS 10 rfl,bZ];exact⟨⟨j1,rfl,by omega,h8.lo aB⟩,by simp⟩
end
def aHG{t:T}{i:Nat}{r:List Int}(hi:i<t.l.length):MB t ((i:Int)::r)=MB (t.l[i]'hi) r:=aGP (t:=t) (i:=(i:Int)) (Int.natCast_nonneg i) wK
mutual
theorem aGW(t0:T):∀ (t:T) (p:List Int),(∀ r,MB t0 (p++r)=MB t r)->(Md p t).map (λq=>(MB t0 q).map T.at_)=(Df t).map some
 | .mk k n a w l,p,h=>by
  rw[Md,Df,iX,iX,azS t0 l p 0 (λj hj r=>by rw[h,dT];exact aHG (t:=.mk k n a w l) hj)]
  congr 1
  split
  ·have:=h [];rw[bD]at this;simp only[dC,oY,this,MB,tE,T.at_]
  ·rfl
theorem azS(t0:T):∀ (l:List T) (p:List Int) (i:Nat),(∀ j,(hj:j<l.length)->∀ r,MB t0 (p++((i+j:Nat):Int)::r)=MB (l[j]'hj) r)->(uL p i l).map (λq=>(MB t0 q).map T.at_)=(zH l).map some
 | [],p,i,_=>by rw[uL,zH];rfl
 | x::r,p,i,h=>by
  rw[uL,zH,iX,iX,aGW t0 x (p++[(i:Int)]) (λq=>by
   rw[bT];exact h 0 (Nat.succ_pos _) q),azS t0 r p (i+1) (λj hj q=>by
   have:=h (j+1) (Nat.succ_lt_succ hj) q
   rw[show i+1+j=i+(j+1)by omega];exact this)]
end
mutual
theorem aAl: ∀ (t:T) (p q:List Int),q∈Md p t->∃ r,q=p++r
 | .mk k n a w l,p,q,h=>by
  rw[Md,fP]at h
  rcases h with h|h
  ·split at h
   ·rw[cO.1 h];exact⟨[],(bD _).symm⟩
   ·cases h
  ·obtain⟨j,r,_,rfl⟩:=UH l p 0 q h;exact⟨_,rfl⟩
theorem UH: ∀ (l:List T) (p:List Int) (i:Nat) (q:List Int),q∈uL p i l->∃ (j:Nat) (r:List Int),i<=j/\q=p++(j:Int)::r
 | [],p,i,q,h=>by rw[uL]at h;cases h
 | x::l,p,i,q,h=>by
  rw[uL,fP]at h
  rcases h with h|h
  ·obtain⟨r,rfl⟩:=aAl x _ q h;exact⟨i,r,aG _,by rw[bT];rfl⟩
  ·obtain⟨j,r,h1,h2⟩:=UH l p (i+1) q h;exact⟨j,r,by omega,h2⟩
end
def aCT(q1 q2:List Int):Prop:=¬ (q2.length<q1.length/\q1.take q2.length=q2)
mutual
theorem aGO: ∀ (t:T) (p:List Int),(Md p t).Pairwise aCT
 | .mk k n a w l,p=>by
  rw[Md];refine List.pairwise_append.2 ⟨by split<;>simp,aBS l p 0,λx hx y hy=>?_⟩
  split at hx
  ·rw[cO.1 hx];obtain⟨j,r,_,rfl⟩:=UH l p 0 y hy;intro g;have:=g.1;rw[aO]at this;omega
  ·cases hx
theorem aBS: ∀ (l:List T) (p:List Int) (i:Nat),(uL p i l).Pairwise aCT
 | [],p,i=>by rw[uL];exact .nil
 | x::l,p,i=>by
  rw[uL];refine List.pairwise_append.2 ⟨aGO x _,aBS l p (i+1),λy hy z hz=>?_⟩;obtain⟨r,rfl⟩:=aAl x _ y hy;obtain⟨j,s,hj,rfl⟩:=UH l p (i+1) z hz;intro g;have h1:=congrArg (λq=>q[p.length]?) g.2;simp only[CO,bT,aO,aV]at h1
  rw[aF aB,Ad (aG _),Ad (aG _)]at h1
  simp at h1
  omega
end
def plc(t:T)(i:Nat):Int:=(Df t).getD i 0
def aFW{lo hi:Nat}{l:List Int}(h:ET lo l hi):∀ i,i<l.length->(lo:Int)<=l.getD i 0/\l.getD i 0<hi/\(i+1<l.length->l.getD i 0<l.getD (i+1) 0):=by
 induction l generalizing lo with
 | nil=>intro i hi;exact Ja
 | cons x r ih=>
  obtain⟨a,rfl,h1,h2⟩:=h;intro i hi
  cases i with
  | zero=>
   refine⟨by simp;omega,by have:=h2.le;simp;omega,λhh=>?_⟩;have:=(ih h2 0 (by simpa using hh)).1;simp only[List.getD_cons_zero,List.getD_cons_succ]at this ⊢
   omega
  | succ i=>
   have:=ih h2 i wK;simp only[List.getD_cons_succ,aV]at this ⊢
   exact⟨by omega,this.2.1,λhh=>this.2.2 aB⟩
section
variable{L:List Tk}{t:T}{a e:Int}(h:jM fC L=(t,a,e))(he:e=0)
include L t a e h he
theorem acS:De t=true/\V (.st false) t/\Ny t:=by
 obtain⟨_,hg,t',h1,h2,h3⟩:=CU.1 (show (jM fC L).2.2=0 by rw[h];exact he);rw[h]at h3
 cases h3
 obtain⟨j,hr,_⟩:=Ec h1;have hv:=anH hg.ayE 0 t j hr;exact⟨(BK t).2 ⟨h2,t,yW t,.inr hv.1⟩,hv⟩
theorem asO:(Md [] t).length=(Df t).length/\1<=(Df t).length/\(∀ i,(hi:i<(Md [] t).length)->∃ x,MB t ((Md [] t)[i])=some x/\x.at_=plc t i)/\(∀ i,i<(Df t).length->0<=plc t i/\plc t i<L.length/\(i+1<(Df t).length->plc t i<plc t (i+1)))/\(Md [] t).Pairwise aCT:=by
 obtain⟨_,hg,t',h1,h2,h3⟩:=CU.1 (show (jM fC L).2.2=0 by rw[h];exact he);rw[h]at h3
 cases h3
 obtain⟨j,hr,_⟩:=Ec h1;obtain⟨ho,h4⟩:=anE hg.ayE 0 t j hr;obtain⟨K,hK⟩:=acA L;have hj:j<=L.length:=(AV (K:=K) L 0 t j hr).2;have hm:=aGW t t [] (λr=>rfl);have hlen:(Md [] t).length=(Df t).length:=by have:=congrArg List.length hm;simpa using this
 refine⟨hlen,h4,λi hi=>?_,λi hi=>?_,aGO t []⟩
 ·have h5:=congrArg (λl=>l[i]?) hm;simp only[lV,dQ hi,tE]at h5
  rw[dQ aB]at h5;simp only[tE,mP]at h5
  obtain⟨x,hx,h6⟩:=gY.1 h5;refine⟨x,hx,h6.trans ?_⟩;unfold plc;rw[dH,dQ aB];rfl
 ·have:=aFW ho i hi;exact⟨by have:=this.1;unfold plc;omega,by have:=this.2.1;unfold plc;omega,this.2.2⟩
end
end Px
end
section
namespace Px
open Lx
def aID(P:Int->ByteArray->Nat->Prop)(t:T):ev P t↔P t.n t.word t.l.length/\∀ x,x∈t.l->ev P x:=by
 obtain⟨k,n,a,w,l⟩:=t
 exact GW
mutual
theorem apU{P Q:Int->ByteArray->Nat->Prop}(h:∀ n w m,P n w m->Q n w m):∀ t,ev P t->ev Q t
 | .mk k n a w l,g=>by unfold ev at g ⊢; exact⟨h _ _ _ g.1,adN h l g.2⟩
theorem adN{P Q:Int->ByteArray->Nat->Prop}(h:∀ n w m,P n w m->Q n w m):∀ l,Xz P l->Xz Q l
 | [],_=>by unfold Xz;trivial
 | t::r,g=>by unfold Xz at g ⊢; exact⟨apU h t g.1,adN h r g.2⟩
end
mutual
theorem azW{K:Nat}:∀ t,XI K t<1000000->ev (λ_ w _=>w.size<=K) t
 | .mk k n a w l,g=>by
  unfold XI bw at g;unfold ev
  split at g
  ·exact⟨‹_›,aqG l aB⟩
  ·omega
theorem aqG{K:Nat}:∀ l,yQ K l<1000000->Xz (λ_ w _=>w.size<=K) l
 | [],_=>by unfold Xz;trivial
 | t::r,g=>by unfold yQ at g;unfold Xz;exact⟨azW t aB,aqG r aB⟩
end
def GM: T->Prop:=ev λn _ _=>0<=n/\n<=1000
def zM{k n a:Int}{w:AAE}{l:List T}(hn:0<=n/\n<=1000)(h:∀ x,x∈l->GM x):GM (.mk k n a w l):=(aID _ _).2 ⟨hn,h⟩
def rN{k a:Int}{w:AAE}{l:List T}(h:∀ x,x∈l->GM x):GM (.mk k 0 a w l):=zM aD h
def kJ: ∀ x,x∈([]:List T)->GM x:=λ_ h=>(nomatch h)
def eG{x:T}{l:List T}(h:GM x)(g:∀ y,y∈l->GM y):∀ y,y∈x::l->GM y:=λy hy=>by
 rcases bO.1 hy with rfl|hy
 ·exact h
 ·exact g y hy
def alR{l m:List T}(h:∀ y,y∈l->GM y)(g:∀ y,y∈m->GM y):∀ y,y∈l++m->GM y:=λy hy=>(fP.1 hy).elim (h y) (g y)
def Nb{t:T}(h:isWord t):GM t:=by obtain⟨a,w,rfl,_⟩:=h;exact rN kJ
def aaC{t:T}(h:IY t):GM t:=by obtain⟨n,a,w,rfl,h⟩:=h;exact zM (by have:=h.1;omega) kJ
def aoP{t:T}(h:VL t):GM t:=by obtain⟨a,w,rfl,_⟩:=h;exact zM aD kJ
def EI{t:T}(h:isNone t):GM t:=by obtain⟨a,rfl⟩:=h;exact rN kJ
def yL{t:T}(h:¬ isNone t->GM t):GM t:=by
 by_cases g:isNone t
 ·exact EI g
 ·exact h g
def aKJ{s:So}{t:T}(h:V s t):GM t:=by
 induction h with
 | const n a w h=>exact zM (by have:=h.1;omega) kJ
 | ref a ps h1 h8 h ih=>exact rN ih
 | ptr a x y hx hr hy h2 ix iy=>exact DD
 | un a w x hw hx ix=>exact DK
 | bin a w x y hw hx hy ix iy=>exact DD
 | part1 a w l h h16 hl ih=>exact zM aD ih
 | arg x h ih=>exact ih
 | fmtN n a l h1 h2 hne hl ih=>exact zM aB ih
 | fmtP a c h=>exact rN (eG (aoP h) kJ)
 | fmt a w l hw h h2 hl=>exact rN λx hx=>aaC (hl x hx)
 | attrP a c h=>exact rN (eG (aoP h) kJ)
 | attrL a x h h2 ih=>exact rN (eG ih kJ)
 | attr1 a w l h h1 h2 h3 h60 hl ih=>exact zM aD ih
 | val x h ih=>exact ih
 | valR n a c h1 h2 hc=>
  refine zM aB (eG ?_ kJ)
  rcases hc with hc|⟨a',w,c',rfl,_,hc⟩
  ·exact aaC hc
  ·exact rN (eG (aaC hc) kJ)
 | bound2 a x y hx hy ix iy=>exact DD
 | bound1 a x y hx hy iy=>exact rN (eG (EI hx) (eG iy kJ))
 | item n a x bs aSq h0 h99 hx hxs hi hb hbs hbv has hav ii ib ia=>
  refine zM aB (eG ?_ (eG ?_ ia))
  ·rcases hx with hx|⟨a2,its,rfl,_⟩
   ·exact Nb hx
   ·exact rN (ii rfl)
  ·obtain⟨a',l,rfl⟩:=hb;exact rN ib
 | cond1 a w x h hx=>exact rN (eG (Nb hx) kJ)
 | prefixed inr a ws x h1 h4 hw hx ix=>exact rN (alR (λy hy=>Nb (hw y hy)) (eG ix kJ))
 | stmt inr x hx ix=>exact ix
 | label inr lab a w x h hx ix=>exact DK
 | plain inr lab x hx ix=>exact ix
 | assign inr lab a r x hr h hx ir ix=>exact rN (eG ir (eG ix kJ))
 | proc n a a' ps ret g hn hp8 hp hret hr4 hrv hg ir ig=>
  refine zM aB (eG (rN λy hy=>Nb (hp y hy)) (eG ?_ ig))
  rcases hret with h|⟨a2,aSq,rfl,_⟩
  ·exact EI h
  ·exact rN (ir rfl)
 | begin_ inr lab a g hg ig=>exact rN ig
 | do_ inr lab a g hg ig=>exact rN ig
 | while_ inr lab a x y g hx hy hn hg ix iy ig=>exact rN (eG (yL ix) (eG (yL iy) ig))
 | loop inr lab a r x t b wh un g hr h hx ht hb hw hu hg ir ix it ib iw iu ig=>exact rN (eG ir (eG ix (eG (yL it) (eG (yL ib) (eG (yL iw) (eG (yL iu) ig))))))
 | select inr lab a x ws os hx hw ho1 ho ix iw io=>exact rN (eG (yL ix) (alR iw io))
 | when_ a xs y h1 h8 hx hy ix iy=>exact rN (alR ix (eG iy kJ))
 | other a y hy iy=>exact rN (eG iy kJ)
 | if2 inr lab a x y hx hy ix iy=>exact DD
 | if3 inr lab a x y z hx hy hc hz ix iy iz=>exact rN (eG ix (eG iy (eG iz kJ)))
 | call inr lab a a' p hp ip=>exact rN (eG (rN (eG ip kJ)) kJ)
 | ret1 inr lab a x hx ix=>exact DK
 | on1 inr lab a c x hc hx ic ix=>exact rN (eG ic (eG ix kJ))
 | on0 inr lab a a' c hc ic=>exact rN (eG ic (eG (rN kJ) kJ))
 | revert inr lab k a c hk hc ic=>exact rN (eG ic kJ)
 | alloc inr lab a w x y h hx hxr hy hyr ix iy=>exact rN (eG (yL ix) (eG (yL iy) kJ))
 | free inr lab a r x hr h hx hxr ir ix=>exact rN (eG ir (eG (yL ix) kJ))
 | stream0 inr lab k n a w x y hk h0 h99 hw hx hy=>exact zM aB (eG (EI hx) (eG (EI hy) kJ))
 | stream1 inr lab k n a a' w l y hk h0 h99 hw h1 h16 hl hr hy il=>exact zM aB (eG (rN il) (eG (EI hy) kJ))
 | stream2 inr lab k n a a' a2 w l m hk h0 h99 hw h1 h16 hl hr h2 h32 hm il im=>exact zM aB (eG (rN il) (eG (rN im) kJ))
 | rd inr lab k a w r x hk h hr hrr hx h44 ir ix=>exact rN (eG ir (eG (yL ix) kJ))
 | delete inr lab a w x h hx ix=>exact DK
 | declare lab a l h1 h60 hl ih=>exact rN ih
 | _=>exact rN kJ
def anC{L:List Tk}{read:Nat->R T}{k:Nat}{t:T}(hL:∀ x,x∈L->x.text.size<=1000)(h5:L.length<=5000)(h:∀ K,WK K L->Nw K L.length k (read 0))(e:uN L read=.ok t):ev (λ_ w _=>w.size<=1000) t:=by
 have hK:=aBs L hL aD;have:=arB L (h 1000 hK) e;exact azW t aB
def aIy: ∀ (p:List Int) (t x:T),MB t p=some x->p.length+depth x<=depth t:=by
 intro p
 induction p with
 | nil=>intro t x h;unfold MB at h;cases h;simp
 | cons i r ih=>
  intro t x h;obtain⟨_,hi,h⟩:=aGv h;have h1:=ih _ x h;have h2:=JR (eJ hi);obtain⟨k,n,a,w,l⟩:=t;rw[depth,aV];have h2:depth ((T.mk k n a w l).l[i.toNat])<=jX l:=h2;omega
end Px
end
