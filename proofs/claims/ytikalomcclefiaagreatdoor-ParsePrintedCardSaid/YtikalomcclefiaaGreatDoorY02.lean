/- Part 02. -/
import Derived.Test.YtikalomcclefiaaGreatDoorV14
set_option linter.all false
set_option maxHeartbeats 0
set_option maxRecDepth 100000
namespace Go.Proofs.YtikalomcclefiaaGreatDoor
section
namespace Px
open Lx
section
variable {L:List Tk} (hX:sT L) {stmt inner:Nat->R T} (hS:∀ i,Sd (λt _=>V (.st false) t) (stmt i)) (hI:∀ i,Sd (Qs L (.st true)) (inner i))
include hS
include hX
end
section
variable {L:List Tk} (hX:sT L) {stmt inner:Nat->R T} (hI:∀ i,Sd (Qs L (.st true)) (inner i))
include hX hI
end
section
variable {L:List Tk} (hX:sT L)
include hX
end
def anH{L:List Tk}(hX:sT L)(i:Nat):Sd (λt _=>V (.st false) t/\Ny t) (fC L i):=by
 unfold fC;refine(yF hX i).bind λs j hs=>Sd.then λ_ j1=>Sd.then λ_ j2=>Sd.then λ_ j3=>Sd.then λ_ j4=>Sd.then λ_ j5=>Sd.then λ_ j6=>Sd.then λ_ j7=>(Fa (abH hX) s j7).bind λg j8 hg=>.ok ⟨?_,⟨_,_,_,_,_,_,rfl⟩⟩
 exact V.stmt _ _ (V.label _ _ _ _ _ hs (V.plain _ _ _ (V.proc 1 _ _ [] _ _ (.inr (.inl rfl)) aD (by intro y hy;cases hy) (.inl mE) (λh=>absurd h aD) (λh=>absurd h aD) hg)))
end Px
end
section
namespace Px
open Lx
def atA{a b:T}(h:dM a b=true):dM b a=true:=(uW b a).2 ((uW a b).1 h).symm
end Px
end
section
namespace Px
open Lx
def aiT{t:T}(h:De t=true)(hk:t.kind<=6)(hl:(Eu t).length<=5000):∃ x,jM dB (Eu t)=(x,0,0)/\dM x t=true:=by
 obtain⟨h1,t',h2,h3⟩:=(BK t).1 h;have hk':t'.kind=t.kind:=(xK h2).1;have hv:V .expr t':=h3.resolve_right λg=>by have:=aqL g;omega
 obtain⟨x,h4,h5⟩:=Zu hv;exact RZ
def aiW{t:T}(h:De t=true)(hk:¬ (1<=t.kind/\t.kind<=6))(hl:(Eu t).length<=5000):∃ x,jM rW (Eu t)=(x,0,0)/\dM x t=true:=by
 obtain⟨h1,t',h2,h3⟩:=(BK t).1 h;have hk':t'.kind=t.kind:=(xK h2).1;have hv:V (.st false) t':=h3.resolve_left λg=>by have:=apG g;omega
 obtain⟨x,h4,h5⟩:=Zt hv;exact RZ
end Px
end
section
namespace Px
open Lx
def acS{L:List Tk}{t:T}{a e:Int}(h:jM fC L=(t,a,e))(he:e=0):De t=true/\V (.st false) t/\Ny t:=by
 obtain⟨_,hg,t',h1,h2,h3⟩:=CU.1 (show (jM fC L).2.2=0 by rw[h];exact he);rw[h]at h3
 cases h3
 obtain⟨j,hr,_⟩:=Ec h1;have hv:=anH hg.ayE 0 t j hr;exact⟨(BK t).2 ⟨h2,t,yW t,.inr hv.1⟩,hv⟩
end Px
end
section
namespace Px
open Lx
def aID(P:Int->ByteArray->Nat->Prop)(t:T):ev P t↔P t.n t.word t.l.length/\∀ x,x∈t.l->ev P x:=by
 obtain⟨k,n,a,w,l⟩:=t
 exact GW
mutual
theorem apU{P Q:Int->ByteArray->Nat->Prop}(h:∀ n w m,P n w m->Q n w m):∀ t,ev P t->ev Q t
 | .mk k n a w l,g=>by unfold ev at g ⊢; exact⟨h _ _ _ g.1,adN h l g.2⟩
theorem adN{P Q:Int->ByteArray->Nat->Prop}(h:∀ n w m,P n w m->Q n w m):∀ l,Xz P l->Xz Q l
 | [],_=>by unfold Xz;trivial
 | t::r,g=>by unfold Xz at g ⊢; exact⟨apU h t g.1,adN h r g.2⟩
end
mutual
theorem azW{K:Nat}:∀ t,XI K t<1000000->ev (λ_ w _=>w.size<=K) t
 | .mk k n a w l,g=>by
  unfold XI bw at g;unfold ev
  split at g
  ·exact⟨‹_›,aqG l aB⟩
  ·omega
theorem aqG{K:Nat}:∀ l,yQ K l<1000000->Xz (λ_ w _=>w.size<=K) l
 | [],_=>by unfold Xz;trivial
 | t::r,g=>by unfold yQ at g;unfold Xz;exact⟨azW t aB,aqG r aB⟩
end
def GM: T->Prop:=ev λn _ _=>0<=n/\n<=1000
def zM{k n a:Int}{w:AAE}{l:List T}(hn:0<=n/\n<=1000)(h:∀ x,x∈l->GM x):GM (.mk k n a w l):=(aID _ _).2 ⟨hn,h⟩
def rN{k a:Int}{w:AAE}{l:List T}(h:∀ x,x∈l->GM x):GM (.mk k 0 a w l):=zM aD h
def kJ: ∀ x,x∈([]:List T)->GM x:=λ_ h=>(nomatch h)
def eG{x:T}{l:List T}(h:GM x)(g:∀ y,y∈l->GM y):∀ y,y∈x::l->GM y:=λy hy=>by
 rcases bO.1 hy with rfl|hy
 ·exact h
 ·exact g y hy
def alR{l m:List T}(h:∀ y,y∈l->GM y)(g:∀ y,y∈m->GM y):∀ y,y∈l++m->GM y:=λy hy=>(fP.1 hy).elim (h y) (g y)
def Nb{t:T}(h:isWord t):GM t:=by obtain⟨a,w,rfl,_⟩:=h;exact rN kJ
def aaC{t:T}(h:IY t):GM t:=by obtain⟨n,a,w,rfl,h⟩:=h;exact zM (by have:=h.1;omega) kJ
def aoP{t:T}(h:VL t):GM t:=by obtain⟨a,w,rfl,_⟩:=h;exact zM aD kJ
def EI{t:T}(h:isNone t):GM t:=by obtain⟨a,rfl⟩:=h;exact rN kJ
def yL{t:T}(h:¬ isNone t->GM t):GM t:=by
 by_cases g:isNone t
 ·exact EI g
 ·exact h g
def aKJ{s:So}{t:T}(h:V s t):GM t:=by
 induction h with
 | const n a w h=>exact zM (by have:=h.1;omega) kJ
 | ref a ps h1 h8 h ih=>exact rN ih
 | ptr a x y hx hr hy h2 ix iy=>exact DD
 | un a w x hw hx ix=>exact DK
 | bin a w x y hw hx hy ix iy=>exact DD
 | part1 a w l h h16 hl ih=>exact zM aD ih
 | arg x h ih=>exact ih
 | fmtN n a l h1 h2 hne hl ih=>exact zM aB ih
 | fmtP a c h=>exact rN (eG (aoP h) kJ)
 | fmt a w l hw h h2 hl=>exact rN λx hx=>aaC (hl x hx)
 | attrP a c h=>exact rN (eG (aoP h) kJ)
 | attrL a x h h2 ih=>exact rN (eG ih kJ)
 | attr1 a w l h h1 h2 h3 h60 hl ih=>exact zM aD ih
 | val x h ih=>exact ih
 | valR n a c h1 h2 hc=>
  refine zM aB (eG ?_ kJ)
  rcases hc with hc|⟨a',w,c',rfl,_,hc⟩
  ·exact aaC hc
  ·exact rN (eG (aaC hc) kJ)
 | bound2 a x y hx hy ix iy=>exact DD
 | bound1 a x y hx hy iy=>exact rN (eG (EI hx) (eG iy kJ))
 | item n a x bs aSq h0 h99 hx hxs hi hb hbs hbv has hav ii ib ia=>
  refine zM aB (eG ?_ (eG ?_ ia))
  ·rcases hx with hx|⟨a2,its,rfl,_⟩
   ·exact Nb hx
   ·exact rN (ii rfl)
  ·obtain⟨a',l,rfl⟩:=hb;exact rN ib
 | cond1 a w x h hx=>exact rN (eG (Nb hx) kJ)
 | prefixed inr a ws x h1 h4 hw hx ix=>exact rN (alR (λy hy=>Nb (hw y hy)) (eG ix kJ))
 | stmt inr x hx ix=>exact ix
 | label inr lab a w x h hx ix=>exact DK
 | plain inr lab x hx ix=>exact ix
 | assign inr lab a r x hr h hx ir ix=>exact rN (eG ir (eG ix kJ))
 | proc n a a' ps ret g hn hp8 hp hret hr4 hrv hg ir ig=>
  refine zM aB (eG (rN λy hy=>Nb (hp y hy)) (eG ?_ ig))
  rcases hret with h|⟨a2,aSq,rfl,_⟩
  ·exact EI h
  ·exact rN (ir rfl)
 | begin_ inr lab a g hg ig=>exact rN ig
 | do_ inr lab a g hg ig=>exact rN ig
 | while_ inr lab a x y g hx hy hn hg ix iy ig=>exact rN (eG (yL ix) (eG (yL iy) ig))
 | loop inr lab a r x t b wh un g hr h hx ht hb hw hu hg ir ix it ib iw iu ig=>exact rN (eG ir (eG ix (eG (yL it) (eG (yL ib) (eG (yL iw) (eG (yL iu) ig))))))
 | select inr lab a x ws os hx hw ho1 ho ix iw io=>exact rN (eG (yL ix) (alR iw io))
 | when_ a xs y h1 h8 hx hy ix iy=>exact rN (alR ix (eG iy kJ))
 | other a y hy iy=>exact rN (eG iy kJ)
 | if2 inr lab a x y hx hy ix iy=>exact DD
 | if3 inr lab a x y z hx hy hc hz ix iy iz=>exact rN (eG ix (eG iy (eG iz kJ)))
 | call inr lab a a' p hp ip=>exact rN (eG (rN (eG ip kJ)) kJ)
 | ret1 inr lab a x hx ix=>exact DK
 | on1 inr lab a c x hc hx ic ix=>exact rN (eG ic (eG ix kJ))
 | on0 inr lab a a' c hc ic=>exact rN (eG ic (eG (rN kJ) kJ))
 | revert inr lab k a c hk hc ic=>exact rN (eG ic kJ)
 | alloc inr lab a w x y h hx hxr hy hyr ix iy=>exact rN (eG (yL ix) (eG (yL iy) kJ))
 | free inr lab a r x hr h hx hxr ir ix=>exact rN (eG ir (eG (yL ix) kJ))
 | stream0 inr lab k n a w x y hk h0 h99 hw hx hy=>exact zM aB (eG (EI hx) (eG (EI hy) kJ))
 | stream1 inr lab k n a a' w l y hk h0 h99 hw h1 h16 hl hr hy il=>exact zM aB (eG (rN il) (eG (EI hy) kJ))
 | stream2 inr lab k n a a' a2 w l m hk h0 h99 hw h1 h16 hl hr h2 h32 hm il im=>exact zM aB (eG (rN il) (eG (rN im) kJ))
 | rd inr lab k a w r x hk h hr hrr hx h44 ir ix=>exact rN (eG ir (eG (yL ix) kJ))
 | delete inr lab a w x h hx ix=>exact DK
 | declare lab a l h1 h60 hl ih=>exact rN ih
 | _=>exact rN kJ
def anC{L:List Tk}{read:Nat->R T}{k:Nat}{t:T}(hL:∀ x,x∈L->x.text.size<=1000)(h5:L.length<=5000)(h:∀ K,WK K L->Nw K L.length k (read 0))(e:uN L read=.ok t):ev (λ_ w _=>w.size<=1000) t:=by
 have hK:=aBs L hL aD;have:=arB L (h 1000 hK) e;exact azW t aB
end Px
end
section
namespace Px
open Lx
def aAg{t:T}(h:Ny t):qF t=true:=by
 obtain⟨a,w,a1,a2,a3,g,rfl⟩:=h;rfl
def aBl{L:List Tk}{t:T}{a e:Int}(h:jM dB L=(t,a,e))(he:e=0):De t=true/\V .expr t:=by
 obtain⟨_,hg,t',h1,h2,h3⟩:=CU.1 (show (jM dB L).2.2=0 by rw[h];exact he);rw[h]at h3
 cases h3
 obtain⟨j,hr,_⟩:=Ec h1;have hv:=qH hg.ayE 0 t j hr;exact⟨(BK t).2 ⟨h2,t,yW t,.inl hv⟩,hv⟩
def aAN{L:List Tk}{t:T}{a e:Int}(h:jM rW L=(t,a,e))(he:e=0):De t=true/\V (.st false) t:=by
 obtain⟨_,hg,t',h1,h2,h3⟩:=CU.1 (show (jM rW L).2.2=0 by rw[h];exact he);rw[h]at h3
 cases h3
 obtain⟨j,hr,_⟩:=Ec h1;have hv:=abH hg.ayE 0 t j hr;exact⟨(BK t).2 ⟨h2,t,yW t,.inr hv⟩,hv⟩
end Px
end
