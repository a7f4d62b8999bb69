/- Part 13. -/
import Derived.Test.YtikalomcclefiaaGreatDoorV12
set_option linter.all false
set_option maxHeartbeats 0
set_option maxRecDepth 100000
namespace Go.Proofs.YtikalomcclefiaaGreatDoor
section
namespace Px
open Lx
mutual
def Js: T->T
 | .mk k n _ w l=>.mk k n 0 w (tH l)
def tH: List T->List T
 | []=>[]
 | t::r=>Js t::tH r
end
def anD: ∀ (l:List T),tH l=l.map Js:=by
 intro l
 induction l with
 | nil=>rfl
 | cons t r ih=>unfold tH;rw[ih];rfl
mutual
theorem uW: ∀ (a b:T),dM a b=true↔Js a=Js b
 | .mk k n a w l,.mk k' n' a' w' l'=>by
  unfold dM Js;simp only[bA,dX,NP l l',T.mk.injEq,fD]
  constructor
  ·rintro⟨⟨⟨h1,h2⟩,h3⟩,h4⟩;exact⟨h1,h2,h3,h4⟩
  ·rintro⟨h1,h2,h3,h4⟩;exact⟨⟨⟨h1,h2⟩,h3⟩,h4⟩
theorem NP: ∀ (a b:List T),dK a b=true↔tH a=tH b
 | [],[]=>by simp[dK,tH]
 | t::r,t'::r'=>by
  unfold dK tH;simp only[bA,uW t t',NP r r',fL]
 | [],_::_=>by simp[dK,tH]
 | _::_,[]=>by simp[dK,tH]
end
def yW(a:T):dM a a=true:=(uW a a).2 rfl
def Fx{a b c:T}(h:dM a b=true)(g:dM b c=true):dM a c=true:=(uW a c).2 (((uW a b).1 h).trans ((uW b c).1 g))
mutual
theorem La: ∀ (t:T),nodes (Js t)=nodes t
 | .mk k n a w l=>by unfold Js nodes;rw[OZ l]
theorem OZ: ∀ (l:List T),bV (tH l)=bV l
 | []=>rfl
 | t::r=>by unfold tH bV;rw[La t,OZ r]
end
mutual
theorem Lu: ∀ (t:T),depth (Js t)=depth t
 | .mk k n a w l=>by unfold Js depth;rw[Ps l]
theorem Ps: ∀ (l:List T),jX (tH l)=jX l
 | []=>rfl
 | t::r=>by unfold tH jX;rw[Lu t,Ps r]
end
def Vt{a b:T}(h:dM a b=true):nodes a=nodes b:=by rw[<- La a,(uW a b).1 h,La]
def Vp{a b:T}(h:dM a b=true):depth a=depth b:=by rw[<- Lu a,(uW a b).1 h,Lu]
def yX{l l':List T}(h:dK l' l=true)(i:Nat):dM (part l' i) (part l i)=true:=by
 induction l generalizing l' i with
 | nil=>
  cases l' with
  | nil=>exact yW _
  | cons t r=>exact oP
 | cons t r ih=>
  cases l' with
  | nil=>exact oP
  | cons t' r'=>
   unfold dK at h;simp only[bA]at h
   cases i with
   | zero=>exact h.1
   | succ i=>exact ih h.2 i
def WL{l l':List T}(h:dK l' l=true):(l'=[])=(l=[]):=by
 have:=acJ h
 apply propext
 constructor
 ·rintro rfl;exact kU this.symm
 ·rintro rfl;exact kU this
section
variable{c c':T}(h:dM c' c=true)
include c c' h
theorem akH:isConst c'=isConst c:=by
 obtain⟨h1,h2,h3,h4⟩:=xK h;unfold isConst;rw[h1,(xK (yX h4 0)).1]
theorem aaY(p:List Tk)(m:Int):operand c' p m=operand c p m:=by
 obtain⟨h1,h2,h3,h4⟩:=xK h;unfold operand;rw[h1,h3]
theorem azF(w:AAE)(p:List Tk):opt w c' p=opt w c p:=by
 unfold opt;rw[(xK h).1]
theorem avP(w:AAE)(p:List Tk):lK w c' p=lK w c p:=by
 unfold lK;rw[(xK h).1]
end
def azQ(a:Int)(l s:AAE):kw false a l s=l:=by unfold kw;rw[aC aI]
def auL(a a' k n:Int)(w:AAE){l l':List T}(h:dK l' l=true)(ps bs ss:List (List Tk)):comb false a' k n w l' ps bs ss=comb false a k n w l ps bs ss:=by
 have h1:=λi=>(xK (yX h i)).1
 have h2:=λi=>WL (xK (yX h i)).2.2.2
 have h3:=λi p m=>aaY (yX h i) p m
 have h4:=λi w p=>azF (yX h i) w p
 have h5:=λi w p=>avP (yX h i) w p
 have h6:=akH (yX h 0);have h7:=WL h;have h8:=acJ h;unfold comb lZ pT simple;simp only[h1,h2,h3,h4,h5,h6,h7,h8,azQ,ne_eq]
def UQ{l l':List T}(f:T->List Tk)(h:dK l' l=true)(hf:∀ x x',x∈l->dM x' x=true->f x'=f x):l'.map f=l.map f:=by
 induction l generalizing l' with
 | nil=>
  cases l' with
  | nil=>rfl
  | cons t r=>exact oP
 | cons t r ih=>
  cases l' with
  | nil=>exact oP
  | cons t' r'=>
   unfold dK at h;simp only[bA]at h
   show f t'::r'.map f=f t::r.map f
   rw[hf t t' (eW ..) h.1,ih h.2 (λx x' hx=>hf x x' (jZ _ hx))]
def JR{x:T}:∀ {l:List T},x∈l->depth x<=jX l:=by
 intro l
 induction l with
 | nil=>intro h;cases h
 | cons y r ih=>
  intro h;unfold jX
  exact IJ
def Uy{t t':T}(h:dM t' t=true):aL false t'=aL false t:=by
 have H:∀ m (t t':T),depth t<=m->dM t' t=true->aL false t'=aL false t/\lY false t'=lY false t/\wI false t'=wI false t:=by
  intro m
  induction m with
  | zero=>intro t t' h;obtain⟨k,n,a,w,l⟩:=t;unfold depth at h;omega
  | succ m ih=>
   intro t t' hd h;obtain⟨k,n,a,w,l⟩:=t;obtain⟨k',n',a',w',l'⟩:=t';obtain⟨h1,h2,h3,h4⟩:=xK h;simp only[T.kind,T.n,T.word,T.l]at h1 h2 h3 h4
   subst h1 h2 h3;unfold depth at hd;have hx:∀ x,x∈l->depth x<=m:=λx hx=>by have:=JR hx;omega
   have e1:=UQ (aL false) h4 (λx x' hm hs=>(ih x x' (hx x hm) hs).1);have e2:=UQ (lY false) h4 (λx x' hm hs=>(ih x x' (hx x hm) hs).2.1);have e3:=UQ (wI false) h4 (λx x' hm hs=>(ih x x' (hx x hm) hs).2.2);refine⟨?_,?_,?_⟩
   ·rw[eM,eM,e1,e2,e3];exact auL _ _ _ _ _ h4 _ _ _
   ·rw[zX,zX];show bI (l'.map (aL false))=bI (l.map (aL false));rw[e1]
   ·rw[KO,KO];show (l'.map (aL false)).flatten=(l.map (aL false)).flatten;rw[e1]
 exact(H (depth t) t t' (aG _) h).1
def aDC{inr:Bool}{a:Int}{w:AAE}{l:List T}(h:V (.st inr) (.mk 14 0 a w l)):∃ x,l=[x]/\Ci w/\V (.lb inr true) x:=by
 generalize ht:T.mk 14 0 a w l=t at h
 cases h with
 | prefixed _ a' ws x h1 h4 hw hx=>cases ht
 | stmt _ _ hx=>
  cases hx with
  | label _ _ a' w' x h hx=>cases ht;exact⟨_,rfl,h,hx⟩
  | plain _ _ _ hp=>
   cases hp with
   | leave _ _ k a' w' hk h=>exact rU
   | revert _ _ k a' c hk hc=>exact rU
   | stream0 _ _ k n a' w' x y hk=>exact rU
   | stream1 _ _ k n a' a2 w' l y hk=>exact rU
   | stream2 _ _ k n a' a2 a3 w' l m hk=>exact rU
   | rd _ _ k a' w' r x hk=>exact QM
   | _=>cases ht
def aEO{inr lab:Bool}{a a2:Int}{n:Int}{ps:List T}{ret:T}{g:List T}(h:V (.lb inr lab) (.mk 15 n a e0 (.mk 40 0 a2 e0 ps::ret::g))):∀ y,y∈g->V (.st false) y:=by
 generalize ht:T.mk 15 n a e0 (.mk 40 0 a2 e0 ps::ret::g)=t at h
 cases h with
 | label _ _ a' w' x h hx=>cases ht
 | plain _ _ _ hp=>
  cases hp with
  | proc n' a' a3 ps' ret' g' hn hp8 hp hret hr4 hrv hg=>cases ht;exact hg
  | leave _ _ k a' w' hk h=>cases ht
  | revert _ _ k a' c hk hc=>cases ht
  | stream0 _ _ k n a' w' x y hk=>exact rU
  | stream1 _ _ k n a' a2 w' l y hk=>exact rU
  | stream2 _ _ k n a' a2 a3 w' l m hk=>exact rU
  | rd _ _ k a' w' r x hk=>exact QM
  | _=>cases ht
def auD{t:T}(h:V (.st false) t)(hp:Ny t):∃ t',dM t' t=true/\Ny t'/\∀ b,uN (aL b t) (fC (aL b t))=.ok t':=by
 obtain⟨a,w,a1,a2,a3,g,rfl⟩:=hp;obtain⟨x,hx,hw,hv⟩:=aDC h
 cases hx
 have hg:=aEO hv;generalize ht:(T.mk 14 0 a w [.mk 15 1 a1 e0 (.mk 40 0 a2 e0 [] :: .mk 10 0 a3 e0 []::g)])=t at h;have hpr:∀ b,aL b t=W w::O cU::W (kw b a1 bB jL)::W gB::O cJ::W pO::O dA::group (g.map (aL b)):=λb=>by
  rw[<- ht,EJ,Uj];rfl
 have hs:∀ b,cW (aL b t) 0 (W w::O cU::W (kw b a1 bB jL)::W gB::O cJ::W pO::O dA::group (g.map (aL b))):=λb=>by rw[<- hpr b];exact cW.all _
 have c1:=λb=>(hs b).cons
 have c2:=λb=>(c1 b).2.1.cons
 have c3:=λb=>(c2 b).2.1.cons
 have c4:=λb=>(c3 b).2.1.cons
 have c5:=λb=>(c4 b).2.1.cons
 have c6:=λb=>(c5 b).2.1.cons
 have c7:=λb=>(c6 b).2.1.cons
 obtain⟨g',hg1,hg2,hg3⟩:=Fg (λb=>aL b t) 7 (λy hy=>⟨hg y hy,aKO (hg y hy)⟩) (λb=>(c7 b).2.1);have hlen:∀ b,(aL b t).length=7+Lf g:=λb=>by rw[hpr b];simp only[aV,Me];omega
 refine⟨.mk 14 0 (0:Nat) w [.mk 15 1 (2:Nat) e0 (node 40 0 []::none_::g')],?_,⟨_,_,_,_,_,_,rfl⟩,λb=>?_⟩
 ·rw[<- ht];exact bY (bG (bY (bG (bY bQ) (bG (bY bQ) hg1))) bQ)
 ·unfold uN fC;rw[qN (c1 b).1]
  have hr:aH (.ok (w,0+1):R ByteArray) (λs j=>aH (aW (aL b t) j cU) λ_ j1=>aH (fV (aL b t) j1 [bB,jL]) λ_ j2=>aH (fV (aL b t) j2 [gB]) λ_ j3=>
   aH (aW (aL b t) j3 cJ) λ_ j4=>aH (fV (aL b t) j4 [pO]) λ_ j5=>aH (aW (aL b t) j5 dA) λ_ j6=>aH (aW (aL b t) j6 aT) λ_ j7=>
   aH (iO (aL b t) (rW (aL b t)) s j7) λg j8=>(.ok (T.mk 14 0 (0:Nat) s [.mk 15 1 j1 e0 (node 40 0 []::none_::g)],j8):R T))=.ok (T.mk 14 0 (0:Nat) w [.mk 15 1 (2:Nat) e0 (node 40 0 []::none_::g')],7+Lf g):=by
   show aH (aW (aL b t) 1 cU) _=_
   rw[dV (c2 b).1]
   show aH (fV (aL b t) 2 [bB,jL]) _=_
   rw[yK (c3 b).1 (by rcases KL b a1 bB jL with e|e<;>(rw[e];decide +kernel))]
   show aH (fV (aL b t) 3 [gB]) _=_
   rw[yK (c4 b).1 (kH _)]
   show aH (aW (aL b t) 4 cJ) _=_
   rw[dV (c5 b).1]
   show aH (fV (aL b t) 5 [pO]) _=_
   rw[yK (c6 b).1 (kH _)]
   show aH (aW (aL b t) 6 dA) _=_
   rw[dV (c7 b).1]
   show aH (aW (aL b t) 7 aT) _=_
   rw[dV (hg2 b)]
   show aH (iO (aL b t) (cH (aL b t) (jG (aL b t) ((aL b t).length+1)) false) w 8) _=_
   rw[show iO (aL b t) (cH (aL b t) (jG (aL b t) ((aL b t).length+1)) false) w 8=_ from hg3 ((aL b t).length+1) (by rw[hlen];omega) b w];rfl
  rw[hr,hlen]
  show (if 7+Lf g<7+Lf g then _ else _)=_
  rw[aC (Gi _)]
end Px
end
section
namespace Px
open Lx
def oJ(t:T):Bool:=decide (nodes t<=4000)&&decide (depth t<=60)
def gdL(L:List Tk):Bool:=L.all λx=>eP x.kind x.text
def okR(read:List Tk->Nat->R T)(L:List Tk)(t:T):Bool:=match uN L (read L) with
 | .ok t'=>dM t' t
 | .error _=>false
def De(t:T):Bool:=oJ t&&(gdL (Eu t)&&(okR dB (Eu t) t||okR rW (Eu t) t))
def aqA(L:List Tk):gdL L=true↔Gd L:=by unfold gdL Gd;rw[iJ]
def Gd.ayE{L:List Tk}(h:Gd L):sT L:=λi hi=>by
 have:tok L i=L[i]:=by unfold tok;rw[dH,dQ hi];rfl
 rw[this];exact h _ (eJ hi)
def Ec{L:List Tk}{read:Nat->R T}{t:T}(h:uN L read=.ok t):∃ j,read 0=.ok (t,j)/\L.length<=j:=by
 unfold uN at h
 cases hr:read 0 with
 | error a=>rw[hr]at h;cases h
 | ok p=>
  obtain⟨t',j⟩:=p;rw[hr]at h;simp only at h
  split at h
  ·cases h
  ·cases h;exact⟨j,rfl,by omega⟩
def aED(read:List Tk->Nat->R T)(L:List Tk)(t:T):okR read L t=true↔∃ t',uN L (read L)=.ok t'/\dM t' t=true:=by
 unfold okR
 cases h:uN L (read L) with
 | error a=>simp
 | ok t'=>simp
def Kl{t:T}(h:De t=true):oJ t=true:=by unfold De at h;rw[bA]at h;exact h.1
def BK(t:T):De t=true↔oJ t=true/\∃ t',dM t' t=true/\(V .expr t'\/V (.st false) t'):=by
 unfold De;simp only[bA,Bool.or_eq_true,aED,aqA]
 constructor
 ·rintro⟨h1,h2,h3⟩;refine⟨h1,?_⟩
  rcases h3 with ⟨t',h3,h4⟩|⟨t',h3,h4⟩
  ·obtain⟨j,h5,_⟩:=Ec h3;exact⟨t',h4,.inl (qH h2.ayE 0 _ _ h5)⟩
  ·obtain⟨j,h5,_⟩:=Ec h3;exact⟨t',h4,.inr (abH h2.ayE 0 _ _ h5)⟩
 ·rintro⟨h1,t',h2,h3⟩;have hp:Eu t=aL false t':=(Uy h2).symm;refine⟨h1,?_⟩;rw[hp]
  rcases h3 with h3|h3
  ·obtain⟨t2,h4,h5⟩:=Zu h3;exact⟨Nt false h3,.inl ⟨t2,h5 false,Fx h4 h2⟩⟩
  ·obtain⟨t2,h4,h5⟩:=Zt h3;exact⟨Nt false h3,.inr ⟨t2,h5 false,Fx h4 h2⟩⟩
def OQ{a b:T}(h:dM a b=true):oJ a=oJ b:=by unfold oJ;rw[Vt h,Vp h]
def aqL{inr:Bool}{t:T}(h:V (.st inr) t):13<=t.kind:=by
 have pl:∀ {inr lab:Bool} {t:T},V (.pl inr lab) t->13<=t.kind:=λ{inr lab t} h=>by
  cases h with
  | leave _ _ k a w hk h=>exact AT
  | revert _ _ k a c hk hc=>exact AT
  | stream0 _ _ k n a w x y hk=>exact AT
  | stream1 _ _ k n a a2 w l y hk=>exact AT
  | stream2 _ _ k n a a2 a3 w l m hk=>exact AT
  | rd _ _ k a w r x hk=>rcases hk with rfl|rfl|rfl<;>simp[T.kind]
  | _=>simp[T.kind]
 cases h with
 | prefixed _ a ws x h1 h4 hw hx=>simp[T.kind]
 | stmt _ _ hx=>
  cases hx with
  | label _ _ a w x h hx=>simp[T.kind]
  | plain _ _ _ hp=>exact pl hp
def apG{t:T}(h:V .expr t):1<=t.kind/\t.kind<=6/\t.kind≠3:=by
 rcases Yn h with h|h|h|h|h<;>(rw[h];decide)
def xR: List Tk->Nat->Option Nat
 | [],_=>none
 | x::r,i=>if eP x.kind x.text=true then xR r (i+1)else some i
def Ah: ∀ (L:List Tk) (i:Nat),xR L i=none↔Gd L:=by
 intro L
 induction L with
 | nil=>intro i;exact⟨λ_=>Gd.nil,λ_=>rfl⟩
 | cons x r ih=>
  intro i;unfold xR
  split
  ·rename_i h
   rw[ih];exact⟨λg=>Gd.cons h g,λg y hy=>g y (jZ _ hy)⟩
  ·rename_i h
   exact⟨λg=>(by cases g),λg=>absurd (g x (eW ..)) h⟩
def sP: T:=.mk 0 0 0 e0 []
def jM(read:List Tk->Nat->R T)(L:List Tk):T×Int×Int:=
 if 5000<L.length then(sP,0,2)
 else match xR L 0 with
  | some i=>(sP,i,50)
  | none=>match uN L (read L) with
   | .error a=>(sP,a,70)
   | .ok t=>if 4000<nodes t\/60<depth t then(sP,0,2)else(t,0,0)
def CU{read:List Tk->Nat->R T}{L:List Tk}:(jM read L).2.2=0↔L.length<=5000/\Gd L/\∃ t,uN L (read L)=.ok t/\oJ t=true/\jM read L=(t,0,0):=by
 unfold jM
 split
 ·rename_i h
  exact⟨λg=>absurd g (show ¬ (2:Int)=0 by decide),λg=>absurd g.1 aB⟩
 ·rename_i h
  cases hb:xR L 0 with
  | some i=>exact⟨λg=>absurd g (show ¬ (50:Int)=0 by decide),λg=>by rw[(Ah L 0).2 g.2.1]at hb;cases hb⟩
  | none=>
   have hg:=(Ah L 0).1 hb;simp only
   cases ha:uN L (read L) with
   | error a=>exact⟨λg=>absurd g (show ¬ (70:Int)=0 by decide),λg=>by obtain⟨_,_,t,e,_⟩:=g;cases e⟩
   | ok t=>
    simp only
    split
    ·rename_i h4
     refine⟨λg=>absurd g (show ¬ (2:Int)=0 by decide),λg=>?_⟩;obtain⟨_,_,t2,e,h5,_⟩:=g
     cases e
     unfold oJ at h5;simp only[bA,dX]at h5
     omega
    ·rename_i h4
     exact⟨λ_=>⟨by omega,hg,t,rfl,by unfold oJ;simp only[bA,dX];omega,rfl⟩,λ_=>rfl⟩
def UW{read:List Tk->Nat->R T}{L:List Tk}{t:T}(h1:L.length<=5000)(h2:Gd L)(h3:uN L (read L)=.ok t)(h4:oJ t=true):jM read L=(t,0,0):=by
 unfold oJ at h4;simp only[bA,dX]at h4
 unfold jM;rw[aC aB,(Ah L 0).2 h2];simp only
 rw[h3];simp only
 rw[aC aB]
def gX(t:T):List Tk×Int:=if De t=true then(if 5000<(Eu t).length then([],2)else(Eu t,0))else([],71)
def qF(t:T):Bool:=match t.kind==14,t.l with
 | true,[.mk 15 1 _ _ (x::y::_)]=>decide (x.l=[] )&&decide (y.kind=10)
 | _,_=>false
end Px
end
section
open Px
namespace Px
def gn(l:List T)(i:Nat):Nat:=((l[i]?).map nodes).getD 0
def xF(l:List T)(i:Nat):bV (l.drop i)=gn l i+bV (l.drop (i+1)):=by
 unfold gn
 by_cases h:i<l.length
 ·rw[zF h,dQ h,bV];rfl
 ·rw[iF aB,iF aB,tB aB];rfl
def WE: ∀ (l m:List T),bV (l++m)=bV l+bV m:=by
 intro l m
 induction l with
 | nil=>rw[dI,bV];omega
 | cons x r ih=>rw[kE,bV,bV,ih];omega
def zQ(l:List T)(i:Nat):bV (l.take i)+bV (l.drop i)=bV l:=by
 rw[<- WE,Lr]
def Bd(b:Bool)(x:T):Prop:=(aL b x).length+1<=48*nodes x/\(lY b x).length+1<=48*nodes x/\(wI b x).length+1<=48*nodes x
section
variable{b:Bool}{l:List T}(H:∀ x,x∈l->Bd b x)(i:Nat)
include b l H i
theorem YG:(ct (l.map (aL b)) i).length<=48*gn l i+1:=by
 unfold ct gn;rw[dH,lV]
 cases h:l[i]? with
 | none=>simp
 | some x=>have:=(H x (lN h)).1;exact IG
theorem aGT:(cb (l.map (lY b)) i).length<=48*gn l i+2:=by
 unfold cb gn;rw[dH,lV]
 cases h:l[i]? with
 | none=>simp
 | some x=>have:=(H x (lN h)).2.1;exact IG
theorem aKC:((l.map (wI b)).getD i []).length<=48*gn l i:=by
 unfold gn;rw[dH,lV]
 cases h:l[i]? with
 | none=>simp
 | some x=>have:=(H x (lN h)).2.2;exact IG
end
def ZE{b:Bool}:∀ {l:List T},(∀ x,x∈l->Bd b x)->((l.map (aL b)).flatten).length<=48*bV l:=by
 intro l
 induction l with
 | nil=>intro _;simp
 | cons x r ih=>
  intro H;have h1:=(H x (.head _)).1;have h2:=ih λy hy=>H y (.tail _ hy)
  rw[bV,dC,KV,aO];omega
def Ll{b:Bool}:∀ {l:List T},(∀ x,x∈l->Bd b x)->(aR (l.map (aL b))).length<=48*bV l:=by
 intro l
 induction l with
 | nil=>intro _;exact aS _
 | cons x r ih=>
  intro H;have h1:=(H x (.head _)).1;have h2:=ih λy hy=>H y (.tail _ hy)
  rw[bV]
  cases r with
  | nil=>show (aL b x).length<=_;omega
  | cons z r=>
   show (aL b x++O jS::aR ((z::r).map (aL b))).length<=_
   rw[aO,aV];omega
def aAZ{b:Bool}:∀ {l:List T},(∀ x,x∈l->Bd b x)->(jN (l.map (aL b))).length<=48*bV l:=by
 intro l
 induction l with
 | nil=>intro _;exact aS _
 | cons x r ih=>
  intro H;have h1:=(H x (.head _)).1;have h2:=ih λy hy=>H y (.tail _ hy)
  rw[bV]
  cases r with
  | nil=>show (aL b x).length<=_;omega
  | cons z r=>
   show (aL b x++O lI::jN ((z::r).map (aL b))).length<=_
   rw[aO,aV];omega
def xU(w:AAE)(c:T)(p:List Tk):(opt w c p).length<=p.length+3:=by
 unfold opt;split<;>simp[bI,aR]
def agT(w:AAE)(c:T)(p:List Tk):(lK w c p).length<=p.length+1:=by
 unfold lK;split<;>simp
def Ib(c:T)(p:List Tk)(i:Int):(operand c p i).length<=p.length+2:=by
 unfold operand;split<;>simp[bI,aR]
def YA(a w:AAE):(mR a w).length<=2:=by unfold mR;split<;>simp
def Gm(ps:List (List Tk)):(bI ps).length=(aR ps).length+2:=by simp[bI]
def Fi(ps:List (List Tk)):(group ps).length=(ps.flatten).length+3:=by simp[group]
def abU{P:Prop}[Decidable P]{A B:List Tk}{N:Nat}(h1:P->A.length<=N)(h2:¬ P->B.length<=N):(if P then A else B).length<=N:=by
 exact Qg
def aGx{b:Bool}(a k n:Int)(w:AAE){l:List T}(H:∀ x,x∈l->Bd b x):(comb b a k n w l (l.map (aL b)) (l.map (lY b)) (l.map (wI b))).length+1<=48*(1+bV l):=by
 have c0:=YG H 0;have c1:=YG H 1;have c2:=YG H 2;have c3:=YG H 3;have c4:=YG H 4;have c5:=YG H 5;have d0:=aGT H 0;have d1:=aGT H 1;have e1:=aKC H 1;have n0:=xF l 0;have n1:=xF l 1;have n2:=xF l 2;have n3:=xF l 3;have n4:=xF l 4;have n5:=xF l 5;simp only[List.drop_zero,dT,Nat.reduceAdd]at n0 n1 n2 n3 n4 n5
 have fl:=ZE H;have cm:=Ll H;have dt:=aAZ H;have fd:∀ i,(((l.map (aL b)).drop i).flatten).length<=48*bV (l.drop i):=λi=>by
  rw[<- vF];exact ZE λx hx=>H x (zU hx)
 have ctk:∀ i,(aR ((l.map (aL b)).take i)).length<=48*bV (l.take i):=λi=>by
  rw[<- sE];exact Ll λx hx=>H x (FE hx)
 have f1:=fd 1;have f2:=fd 2;have f6:=fd 6;have fm:=fd (l.length - 1);have tm:=ctk (l.length - 1);have tdm:=zQ l (l.length - 1);clear H fd ctk;have s1:(simple b a k n w l (l.map (aL b)) (l.map (lY b))).length<=48*bV l+24:=by
  unfold simple
  repeat' (with_reducible refine abU (λ_=>?_) (λ_=>?_))
  all_goals (try simp only[aO,aV,dD,Gm,EV])
  all_goals (repeat' split)
  all_goals (try simp only[aO,aV,dD,Gm,EV])
  all_goals (try have:=xU GN (part l 0) (ct (l.map (aL b)) 0))
  all_goals (try have:=xU JJ (part l 1) (ct (l.map (aL b)) 1))
  all_goals (try have:=xU yV (part l 0) (ct (l.map (aL b)) 0))
  all_goals (try have:=xU oW (part l 1) (ct (l.map (aL b)) 1))
  all_goals (try have:=xU oE (part l 0) (ct (l.map (aL b)) 0))
  all_goals (try have:=xU nJ (part l 1) (ct (l.map (aL b)) 1))
  all_goals (try have:=xU oW (part l 0) (ct (l.map (aL b)) 0))
  all_goals (try have:=YA pM w)
  all_goals (try have:=YA jO w)
  all_goals (try omega)
 have s2:(pT b a k n w l (l.map (aL b)) (l.map (lY b))).length<=48*bV l+40:=by
  have o1:=xU gF (part l 0) (ct (l.map (aL b)) 0);have o2:=xU gA (part l 1) (ct (l.map (aL b)) 1);have o3:=xU gF (part l 4) (ct (l.map (aL b)) 4);have o4:=xU gA (part l 5) (ct (l.map (aL b)) 5);have o5:=agT Fj (part l 2) (ct (l.map (aL b)) 2);have o6:=agT Xd (part l 3) (ct (l.map (aL b)) 3);unfold pT
  repeat' (with_reducible refine abU (λ_=>?_) (λ_=>?_))
  all_goals (repeat' split)
  all_goals (try simp only[aO,aV,dD,Gm,Fi,aR])
  all_goals (try simp only[aR])
  all_goals (try omega)
 have s3:(lZ b a k n w l (l.map (aL b)) (l.map (lY b)) (l.map (wI b))).length<=48*bV l+44:=by
  unfold Px.lZ
  repeat' (with_reducible refine abU (λ_=>?_) (λ_=>?_))
  all_goals (repeat' split)
  all_goals (try simp only[aO,aV,dD,Gm,Fi])
  all_goals (try simp only[Fi])
  all_goals (try omega)
 have p0:=Ib (part l 0) (ct (l.map (aL b)) 0) 6;have p1:=Ib (part l 0) (ct (l.map (aL b)) 0) (level w);have p2:=Ib (part l 1) (ct (l.map (aL b)) 1) (level w+1)
 suffices h:(comb b a k n w l (l.map (aL b)) (l.map (lY b)) (l.map (wI b))).length<=48*bV l+46 by omega
 unfold comb
 repeat' (with_reducible refine abU (λ_=>?_) (λ_=>?_))
 all_goals (try simp only[aO,aV,dD,Gm])
 all_goals (repeat' split)
 all_goals (try simp only[aO,aV,dD,Gm])
 all_goals (try omega)
def sD{t x:T}(h:x∈t.l):depth x<depth t:=by
 exact QR
def aKy(b:Bool):∀ d (t:T),depth t<=d->Bd b t:=by
 intro d
 induction d using Nat.strongRecOn with
 | _ d ih=>
  intro t hd;have H:∀ x,x∈t.l->Bd b x:=λx hx=>ih (depth x) (by have:=sD hx;omega) x (aG _)
  obtain⟨k,n,a,w,l⟩:=t;have H':∀ x,x∈l->Bd b x:=H;have e:nodes (T.mk k n a w l)=1+bV l:=by rw[nodes]
  refine⟨by rw[eM,e];exact aGx a k n w H',?_,?_⟩
  ·rw[zX,Gm,e];have:=Ll H'
   show (aR (l.map (aL b))).length+2+1<=_
   omega
  ·rw[KO,e];have:=ZE H'
   show ((l.map (aL b)).flatten).length+1<=_
   omega
def aDg(b:Bool)(t:T):(aL b t).length+1<=48*nodes t:=(aKy b _ t (aG _)).1
end Px
namespace Px
def NO: Nat:=2147483647
mutual
def Xp: T->Prop
 | .mk _ _ _ w l=>w.size<=NO/\afR l
def afR: List T->Prop
 | []=>True
 | t::r=>Xp t/\afR r
end
def afW: ∀ (l:List T),afR l↔∀ x,x∈l->Xp x:=by
 intro l
 induction l with
 | nil=>exact⟨λ_ x h=>(nomatch h),λ_=>by unfold afR;trivial⟩
 | cons y r ih=>
  unfold afR;exact Ti
def Tx(L:List Tk):Prop:=∀ x,x∈L->x.text.size<=NO
def Tx.nil: Tx []:=λ_ h=>(nomatch h)
def Tx.cons{x:Tk}{L:List Tk}(h:x.text.size<=NO)(H:Tx L):Tx (x::L):=λy hy=>by
 rcases bO.1 hy with rfl|hy
 ·exact h
 ·exact H y hy
def Tx.app{L M:List Tk}(h:Tx L)(g:Tx M):Tx (L++M):=λy hy=>by
 rcases fP.1 hy with hy|hy
 ·exact h y hy
 ·exact g y hy
def Tx.ite{P:Prop}[Decidable P]{A B:List Tk}(h1:P->Tx A)(h2:¬ P->Tx B):Tx (if P then A else B):=by
 exact Qg
def Tx.flat{ps:List (List Tk)}(h:∀ p,p∈ps->Tx p):Tx ps.flatten:=λy hy=>by
 obtain⟨p,hp,hy⟩:=List.mem_flatten.1 hy;exact h p hp y hy
theorem Tx.aR: ∀ {ps:List (List Tk)},(∀ p,p∈ps->Tx p)->Tx (aR ps):=by
 intro ps
 exact Rv
theorem Tx.jN: ∀ {ps:List (List Tk)},(∀ p,p∈ps->Tx p)->Tx (jN ps):=by
 intro ps
 exact Rv
def Tx.XR{ps:List (List Tk)}(h:∀ p,p∈ps->Tx p):Tx (bI ps):=.cons aD (.app (.aR h) (.cons aD .nil))
theorem Tx.group{ps:List (List Tk)}(h:∀ p,p∈ps->Tx p):Tx (group ps):=.cons aD (.app (.flat h) (.cons aD (.cons aD .nil)))
theorem Tx.ct{ps:List (List Tk)}(h:∀ p,p∈ps->Tx p)(i:Nat):Tx (ct ps i):=by
 unfold Px.ct;rw[dH]
 cases e:ps[i]? with
 | none=>exact .cons aD .nil
 | some p=>exact IW
theorem Tx.cb{ps:List (List Tk)}(h:∀ p,p∈ps->Tx p)(i:Nat):Tx (cb ps i):=by
 unfold Px.cb;rw[dH]
 cases e:ps[i]? with
 | none=>exact .cons aD (.cons aD .nil)
 | some p=>exact IW
def Tx.gt{ps:List (List Tk)}(h:∀ p,p∈ps->Tx p)(i:Nat):Tx (ps.getD i []):=by
 rw[dH]
 cases e:ps[i]? with
 | none=>exact .nil
 | some p=>exact IW
theorem Tx.operand{p:List Tk}(h:Tx p)(c:T)(i:Int):Tx (operand c p i):=by
 unfold Px.operand;exact .ite (λ_=>.XR λq hq=>by rw[cO.1 hq];exact h) (λ_=>h)
theorem Tx.opt{p:List Tk}(h:Tx p)(w:AAE)(hw:w.size<=NO)(c:T):Tx (opt w c p):=by
 unfold Px.opt;exact .ite (λ_=>.nil) (λ_=>.cons hw (.XR λq hq=>by rw[cO.1 hq];exact h))
theorem Tx.lK{p:List Tk}(h:Tx p)(w:AAE)(hw:w.size<=NO)(c:T):Tx (lK w c p):=by
 unfold Px.lK;exact .ite (λ_=>.nil) (λ_=>.cons hw h)
def Tx.label{a w:AAE}(ha:a.size<=NO)(hw:w.size<=NO):Tx (mR a w):=by
 unfold Px.mR;exact .cons ha (.ite (λ_=>.nil) (λ_=>.cons hw .nil))
def Tx.file{a w:AAE}(ha:a.size<=NO)(hw:w.size<=NO):Tx (EV a w):=.cons ha (.cons aD (.cons aD (.cons hw (.cons aD .nil))))
def ahI: ∀ f n acc,(UZ f n acc).length<=f+acc.length:=by
 intro f
 induction f with
 | zero=>intro n acc;unfold UZ;omega
 | succ f ih=>
  intro n acc;unfold UZ
  split
  ·rw[aV];omega
  ·have:=ih (n / 10) (UInt8.ofNat (48+n % 10)::acc);rw[aV]at this;omega
def atP(n:Int):(UU n).size<=NO:=by
 unfold UU azC NO
 split
 ·show (45::UZ 20 n.natAbs []).length<=_
  have:=ahI 20 n.natAbs [];rw[aV];simp only[dD]at this
  omega
 ·show (UZ 20 n.natAbs []).length<=_
  have:=ahI 20 n.natAbs [];simp only[dD]at this
  omega
def aoF(b:Bool)(a:Int){s t:AAE}(hs:s.size<=NO)(ht:t.size<=NO):(kw b a s t).size<=NO:=by
 unfold kw;split
 ·exact ht
 ·exact hs
def aiK{s:AAE}(hs:s.size<=NO):(mJ s).size<=NO:=by
 unfold mJ
 repeat' split
 all_goals first|exact hs|decide
def adZ{P:Prop}[Decidable P]{A B:AAE}(h:A.size<=NO)(g:B.size<=NO):(if P then A else B).size<=NO:=by split<;>assumption
def Tx.num(n:Int){L:List Tk}(h:Tx L):Tx (Nm n::L):=.cons (atP n) h
def aFR(b:Bool)(a k n:Int){w:AAE}(hw:w.size<=NO){l:List T}{ps bs ss:List (List Tk)}(hp:∀ p,p∈ps->Tx p)(hb:∀ p,p∈bs->Tx p)(hs:∀ p,p∈ss->Tx p):Tx (comb b a k n w l ps bs ss):=by
 have hd:∀ i,∀ p,p∈ps.drop i->Tx p:=λi p h=>hp p (zU h)
 have ht:∀ i,∀ p,p∈ps.take i->Tx p:=λi p h=>hp p (FE h)
 have h1:∀ {A:List Tk},Tx A->∀ p,p∈[A]->Tx p:=λh p hp=>by rw[cO.1 hp];exact h
 unfold comb lZ pT simple
 repeat' first
  | with_reducible exact Tx.nil
  | with_reducible exact .ct hp _|with_reducible exact .cb hb _|with_reducible exact .gt hs _|with_reducible exact .XR hp|with_reducible exact .aR hp|with_reducible exact .jN hp|with_reducible exact .flat hp
  | with_reducible exact .group hp|with_reducible exact .group (hd _)|with_reducible exact .flat (hd _)|with_reducible exact .XR (ht _)|with_reducible exact .XR (h1 (.ct hp _))
  | with_reducible exact .operand (.ct hp _) _ _
  | with_reducible exact .opt (.ct hp _) _ aD _|with_reducible exact .lK (.ct hp _) _ aD _
  | with_reducible exact .label aD hw|with_reducible exact .file aD hw
  | with_reducible refine .ite (λ_=>?_) (λ_=>?_)
  | with_reducible refine .app ?_ ?_
  | with_reducible refine .num _ ?_
  | (refine Tx.cons ?_ ?_;· first|exact hw|exact aoF b a aD aD|exact adZ (aoF b a hw (aiK hw)) hw|exact adZ aD aD|decide)
def aJK(b:Bool):∀ d (t:T),depth t<=d->Xp t->Tx (aL b t)/\Tx (lY b t)/\Tx (wI b t):=by
 intro d
 induction d using Nat.strongRecOn with
 | _ d ih=>
  intro t hd hw
  have H:∀ x,x∈t.l->Tx (aL b x)/\Tx (lY b x)/\Tx (wI b x):=λx hx=>ih (depth x) (by have:=sD hx;omega) x (aG _) (by
   obtain⟨k,n,a,w,l⟩:=t
   unfold Xp at hw
   exact(afW l).1 hw.2 x hx)
  obtain⟨k,n,a,w,l⟩:=t;unfold Xp at hw;have hp:∀ p,p∈anM b l->Tx p:=λp h=>by rw[Ml]at h;obtain⟨x,hx,rfl⟩:=iL.1 h;exact(H x hx).1
  have hb:∀ p,p∈aDk b l->Tx p:=λp h=>by rw[ahP]at h;obtain⟨x,hx,rfl⟩:=iL.1 h;exact(H x hx).2.1
  have hs:∀ p,p∈aCe b l->Tx p:=λp h=>by rw[ahV]at h;obtain⟨x,hx,rfl⟩:=iL.1 h;exact(H x hx).2.2
  refine⟨?_,?_,?_⟩
  ·unfold aL;exact aFR b a k n hw.1 hp hb hs
  ·unfold lY;exact .XR hp
  ·unfold wI;exact .flat hp
def NC(b:Bool){t:T}(h:Xp t):Tx (aL b t):=(aJK b _ t (aG _) h).1
end Px
namespace Px
mutual
def ev(P:Int->ByteArray->Nat->Prop):T->Prop
 | .mk _ n _ w l=>P n w l.length/\Xz P l
def Xz(P:Int->ByteArray->Nat->Prop):List T->Prop
 | []=>True
 | t::r=>ev P t/\Xz P r
end
def abO{P:Int->ByteArray->Nat->Prop}:∀ (l:List T),Xz P l↔∀ x,x∈l->ev P x:=by
 intro l
 induction l with
 | nil=>exact⟨λ_ x h=>(nomatch h),λ_=>by unfold Xz;trivial⟩
 | cons y r ih=>
  unfold Xz;exact Ti
end Px
end
