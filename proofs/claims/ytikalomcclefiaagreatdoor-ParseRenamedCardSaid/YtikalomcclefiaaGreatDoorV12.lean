/- Part 12. -/
import Derived.Test.YtikalomcclefiaaGreatDoorV11
set_option linter.all false
set_option maxHeartbeats 0
set_option maxRecDepth 100000
namespace Go.Proofs.YtikalomcclefiaaGreatDoor
section
namespace Px
open Lx
def Uh(b:Bool)(n a:Int)(w:AAE)(l:List T):aL b (.mk 31 n a w l)=[O aT]:=by rw[eM];rfl
def ES(b:Bool)(n a:Int)(w:AAE)(r x:T):aL b (.mk 24 n a w [r,x])=aL b r++O tV::(aL b x++[O aT]):=by
 rw[eM]
 show (aL b r++O tV::aL b x)++[O aT]=_
 simp
def Uj(b:Bool)(n a a':Int)(w:AAE)(ps:List T)(ret:T)(g:List T):aL b (.mk 15 n a w (.mk 40 0 a' e0 ps::ret::g))=W (kw b a bB jL)::((if ps=[]then []else bI (ps.map (aL b)))++((if n=1 then [W gB,O cJ,W pO,O dA]else if n=2 then [W gE]else [])++((if ret.kind=10 then []else W gP::O cJ::((ret.l.map (aL b)).flatten++[O dA]))++group (g.map (aL b))))):=by
 rw[eM]
 show W (kw b a bB jL)::((if ps=[]then []else lY b (.mk 40 0 a' e0 ps)) ++
  ((if n=1 then [W gB,O cJ,W pO,O dA]else if n=2 then [W gE]else []) ++
  ((if ret.kind=10 then []else W gP::O cJ::(wI b ret++[O dA]))++group (g.map (aL b)))))=_
 rw[zX,KO];rfl
section
variable(b:Bool)(n a:Int)(w:AAE)
include b n a w
theorem Mq(g:List T):aL b (.mk 16 n a w g)=W Bg::group (g.map (aL b)):=by rw[eM];rfl
theorem aqZ(g:List T):aL b (.mk 17 n a w g)=W LJ::group (g.map (aL b)):=by rw[eM];rfl
theorem No(x y:T)(g:List T):aL b (.mk 18 n a w (x::y::g))=W LJ::(opt gF x (aL b x)++(opt gA y (aL b y)++group (g.map (aL b)))):=by rw[eM];rfl
theorem Ue(r x t y wh un:T)(g:List T):aL b (.mk 19 n a w (r::x::t::y::wh::un::g)) =
 W LJ::(aL b r++O tV::(aL b x++(lK Fj t (aL b t)++(lK Xd y (aL b y)++(opt gF wh (aL b wh)++(opt gA un (aL b un)++group (g.map (aL b)))))))):=by rw[eM];rfl
theorem JG(x:T)(g:List T):aL b (.mk 20 n a w (x::g))=W qB::((if x.kind=10 then []else bI [aL b x])++group (g.map (aL b))):=by rw[eM];rfl
end
def Gz(b:Bool)(xs:List T)(y:T):((xs++[y]).map (aL b)).take ((xs++[y]).length - 1)=xs.map (aL b)/\(((xs++[y]).map (aL b)).drop ((xs++[y]).length - 1)).flatten=aL b y:=by
 have h:(xs++[y]).length - 1=(xs.map (aL b)).length:=by simp
 rw[h,iX]
 constructor
 ·rw[List.take_left]
 ·rw[List.drop_left];simp
section
variable(b:Bool)(n a:Int)(w:AAE)
include b n a w
theorem MV(xs:List T)(y:T):aL b (.mk 21 n a w (xs++[y]))=W xP::(bI (xs.map (aL b))++aL b y):=by
 rw[eM]
 show W xP::(bI (((xs++[y]).map (aL b)).take ((xs++[y]).length - 1))++(((xs++[y]).map (aL b)).drop ((xs++[y]).length - 1)).flatten)=_
 rw[(Gz b xs y).1,(Gz b xs y).2]
theorem Lv(xs:List T)(y:T):aL b (.mk 13 n a w (xs++[y]))=bI (xs.map (aL b))++O cU::aL b y:=by
 rw[eM]
 show bI (((xs++[y]).map (aL b)).take ((xs++[y]).length - 1))++O cU::(((xs++[y]).map (aL b)).drop ((xs++[y]).length - 1)).flatten=_
 rw[(Gz b xs y).1,(Gz b xs y).2]
theorem EJ(x:T):aL b (.mk 14 n a w [x])=W w::O cU::aL b x:=by
 rw[eM]
 show W w::O cU::[aL b x].flatten=_
 simp
theorem LZ(y:T):aL b (.mk 22 n a w [y])=W (kw b a gV qR)::aL b y:=by
 rw[eM]
 show W (kw b a gV qR)::[aL b y].flatten=_
 simp
theorem ZV(x y:T):aL b (.mk 23 n a w [x,y])=W Nq::(aL b x++W pI::aL b y):=by
 rw[eM]
 show W Nq::(aL b x++W pI::(aL b y++[]))=_
 simp
theorem aaV(x y z:T):aL b (.mk 23 n a w [x,y,z])=W Nq::(aL b x++W pI::(aL b y++W qK::aL b z)):=by
 rw[eM]
 show W Nq::(aL b x++W pI::(aL b y++W qK::[aL b z].flatten))=_
 simp
end
section
variable(b:Bool)
include b
theorem Ut(n a a':Int)(w:AAE)(p:T):aL b (.mk 25 n a w [.mk 2 0 a' e0 [p]])=W Ch::(aL b p++[O aT]):=by
 rw[eM]
 show W Ch::aL b (.mk 2 0 a' e0 [p])++[O aT]=_
 rw[Ge];rfl
theorem UB(n a:Int)(w:AAE):aL b (.mk 26 n a w [])=[W lM,O aT]:=by rw[eM];rfl
theorem Uk(n a:Int)(w:AAE)(x:T):aL b (.mk 26 n a w [x])=W lM::(bI [aL b x]++[O aT]):=by rw[eM];rfl
theorem UK(n a:Int)(w:AAE)(l:List T):aL b (.mk 27 n a w l)=[W wGO,W Fj,W w,O aT]:=by rw[eM];rfl
theorem MR(k n a:Int)(w:AAE)(l:List T)(hk:k=28\/k=29):aL b (.mk k n a w l)=W (if k=28 then pM else jO)::((if w.size=0 then []else [W w])++[O aT]):=by
 rcases hk with rfl|rfl<;>(rw[eM];rfl)
theorem Ur(n a:Int)(w:AAE)(l:List T):aL b (.mk 30 n a w l)=[W DN,O aT]:=by rw[eM];rfl
theorem Vh(n a:Int)(w:AAE)(c x:T):aL b (.mk 32 n a w [c,x])=W wON::(aL b c++aL b x):=by
 rw[eM]
 show W wON::(aL b c++[aL b x].flatten)=_
 simp
theorem Nr(n a:Int)(w:AAE)(l:List T):aL b (.mk 33 n a w l)=[W pN,O aT]:=by rw[eM];rfl
theorem JN(k n a:Int)(w:AAE)(c:T)(hk:k=34\/k=35):aL b (.mk k n a w [c])=W (if k=34 then rD else rC)::(aL b c++[O aT]):=by
 rcases hk with rfl|rfl
 ·rw[eM]
  show W rD::[aL b c].flatten++[O aT]=_
  simp
 ·rw[eM]
  show W rC::[aL b c].flatten++[O aT]=_
  simp
theorem MN(n a:Int)(w:AAE)(x y:T):aL b (.mk 36 n a w [x,y])=W (kw b a iR rL)::W w::(opt GN x (aL b x)++(opt JJ y (aL b y)++[O aT])):=by
 rw[eM]
 show W (kw b a iR rL)::W w::(opt GN x (aL b x)++opt JJ y (aL b y))++[O aT]=_
 simp
theorem UI(n a:Int)(w:AAE)(r x:T):aL b (.mk 37 n a w [r,x])=W CA::(aL b r++(opt JJ x (aL b x)++[O aT])):=by
 rw[eM]
 show W CA::(aL b r++opt JJ x (aL b x))++[O aT]=_
 simp
theorem EM(k n a:Int)(w:AAE)(x y:T)(hk:k=38\/k=39):aL b (.mk k n a w [x,y])=W (if k=38 then FA else FC)::((if w.size=0 then []else [W gR,O cJ,W w,O dA])++((if n=0 then []else [W sV,O cJ,Nm n,O dA])++((if y.kind≠10 then W rX::(bI (x.l.map (aL b))++bI (y.l.map (aL b)))else if x.kind≠10 then W wQ::bI (x.l.map (aL b))else [])++[O aT]))):=by
 rcases hk with rfl|rfl
 ·rw[eM]
  show W FA::((if w.size=0 then []else [W gR,O cJ,W w,O dA])++((if n=0 then []else [W sV,O cJ,Nm n,O dA]) ++
   (if y.kind≠10 then W rX::(lY b x++lY b y)else if x.kind≠10 then W wQ::lY b x else [])))++[O aT]=_
  rw[zX,zX,aF rfl]
  simp
 ·rw[eM]
  show W FC::((if w.size=0 then []else [W gR,O cJ,W w,O dA])++((if n=0 then []else [W sV,O cJ,Nm n,O dA]) ++
   (if y.kind≠10 then W rX::(lY b x++lY b y)else if x.kind≠10 then W wQ::lY b x else [])))++[O aT]=_
  rw[zX,zX,aC (show ¬ (39:Int)=38 by decide)]
  simp
end
def rdW(k:Int):ByteArray:=if k=43 then Bj else if k=44 then uM else nZ
def arQ(k:Int):ByteArray:=if k=43 then yV else oE
def avO(k:Int):ByteArray:=if k=44 then nJ else oW
def aoH(b:Bool)(k n a:Int)(w:AAE)(r x:T)(hk:k=43\/k=44\/k=45):aL b (.mk k n a w [r,x])=W (rdW k)::W gR::O cJ::W w::O dA::(opt (arQ k) r (aL b r)++(opt (avO k) x (aL b x)++[O aT])):=by
 rcases hk with rfl|rfl|rfl
 ·rw[eM]
  show [W Bj,W gR,O cJ,W w,O dA]++(opt yV r (aL b r)++opt oW x (aL b x))++[O aT]=W Bj::W gR::O cJ::W w::O dA::(opt yV r (aL b r)++(opt oW x (aL b x)++[O aT]))
  simp
 ·rw[eM]
  show [W uM,W gR,O cJ,W w,O dA]++(opt oE r (aL b r)++opt nJ x (aL b x))++[O aT]=W uM::W gR::O cJ::W w::O dA::(opt oE r (aL b r)++(opt nJ x (aL b x)++[O aT]))
  simp
 ·rw[eM]
  show [W nZ,W gR,O cJ,W w,O dA]++(opt oE r (aL b r)++opt oW x (aL b x))++[O aT]=W nZ::W gR::O cJ::W w::O dA::(opt oE r (aL b r)++(opt oW x (aL b x)++[O aT]))
  simp
section
variable(b:Bool)(n a:Int)(w:AAE)
include b n a w
theorem JX(x:T)(h:x.kind≠10):aL b (.mk 46 n a w [x])=W sC::W gR::O cJ::W w::O dA::W oW::(bI [aL b x]++[O aT]):=by
 rw[eM]
 show [W sC,W gR,O cJ,W w,O dA]++opt oW x (aL b x)++[O aT]=_
 unfold opt;rw[aC h];simp
theorem Gg(l:List T):aL b (.mk 47 n a w l)=W (kw b a fK uP)::(aR (l.map (aL b))++[O aT]):=by rw[eM];rfl
theorem Jb:aL b (.mk 12 n a w [])=[W w]:=by rw[eM];rfl
theorem EX(x:T):aL b (.mk 12 n a w [x])=W w::bI [aL b x]:=by rw[eM];rfl
end
def KW: List ByteArray:=[bB,jL,Bg,LJ,qB,Nq,Ch,lM,wGO,aeU,pM,jO,DN,wON,rD,rC,iR,rL,CA,FA,FC,Bj,uM,nZ,sC,fK,uP]
def KL(b:Bool)(a:Int)(l s:AAE):kw b a l s=l\/kw b a l s=s:=by
 unfold kw
 split
 ·exact .inr rfl
 ·exact .inl rfl
def alX(b:Bool)(a:Int){l s:AAE}(hl:eH l KW=true)(hs:eH s KW=true):eH (kw b a l s) KW=true:=by
 rcases KL b a l s with e|e<;>(rw[e];assumption)
def agG{inr lab:Bool}{t:T}(h:V (.pl inr lab) t)(b:Bool):aL b t=[O aT]\/(∃ a r x,t=.mk 24 0 a e0 [r,x]/\V .expr r/\isRef r/\V .expr x)\/∃ w s,aL b t=W w::s/\eH w KW=true:=by
 cases h with
 | null _ _ a=>exact .inl (Uh b _ _ _ _)
 | assign _ _ a r x hr h hx=>exact .inr (.inl ⟨_,_,_,rfl,hr,h,hx⟩)
 | proc n a a' ps ret g hn hp8 hp hret hr4 hrv hg=>exact .inr (.inr ⟨_,_,Uj b _ _ _ _ _ _ _,alX b a aE aE⟩)
 | begin_ _ _ a g hg=>exact .inr (.inr ⟨_,_,Mq b _ _ _ _,by decide +kernel⟩)
 | do_ _ _ a g hg=>exact .inr (.inr ⟨_,_,aqZ b _ _ _ _,by decide +kernel⟩)
 | while_ _ _ a x y g hx hy hn hg=>exact .inr (.inr ⟨_,_,No b _ _ _ _ _ _,by decide +kernel⟩)
 | loop _ _ a r x t b' wh un g=>exact .inr (.inr ⟨_,_,Ue b _ _ _ _ _ _ _ _ _ _,by decide +kernel⟩)
 | select _ _ a x ws os hx hw ho1 ho=>exact .inr (.inr ⟨_,_,JG b _ _ _ _ _,by decide +kernel⟩)
 | if2 _ _ a x y hx hy=>exact .inr (.inr ⟨_,_,ZV b _ _ _ _ _,by decide +kernel⟩)
 | if3 _ _ a x y z hx hy hc hz=>exact .inr (.inr ⟨_,_,aaV b _ _ _ _ _ _,by decide +kernel⟩)
 | call _ _ a a' p hp=>exact .inr (.inr ⟨_,_,Ut b _ _ _ _ _,by decide +kernel⟩)
 | ret0 _ _ a=>exact .inr (.inr ⟨_,_,UB b _ _ _,by decide +kernel⟩)
 | ret1 _ _ a x hx=>exact .inr (.inr ⟨_,_,Uk b _ _ _ _,by decide +kernel⟩)
 | goto_ _ _ a w h=>exact .inr (.inr ⟨_,_,UK b _ _ _ _,by decide +kernel⟩)
 | leave _ _ k a w hk h=>exact .inr (.inr ⟨_,_,MR b _ _ _ _ _ hk,by rcases hk with rfl|rfl<;>decide +kernel⟩)
 | stop _ _ a=>exact .inr (.inr ⟨_,_,Ur b _ _ _ _,by decide +kernel⟩)
 | on1 _ _ a c x hc hx=>exact Qx
 | on0 _ _ a a' c hc=>exact Qx
 | revert _ _ k a c hk hc=>exact .inr (.inr ⟨_,_,JN b _ _ _ _ _ hk,by rcases hk with rfl|rfl<;>decide +kernel⟩)
 | alloc _ _ a w x y h hx hxr hy hyr=>exact .inr (.inr ⟨_,_,MN b _ _ _ _ _,alX b a aE aE⟩)
 | free _ _ a r x hr h hx hxr=>exact .inr (.inr ⟨_,_,UI b _ _ _ _ _,by decide +kernel⟩)
 | stream0 _ _ k n a w x y hk=>exact Iw
 | stream1 _ _ k n a a' w l y hk=>exact Iw
 | stream2 _ _ k n a a' a2 w l m hk=>exact Iw
 | rd _ _ k a w r x hk=>exact .inr (.inr ⟨_,_,aoH b _ _ _ _ _ _ hk,by rcases hk with rfl|rfl|rfl<;>decide +kernel⟩)
 | delete _ _ a w x h hx=>exact .inr (.inr ⟨_,_,JX b _ _ _ _ (uT hx),by decide +kernel⟩)
 | declare _ a l h1 h60 hl=>exact .inr (.inr ⟨_,_,Gg b _ _ _ _,alX b a aE aE⟩)
def JB{r:T}(h:V .expr r)(hr:isRef r)(b:Bool):∃ w s,aL b r=W w::s:=by
 obtain⟨x,h1,_,h3⟩:=xN h;obtain⟨s,hs⟩:=h1 b;have hk:=h3 (.inl hr);obtain⟨k,w⟩:=x;simp only at hk
 subst hk;exact⟨w,s,hs⟩
def agE{inr lab:Bool}{t:T}(h:V (.lb inr lab) t)(b:Bool):∃ x s,aL b t=x::s/\(x.kind=6->x.text=aT):=by
 cases h with
 | label _ _ a w x h hx=>exact⟨_,_,EJ b _ _ _ _,λh=>absurd h rS⟩
 | plain _ _ _ hp=>
  rcases agG hp b with h|⟨a,r,x,rfl,hr,h,hx⟩|⟨w,s,h,_⟩
  ·exact⟨_,_,h,λ_=>rfl⟩
  ·obtain⟨w,s,hw⟩:=JB hr h b;rw[ES,hw];exact⟨_,_,rfl,λh=>absurd h rS⟩
  ·exact⟨_,_,h,λh=>absurd h rS⟩
def WG{inr:Bool}{t:T}(h:V (.st inr) t):(∃ a ws x,t=.mk 13 0 a e0 (ws++[x])/\1<=ws.length/\ws.length<=4/\(∀ y,y∈ws->isWord y)/\V (.lb inr false) x)\/∀ b,∃ x s,aL b t=x::s/\(x.kind=6->x.text=aT):=by
 cases h with
 | prefixed _ a ws x h1 h4 hw hx=>exact .inl ⟨_,_,_,rfl,h1,h4,hw,hx⟩
 | stmt _ _ hx=>exact .inr λb=>agE hx b
def aJs{inr:Bool}{t:T}(h:V (.st inr) t)(b:Bool):aL b t≠[]:=by
 rcases WG h with ⟨a,ws,x,rfl,_⟩|h
 ·rw[Lv];exact wH
 ·obtain⟨x,s,e,_⟩:=h b;rw[e];exact wH
section
variable{L:List Tk}{i:Nat}
include L i
theorem VF(h:cD L (i+1) [cU]=false):labelled L i=false:=by unfold labelled;rw[h];simp
theorem adF{w:AAE}(h:tok L i=W w){ss:List ByteArray}(hn:eH w ss=false):iT L i ss=false:=by rw[Gb h,hn];rfl
theorem sS{w:AAE}(h:tok L i=W w){ss:List ByteArray}(hn:eH w ss=true):iT L i ss=true:=by rw[Gb h,hn];rfl
theorem apK{s:AAE}(h:tok L i=O s)(ss:List ByteArray):iT L i ss=false:=by rw[Gb h];rfl
theorem wS{ss:List ByteArray}(h:iT L i ss=false):keyword L i ss=false:=by unfold keyword;rw[h];rfl
end
section
variable{inr:Bool}{t:T}(h:V (.st inr) t){b:Bool}{L:List Tk}{i:Nat}
include inr t h b L i
theorem stf(hst:cW L i (aL b t))(s:AAE)(hs:s=sO\/s=qK\/s=pN):keyword L i [s]=false:=by
 cases h with
 | prefixed _ a ws x h1 h4 hw hx=>
  rw[Lv]at hst;have:tok L i=O cJ:=(cW.app hst).1.cons.1;exact wS (apK this _)
 | stmt _ _ hx=>
  cases hx with
  | label _ _ a w x h hx=>
   rw[EJ]at hst;have h1:=hst.cons;have:labelled L i=true:=by unfold labelled;rw[CJ h1.1,eZ h1.2.1.cons.1];decide +kernel
   unfold keyword;rw[this];simp
  | plain _ _ _ hp=>
   rcases agG hp b with h|⟨a,r,x,rfl,hr,h,hx⟩|⟨w,q,h,hw⟩
   ·rw[h]at hst;exact wS (apK hst.one.1 _)
   ·rw[ES]at hst;have:eF L i=true:=Iq hr h (cW.app hst).1 (by have:=(cW.app hst).2.cons.1;rwa[eV]at this);unfold keyword;rw[this];simp
   ·rw[h]at hst;refine wS (adF hst.cons.1 ?_);have hm:=(eX _ _).1 hw;have hall:(KW.all λw=>!eH w [sO]&&!eH w [qK]&&!eH w [pN])=true:=by decide +kernel
    have:=iJ.1 hall w hm;simp only[bA,Gx]at this
    rcases hs with rfl|rfl|rfl
    ·exact this.1.1
    ·exact this.1.2
    ·exact this.2
theorem avZ{zs:List Tk}(hst:cW L (i+1) (aL b t++zs)):eF L i=false/\cD L (i+1) [cU]=false:=by
 rcases WG h with ⟨a,ws,x,rfl,h1,h4,hw,hx⟩|h
 ·rw[Lv,bT]at hst;obtain⟨g1,g2⟩:=cW.app hst;have hb:nW (aR (ws.map (aL b))):=nW.aR (dU λy hy=>VB b (hw y hy));refine⟨wY hb g1 (x:=O cU) ?_ (λ_=>by decide +kernel),by rw[eZ g1.cons.1];decide +kernel⟩;have:=g2.cons.1;rw[show (bI (ws.map (aL b))).length=(aR (ws.map (aL b))).length+2 by simp[bI]]at this;exact this
 ·obtain⟨x,s,e,hk⟩:=h b;rw[e]at hst;have ht:=hst.cons.1;exact⟨eD ht (λh6=>by rw[hk h6];decide +kernel),nL ht (λh6=>by rw[hk h6];decide +kernel)⟩
end
def Wg{L:List Tk}{stmt inner:Nat->R T}{w:AAE}(hw:w=bB\/w=jL)(a:Nat)(label:AAE)(i:Nat):bL L stmt inner w a label i=some (iE L stmt a label i):=by
 unfold bL;rw[aF hw]
section
variable{L:List Tk}{stmt inner:Nat->R T}(a:Nat)(label:AAE)(i:Nat)
include L stmt inner a label i
theorem akG:bL L stmt inner Bg a label i=some (aH (aW L i aT) λ_ j=>aH (iO L stmt label j) λg j1=>.ok (node 16 a g,j1)):=by
 unfold bL;rw[aC aE];rw[aF rfl]
theorem abC:bL L stmt inner LJ a label i=some (doP L stmt a label i):=by
 unfold bL;rw[aC aE];rw[aC aE];rw[aF rfl]
theorem aeN:bL L stmt inner qB a label i=some (lL L inner a label i):=by
 unfold bL;(iterate 3 rw[aC aE]);rw[aF rfl]
theorem aoI:bL L stmt inner Nq a label i=some (qM L inner a i):=by
 unfold bL;(iterate 4 rw[aC aE]);rw[aF rfl]
theorem atJ:bL L stmt inner Ch a label i=some (GL L a i):=by
 unfold bL;(iterate 5 rw[aC aE]);rw[aF rfl]
theorem PR:bL L stmt inner lM a label i=some (Dm L a i):=by
 unfold bL;(iterate 6 rw[aC aE]);rw[aF rfl]
theorem aFt:bL L stmt inner wGO a label i=some (aH (fV L i [Fj]) λ_ j=>yS L a j):=by
 unfold bL;(iterate 7 rw[aC aE]);rw[aF rfl]
theorem aiQ:bL L stmt inner pM a label i=some (iQ L 28 a i):=by
 unfold bL;(iterate 9 rw[aC aE]);rw[aF rfl]
theorem abP:bL L stmt inner jO a label i=some (iQ L 29 a i):=by
 unfold bL;(iterate 10 rw[aC aE]);rw[aF rfl]
theorem awB:bL L stmt inner DN a label i=some (bK L (node 30 a []) i):=by
 unfold bL;(iterate 11 rw[aC aE]);rw[aF rfl]
theorem apR:bL L stmt inner wON a label i=some (onP L inner a i):=by
 unfold bL;(iterate 12 rw[aC aE]);rw[aF rfl]
theorem ahJ:bL L stmt inner rD a label i=some (aH (qL L true i) λc j=>bK L (node 34 a [c]) j):=by
 unfold bL;(iterate 13 rw[aC aE]);rw[aF rfl]
theorem afU:bL L stmt inner rC a label i=some (aH (qL L true i) λc j=>bK L (node 35 a [c]) j):=by
 unfold bL;exact TC
end
def Xg{L:List Tk}{stmt inner:Nat->R T}{w:AAE}(hw:w=iR\/w=rL)(a:Nat)(label:AAE)(i:Nat):bL L stmt inner w a label i=some (pU L a i):=by
 unfold bL;exact Sj
section
variable{L:List Tk}{stmt inner:Nat->R T}(a:Nat)(label:AAE)(i:Nat)
include L stmt inner a label i
theorem atZ:bL L stmt inner CA a label i=some (GD L a i):=by
 unfold bL;rw[aC aE];rw[aC aE];exact TC
theorem aAY:bL L stmt inner FA a label i=some (jT L 38 a (yZ L) i):=by
 unfold bL;exact Qi
theorem aCa:bL L stmt inner FC a label i=some (jT L 39 a (dB L) i):=by
 unfold bL;rw[aC aE];exact Qi
theorem arU:bL L stmt inner Bj a label i=some (GF L a i):=by
 unfold bL;exact RD
theorem anQ:bL L stmt inner uM a label i=some (Ab L a i):=by
 unfold bL;rw[aC aE];exact RD
theorem abT:bL L stmt inner nZ a label i=some (sK L a i):=by
 unfold bL;exact Tu
theorem ahM:bL L stmt inner sC a label i=some (uB L a i):=by
 unfold bL;rw[aC aE];exact Tu
end
def abA{L:List Tk}{stmt inner:Nat->R T}{w:AAE}(hw:w=fK\/w=uP)(a:Nat)(label:AAE)(i:Nat):bL L stmt inner w a label i=some (sM L a i):=by
 unfold bL;(iterate 8 rw[aC fF]);exact Sj
def aKu{L:List Tk}{f:Nat}{inr:Bool}{label:AAE}{i:Nat}{w:AAE}{r:R T}(hw:tok L i=W w)(hc:cD L (i+1) [cU]=false)(ha:eF L i=false\/pQ L i=true)(hr:bL L (cH L (jG L f) false) (cH L (jG L f) true) w i label (i+1)=some r)(hp:eH w [bB,jL]=true->inr=false/\label.size≠0)(hd:eH w [fK,uP]=true->inr=false):jG L (f+1) inr label i=r:=by
 unfold jG;rw[aF (by rw[VF hc];simp)];unfold mS;rw[aC (by rw[yG hw];decide),aC (by rcases ha with h|h<;>(rw[h];simp))];simp only
 rw[aC,hw]
 ·show (match bL L _ _ w i label (i+1) with|none=>_|some r=>r)=r
  rw[hr]
 ·rintro (h|⟨h1,h2⟩|⟨h1,h2⟩)
  ·rw[CJ hw]at h;exact mW
  ·rw[Gb hw,Gb hw]at h2
   rcases h2 with h2|h2
   ·have:=(hp h2).1;rw[h1]at this;exact rQ
   ·have:=hd h2;rw[h1]at this;exact rQ
  ·rw[Gb hw]at h1;exact(hp h1).2 h2
def CL(inr lab:Bool)(t:T):Prop:=∀ (L:Bool->List Tk) (i:Nat),(∀ b,cW (L b) i (aL b t))->∃ t',dM t' t=true/\∀ f,len t<=f->(eN t=true->∀ b,keyword (L b) (i+len t) [qK]=false)->∀ label:ByteArray,(lab=true->label.size≠0)->∀ b,jG (L b) f inr label i=.ok (t',i+len t)
def CS(inr:Bool)(t:T):Prop:=∀ (L:Bool->List Tk) (i:Nat),(∀ b,cW (L b) i (aL b t))->∃ t',dM t' t=true/\∀ f,len t<=f->(eN t=true->∀ b,keyword (L b) (i+len t) [qK]=false)->∀ b,cH (L b) (jG (L b) f) inr i=.ok (t',i+len t)
def sW{inr lab:Bool}{t:T}(hpos:1<=len t)(h:∀ (L:Bool->List Tk) (i:Nat),(∀ b,cW (L b) i (aL b t))->∃ t',dM t' t=true/\∀ b,∃ w,tok (L b) i=W w/\cD (L b) (i+1) [cU]=false/\(eF (L b) i=false\/pQ (L b) i=true)/\(eH w [bB,jL]=true->inr=false/\lab=true)/\(eH w [fK,uP]=true->inr=false)/\∀ f (label:AAE),len t<=f+1->(eN t=true->∀ b,keyword (L b) (i+len t) [qK]=false)->bL (L b) (cH (L b) (jG (L b) f) false) (cH (L b) (jG (L b) f) true) w i label (i+1)=some (.ok (t',i+len t))):CL inr lab t:=by
 intro L i hst;obtain⟨t',h1,h2⟩:=h L i hst;refine⟨t',h1,λf hf ho label hl b=>?_⟩;obtain⟨w,g1,g2,g3,g4,g5,g6⟩:=h2 b;obtain⟨f,rfl⟩:∃ g,f=g+1:=⟨f - 1,by omega⟩
 exact aKu g1 g2 g3 (g6 f label hf ho) (λhm=>⟨(g4 hm).1,hl (g4 hm).2⟩) g5
end Px
end
section
namespace Px
open Lx
def FT(P:Tk->Bool)(ts:List Tk):Prop:=∀ (L:List Tk) (i:Nat),cW L i ts->P (tok L i)=true
def Oe(ss:List ByteArray)(x:Tk):Bool:=!(x.kind==1&&eH x.text ss)
def Aq{L:List Tk}{j:Nat}{ss:List ByteArray}(h:Oe ss (tok L j)=true):iT L j ss=false:=by
 unfold Oe at h;unfold iT
 cases hh:((tok L j).kind==1&&eH (tok L j).text ss) with
 | false=>rfl
 | true=>rw[hh]at h;cases h
theorem FT.cons{P:Tk->Bool}{x:Tk}{r:List Tk}(h:P x=true):FT P (x::r):=λL i hs=>by rw[hs.cons.1];exact h
theorem FT.opt{P:Tk->Bool}{w:AAE}{c:T}{p zs:List Tk}(h:P (W w)=true)(hz:FT P zs):FT P (opt w c p++zs):=by
 unfold Px.opt
 split
 ·exact hz
 ·exact FT.cons h
theorem FT.lK{P:Tk->Bool}{w:AAE}{c:T}{p zs:List Tk}(h:P (W w)=true)(hz:FT P zs):FT P (lK w c p++zs):=by
 unfold Px.lK
 split
 ·exact hz
 ·exact FT.cons h
def FT.ite{P:Tk->Bool}{c:Prop}[Decidable c]{xs ys zs:List Tk}(h:c->FT P (xs++zs))(g:¬ c->FT P (ys++zs)):FT P ((if c then xs else ys)++zs):=by
 exact Ap
def ED{x:T}(h:¬ isNone x->V .expr x)(hk:x.kind=10):isNone x:=by
 by_cases hn:isNone x
 ·exact hn
 ·exact absurd hk (uT (h hn))
def EY{x:T}(h:¬ isNone x->V .expr x)(hk:x.kind≠10):V .expr x:=h λ⟨a,e⟩=>hk rO
def wT{x:T}(h:isNone x):dM none_ x=true:=by obtain⟨a,rfl⟩:=h;exact bY bQ
section
variable (L:Bool->List Tk) (i:Nat) {zs:Bool->List Tk}
def JO{x:T}(hx:V .expr x)(hst:∀ b,cW (L b) i (aL b x++zs b))(hz:∀ b,FT (qD 6) (zs b)):∃ x',dM x' x=true/\(∀ b,dB (L b) i=.ok (x',i+len x))/\∀ b,cW (L b) (i+len x) (zs b):=by
 have h2:∀ b,cW (L b) (i+len x) (zs b):=λb=>by have:=(cW.app (hst b)).2;rwa[eV]at this
 obtain⟨x',h3,h4⟩:=Gr hx L i (λb=>(cW.app (hst b)).1);exact⟨x',h3,h4 (λb=>hz b _ _ (h2 b)),h2⟩
def acB{x:T}(hx:V .expr x)(hr:isRef x)(hst:∀ b,cW (L b) i (aL b x++zs b))(hz:∀ b,FT Pa (zs b)):∃ x',dM x' x=true/\(∀ b,yZ (L b) i=.ok (x',i+len x))/\∀ b,cW (L b) (i+len x) (zs b):=by
 have h2:∀ b,cW (L b) (i+len x) (zs b):=λb=>by have:=(cW.app (hst b)).2;rwa[eV]at this
 obtain⟨x',h3,h4⟩:=aBJ hx hr L i (λb=>(cW.app (hst b)).1);exact⟨x',h3,h4 (λb=>hz b _ _ (h2 b)),h2⟩
def Fs(b:Bool)(x:T):(bI [aL b x]).length=len x+2:=by simp[bI,aR,eV]
def Un{x:T}(hx:V .expr x)(hst:∀ b,cW (L b) i (bI [aL b x]++zs b)):∃ x',dM x' x=true/\(∀ b,fB (L b) i=.ok (x',i+(len x+2)))/\(∀ b,tok (L b) i=O cJ)/\∀ b,cW (L b) (i+(len x+2)) (zs b):=by
 have h2:∀ b,cW (L b) (i+(len x+2)) (zs b):=λb=>by have:=(cW.app (hst b)).2;rwa[Fs]at this
 have h1:∀ b,cW (L b) i (O cJ::(aL b x++[O dA])):=λb=>(cW.app (hst b)).1
 obtain⟨x',h3,h4,h5⟩:=JO L (i+1) hx (λb=>(h1 b).cons.2.1) (λb=>FT.cons aE);refine⟨x',h3,λb=>?_,λb=>(h1 b).cons.1,h2⟩;unfold fB;rw[dV (h1 b).cons.1]
 show aH (dB (L b) (i+1)) _=_
 exact Tp
def aFx{x:T}(hx:V .expr x)(hr:isRef x)(hst:∀ b,cW (L b) i (bI [aL b x]++zs b)):∃ x',dM x' x=true/\(∀ b,(aH (aW (L b) i cJ) λ_ j=>aH (yZ (L b) j) λr j'=>aH (aW (L b) j' dA) λ_ j2=>.ok (r,j2))=(.ok (x',i+(len x+2)):R T))/\∀ b,cW (L b) (i+(len x+2)) (zs b):=by
 have h2:∀ b,cW (L b) (i+(len x+2)) (zs b):=λb=>by have:=(cW.app (hst b)).2;rwa[Fs]at this
 have h1:∀ b,cW (L b) i (O cJ::(aL b x++[O dA])):=λb=>(cW.app (hst b)).1
 obtain⟨x',h3,h4,h5⟩:=acB L (i+1) hx hr (λb=>(h1 b).cons.2.1) (λb=>FT.cons aE);refine⟨x',h3,λb=>?_,h2⟩;rw[dV (h1 b).cons.1]
 show aH (yZ (L b) (i+1)) _=_
 exact Tp
section
variable{w:AAE}{x:T}(hx:¬ isNone x->V .expr x)
include w x hx
theorem US(hst:∀ b,cW (L b) i (opt w x (aL b x)++zs b))(hz:∀ b,FT (Oe [w]) (zs b)):∃ x',dM x' x=true/\(∀ b,gL (L b) w i=.ok (x',i+(opt w x (aL false x)).length))/\∀ b,cW (L b) (i+(opt w x (aL false x)).length) (zs b):=by
 by_cases hk:x.kind=10
 ·have e:∀ b,opt w x (aL b x)=[]:=λb=>by unfold opt;rw[aF hk]
  rw[e false];have hst:∀ b,cW (L b) i (zs b):=λb=>by have:=hst b;rwa[e b]at this
  refine⟨none_,wT (ED hx hk),λb=>?_,hst⟩;unfold gL;exact ID
 ·have e:∀ b,opt w x (aL b x)=W w::bI [aL b x]:=λb=>by unfold opt;rw[aC hk]
  rw[e false];have hst:∀ b,cW (L b) i (W w::(bI [aL b x]++zs b)):=λb=>by have:=hst b;rwa[e b]at this
  obtain⟨x',h1,h2,_,h3⟩:=Un L (i+1) (EY hx hk) (λb=>(hst b).cons.2.1);have hl:i+(W w::bI [aL false x]).length=i+1+(len x+2):=by rw[aV,Fs];omega
  rw[hl];refine⟨x',h1,λb=>?_,h3⟩;unfold gL;exact Jl
theorem aqF(hst:∀ b,cW (L b) i (lK w x (aL b x)++zs b))(hz:∀ b,FT (Oe [w]) (zs b))(hz2:∀ b,FT (qD 6) (zs b)):∃ x',dM x' x=true/\(∀ b,jK (L b) w i=.ok (x',i+(lK w x (aL false x)).length))/\∀ b,cW (L b) (i+(lK w x (aL false x)).length) (zs b):=by
 by_cases hk:x.kind=10
 ·have e:∀ b,lK w x (aL b x)=[]:=λb=>by unfold lK;rw[aF hk]
  rw[e false];have hst:∀ b,cW (L b) i (zs b):=λb=>by have:=hst b;rwa[e b]at this
  refine⟨none_,wT (ED hx hk),λb=>?_,hst⟩;unfold jK;exact ID
 ·have e:∀ b,lK w x (aL b x)=W w::aL b x:=λb=>by unfold lK;rw[aC hk]
  rw[e false];have hst:∀ b,cW (L b) i (W w::(aL b x++zs b)):=λb=>by have:=hst b;rwa[e b]at this
  obtain⟨x',h1,h2,h3⟩:=JO L (i+1) (EY hx hk) (λb=>(hst b).cons.2.1) hz2;have hl:i+(W w::aL false x).length=i+1+len x:=by rw[aV,eV];omega
  rw[hl];refine⟨x',h1,λb=>?_,h3⟩;unfold jK;exact Jl
theorem MH(hr:¬ isNone x->isRef x)(hst:∀ b,cW (L b) i (opt w x (aL b x)++zs b))(hz:∀ b,FT (Oe [w]) (zs b)):∃ x',dM x' x=true/\(∀ b,nP (L b) w i=.ok (x',i+(opt w x (aL false x)).length))/\∀ b,cW (L b) (i+(opt w x (aL false x)).length) (zs b):=by
 by_cases hk:x.kind=10
 ·have e:∀ b,opt w x (aL b x)=[]:=λb=>by unfold opt;rw[aF hk]
  rw[e false];have hst:∀ b,cW (L b) i (zs b):=λb=>by have:=hst b;rwa[e b]at this
  refine⟨none_,wT (ED hx hk),λb=>?_,hst⟩;unfold nP;exact ID
 ·have e:∀ b,opt w x (aL b x)=W w::bI [aL b x]:=λb=>by unfold opt;rw[aC hk]
  rw[e false];have hst:∀ b,cW (L b) i (W w::(bI [aL b x]++zs b)):=λb=>by have:=hst b;rwa[e b]at this
  have hn:¬ isNone x:=λ⟨a,e⟩=>hk rO
  obtain⟨x',h1,h2,h3⟩:=aFx L (i+1) (hx hn) (hr hn) (λb=>(hst b).cons.2.1);have hl:i+(W w::bI [aL false x]).length=i+1+(len x+2):=by rw[aV,Fs];omega
  rw[hl];refine⟨x',h1,λb=>?_,h3⟩;unfold nP;exact Jl
end
def ZW{w:AAE}{x:T}(hx:V .expr x)(hr:isRef x)(hst:∀ b,cW (L b) i (opt w x (aL b x)++zs b))(hz:∀ b,FT (Oe [w]) (zs b)):∃ x',dM x' x=true/\(∀ b,fH (L b) w i=.ok (x',i+(opt w x (aL false x)).length))/\∀ b,cW (L b) (i+(opt w x (aL false x)).length) (zs b):=by
 obtain⟨x',h1,h2,h3⟩:=MH L i (λ_=>hx) (λ_=>hr) hst hz;refine⟨x',h1,λb=>?_,h3⟩;unfold fH;have:tok (L b) i=W w:=by
  have:=hst b;unfold opt at this;rw[aC (uT hx)]at this;exact this.cons.1
 rw[aF (sS this (by simp[eH])),h2 b]
def JS(read:List Tk->Nat->R T)(S:Tk->Bool)(hc:S (O jS)=true)(hR:S (O dA)=true){l:List T}(hne:l≠[])(hl:∀ x,x∈l->RdB read S x)(hst:∀ b,cW (L b) i (bI (l.map (aL b))++zs b)):∃ l',dK l' l=true/\(∀ b,tok (L b) i=O cJ)/\(∀ b most,l.length<=most->eR (L b) most (read (L b)) (i+1)=.ok (l',i+1+(aR (l.map (aL false))).length))/\(∀ b,tok (L b) (i+1+(aR (l.map (aL false))).length)=O dA)/\∀ b,cW (L b) (i+1+(aR (l.map (aL false))).length+1) (zs b):=by
 obtain⟨l',h1,h2⟩:=Oh (λb=>b) L (λb=>read (L b)) S hc hR l hne (λx hx=>hl x hx L) i (λb=>(cW.app (hst b)).1);refine⟨l',h1,λb=>(h2 b l.length (aG _)).1,λb most hm=>(h2 b most hm).2.1,λb=>(h2 b l.length (aG _)).2.2,λb=>?_⟩;have:=(cW.app (hst b)).2;rw[pY]at this
 rwa[show i+1+(aR (l.map (aL false))).length+1=i+((aR (l.map (aL false))).length+2)from by omega]
end
def yK{L:List Tk}{i:Nat}{w:AAE}{ss:List ByteArray}(h:tok L i=W w)(hm:eH w ss=true):fV L i ss=.ok ((),i+1):=by unfold fV;rw[aF (sS h hm)]
def kH(w:AAE):eH w [w]=true:=by simp[eH]
def VM{L:List Tk}{i:Nat}{w:AAE}{zs:List Tk}(h:cW L i (W gR::O cJ::W w::O dA::zs)):rT L i=.ok (w,i+4)/\cW L (i+4) zs:=by
 have h1:=h.cons;have h2:=h1.2.1.cons;have h3:=h2.2.1.cons;have h4:=h3.2.1.cons;refine⟨?_,h4.2.1⟩;unfold rT;rw[yK h1.1 (kH _)]
 show aH (aW L (i+1) cJ) _=_
 rw[dV h2.1]
 show aH (iN L (i+1+1)) _=_
 rw[qN h3.1]
 show aH (aW L (i+1+1+1) dA) _=_
 rw[dV h4.1];rfl
def pF(w:AAE)(h:eH w [bB,jL]=false)(inr lab:Bool):eH w [bB,jL]=true->inr=false/\lab=true:=λe=>by rw[h]at e;cases e
def pJ(w:AAE)(h:eH w [fK,uP]=false)(inr:Bool):eH w [fK,uP]=true->inr=false:=λe=>by rw[h]at e;cases e
section
variable(inr lab:Bool)
include inr lab
theorem aIg(a:Int):CL inr lab (.mk 31 0 a e0 []):=by
 intro L i hst;have hlen:len (.mk 31 0 a e0 [])=1:=by unfold len;rw[Uh];rfl
 refine⟨node 31 i [],bY bQ,λf hf _ label _ b=>?_⟩;have ht:tok (L b) i=O aT:=by have:=hst b;rw[Uh]at this;exact this.one.1
 rw[hlen]at hf ⊢;obtain⟨f,rfl⟩:∃ g,f=g+1:=⟨f - 1,by omega⟩
 have hn:isName (L b) i=false:=by unfold isName;rw[ht];decide
 unfold jG;rw[aF (by unfold labelled;rw[hn];simp)];unfold mS;rw[aF (by rw[eZ ht];decide +kernel)]
theorem aBd(a:Int)(r x:T)(hr:V .expr r)(h:isRef r)(hx:V .expr x):CL inr lab (.mk 24 0 a e0 [r,x]):=by
 intro L i hst;have hs:∀ b,cW (L b) i (aL b r++O tV::(aL b x++[O aT])):=λb=>by have:=hst b;rwa[ES]at this
 have hlen:len (.mk 24 0 a e0 [r,x])=len r+1+len x+1:=by unfold len;rw[ES];simp;omega
 obtain⟨r',hr1,hr2,hs2⟩:=acB L i hr h hs (λb=>FT.cons aE);obtain⟨x',hx1,hx2,hs3⟩:=JO L (i+len r+1) hx (λb=>(hs2 b).cons.2.1) (λb=>FT.cons aE);refine⟨node 24 i [r',x'],bY (bG hr1 (bG hx1 bQ)),λf hf _ label _ b=>?_⟩;rw[hlen]at hf ⊢;obtain⟨f,rfl⟩:∃ g,f=g+1:=⟨f - 1,by omega⟩
 obtain⟨w,s,hw⟩:=JB hr h b;have ht:tok (L b) i=W w:=by have:=hs b;rw[hw]at this;exact this.cons.1
 have ha:eF (L b) i=true:=Iq hr h (cW.app (hs b)).1 (hs2 b).cons.1;unfold jG;rw[aF (by rw[ha];rfl)];unfold mS;rw[aC (by rw[yG ht];decide),aF (by rw[ha,Xt hr hx (hs b)];rfl),hr2 b]
 show aH (aW (L b) (i+len r) tV) _=_
 rw[dV (hs2 b).cons.1]
 show aH (dB (L b) (i+len r+1)) _=_
 rw[hx2 b]
 show aH (aW (L b) (i+len r+1+len x) aT) _=_
 rw[dV (hs3 b).one.1]
 show Except.ok (node 24 i [r',x'],i+len r+1+len x+1)=_
 congr 2;omega
theorem aHp(a a':Int)(p:T)(hp:V .part p):CL inr lab (.mk 25 0 a e0 [.mk 2 0 a' e0 [p]]):=by
 have hlen:len (.mk 25 0 a e0 [.mk 2 0 a' e0 [p]])=len p+2:=by unfold len;rw[Ut];simp
 refine sW aB λL i hst=>?_;have hs:∀ b,cW (L b) i (W Ch::(aL b p++[O aT])):=λb=>by have:=hst b;rwa[Ut]at this
 have hs2:∀ b,cW (L b) (i+1+len p) [O aT]:=λb=>by have:=(cW.app (hs b).cons.2.1).2;rwa[eV]at this
 obtain⟨p',hp1,hp2⟩:=aFh hp L (i+1) (λb=>(cW.app (hs b).cons.2.1).1);obtain⟨_,x,hx,_,hk⟩:=Ys hp;refine⟨node 25 i [node 2 ((i+1:Nat):Int).toNat [p']],bY (bG (bY (bG hp1 bQ)) bQ),λb=>⟨_,(hs b).cons.1,?_,.inl ?_,pF _ aE _ _,pJ _ aE _,λf label hf _=>?_⟩⟩
 ·obtain⟨r,hr⟩:=hx b;have:=(cW.app (hs b).cons.2.1).1;rw[hr]at this;exact nL this.cons.1 (λh=>by rw[hk (.inr (Ke hp))]at h;exact absurd h aD)
 ·obtain⟨r,hr⟩:=hx b;have:=(cW.app (hs b).cons.2.1).1;rw[hr]at this;exact eD this.cons.1 (λh=>by rw[hk (.inr (Ke hp))]at h;exact absurd h aD)
 ·rw[atJ];unfold GL;rw[show qY (L b) (dB (L b)) (i+1)=_ from hp2 (λb=>by rw[(hs2 b).one.1];decide +kernel) b]
  show some (bK (L b) (node 25 i [node 2 (i+1) [p']]) (i+1+len p))=_
  unfold bK;rw[dV (hs2 b).one.1]
  show some (Except.ok (node 25 i [node 2 (i+1) [p']],i+1+len p+1))=_
  rw[hlen]
  congr 3;omega
theorem aIr(a:Int):CL inr lab (.mk 26 0 a e0 []):=by
 have hlen:len (.mk 26 0 a e0 [])=2:=by unfold len;rw[UB];rfl
 refine sW aB λL i hst=>?_;have hs:∀ b,cW (L b) i [W lM,O aT]:=λb=>by have:=hst b;rwa[UB]at this
 refine⟨node 26 i [],bY bQ,λb=>?_⟩;have h1:=(hs b).cons;have h2:=h1.2.1.one;refine⟨_,h1.1,by rw[eZ h2.1];decide +kernel,.inl (eD h2.1 (λ_=>by decide +kernel)),pF _ aE _ _,pJ _ aE _,λf label hf _=>?_⟩;rw[PR];unfold Dm;rw[aC DZ];exact Jt
theorem aHI(a:Int)(x:T)(hx:V .expr x):CL inr lab (.mk 26 0 a e0 [x]):=by
 have hlen:len (.mk 26 0 a e0 [x])=len x+4:=by unfold len;rw[Uk];simp[bI,aR]
 refine sW aB λL i hst=>?_;have hs:∀ b,cW (L b) i (W lM::(bI [aL b x]++[O aT])):=λb=>by have:=hst b;rwa[Uk]at this
 obtain⟨x',hx1,hx2,hx3,hs2⟩:=Un L (i+1) hx (λb=>(hs b).cons.2.1);refine⟨node 26 i [x'],bY (bG hx1 bQ),λb=>?_⟩;have h1:=(hs b).cons;refine⟨_,h1.1,by rw[eZ (hx3 b)];decide +kernel,.inl ?_,pF _ aE _ _,pJ _ aE _,λf label hf _=>?_⟩
 ·refine wY (xJ b hx) (cW.app h1.2.1).1 (x:=O aT) ?_ (λ_=>by decide +kernel);have:=(hs2 b).one.1;rw[eV];exact this
 rw[PR];unfold Dm;rw[aF (by rw[eZ (hx3 b)];decide +kernel),hx2 b]
 show some (bK (L b) (node 26 i [x']) (i+1+(len x+2)))=_
 exact Ih
theorem aHX(a:Int)(w:AAE):CL inr lab (.mk 27 0 a w []):=by
 have hlen:len (.mk 27 0 a w [])=4:=by unfold len;rw[UK];rfl
 refine sW aB λL i hst=>?_;have hs:∀ b,cW (L b) i [W wGO,W Fj,W w,O aT]:=λb=>by have:=hst b;rwa[UK]at this
 refine⟨.mk 27 0 i w [],bY bQ,λb=>?_⟩;have h1:=(hs b).cons;have h2:=h1.2.1.cons;have h3:=h2.2.1.cons;have h4:=h3.2.1.one;refine⟨_,h1.1,by rw[yG h2.1],.inl (eD h2.1 (λh=>absurd h aD)),pF _ aE _ _,pJ _ aE _,λf label hf _=>?_⟩;rw[aFt,yK h2.1 (kH _)]
 show some (yS (L b) i (i+1+1))=_
 unfold yS;rw[qN h3.1]
 show some (bK (L b) _ (i+1+1+1))=_
 unfold bK;rw[dV h4.1,hlen];rfl
theorem aEk(k a:Int)(w:AAE)(hk:k=28\/k=29)(h:w=e0\/Ci w):CL inr lab (.mk k 0 a w []):=by
 have hd:∀ {L:List Tk} {stmt inner:Nat->R T} (a:Nat) (label:AAE) (i:Nat),bL L stmt inner (if k=28 then pM else jO) a label i=some (iQ L k a i):=by
  rcases hk with rfl|rfl
  ·intro L stmt inner a label i;rw[aF rfl];exact aiQ a label i
  ·intro L stmt inner a label i;rw[aC aD];exact abP a label i
 have hw1:eH (if k=28 then pM else jO) [bB,jL]=false:=by rcases hk with rfl|rfl<;>decide +kernel
 have hw2:eH (if k=28 then pM else jO) [fK,uP]=false:=by rcases hk with rfl|rfl<;>decide +kernel
 by_cases hw:w.size=0
 ·have hw0:w=e0:=by
   rcases h with h|h
   ·exact h
   ·obtain⟨⟨d⟩⟩:=w;have:d.length=0:=hw;rw[nN]at this;rw[this];rfl
  subst hw0;have hpr:∀ b,aL b (.mk k 0 a e0 [])=[W (if k=28 then pM else jO),O aT]:=λb=>by rw[MR b k 0 a e0 [] hk,aF hw];rfl
  have hlen:len (.mk k 0 a e0 [])=2:=by unfold len;rw[hpr];rfl
  refine sW aB λL i hst=>?_;have hs:∀ b,cW (L b) i [W (if k=28 then pM else jO),O aT]:=λb=>by have:=hst b;rwa[hpr]at this
  refine⟨.mk k 0 i e0 [],bY bQ,λb=>?_⟩;have h1:=(hs b).cons;have h2:=h1.2.1.one;refine⟨_,h1.1,by rw[eZ h2.1];decide +kernel,.inl (eD h2.1 (λ_=>by decide +kernel)),pF _ hw1 _ _,pJ _ hw2 _,λf label hf _=>?_⟩;rw[hd];unfold iQ;rw[aC (by unfold isName;rw[h2.1];decide)];exact Jt
 ·have hpr:∀ b,aL b (.mk k 0 a w [])=[W (if k=28 then pM else jO),W w,O aT]:=λb=>by rw[MR b k 0 a w [] hk,aC hw];rfl
  have hlen:len (.mk k 0 a w [])=3:=by unfold len;rw[hpr];rfl
  refine sW aB λL i hst=>?_;have hs:∀ b,cW (L b) i [W (if k=28 then pM else jO),W w,O aT]:=λb=>by have:=hst b;rwa[hpr]at this
  refine⟨.mk k 0 i w [],bY bQ,λb=>?_⟩;have h1:=(hs b).cons;have h2:=h1.2.1.cons;have h3:=h2.2.1.one;refine⟨_,h1.1,by rw[yG h2.1],.inl (eD h2.1 (λh=>absurd h (show ¬ (1:Int)=6 by decide))),pF _ hw1 _ _,pJ _ hw2 _,λf label hf _=>?_⟩;rw[hd];unfold iQ;rw[aF (CJ h2.1),qN h2.1]
  show some (bK (L b) _ (i+1+1))=_
  unfold bK;rw[dV h3.1,hlen];rfl
theorem aIn(a:Int):CL inr lab (.mk 30 0 a e0 []):=by
 have hlen:len (.mk 30 0 a e0 [])=2:=by unfold len;rw[Ur];rfl
 refine sW aB λL i hst=>?_;have hs:∀ b,cW (L b) i [W DN,O aT]:=λb=>by have:=hst b;rwa[Ur]at this
 refine⟨node 30 i [],bY bQ,λb=>?_⟩;have h1:=(hs b).cons;have h2:=h1.2.1.one;refine⟨_,h1.1,by rw[eZ h2.1];decide +kernel,.inl (eD h2.1 (λ_=>by decide +kernel)),pF _ aE _ _,pJ _ aE _,λf label hf _=>?_⟩;rw[awB];exact Jt
end
def Vy{c:T}(h:V .cond c)(b:Bool):∃ w s,aL b c=W w::s:=by
 cases h with
 | cond0 a w h=>exact⟨_,_,Jb b _ _ _⟩
 | cond1 a w x h hx=>exact⟨_,_,EX b _ _ _ _⟩
def arE{c:T}(h:V .cond c)(L:Bool->List Tk)(i:Nat)(hst:∀ b,cW (L b) i (aL b c)):∃ c',dM c' c=true/\∀ b arg,(c.l=[]->arg=false\/cD (L b) (i+len c) [cJ]=false)->(c.l≠[]->arg=true)->qL (L b) arg i=.ok (c',i+len c):=by
 cases h with
 | cond0 a w h=>
  have hlen:len (.mk 12 0 a w [])=1:=by unfold len;rw[Jb];rfl
  refine⟨.mk 12 0 i w [],bY bQ,λb arg h1 _=>?_⟩;have hs:cW (L b) i [W w]:=by have:=hst b;rwa[Jb]at this
  have h1:=h1 rfl;rw[hlen]at h1 ⊢;unfold qL;rw[qN hs.one.1]
  show (if _ then _ else _)=_
  rw[aC (by rcases h1 with h|h<;>(rw[h];simp))]
 | cond1 a w x h hx=>
  have hlen:len (.mk 12 0 a w [x])=4:=by
   unfold len;rw[EX];obtain⟨a,w,rfl,_⟩:=hx;rw[sX];rfl
  obtain⟨a',w',rfl,hw'⟩:=hx;refine⟨.mk 12 0 i w [.mk 11 0 ((i+1+1:Nat):Int) w' []],bY (bG (bY bQ) bQ),λb arg _ h2=>?_⟩;have hs:cW (L b) i [W w,O cJ,W w',O dA]:=by have:=hst b;rw[EX,sX]at this;exact this
  have g1:=hs.cons;have g2:=g1.2.1.cons;have g3:=g2.2.1.cons;have g4:=g3.2.1.one;unfold qL;rw[qN g1.1]
  show (if _ then _ else _)=_
  rw[h2 (by simp[T.l]),aF (by rw[eZ g2.1];decide +kernel)];unfold mI;rw[qN g3.1]
  show aH (aW (L b) (i+1+1+1) dA) _=_
  rw[dV g4.1,hlen];rfl
def aAz(inr lab:Bool)(k a:Int)(c:T)(hk:k=34\/k=35)(hc:V .cond c):CL inr lab (.mk k 0 a e0 [c]):=by
 have hd:∀ {L:List Tk} {stmt inner:Nat->R T} (a:Nat) (label:AAE) (i:Nat),bL L stmt inner (if k=34 then rD else rC) a label i=some (aH (qL L true i) λc j=>bK L (node k a [c]) j):=by
  rcases hk with rfl|rfl
  ·intro L stmt inner a label i;rw[aF rfl];exact ahJ a label i
  ·intro L stmt inner a label i;rw[aC aD];exact afU a label i
 have hlen:len (.mk k 0 a e0 [c])=len c+2:=by unfold len;rw[JN _ _ _ _ _ _ hk];simp
 refine sW aB λL i hst=>?_;have hs:∀ b,cW (L b) i (W (if k=34 then rD else rC)::(aL b c++[O aT])):=λb=>by have:=hst b;rwa[JN _ _ _ _ _ _ hk]at this
 have hs2:∀ b,cW (L b) (i+1+len c) [O aT]:=λb=>by have:=(cW.app (hs b).cons.2.1).2;rwa[eV]at this
 obtain⟨c',hc1,hc2⟩:=arE hc L (i+1) (λb=>(cW.app (hs b).cons.2.1).1);refine⟨node k i [c'],bY (bG hc1 bQ),λb=>?_⟩;obtain⟨w,s,hw⟩:=Vy hc b;have ht:tok (L b) (i+1)=W w:=by have:=(cW.app (hs b).cons.2.1).1;rw[hw]at this;exact this.cons.1
 refine⟨_,(hs b).cons.1,by rw[yG ht],.inl (eD ht (λh=>absurd h (show ¬ (1:Int)=6 by decide))),pF _ pX _ _,pJ _ pX _,λf label hf _=>?_⟩;rw[hd,hc2 b true (λ_=>.inr (by rw[eZ (hs2 b).one.1];decide +kernel)) (λ_=>rfl)]
 show some (bK (L b) (node k i [c']) (i+1+len c))=_
 exact Ih
def aFa(inr lab:Bool)(a:Int)(w:AAE)(x y:T)(hx:¬ isNone x->V .expr x)(hxr:¬ isNone x->isRef x)(hy:¬ isNone y->V .expr y)(hyr:¬ isNone y->isRef y):CL inr lab (.mk 36 0 a w [x,y]):=by
 have hlen:len (.mk 36 0 a w [x,y])=3+(opt GN x (aL false x)).length+(opt JJ y (aL false y)).length:=by unfold len;rw[MN];simp;omega
 refine sW aB λL i hst=>?_;have hs:∀ b,cW (L b) i (W (kw b a iR rL)::W w::(opt GN x (aL b x)++(opt JJ y (aL b y)++[O aT]))):=λb=>by have:=hst b;rwa[MN]at this
 obtain⟨x',hx1,hx2,hs2⟩:=MH L (i+1+1) hx hxr (λb=>(hs b).cons.2.1.cons.2.1) (λb=>FT.opt aE (FT.cons aE));obtain⟨y',hy1,hy2,hs3⟩:=MH L _ hy hyr hs2 (λb=>FT.cons aE);refine⟨.mk 36 0 i w [x',y'],bY (bG hx1 (bG hy1 bQ)),λb=>?_⟩;have h1:=(hs b).cons;have h2:=h1.2.1.cons;have hkw:eH (kw b a iR rL) [bB,jL]=false/\eH (kw b a iR rL) [fK,uP]=false:=by rcases KL b a iR rL with e|e<;>(rw[e];decide +kernel)
 refine⟨_,h1.1,by rw[yG h2.1],.inl (eD h2.1 (λh=>absurd h (show ¬ (1:Int)=6 by decide))),pF _ hkw.1 _ _,pJ _ hkw.2 _,λf label hf _=>?_⟩;rw[Xg (KL b a iR rL)];unfold pU;rw[qN h2.1]
 show some (aH (nP (L b) GN (i+1+1)) _)=_
 rw[hx2 b]
 show some (aH (nP (L b) JJ _) _)=_
 rw[hy2 b]
 show some (bK (L b) _ _)=_
 unfold bK;rw[dV (hs3 b).one.1,hlen]
 exact wO
def aHk(inr lab:Bool)(a:Int)(r x:T)(hr:V .expr r)(h:isRef r)(hx:¬ isNone x->V .expr x)(hxr:¬ isNone x->isRef x):CL inr lab (.mk 37 0 a e0 [r,x]):=by
 have hlen:len (.mk 37 0 a e0 [r,x])=2+len r+(opt JJ x (aL false x)).length:=by unfold len;rw[UI];simp;omega
 refine sW aB λL i hst=>?_;have hs:∀ b,cW (L b) i (W CA::(aL b r++(opt JJ x (aL b x)++[O aT]))):=λb=>by have:=hst b;rwa[UI]at this
 obtain⟨r',hr1,hr2,hs2⟩:=acB L (i+1) hr h (λb=>(hs b).cons.2.1) (λb=>FT.opt aE (FT.cons aE));obtain⟨x',hx1,hx2,hs3⟩:=MH L _ hx hxr hs2 (λb=>FT.cons aE);refine⟨node 37 i [r',x'],bY (bG hr1 (bG hx1 bQ)),λb=>?_⟩;have h1:=(hs b).cons;obtain⟨w,s,hw⟩:=JB hr h b;have ht:tok (L b) (i+1)=W w:=by have:=(cW.app h1.2.1).1;rw[hw]at this;exact this.cons.1
 refine⟨_,h1.1,by rw[yG ht],.inl (eD ht (λh=>absurd h (show ¬ (1:Int)=6 by decide))),pF _ aE _ _,pJ _ aE _,λf label hf _=>?_⟩;rw[atZ];unfold GD;rw[hr2 b]
 show some (aH (nP (L b) JJ _) _)=_
 exact Pf
def azK(inr lab:Bool)(a:Int)(w:AAE)(x:T)(hx:V .expr x):CL inr lab (.mk 46 0 a w [x]):=by
 have hlen:len (.mk 46 0 a w [x])=len x+9:=by unfold len;rw[JX _ _ _ _ _ (uT hx)];simp[bI,aR]
 refine sW aB λL i hst=>?_;have hs:∀ b,cW (L b) i (W sC::W gR::O cJ::W w::O dA::W oW::(bI [aL b x]++[O aT])):=λb=>by have:=hst b;rwa[JX _ _ _ _ _ (uT hx)]at this
 have hs1:∀ b,rT (L b) (i+1)=.ok (w,i+1+4)/\cW (L b) (i+1+4) (W oW::(bI [aL b x]++[O aT])):=λb=>VM (hs b).cons.2.1
 obtain⟨x',hx1,hx2,_,hs3⟩:=Un L (i+1+4+1) hx (λb=>(hs1 b).2.cons.2.1);refine⟨.mk 46 0 i w [x'],bY (bG hx1 bQ),λb=>?_⟩;have h1:=(hs b).cons;have ht:=h1.2.1.cons.1;refine⟨_,h1.1,by rw[yG ht],.inl (eD ht (λh=>absurd h (show ¬ (1:Int)=6 by decide))),pF _ aE _ _,pJ _ aE _,λf label hf _=>?_⟩;rw[ahM];unfold uB;rw[(hs1 b).1]
 show some (aH (fV (L b) (i+1+4) [oW]) _)=_
 rw[yK (hs1 b).2.cons.1 (kH _)]
 show some (aH (fB (L b) (i+1+4+1)) _)=_
 exact Pf
def aCA{w:AAE}{x:T}(h:V .expr x)(b:Bool):opt w x (aL b x)=W w::bI [aL b x]:=by unfold opt;rw[aC (uT h)]
def aLy(inr lab:Bool)(k a:Int)(w:AAE)(r x:T)(hk:k=43\/k=44\/k=45)(hr:V .expr r)(hrr:isRef r)(hx:¬ isNone x->V .expr x)(h44:k=44->¬ isNone x):CL inr lab (.mk k 0 a w [r,x]):=by
 have hlen:len (.mk k 0 a w [r,x])=6+(opt (arQ k) r (aL false r)).length+(opt (avO k) x (aL false x)).length:=by unfold len;rw[aoH _ _ _ _ _ _ _ hk];simp;omega
 refine sW aB λL i hst=>?_;have hs:∀ b,cW (L b) i (W (rdW k)::W gR::O cJ::W w::O dA::(opt (arQ k) r (aL b r)++(opt (avO k) x (aL b x)++[O aT]))):=λb=>by have:=hst b;rwa[aoH _ _ _ _ _ _ _ hk]at this
 have hs1:∀ b,rT (L b) (i+1)=.ok (w,i+1+4)/\cW (L b) (i+1+4) (opt (arQ k) r (aL b r)++(opt (avO k) x (aL b x)++[O aT])):=λb=>VM (hs b).cons.2.1
 obtain⟨r',hr1,hr2,hs2⟩:=ZW L (i+1+4) hr hrr (λb=>(hs1 b).2) (λb=>FT.opt xC (FT.cons xC));generalize hj:i+1+4+(opt (arQ k) r (aL false r)).length=j at hr2 hs2;have hkw:eH (rdW k) [bB,jL]=false/\eH (rdW k) [fK,uP]=false:=by rcases hk with rfl|rfl|rfl<;>decide +kernel
 obtain⟨x',hx1,hx2,hs3⟩:=US L j hx hs2 (λb=>FT.cons xC);refine⟨.mk k 0 i w [r',x'],bY (bG hr1 (bG hx1 bQ)),λb=>?_⟩;have h1:=(hs b).cons;have ht:=h1.2.1.cons.1;refine⟨_,h1.1,by rw[yG ht],.inl (eD ht (λh=>absurd h (show ¬ (1:Int)=6 by decide))),pF _ hkw.1 _ _,pJ _ hkw.2 _,λf label hf _=>?_⟩;rw[hlen,show i+(6+(opt (arQ k) r (aL false r)).length+(opt (avO k) x (aL false x)).length)=j+(opt (avO k) x (aL false x)).length+1 from by omega]
 rcases hk with rfl|rfl|rfl
 ·rw[show rdW 43=Bj from rfl,arU];unfold GF;rw[(hs1 b).1]
  show some (aH (fH (L b) yV (i+1+4)) _)=_
  rw[show fH (L b) yV (i+1+4)=_ from hr2 b]
  exact Qn
 ·rw[show rdW 44=uM from rfl,anQ];have hxe:=hx (h44 rfl);have hs2b:=hs2 b;rw[aCA hxe]at hs2b;have hq:=hx2 b;unfold gL at hq;rw[aF (sS hs2b.cons.1 aE)]at hq;unfold Ab;rw[(hs1 b).1]
  show some (aH (fH (L b) oE (i+1+4)) _)=_
  rw[show fH (L b) oE (i+1+4)=_ from hr2 b]
  show some (aH (fV (L b) j [nJ]) _)=_
  rw[yK hs2b.cons.1 aE]
  show some (aH (fB (L b) (j+1)) _)=_
  rw[hq]
  show some (bK (L b) _ _)=_
  unfold bK;rw[dV (hs3 b).one.1];rfl
 ·rw[show rdW 45=nZ from rfl,abT];unfold sK;rw[(hs1 b).1]
  show some (aH (fH (L b) oE (i+1+4)) _)=_
  rw[show fH (L b) oE (i+1+4)=_ from hr2 b]
  exact Qn
end Px
end
section
namespace Px
open Lx
def YX(L:List Tk)(k:Int)(a:Nat)(item:Nat->R T)(w:AAE)(n:Int)(j1:Nat):R T:=
 aH (if iT L j1 [wQ,rX]then
   aH (aW L (j1+1) cJ) λ_ k1=>aH (eR L 16 item k1) λl k2=>aH (aW L k2 dA) λ_ k3=>
   (if iT L j1 [rX]then aH (aW L k3 cJ) λ_ k4=>aH (eR L 32 (uZ L) k4) λm k5=>aH (aW L k5 dA) λ_ k6=>.ok ((gQ l,gQ m),k6)
    else .ok ((gQ l,none_),k3))
  else .ok ((none_,none_),j1)) λlm j2=>bK L (.mk k n a w [lm.1,lm.2]) j2
def aAd(L:List Tk)(k:Int)(a:Nat)(item:Nat->R T)(w:AAE)(j:Nat):R T:=
 aH (if iT L j [sV]then aH (aW L (j+1) cJ) λ_ j1=>aH (gO L 1 99 j1) λn j2=>aH (aW L j2 dA) λ_ j3=>.ok ((n:Int),j3)else .ok (0,j)) λn j1=>YX L k a item w n j1
def aFU(L:List Tk)(k:Int)(a:Nat)(item:Nat->R T)(i:Nat):jT L k a item i=aH (if iT L i [gR]then rT L i else .ok (e0,i)) λw j=>aAd L k a item w j:=rfl
def aEb(L:Bool->List Tk)(i:Nat){zs:Bool->List Tk}{w:AAE}(hw:w=e0\/Ci w)(hst:∀ b,cW (L b) i ((if w.size=0 then []else [W gR,O cJ,W w,O dA])++zs b))(hz:∀ b,FT (Oe [gR]) (zs b)):∃ lf,lf=(if w.size=0 then []else [W gR,O cJ,W w,O dA]).length/\∀ b,(if iT (L b) i [gR]then rT (L b) i else .ok (e0,i))=.ok (w,i+lf)/\cW (L b) (i+lf) (zs b):=by
 refine⟨_,rfl,λb=>?_⟩;have h:=hst b
 by_cases hs:w.size=0
 ·rw[aF hs]at h ⊢;have h:cW (L b) i (zs b):=h;rw[aC (by rw[Aq (hz b _ _ h)];decide)];refine⟨?_,h⟩
  rcases hw with rfl|hw
  ·rfl
  ·exact absurd hs (by
    intro e
    have:w=⟨#[]⟩:=by
     obtain⟨⟨d⟩⟩:=w
     have:d.length=0:=e
     rw[nN]at this
     rw[this]
    subst this
    exact absurd hw lH)
 ·rw[aC hs]at h ⊢;have h:cW (L b) i (W gR::O cJ::W w::O dA::zs b):=h;rw[aF (sS h.cons.1 (kH _))];exact VM h
def aEw(L:Bool->List Tk)(i:Nat){zs:Bool->List Tk}{n:Int}(h0:0<=n)(h99:n<=99)(hst:∀ b,cW (L b) i ((if n=0 then []else [W sV,O cJ,Nm n,O dA])++zs b))(hz:∀ b,FT (Oe [sV]) (zs b)):∃ lf,lf=(if n=0 then []else [W sV,O cJ,Nm n,O dA]).length/\∀ b,(if iT (L b) i [sV]then aH (aW (L b) (i+1) cJ) λ_ j1=>aH (gO (L b) 1 99 j1) λn j2=>aH (aW (L b) j2 dA) λ_ j3=>.ok ((n:Int),j3)else .ok (0,i))=(.ok (n,i+lf):R Int)/\cW (L b) (i+lf) (zs b):=by
 refine⟨_,rfl,λb=>?_⟩;have h:=hst b
 by_cases hs:n=0
 ·rw[aF hs]at h ⊢;have h:cW (L b) i (zs b):=h;rw[aC (by rw[Aq (hz b _ _ h)];decide),hs];exact⟨rfl,h⟩
 ·rw[aC hs]at h ⊢;have h1:=(show cW (L b) i (W sV::O cJ::Nm n::O dA::zs b)from h).cons;have h2:=h1.2.1.cons;have h3:=h2.2.1.cons;have h4:=h3.2.1.cons;refine⟨?_,h4.2.1⟩;rw[aF (sS h1.1 (kH _)),dV h2.1]
  show aH (gO (L b) 1 99 (i+1+1)) _=_
  rw[LA h3.1 1 99 aB aB aB]
  show aH (aW (L b) (i+1+1+1) dA) _=_
  rw[dV h4.1]
  show Except.ok (((n.toNat:Nat):Int),_)=_
  rw[show ((n.toNat:Nat):Int)=n from by omega];rfl
def itm(k:Int)(L:List Tk)(i:Nat):R T:=if k=38 then yZ L i else dB L i
def aAw{k:Int}{l:List T}(hl:∀ x,x∈l->V .expr x)(hr:k=38->∀ x,x∈l->isRef x):∀ x,x∈l->RdB (itm k) (qD 6) x:=by
 intro x hx L i hst
 by_cases hk:k=38
 ·obtain⟨x',h1,h2⟩:=aBJ (hl x hx) (hr hk x hx) L i hst;refine⟨x',h1,λhS b=>?_⟩
  show itm k (L b) i=_
  unfold itm;rw[aF hk];exact h2 (λb=>aEI (hS b)) b
 ·obtain⟨x',h1,h2⟩:=Gr (hl x hx) L i hst;refine⟨x',h1,λhS b=>?_⟩
  show itm k (L b) i=_
  unfold itm;rw[aC hk];exact h2 hS b
def mid(x y:T)(b:Bool):List Tk:=if y.kind≠10 then W rX::(bI (x.l.map (aL b))++bI (y.l.map (aL b)))else if x.kind≠10 then W wQ::bI (x.l.map (aL b))else []
def ajK{P:Tk->Bool}(h1:P (W rX)=true)(h2:P (W wQ)=true){x y:T}{b:Bool}{zs:List Tk}(hz:FT P zs):FT P (mid x y b++zs):=by
 unfold mid
 exact Sl
section
variable(inr lab:Bool)(k n a:Int)(w:AAE)(x y:T)(hk:k=38\/k=39)(h0:0<=n)(h99:n<=99)(hw:w=e0\/Ci w)
include inr lab k n a w x y hk h0 h99 hw
theorem VP(hmid:∀ (L:Bool->List Tk) (j:Nat),(∀ b,cW (L b) j (mid x y b++[O aT]))->∃ x' y',dM x' x=true/\dM y' y=true/\∀ (a:Nat) (b:Bool),YX (L b) k a (itm k (L b)) w n j=.ok (.mk k n a w [x',y'],j+(mid x y false).length+1)):CL inr lab (.mk k n a w [x,y]):=by
 have hd:∀ {L:List Tk} {stmt inner:Nat->R T} (a:Nat) (label:AAE) (i:Nat),bL L stmt inner (if k=38 then FA else FC) a label i=some (jT L k a (itm k L) i):=by
  rcases hk with rfl|rfl
  ·intro L stmt inner a label i;rw[aF rfl];exact aAY a label i
  ·intro L stmt inner a label i;rw[aC aD];exact aCa a label i
 have hpr:∀ b,aL b (.mk k n a w [x,y])=W (if k=38 then FA else FC)::((if w.size=0 then []else [W gR,O cJ,W w,O dA])++((if n=0 then []else [W sV,O cJ,Nm n,O dA])++(mid x y b++[O aT]))):=λb=>EM b k n a w x y hk
 have hlen:len (.mk k n a w [x,y])=2+(if w.size=0 then []else [W gR,O cJ,W w,O dA]).length+(if n=0 then []else [W sV,O cJ,Nm n,O dA]).length+(mid x y false).length:=by
  unfold len;rw[hpr];simp only[aV,aO,dD];omega
 refine sW aB λL i hst=>?_;have hs:∀ b,cW (L b) i (W (if k=38 then FA else FC)::((if w.size=0 then []else [W gR,O cJ,W w,O dA])++((if n=0 then []else [W sV,O cJ,Nm n,O dA])++(mid x y b++[O aT])))):=λb=>by have:=hst b;rwa[hpr]at this
 obtain⟨lf,hlf,hf⟩:=aEb L (i+1) hw (λb=>(hs b).cons.2.1) (λb=>FT.ite (λ_=>ajK aE aE (FT.cons aE)) (λ_=>FT.cons aE));obtain⟨ls,hls,hsk⟩:=aEw L (i+1+lf) h0 h99 (λb=>(hf b).2) (λb=>ajK aE aE (FT.cons aE));obtain⟨x',y',hx1,hy1,hm⟩:=hmid L (i+1+lf+ls) (λb=>(hsk b).2);rw[<- hlf,<- hls]at hlen;refine⟨.mk k n i w [x',y'],bY (bG hx1 (bG hy1 bQ)),λb=>?_⟩;have hft:FT (λt=>CC [cU,cJ,lI,fT,tV] t) ((if w.size=0 then []else [W gR,O cJ,W w,O dA])++((if n=0 then []else [W sV,O cJ,Nm n,O dA])++(mid x y b++[O aT]))):=
  FT.ite (λ_=>FT.ite (λ_=>ajK aE aE (FT.cons aE)) (λ_=>FT.cons aE)) (λ_=>FT.cons aE)
 have hno:∀ s,s∈[cU,cJ,lI,fT,tV]->(tok (L b) (i+1)).kind=6->(tok (L b) (i+1)).text≠s:=λs hs' h6 e=>by
  have:=Cu (hft _ _ (hs b).cons.2.1);unfold cD at this;rw[h6,e]at this;rw[show eH s [cU,cJ,lI,fT,tV]=true from (eX _ _).2 hs']at this;exact rQ
 refine⟨_,(hs b).cons.1,nL rfl (hno _ aI),.inl (eD rfl (λh=>⟨hno _ aI h,hno _ aI h,hno _ aI h,hno _ aI h⟩)),pF _ pX _ _,pJ _ pX _,λf label hf' _=>?_⟩;rw[hd,aFU,(hf b).1]
 show some (aAd (L b) k i (itm k (L b)) w (i+1+lf))=_
 unfold aAd;rw[(hsk b).1]
 show some (YX (L b) k i (itm k (L b)) w n (i+1+lf+ls))=_
 rw[hm i b,hlen]
 congr 3;omega
theorem awI(hx:isNone x)(hy:isNone y):CL inr lab (.mk k n a w [x,y]):=by
 refine VP inr lab k n a w x y hk h0 h99 hw λL j hst=>⟨none_,none_,wT hx,wT hy,λa b=>?_⟩
 have e:∀ b,mid x y b=[]:=λb=>by obtain⟨_,rfl⟩:=hx;obtain⟨_,rfl⟩:=hy;rfl
 have ht:tok (L b) j=O aT:=by have:=hst b;rw[e]at this;exact this.one.1
 unfold YX;rw[aC (by rw[apK ht];decide)]
 show bK (L b) _ j=_
 unfold bK;rw[dV ht,e];rfl
end
def aaO{l l':List T}(h:dK l' l=true)(a:Int):dM (gQ l') (.mk 40 0 a e0 l)=true:=CY h
def awK(inr lab:Bool)(k n a a':Int)(w:AAE)(l:List T)(y:T)(hk:k=38\/k=39)(h0:0<=n)(h99:n<=99)(hw:w=e0\/Ci w)(h1:1<=l.length)(h16:l.length<=16)(hl:∀ x,x∈l->V .expr x)(hr:k=38->∀ x,x∈l->isRef x)(hy:isNone y):CL inr lab (.mk k n a w [.mk 40 0 a' e0 l,y]):=by
 refine VP inr lab k n a w _ y hk h0 h99 hw λL j hst=>?_;have hne:l≠[]:=by intro e;rw[e]at h1;simp at h1
 have e:∀ b,mid (.mk 40 0 a' e0 l) y b=W wQ::bI (l.map (aL b)):=λb=>by obtain⟨_,rfl⟩:=hy;rfl
 have hs:∀ b,cW (L b) j (W wQ::(bI (l.map (aL b))++[O aT])):=λb=>by have:=hst b;rwa[e]at this
 obtain⟨l',hl1,hl2,hl3,hl4,hs2⟩:=JS L (j+1) (itm k) (qD 6) aE aE hne (aAw hl hr) (λb=>(hs b).cons.2.1);refine⟨gQ l',none_,aaO hl1 _,wT hy,λa b=>?_⟩;have ht:=(hs b).cons.1;unfold YX;rw[aF (sS ht aE),dV (hl2 b)]
 show aH (aH (eR (L b) 16 (itm k (L b)) (j+1+1)) _) _=_
 rw[hl3 b 16 h16]
 show aH (aH (aW (L b) _ dA) _) _=_
 rw[dV (hl4 b)]
 show aH (if _ then _ else _) _=_
 rw[aC (by rw[adF ht aE];decide)]
 show bK (L b) _ _=_
 unfold bK;rw[dV (hs2 b).one.1]
 show Except.ok (_,_)=_
 rw[e,aV,pY]
 congr 2;omega
def asV(inr lab:Bool)(k n a a' a2:Int)(w:AAE)(l m:List T)(hk:k=38\/k=39)(h0:0<=n)(h99:n<=99)(hw:w=e0\/Ci w)(h1:1<=l.length)(h16:l.length<=16)(hl:∀ x,x∈l->V .expr x)(hr:k=38->∀ x,x∈l->isRef x)(h2:1<=m.length)(h32:m.length<=32)(hm:∀ x,x∈m->V .fmt x):CL inr lab (.mk k n a w [.mk 40 0 a' e0 l,.mk 40 0 a2 e0 m]):=by
 refine VP inr lab k n a w _ _ hk h0 h99 hw λL j hst=>?_;have hne:l≠[]:=by intro e;rw[e]at h1;simp at h1
 have hne2:m≠[]:=by intro e;rw[e]at h2;simp at h2
 have e:∀ b,mid (.mk 40 0 a' e0 l) (.mk 40 0 a2 e0 m) b=W rX::(bI (l.map (aL b))++bI (m.map (aL b))):=λb=>rfl
 have hs:∀ b,cW (L b) j (W rX::(bI (l.map (aL b))++(bI (m.map (aL b))++[O aT]))):=λb=>by have:=hst b;rw[e]at this;simpa using this
 obtain⟨l',hl1,hl2,hl3,hl4,hs2⟩:=JS L (j+1) (itm k) (qD 6) aE aE hne (aAw hl hr) (λb=>(hs b).cons.2.1);obtain⟨m',hm1,hm2,hm3,hm4,hs3⟩:=JS L _ uZ (CC [cJ]) aE aE hne2 (λx hx=>aIo (hm x hx)) hs2;refine⟨gQ l',gQ m',aaO hl1 _,aaO hm1 _,λa b=>?_⟩;have ht:=(hs b).cons.1;unfold YX;rw[aF (sS ht aE),dV (hl2 b)]
 show aH (aH (eR (L b) 16 (itm k (L b)) (j+1+1)) _) _=_
 rw[hl3 b 16 h16]
 show aH (aH (aW (L b) _ dA) _) _=_
 rw[dV (hl4 b)]
 show aH (if _ then _ else _) _=_
 rw[aF (sS ht aE),dV (hm2 b)]
 show aH (aH (eR (L b) 32 (uZ (L b)) _) _) _=_
 rw[hm3 b 32 h32]
 show aH (aH (aW (L b) _ dA) _) _=_
 rw[dV (hm4 b)]
 show bK (L b) _ _=_
 unfold bK;rw[dV (hs3 b).one.1]
 show Except.ok (_,_)=_
 rw[e,aV,aO,pY,pY]
 congr 2;omega
def aEY{t:T}(h:V .item t)(b:Bool):aL b t≠[]:=by
 cases h with
 | item n a x bs aSq h0 h99 hx hxs hi hb hbs hbv has hav=>
  rw[LK];intro e;simp only[List.append_eq_nil_iff]at e
  have:=e.2.1
  split at this
  ·exact absurd this (FV _ _)
  ·rename_i hk
   rcases hx with hw|⟨a',its,rfl,_⟩
   ·obtain⟨a,w,rfl,_⟩:=hw;rw[sX]at this;exact absurd this (FV _ _)
   ·exact absurd rfl hk
def aGw{t:T}(h:V .item t):RdB IQ SI t:=by
 intro L i hst;obtain⟨t',h1,h2⟩:=(aHE h:RdN mU SI t) L (len t) (aG _) i (λp=>hst p.1.1);refine⟨t',h1,λhS b=>h2 (λp=>hS p.1.1) (fu b ((L b).length+1) ?_)⟩;have:=(hst b).fit (aEY h b);rw[eV]at this;omega
def aLj{s a b c d e:AAE}(h:s∈[a,b,c]):s∈[a,b,c,d,e]:=by
 simp only[bO,List.not_mem_nil,or_false]at h ⊢
 rcases h with h|h|h
 ·exact .inl h
 ·exact .inr (.inl h)
 ·exact .inr (.inr (.inl h))
def OE{t:T}(h:V .item t){b:Bool}{L:List Tk}{i:Nat}{zs:List Tk}(hst:cW L (i+1) (aL b t++zs))(hz:FT (CC [lI,fT,tV,cU,cJ]) zs):eF L i=false/\cD L (i+1) [cU]=false:=by
 have hsub:∀ {j:Nat} (s:AAE),s∈[lI,fT,tV,cU,cJ]->CC [lI,fT,tV,cU,cJ] (tok L j)=true->(tok L j).kind=6->(tok L j).text≠s:=λs hs hn h6 e=>by
  have:=Cu hn;unfold cD at this;rw[h6,e,show eH s [lI,fT,tV,cU,cJ]=true from (eX _ _).2 hs]at this;exact rQ
 cases h with
 | item n a x bs aSq h0 h99 hx hxs hi hb hbs hbv has hav=>
  rw[LK,bT]at hst
  by_cases hn:n=0
  ·rw[aF hn]at hst;have hst:cW L (i+1) ((if x.kind=40 then bI (x.l.map (aL b))else aL b x)++((if bs.l=[]then []else bI (bs.l.map (aL b)))++(aSq.map (aL b)).flatten)++zs):=hst
   rcases hx with hw|⟨a',its,rfl,hne⟩
   ·rw[aC (Oa hw)]at hst;obtain⟨a1,w1,rfl,_⟩:=hw;rw[sX]at hst;have ht:=hst.cons.1;exact⟨eD ht (λh=>absurd h (show ¬ (1:Int)=6 by decide)),yG ht _⟩
   ·rw[aF (show (T.mk 40 0 a' e0 its).kind=40 from rfl)]at hst;have hst:cW L (i+1) (bI (its.map (aL b))++((if bs.l=[]then []else bI (bs.l.map (aL b)))++(aSq.map (aL b)).flatten)++zs):=hst;rw[bT]at hst;obtain⟨g1,g2⟩:=cW.app hst;have hbal:nW (aR (its.map (aL b))):=nW.aR (dU λy hy=>azA b (hi rfl y hy));have hlp:tok L (i+1)=O cJ:=g1.cons.1;rw[show (bI (its.map (aL b))).length=(aR (its.map (aL b))).length+2 by simp[bI]]at g2;have hft:FT (CC [lI,fT,tV]) (((if bs.l=[]then []else bI (bs.l.map (aL b)))++(aSq.map (aL b)).flatten)++zs):=by
     rw[bT];refine FT.ite (λ_=>?_) (λ_=>FT.cons aE)
     cases aSq with
     | nil=>
      intro L' j hj;have:=hz L' j hj;unfold CC at this ⊢
      cases hh:((tok L' j).kind==6&&eH (tok L' j).text [lI,fT,tV]) with
      | false=>rfl
      | true=>
       simp only[bA]at hh
       rw[hh.1,show eH (tok L' j).text [lI,fT,tV,cU,cJ]=true from (eX _ _).2 (aLj ((eX _ _).1 hh.2))]at this;exact this
     | cons y r=>
      obtain⟨w2,s2,hw2⟩:=Cr (hav y (eW ..)) b
      show FT _ ((aL b y++(r.map (aL b)).flatten)++zs)
      rw[hw2];exact FT.cons (by simp[CC,W])
    have hq:=hft _ _ g2;refine⟨wY hbal g1 rfl (λh6=>?_),by rw[eZ hlp];decide +kernel⟩;have hk:∀ s,s∈[lI,fT,tV]->(tok L (i+1+((aR (its.map (aL b))).length+2))).text≠s:=λs hs e=>by
     have:=Cu hq;unfold cD at this;rw[show (tok L (i+1+((aR (its.map (aL b))).length+2))).kind=6 from h6,e,show eH s [lI,fT,tV]=true from (eX _ _).2 hs]at this;exact rQ
    exact⟨hk _ aI,hk _ aI,hk _ aI⟩
  ·rw[aC hn]at hst;have ht:tok L (i+1)=Nm n:=hst.cons.1;exact⟨eD ht (λh=>absurd h (show ¬ (2:Int)=6 by decide)),nL ht (λh=>absurd h (show ¬ (2:Int)=6 by decide))⟩
def arX(lab:Bool)(a:Int)(l:List T)(h1:1<=l.length)(h60:l.length<=60)(hl:∀ x,x∈l->V .item x):CL false lab (.mk 47 0 a e0 l):=by
 have hlen:len (.mk 47 0 a e0 l)=(aR (l.map (aL false))).length+2:=by unfold len;rw[Gg];simp
 refine sW aB λL i hst=>?_;have hne:l≠[]:=by intro e;rw[e]at h1;simp at h1
 have hs:∀ b,cW (L b) i (W (kw b a fK uP)::(aR (l.map (aL b))++[O aT])):=λb=>by have:=hst b;rwa[Gg]at this
 have hs2:∀ b,cW (L b) (i+1+(aR (l.map (aL false))).length) [O aT]:=λb=>by have:=(cW.app (hs b).cons.2.1).2;rwa[aBC]at this
 obtain⟨l',hl1,hl2⟩:=abG (λb=>b) L (λb=>IQ (L b)) SI aE l hne (λx hx=>aGw (hl x hx) L) (i+1) (λb=>(cW.app (hs b).cons.2.1).1);refine⟨node 47 i l',bY hl1,λb=>?_⟩;have hkw:=KL b a fK uP;have hpd:eH (kw b a fK uP) [bB,jL]=false:=by rcases hkw with e|e<;>(rw[e];decide +kernel)
 have hbf:eF (L b) i=false/\cD (L b) (i+1) [cU]=false:=by
  cases l with
  | nil=>exact absurd rfl hne
  | cons x r=>
   have hx:=hl x (eW ..);have h3:=(hs b).cons.2.1
   cases r with
   | nil=>exact OE hx (zs:=[O aT]) h3 (FT.cons aE)
   | cons y r=>exact OE hx (zs:=O jS::aR ((y::r).map (aL b))++[O aT]) (by
    have h4:cW (L b) (i+1) ((aL b x++O jS::aR ((y::r).map (aL b)))++[O aT]):=h3
    rwa[bT]at h4) (FT.cons aE)
 refine⟨_,(hs b).cons.1,hbf.2,.inl hbf.1,pF _ hpd _ _,λ_=>rfl,λf label hf _=>?_⟩;rw[abA hkw];unfold sM;rw[show eR (L b) 60 (IQ (L b)) (i+1)=_ from hl2 (λb=>⟨by rw[(hs2 b).one.1];decide +kernel,by rw[eZ (hs2 b).one.1];decide +kernel⟩) b 60 h60]
 show some (bK (L b) _ _)=_
 exact Ih
end Px
end
section
namespace Px
open Lx
def Vf(L:List Tk)(stmt:Nat->R T)(label:AAE)(f:Nat)(acc:List T)(i:Nat):jE L stmt label (f+1) acc i =
 if keyword L i [sO]then aH (BP L label i) λ_ j=>.ok (acc,j)else aH (stmt i) λx j=>jE L stmt label f (acc++[x]) j:=by conv=>lhs;unfold jE
def Iu{L:List Tk}{i:Nat}{w:AAE}(hw:tok L i=W w)(ha:eF L i=false)(hc:cD L (i+1) [cU]=false):keyword L i [w]=true:=by
 unfold keyword;rw[sS hw (kH w),ha,VF hc];rfl
def Ef{L:List Tk}{i:Nat}{w:AAE}(hw:tok L i=W w){s:AAE}(hs:eH w [s]=false):keyword L i [s]=false:=wS (adF hw hs)
section
variable{L:List Tk}{i:Nat}{zs:List Tk}(h:cW L i (W sO::O aT::zs))
include L i zs h
theorem aoT(label:AAE):BP L label i=.ok ((),i+2)/\cW L (i+2) zs:=by
 have h1:=h.cons;have h2:=h1.2.1.cons;refine⟨?_,h2.2.1⟩;unfold BP;rw[yK h1.1 (kH _)]
 show aW L (if label.size≠0/\iT L (i+1) [label]=true then i+1+1 else i+1) aT=_
 rw[aC (by rw[apK h2.1];simp),dV h2.1]
theorem agM:keyword L i [sO]=true:=by
 have h1:=h.cons;have h2:=h1.2.1.cons;exact Iu h1.1 (eD h2.1 (λ_=>by decide +kernel)) DZ
end
def aIb(L:Bool->List Tk){zs:Bool->List Tk}:∀ (g:List T),(∀ x,x∈g->V (.st false) x/\CS false x)->∀ i,(∀ b,cW (L b) i ((g.map (aL b)).flatten++W sO::O aT::zs b))->∃ g',dK g' g=true/\∀ f,((g.map (aL false)).flatten).length<=f->∀ b label q acc,g.length<q->jE (L b) (cH (L b) (jG (L b) f) false) label q acc i=.ok (acc++g',i+((g.map (aL false)).flatten).length+2):=by
 intro g
 induction g with
 | nil=>
  intro _ i hst;refine⟨[],bQ,λf _ b label q acc hq=>?_⟩;obtain⟨q,rfl⟩:∃ m,q=m+1:=⟨q - 1,by simp at hq;omega⟩
  have hs:cW (L b) i (W sO::O aT::zs b):=hst b;rw[Vf,aF (agM hs),(aoT hs label).1]
  simp[aH]
 | cons x r ih=>
  intro hg i hst;have hx:=hg x (eW ..);have hst:∀ b,cW (L b) i (aL b x++((r.map (aL b)).flatten++W sO::O aT::zs b)):=λb=>by
   have:cW (L b) i ((aL b x++(r.map (aL b)).flatten)++W sO::O aT::zs b):=hst b
   rwa[bT]at this
  have hrest:∀ b,cW (L b) (i+len x) ((r.map (aL b)).flatten++W sO::O aT::zs b):=λb=>by
   exact GX
  obtain⟨x',hx1,hx2⟩:=hx.2 L i (λb=>(cW.app (hst b)).1);obtain⟨r',hr1,hr2⟩:=ih (λy hy=>hg y (jZ _ hy)) (i+len x) hrest;have hlen:(((x::r).map (aL false)).flatten).length=len x+((r.map (aL false)).flatten).length:=by
   show (aL false x++(r.map (aL false)).flatten).length=_
   rw[aO];rfl
  have hnext:∀ b,keyword (L b) (i+len x) [qK]=false:=λb=>by
   cases r with
   | nil=>exact Ef (show tok (L b) (i+len x)=W sO from (hrest b).cons.1) aE
   | cons y r=>
    have h3:cW (L b) (i+len x) ((aL b y++(r.map (aL b)).flatten)++W sO::O aT::zs b):=hrest b;rw[bT]at h3;exact stf (hg y aI).1 (cW.app h3).1 qK (.inr (.inl rfl))
  refine⟨x'::r',bG hx1 hr1,λf hf b label q acc hq=>?_⟩;rw[hlen]at hf ⊢;obtain⟨q,rfl⟩:∃ m,q=m+1:=⟨q - 1,by simp at hq;omega⟩
  rw[Vf,aC (by rw[stf hx.1 (cW.app (hst b)).1 sO (.inl rfl)];decide),hx2 f aB (λ_=>hnext) b]
  show jE (L b) _ label q (acc++[x']) (i+len x)=_
  rw[hr2 f aB b label q (acc++[x']) (by simp at hq;omega)];rw[bT]
  show Except.ok (acc++([x']++r'),_)=Except.ok (acc++x'::r',_)
  congr 2;omega
def VU{b:Bool}{l:List T}(h:∀ x,x∈l->aL b x≠[]):l.length<=((l.map (aL b)).flatten).length:=by
 induction l with
 | nil=>simp
 | cons x r ih=>
  show r.length+1<=(aL b x++(r.map (aL b)).flatten).length
  rw[aO];have h1:=ih λy hy=>h y (jZ _ hy)
  have h2:0<(aL b x).length:=pE.2 (h x (eW ..));omega
def Lf(g:List T):Nat:=((g.map (aL false)).flatten).length+3
def Me(b:Bool)(g:List T):(group (g.map (aL b))).length=Lf g:=by
 unfold group Lf;rw[aV,aO,Wi];rfl
def Fg(L:Bool->List Tk)(i:Nat){g:List T}(hg:∀ x,x∈g->V (.st false) x/\CS false x)(hst:∀ b,cW (L b) i (group (g.map (aL b)))):∃ g',dK g' g=true/\(∀ b,tok (L b) i=O aT)/\∀ f,Lf g<=f+3->∀ b label,iO (L b) (cH (L b) (jG (L b) f) false) label (i+1)=.ok (g',i+Lf g):=by
 have h1:∀ b,cW (L b) i (O aT::((g.map (aL b)).flatten++[W sO,O aT])):=hst;obtain⟨g',hg1,hg2⟩:=aIb L (zs:=λ_=>[]) g hg (i+1) (λb=>(h1 b).cons.2.1);refine⟨g',hg1,λb=>(h1 b).cons.1,λf hf b label=>?_⟩;unfold iO;have hfit:=(h1 b).fit (FV _ _);have hc:=VU (b:=b) (λx hx=>aJs (hg x hx).1 b);rw[hg2 f (by unfold Lf at hf;omega) b label _ [] (by rw[aV,aO]at hfit;omega)];unfold Lf
 show Except.ok ([]++g',_)=_
 rw[dI]
 congr 2;omega
section
variable(inr lab:Bool)(a:Int)
include inr lab a
theorem aFg(g:List T)(hg:∀ x,x∈g->V (.st false) x/\CS false x):CL inr lab (.mk 16 0 a e0 g):=by
 have hlen:len (.mk 16 0 a e0 g)=1+Lf g:=by unfold len;rw[Mq,aV,Me];omega
 refine sW aB λL i hst=>?_;have hs:∀ b,cW (L b) i (W Bg::group (g.map (aL b))):=λb=>by have:=hst b;rwa[Mq]at this
 obtain⟨g',hg1,hg2,hg3⟩:=Fg L (i+1) hg (λb=>(hs b).cons.2.1);refine⟨node 16 i g',bY hg1,λb=>?_⟩;refine⟨_,(hs b).cons.1,by rw[eZ (hg2 b)];decide +kernel,.inl (eD (hg2 b) (λ_=>by decide +kernel)),pF _ aE _ _,pJ _ aE _,λf label hf _=>?_⟩;rw[akG,dV (hg2 b)]
 show some (aH (iO (L b) (cH (L b) (jG (L b) f) false) label (i+1+1)) _)=_
 rw[hg3 f aB b label,hlen]
 exact wO
theorem aLf(g:List T)(hg:∀ x,x∈g->V (.st false) x/\CS false x):CL inr lab (.mk 17 0 a e0 g):=by
 have hlen:len (.mk 17 0 a e0 g)=1+Lf g:=by unfold len;rw[aqZ,aV,Me];omega
 refine sW aB λL i hst=>?_;have hs:∀ b,cW (L b) i (W LJ::group (g.map (aL b))):=λb=>by have:=hst b;rwa[aqZ]at this
 obtain⟨g',hg1,hg2,hg3⟩:=Fg L (i+1) hg (λb=>(hs b).cons.2.1);refine⟨node 17 i g',bY hg1,λb=>?_⟩;refine⟨_,(hs b).cons.1,by rw[eZ (hg2 b)];decide +kernel,.inl (eD (hg2 b) (λ_=>by decide +kernel)),pF _ aE _ _,pJ _ aE _,λf label hf _=>?_⟩;rw[abC];unfold doP;rw[aF (by rw[eZ (hg2 b)];decide +kernel),hg3 f aB b label,hlen]
 exact wO
theorem aIH(r x t y wh un:T)(g:List T)(hr:V .expr r)(h:isRef r)(hx:V .expr x)(ht:¬ isNone t->V .expr t)(hb:¬ isNone y->V .expr y)(hw:¬ isNone wh->V .expr wh)(hu:¬ isNone un->V .expr un)(hg:∀ x,x∈g->V (.st false) x/\CS false x):CL inr lab (.mk 19 0 a e0 (r::x::t::y::wh::un::g)):=by
 have hlen:len (.mk 19 0 a e0 (r::x::t::y::wh::un::g))=2+len r+len x+(lK Fj t (aL false t)).length+(lK Xd y (aL false y)).length+(opt gF wh (aL false wh)).length+(opt gA un (aL false un)).length+Lf g:=by
  conv=>lhs;unfold len
  rw[Ue];simp only[aV,aO,Me]
  unfold len;omega
 refine sW aB λL i hst=>?_;have hs:∀ b,cW (L b) i (W LJ::(aL b r++O tV::(aL b x++(lK Fj t (aL b t)++(lK Xd y (aL b y)++(opt gF wh (aL b wh)++(opt gA un (aL b un)++group (g.map (aL b))))))))):=λb=>by have:=hst b;rwa[Ue]at this
 obtain⟨r',hr1,hr2,hs2⟩:=acB L (i+1) hr h (λb=>(hs b).cons.2.1) (λb=>FT.cons aE);obtain⟨x',hx1,hx2,hs3⟩:=JO L (i+1+len r+1) hx (λb=>(hs2 b).cons.2.1) (λb=>FT.lK aE (FT.lK aE (FT.opt aE (FT.opt aE (FT.cons aE)))));obtain⟨t',ht1,ht2,hs4⟩:=aqF L _ ht hs3 (λb=>FT.lK aE (FT.opt aE (FT.opt aE (FT.cons aE)))) (λb=>FT.lK aE (FT.opt aE (FT.opt aE (FT.cons aE))));obtain⟨y',hy1,hy2,hs5⟩:=aqF L _ hb hs4 (λb=>FT.opt aE (FT.opt aE (FT.cons aE))) (λb=>FT.opt aE (FT.opt aE (FT.cons aE)));obtain⟨wh',hw1,hw2,hs6⟩:=US L _ hw hs5 (λb=>FT.opt aE (FT.cons aE));obtain⟨un',hu1,hu2,hs7⟩:=US L _ hu hs6 (λb=>FT.cons aE);obtain⟨g',hg1,hg2,hg3⟩:=Fg L _ hg hs7;refine⟨node 19 i (r'::x'::t'::y'::wh'::un'::g'),bY (bG hr1 (bG hx1 (bG ht1 (bG hy1 (bG hw1 (bG hu1 hg1)))))),λb=>?_⟩;obtain⟨w,s,hws⟩:=JB hr h b;have htk:tok (L b) (i+1)=W w:=by have:=(cW.app (hs b).cons.2.1).1;rw[hws]at this;exact this.cons.1
 refine⟨_,(hs b).cons.1,yG htk _,.inl (eD htk (λh=>absurd h (show ¬ (1:Int)=6 by decide))),pF _ aE _ _,pJ _ aE _,λf label hf _=>?_⟩;rw[abC];unfold doP;rw[aC (by rw[yG htk];decide),aF (Iq hr h (cW.app (hs b).cons.2.1).1 (hs2 b).cons.1),hr2 b]
 show some (aH (aW (L b) (i+1+len r) tV) _)=_
 rw[dV (hs2 b).cons.1]
 show some (aH (dB (L b) (i+1+len r+1)) _)=_
 rw[hx2 b]
 show some (aH (jK (L b) Fj _) _)=_
 rw[ht2 b]
 show some (aH (jK (L b) Xd _) _)=_
 rw[hy2 b]
 show some (aH (gL (L b) gF _) _)=_
 rw[hw2 b]
 show some (aH (gL (L b) gA _) _)=_
 rw[hu2 b]
 exact Ji
theorem aFr(x y:T)(g:List T)(hx:¬ isNone x->V .expr x)(hy:¬ isNone y->V .expr y)(hn:¬ (isNone x/\isNone y))(hg:∀ x,x∈g->V (.st false) x/\CS false x):CL inr lab (.mk 18 0 a e0 (x::y::g)):=by
 have hlen:len (.mk 18 0 a e0 (x::y::g))=1+(opt gF x (aL false x)).length+(opt gA y (aL false y)).length+Lf g:=by
  unfold len;rw[No];exact Sg
 refine sW aB λL i hst=>?_;have hs:∀ b,cW (L b) i (W LJ::(opt gF x (aL b x)++(opt gA y (aL b y)++group (g.map (aL b))))):=λb=>by have:=hst b;rwa[No]at this
 obtain⟨x',hx1,hx2,hs2⟩:=US L (i+1) hx (λb=>(hs b).cons.2.1) (λb=>FT.opt aE (FT.cons aE));obtain⟨y',hy1,hy2,hs3⟩:=US L _ hy hs2 (λb=>FT.cons aE);obtain⟨g',hg1,hg2,hg3⟩:=Fg L _ hg hs3;refine⟨node 18 i (x'::y'::g'),bY (bG hx1 (bG hy1 hg1)),λb=>?_⟩;have hfirst:∃ w,tok (L b) (i+1)=W w/\eH w [gF,gA]=true/\eF (L b) (i+1)=false:=by
  by_cases hk:x.kind=10
  ·have hky:y.kind≠10:=λe=>hn ⟨ED hx hk,ED hy e⟩
   have e1:opt gF x (aL b x)=[]:=by unfold opt;rw[aF hk]
   have e2:opt gA y (aL b y)=W gA::bI [aL b y]:=by unfold opt;rw[aC hky]
   have h3:cW (L b) (i+1) (W gA::(bI [aL b y]++group (g.map (aL b)))):=by have:=(hs b).cons.2.1;rw[e1,e2]at this;exact this
   refine⟨_,h3.cons.1,by decide +kernel,?_⟩;have h4:=cW.app h3.cons.2.1;refine wY (xJ b (EY hy hky)) h4.1 (x:=O aT) ?_ (λ_=>by decide +kernel);have:=h4.2.cons.1;rw[Fs]at this;rw[eV];exact this
  ·have e1:opt gF x (aL b x)=W gF::bI [aL b x]:=by unfold opt;rw[aC hk]
   have h3:cW (L b) (i+1) (W gF::(bI [aL b x]++(opt gA y (aL b y)++group (g.map (aL b))))):=by have:=(hs b).cons.2.1;rw[e1]at this;exact this
   refine⟨_,h3.cons.1,by decide +kernel,?_⟩;have h4:=cW.app h3.cons.2.1;rw[Fs]at h4;have hft:FT (CC [lI,fT,tV]) (opt gA y (aL b y)++group (g.map (aL b))):=FT.opt aE (FT.cons aE);have hq:=hft _ _ h4.2;refine wY (xJ b (EY hx hk)) h4.1 rfl (λh6=>?_);have hk2:∀ s,s∈[lI,fT,tV]->(tok (L b) (i+1+1+(len x+2))).text≠s:=λs hs e=>by
    have:=Cu hq;unfold cD at this;rw[show (tok (L b) (i+1+1+(len x+2))).kind=6 by rw[eV]at h6;exact h6,e,show eH s [lI,fT,tV]=true from (eX _ _).2 hs]at this;exact rQ
   rw[eV];exact⟨hk2 _ aI,hk2 _ aI,hk2 _ aI⟩
 obtain⟨w,htk,hm,ha⟩:=hfirst;refine⟨_,(hs b).cons.1,yG htk _,.inl (eD htk (λh=>absurd h (show ¬ (1:Int)=6 by decide))),pF _ aE _ _,pJ _ aE _,λf label hf _=>?_⟩;rw[abC];unfold doP;rw[aC (by rw[yG htk];decide),aC DL,aF (sS htk hm),hx2 b]
 show some (aH (gL (L b) gA _) _)=_
 rw[hy2 b]
 exact Ji
theorem aDY(w:AAE)(x:T)(h:Ci w)(hx:CL inr true x):CL inr lab (.mk 14 0 a w [x]):=by
 intro L i hst;have hlen:len (.mk 14 0 a w [x])=len x+2:=by unfold len;rw[EJ];rfl
 have hs:∀ b,cW (L b) i (W w::O cU::aL b x):=λb=>by have:=hst b;rwa[EJ]at this
 obtain⟨x',hx1,hx2⟩:=hx L (i+1+1) (λb=>(hs b).cons.2.1.cons.2.1);refine⟨.mk 14 0 i w [x'],bY (bG hx1 bQ),λf hf ho label hl b=>?_⟩;rw[hlen]at hf ho ⊢;rw[Wl]at ho;obtain⟨f,rfl⟩:∃ g,f=g+1:=⟨f - 1,by omega⟩
 have h1:=(hs b).cons;have h2:=h1.2.1.cons;have ha:eF (L b) i=false:=eD h2.1 (λ_=>by decide +kernel);have hlb:labelled (L b) i=true:=by unfold labelled;rw[CJ h1.1,eZ h2.1];decide +kernel
 unfold jG;rw[aC (by rw[ha,hlb];decide),h1.1]
 show aH (jG (L b) f inr w (i+1+1)) _=_
 rw[hx2 f aB (λo b=>by rw[show i+1+1+len x=i+(len x+2)from by omega];exact ho o b) w (λ_=>acQ h) b]
 show Except.ok (T.mk 14 0 i w [x'],i+1+1+len x)=_
 congr 2;omega
end
def aIs(inr:Bool)(x:T)(hv:V (.lb inr false) x)(hx:CL inr false x):CS inr x:=by
 intro L i hst;obtain⟨x',hx1,hx2⟩:=hx L i hst;refine⟨x',hx1,λf hf ho b=>?_⟩;obtain⟨y,s,hy,hk⟩:=agE hv b;have ht:tok (L b) i=y:=by have:=hst b;rw[hy]at this;exact this.cons.1
 unfold cH;rw[aC (by rw[nL ht (λh6=>by rw[hk h6];decide +kernel)];decide)];exact hx2 f hf ho e0 (λh=>absurd h aD) b
def aKR(inr:Bool)(a:Int)(ws:List T)(x:T)(h1:1<=ws.length)(h4:ws.length<=4)(hw:∀ y,y∈ws->isWord y)(hx:CL inr false x):CS inr (.mk 13 0 a e0 (ws++[x])):=by
 intro L i hst;have hlen:len (.mk 13 0 a e0 (ws++[x]))=(aR (ws.map (aL false))).length+3+len x:=by unfold len;rw[Lv];simp[bI];omega
 have hs:∀ b,cW (L b) i (bI (ws.map (aL b))++O cU::aL b x):=λb=>by have:=hst b;rwa[Lv]at this
 have hne:ws≠[]:=by intro e;rw[e]at h1;simp at h1
 obtain⟨ws',hw1,hw2,hw3,hw4,hw5⟩:=JS L i mI (λ_=>true) rfl rfl hne (λy hy=>aaU (hw y hy)) hs;obtain⟨x',hx1,hx2⟩:=hx L _ (λb=>(hw5 b).cons.2.1);refine⟨node 13 i (ws'++[x']),bY (WT hw1 (bG hx1 bQ)),λf hf ho b=>?_⟩;rw[hlen]at hf ho ⊢;rw[agW h1 h4]at ho;unfold cH;rw[aF (by rw[eZ (hw2 b)];decide +kernel),hw3 b 4 h4]
 show aH (aW (L b) _ dA) _=_
 rw[dV (hw4 b)]
 show aH (aW (L b) _ cU) _=_
 rw[dV (hw5 b).cons.1]
 show aH (jG (L b) f inr e0 _) _=_
 rw[hx2 f aB (λo b=>by rw[show i+1+(aR (ws.map (aL false))).length+1+1+len x=i+((aR (ws.map (aL false))).length+3+len x)from by omega];exact ho o b) e0 (λh=>absurd h aD) b]
 exact GS
end Px
end
section
namespace Px
open Lx
def BQ{ss:List ByteArray}{x:Tk}(h:CC ss x=true){s:AAE}(hs:s∈ss):x.kind=6->x.text≠s:=λh6 e=>by
 unfold CC at h;rw[h6,e,(eX _ _).2 hs]at h;exact absurd h aD
def aqH{L:List Tk}{i:Nat}(h:CC [cJ,lI,fT,tV,cU] (tok L (i+1))=true):eF L i=false/\cD L (i+1) [cU]=false:=
 ⟨eD rfl (λh6=>⟨BQ h aI h6,BQ h aI h6,BQ h aI h6,BQ h aI h6⟩),nL rfl (BQ h aI)⟩
def aCN{L:List Tk}{i:Nat}{xs:List Tk}(hb:nW xs)(hst:cW L (i+1) (O cJ::(xs++[O dA])))(h:CC [lI,fT,tV] (tok L (i+1+xs.length+2))=true):eF L i=false/\cD L (i+1) [cU]=false:=
 ⟨wY hb hst rfl (λh6=>⟨BQ h aI h6,BQ h aI h6,BQ h aI h6⟩),by rw[eZ hst.cons.1];decide +kernel⟩
def aDc{a:Int}{w:AAE}{x y:T}:eN (.mk 23 0 a w [x,y])=true:=by conv=>lhs;unfold eN;rw[aF aD]
def WA{x:T}(hx:V .expr x){L:List Tk}{b:Bool}{i:Nat}{zs:List Tk}(hst:cW L i (aL b x++zs)):cD L i [cU]=false:=by
 obtain⟨y,h1,h2,_⟩:=xN hx;obtain⟨r,hr⟩:=h1 b;rw[hr]at hst;exact nL hst.cons.1 (λh6=>by rcases h2 h6 with e|e|e|e<;>(rw[e];decide +kernel))
def XY{x:T}{L:List Tk}{i:Nat}{x':T}(h1:tok L i=W Nq)(h2:dB L (i+1)=.ok (x',i+1+len x))(h3:tok L (i+1+len x)=W pI):pQ L i=true:=by
 unfold pQ;rw[sS h1 (kH _),h2]
 show (true&&iT L (i+1+len x) [pI])=true
 rw[sS h3 (kH _)];rfl
def aJU(inr lab:Bool)(a:Int)(x y:T)(hx:V .expr x)(hy:CS true y):CL inr lab (.mk 23 0 a e0 [x,y]):=by
 have hlen:len (.mk 23 0 a e0 [x,y])=len x+len y+2:=by unfold len;rw[ZV];simp;omega
 refine sW aB λL i hst=>?_;have hs:∀ b,cW (L b) i (W Nq::(aL b x++W pI::aL b y)):=λb=>by have:=hst b;rwa[ZV]at this
 obtain⟨x',hx1,hx2,hs2⟩:=JO L (i+1) hx (λb=>(hs b).cons.2.1) (λb=>FT.cons aE);obtain⟨y',hy1,hy2⟩:=hy L (i+1+len x+1) (λb=>(hs2 b).cons.2.1);refine⟨node 23 i [x',y'],bY (bG hx1 (bG hy1 bQ)),λb=>?_⟩;refine⟨_,(hs b).cons.1,WA hx (hs b).cons.2.1,.inr (XY (hs b).cons.1 (hx2 b) (hs2 b).cons.1),pF _ aE _ _,pJ _ aE _,λf label hf ho=>?_⟩;have hE:∀ b,keyword (L b) (i+1+len x+1+len y) [qK]=false:=λb=>by
  have:=ho aDc b
  rwa[hlen,show i+(len x+len y+2)=i+1+len x+1+len y from by omega]at this
 rw[aoI];unfold qM;rw[hx2 b]
 show some (aH (fV (L b) (i+1+len x) [pI]) _)=_
 rw[yK (hs2 b).cons.1 (kH _)]
 show some (aH (cH (L b) (jG (L b) f) true (i+1+len x+1)) _)=_
 rw[hy2 f aB (λ_ b=>hE b) b]
 show some (if keyword (L b) (i+1+len x+1+len y) [qK]=true then _ else _)=_
 rw[aC (by rw[hE b];decide),hlen]
 congr 3;omega
def aKD(inr lab:Bool)(a:Int)(x y z:T)(hx:V .expr x)(hy:CS true y)(hc:eN y=false)(hzv:V (.st true) z)(hz:CS true z):CL inr lab (.mk 23 0 a e0 [x,y,z]):=by
 have hlen:len (.mk 23 0 a e0 [x,y,z])=len x+len y+len z+3:=by unfold len;rw[aaV];simp;omega
 refine sW aB λL i hst=>?_;have hs:∀ b,cW (L b) i (W Nq::(aL b x++W pI::(aL b y++W qK::aL b z))):=λb=>by have:=hst b;rwa[aaV]at this
 obtain⟨x',hx1,hx2,hs2⟩:=JO L (i+1) hx (λb=>(hs b).cons.2.1) (λb=>FT.cons aE);obtain⟨y',hy1,hy2⟩:=hy L (i+1+len x+1) (λb=>(cW.app (hs2 b).cons.2.1).1);have hs3:∀ b,cW (L b) (i+1+len x+1+len y) (W qK::aL b z):=λb=>by have:=(cW.app (hs2 b).cons.2.1).2;rwa[eV]at this
 obtain⟨z',hz1,hz2⟩:=hz L (i+1+len x+1+len y+1) (λb=>(hs3 b).cons.2.1);refine⟨node 23 i [x',y',z'],bY (bG hx1 (bG hy1 (bG hz1 bQ))),λb=>?_⟩;refine⟨_,(hs b).cons.1,WA hx (hs b).cons.2.1,.inr (XY (hs b).cons.1 (hx2 b) (hs2 b).cons.1),pF _ aE _ _,pJ _ aE _,λf label hf ho=>?_⟩;rw[ahU,hlen]at ho;have hb:=avZ hzv (b:=b) (L:=L b) (i:=i+1+len x+1+len y) (zs:=[]) (by rw[bD];exact(hs3 b).cons.2.1);rw[aoI];unfold qM;rw[hx2 b]
 show some (aH (fV (L b) (i+1+len x) [pI]) _)=_
 rw[yK (hs2 b).cons.1 (kH _)]
 show some (aH (cH (L b) (jG (L b) f) true (i+1+len x+1)) _)=_
 rw[hy2 f aB (λo=>by rw[hc]at o;exact absurd o aD) b]
 show some (if keyword (L b) (i+1+len x+1+len y) [qK]=true then _ else _)=_
 rw[aF (Iu (hs3 b).cons.1 hb.1 hb.2)]
 show some (aH (cH (L b) (jG (L b) f) true (i+1+len x+1+len y+1)) _)=_
 rw[hz2 f aB (λo b=>by rw[show i+1+len x+1+len y+1+len z=i+(len x+len y+len z+3)from by omega];exact ho o b) b,hlen]
 exact wO
def agY{c:T}(h:V .cond c):(c.l=[]/\len c=1)\/(c.l≠[]/\len c=4):=by
 cases h with
 | cond0 a w h=>exact .inl ⟨rfl,by unfold len;rw[Jb];rfl⟩
 | cond1 a w x h hx=>exact .inr ⟨by simp[T.l],by unfold len;rw[EX];obtain⟨a,w,rfl,_⟩:=hx;rw[sX];rfl⟩
def awS{c:T}(h:V .cond c)(hn:c.l≠[])(b:Bool):∃ w w',aL b c=[W w,O cJ,W w',O dA]:=by
 cases h with
 | cond0 a w h=>exact absurd rfl hn
 | cond1 a w x h hx=>obtain⟨a',w',rfl,_⟩:=hx;exact⟨w,w',by rw[EX,sX];rfl⟩
def aFX(L:List Tk)(i:Nat):Bool:=cD L (i+1) [cJ]&&!(isName L (i+2)&&cD L (i+3) [dA]&&!cD L (i+4) [cU])
def apL{c x:T}(hc:V .cond c)(L:Bool->List Tk)(i:Nat){zs:Bool->List Tk}(hst:∀ b,cW (L b) i (aL b c++zs b))(hz:∀ b,(∃ y s,zs b=y::s/\(y.kind=6->y.text=aT))\/∃ (ws:List T) (s:List Tk),1<=ws.length/\(∀ y,y∈ws->isWord y)/\zs b=bI (ws.map (aL b))++O cU::s):∃ c',dM c' c=true/\(∀ b,qL (L b) (!aFX (L b) i) i=.ok (c',i+len c))/\∀ b,cW (L b) (i+len c) (zs b):=by
 have hs2:∀ b,cW (L b) (i+len c) (zs b):=λb=>by have:=(cW.app (hst b)).2;rwa[eV]at this
 obtain⟨c',hc1,hc2⟩:=arE hc L i (λb=>(cW.app (hst b)).1);refine⟨c',hc1,λb=>hc2 b _ (λhn=>?_) (λhn=>?_),hs2⟩
 ·have hl1:len c=1:=(agY hc).elim (λh=>h.2) (λh=>absurd hn h.1);have h2:=hs2 b;rw[hl1]at h2 ⊢
  rcases hz b with ⟨y,s,e,hy⟩|⟨ws,s,h1,hw,e⟩
  ·rw[e]at h2;exact .inr (nL h2.cons.1 (λh6=>by rw[hy h6];decide +kernel))
  ·left
   rw[e]at h2;unfold aFX;have hlp:tok (L b) (i+1)=O cJ:=(cW.app h2).1.cons.1;rw[eZ hlp]
   cases ws with
   | nil=>simp at h1
   | cons u r=>
    obtain⟨a1,w1,rfl,_⟩:=hw u (eW ..)
    cases r with
    | nil=>
     have h3:cW (L b) (i+1) (O cJ::W w1::O dA::O cU::s):=by
      have:=h2;rw[show bI ([T.mk 11 0 a1 w1 []].map (aL b))=[O cJ,W w1,O dA]by show bI [aL b _]=_;rw[sX];rfl]at this;exact this
     have h4:=h3.cons.2.1.cons;have h5:=h4.2.1.cons;have h6:=h5.2.1.cons;rw[show cD (L b) (i+4) [cU]=true from by rw[eZ (show tok (L b) (i+4)=O cU from h6.1)];decide +kernel]
     simp[eH]
    | cons u2 r=>
     have h3:∃ s',cW (L b) (i+1) (O cJ::W w1::O jS::s'):=by
      refine⟨aR ((u2::r).map (aL b))++[O dA]++O cU::s,?_⟩;have:=h2
      rw[show bI ((T.mk 11 0 a1 w1 []::u2::r).map (aL b))=O cJ::W w1::O jS::(aR ((u2::r).map (aL b))++[O dA])by
       show O cJ::((aL b _++O jS::aR ((u2::r).map (aL b)))++[O dA])=_
       rw[sX];rfl]at this
      exact this
     obtain⟨s',h3⟩:=h3;have h4:=h3.cons.2.1.cons;have h5:=h4.2.1.cons;rw[show cD (L b) (i+3) [dA]=false from by rw[eZ (show tok (L b) (i+3)=O jS from h5.1)];decide +kernel]
     simp[eH]
 ·have hl1:len c=4:=(agY hc).elim (λh=>absurd h.1 hn) (λh=>h.2);obtain⟨w,w',hcw⟩:=awS hc hn b;have h2:=hs2 b;rw[hl1]at h2;have h3:=(cW.app (hst b)).1;rw[hcw]at h3;have g2:=h3.cons.2.1.cons;have g3:=g2.2.1.cons;have g4:=g3.2.1.one;have hcol:cD (L b) (i+4) [cU]=false:=by
   rcases hz b with ⟨y,s,e,hy⟩|⟨ws,s,h1,hw,e⟩
   ·rw[e]at h2;exact nL h2.cons.1 (λh6=>by rw[hy h6];decide +kernel)
   ·rw[e]at h2;rw[eZ (show tok (L b) (i+4)=O cJ from (cW.app h2).1.cons.1)];decide +kernel
  unfold aFX;rw[eZ (show tok (L b) (i+1)=O cJ from g2.1),CJ (show tok (L b) (i+2)=W w' from g3.1),eZ (show tok (L b) (i+3)=O dA from g4.1),hcol]
  decide +kernel
def apX(L:List Tk)(inner:Nat->R T)(a i:Nat):onP L inner a i=aH (qL L (!aFX L i) i) λc j=>
 if keyword L j [pN]then bK L (node 32 a [c,node 33 j []]) (j+1)else aH (inner j) λx j1=>.ok (node 32 a [c,x],j1):=rfl
def aAU{c:T}(hc:V .cond c){L:List Tk}{b:Bool}{i:Nat}{zs:List Tk}(hst:cW L i (aL b c++zs)):∃ w,tok L i=W w:=by
 obtain⟨w,s,h⟩:=Vy hc b;rw[h]at hst;exact⟨w,hst.cons.1⟩
def aJO(inr lab:Bool)(a:Int)(c x:T)(hc:V .cond c)(hxv:V (.st true) x)(hx:CS true x):CL inr lab (.mk 32 0 a e0 [c,x]):=by
 have hlen:len (.mk 32 0 a e0 [c,x])=len c+len x+1:=by unfold len;rw[Vh];simp
 refine sW aB λL i hst=>?_;have hs:∀ b,cW (L b) i (W wON::(aL b c++aL b x)):=λb=>by have:=hst b;rwa[Vh]at this
 obtain ⟨c', hc1, hc2, hs2⟩ := apL (x := x) hc L (i + 1) (λb => (hs b).cons.2.1) (λb => by
   rcases WG hxv with ⟨a, ws, y, rfl, h1, h4, hw, hy⟩ | h
   · exact .inr ⟨ws, _, h1, hw, Lv b _ _ _ _ _⟩
   · exact .inl (h b))
 obtain⟨x',hx1,hx2⟩:=hx L (i+1+len c) hs2;refine⟨node 32 i [c',x'],bY (bG hc1 (bG hx1 bQ)),λb=>?_⟩;obtain⟨w,ht⟩:=aAU hc (hs b).cons.2.1;refine⟨_,(hs b).cons.1,yG ht _,.inl (eD ht (λh=>absurd h (show ¬ (1:Int)=6 by decide))),pF _ aE _ _,pJ _ aE _,λf label hf ho=>?_⟩;rw[acC,hlen]at ho;rw[apR,apX,hc2 b]
 show some (if keyword (L b) (i+1+len c) [pN]=true then _ else _)=_
 rw[aC (by rw[stf hxv (hs2 b) pN (.inr (.inr rfl))];decide)]
 show some (aH (cH (L b) (jG (L b) f) true (i+1+len c)) _)=_
 rw[hx2 f aB (λo b=>by rw[show i+1+len c+len x=i+(len c+len x+1)from by omega];exact ho o b) b,hlen]
 exact wO
def aJu(inr lab:Bool)(a a':Int)(c:T)(hc:V .cond c):CL inr lab (.mk 32 0 a e0 [c,.mk 33 0 a' e0 []]):=by
 have hlen:len (.mk 32 0 a e0 [c,.mk 33 0 a' e0 []])=len c+3:=by unfold len;rw[Vh,Nr];simp
 refine sW aB λL i hst=>?_;have hs:∀ b,cW (L b) i (W wON::(aL b c++[W pN,O aT])):=λb=>by have:=hst b;rwa[Vh,Nr]at this
 obtain⟨c',hc1,hc2,hs2⟩:=apL (x:=c) hc L (i+1) (λb=>(hs b).cons.2.1) (λb=>.inl ⟨_,_,rfl,λh=>absurd h (show ¬ (1:Int)=6 by decide)⟩);refine⟨node 32 i [c',node 33 (i+1+len c) []],bY (bG hc1 (bG (bY bQ) bQ)),λb=>?_⟩;obtain⟨w,ht⟩:=aAU hc (hs b).cons.2.1;have h3:=(hs2 b).cons;have h4:=h3.2.1.one;refine⟨_,(hs b).cons.1,yG ht _,.inl (eD ht (λh=>absurd h (show ¬ (1:Int)=6 by decide))),pF _ aE _ _,pJ _ aE _,λf label hf ho=>?_⟩;rw[apR,apX,hc2 b]
 show some (if keyword (L b) (i+1+len c) [pN]=true then _ else _)=_
 rw[aF (Iu h3.1 (eD h4.1 (λ_=>by decide +kernel)) (by rw[eZ h4.1];decide +kernel))];unfold bK;rw[dV h4.1,hlen]
 exact wO
def anF(t:T):Prop:=∃ a xs y,t=.mk 21 0 a e0 (xs++[y])/\1<=xs.length/\xs.length<=8/\(∀ z,z∈xs->V .expr z)/\V (.st true) y/\CS true y
def abE(t:T):Prop:=∃ a y,t=.mk 22 0 a e0 [y]/\V (.st true) y/\CS true y
def MW(L:List Tk)(inner:Nat->R T)(f:Nat)(acc:List T)(i:Nat):jW L inner (f+1) acc i =
 if iT L i [xP]then aH (aW L (i+1) cJ) λ_ j=>aH (eR L 8 (dB L) j) λl j1=>aH (aW L j1 dA) λ_ j2=>aH (inner j2) λx j3=>jW L inner f (acc++[node 21 i (l++[x])]) j3
 else .ok (acc,i):=by conv=>lhs;unfold jW
def aFI(L:Bool->List Tk){zs:Bool->List Tk}(hz:∀ b,FT (Oe [xP]) (zs b))(hz2:∀ b,FT (Oe [qK]) (zs b)):∀ (ws:List T),(∀ x,x∈ws->anF x)->∀ i,(∀ b,cW (L b) i ((ws.map (aL b)).flatten++zs b))->∃ ws',dK ws' ws=true/\(∀ b,cW (L b) (i+((ws.map (aL false)).flatten).length) (zs b))/\∀ f,((ws.map (aL false)).flatten).length<=f->∀ b q acc,ws.length<q->jW (L b) (cH (L b) (jG (L b) f) true) q acc i=.ok (acc++ws',i+((ws.map (aL false)).flatten).length):=by
 intro ws
 induction ws with
 | nil=>
  intro _ i hst;refine⟨[],bQ,λb=>hst b,λf _ b q acc hq=>?_⟩;obtain⟨q,rfl⟩:∃ m,q=m+1:=⟨q - 1,by simp at hq;omega⟩
  have hs:cW (L b) i (zs b):=hst b;rw[MW,aC (by rw[Aq (hz b _ _ hs)];decide)]
  simp
 | cons x r ih=>
  intro hg i hst;obtain⟨a,xs,y,rfl,h1,h8,hxs,hyv,hy⟩:=hg x (eW ..);have hst:∀ b,cW (L b) i (aL b (.mk 21 0 a e0 (xs++[y]))++((r.map (aL b)).flatten++zs b)):=λb=>by
   have:cW (L b) i ((aL b (.mk 21 0 a e0 (xs++[y]))++(r.map (aL b)).flatten)++zs b):=hst b
   rwa[bT]at this
  have hrest:∀ b,cW (L b) (i+len (.mk 21 0 a e0 (xs++[y]))) ((r.map (aL b)).flatten++zs b):=λb=>by
   exact GX
  have hs:∀ b,cW (L b) i (W xP::(bI (xs.map (aL b))++aL b y)):=λb=>by have:=(cW.app (hst b)).1;rwa[MV]at this
  have hl1:len (.mk 21 0 a e0 (xs++[y]))=1+((aR (xs.map (aL false))).length+2)+len y:=by unfold len;rw[MV];simp[bI];omega
  have hne:xs≠[]:=by intro e;rw[e]at h1;simp at h1
  obtain⟨xs',hx1,hx2,hx3,hx4,hx5⟩:=JS L (i+1) dB (qD 6) aE aE hne (λy hy=>Gr (hxs y hy)) (λb=>(hs b).cons.2.1);obtain⟨y',hy1,hy2⟩:=hy L _ hx5;obtain⟨r',hr1,hr2,hr3⟩:=ih (λy hy=>hg y (jZ _ hy)) _ hrest;have hlen:(((T.mk 21 0 a e0 (xs++[y])::r).map (aL false)).flatten).length=len (.mk 21 0 a e0 (xs++[y]))+((r.map (aL false)).flatten).length:=by
   show (aL false _++(r.map (aL false)).flatten).length=_
   rw[aO];rfl
  have hnext:∀ b,keyword (L b) (i+len (.mk 21 0 a e0 (xs++[y]))) [qK]=false:=λb=>by
   cases r with
   | nil=>exact wS (Aq (hz2 b _ _ (hrest b)))
   | cons z r=>
    obtain⟨a2,xs2,y2,rfl,_⟩:=hg z aI;have h3:cW (L b) (i+len (.mk 21 0 a e0 (xs++[y]))) ((aL b (.mk 21 0 a2 e0 (xs2++[y2]))++(r.map (aL b)).flatten)++zs b):=hrest b;rw[MV]at h3;exact Ef (show tok (L b) (i+len (.mk 21 0 a e0 (xs++[y])))=W xP from h3.cons.1) aE
  rw[hlen];have hadd:i+(len (.mk 21 0 a e0 (xs++[y]))+((r.map (aL false)).flatten).length)=i+len (.mk 21 0 a e0 (xs++[y]))+((r.map (aL false)).flatten).length:=by omega
  rw[hadd];refine⟨node 21 i (xs'++[y'])::r',bG (bY (WT hx1 (bG hy1 bQ))) hr1,hr2,λf hf b q acc hq=>?_⟩;obtain⟨q,rfl⟩:∃ m,q=m+1:=⟨q - 1,by simp at hq;omega⟩
  have hend:i+1+1+(aR (xs.map (aL false))).length+1+len y=i+len (.mk 21 0 a e0 (xs++[y])):=by rw[hl1];omega
  rw[MW,aF (sS (hs b).cons.1 (kH _)),dV (hx2 b)]
  show aH (eR (L b) 8 (dB (L b)) (i+1+1)) _=_
  rw[hx3 b 8 h8]
  show aH (aW (L b) _ dA) _=_
  rw[dV (hx4 b)]
  show aH (cH (L b) (jG (L b) f) true _) _=_
  rw[hy2 f aB (λ_ b=>by rw[hend];exact hnext b) b,hend]
  show jW (L b) _ q (acc++[node 21 i (xs'++[y'])]) (i+len (.mk 21 0 a e0 (xs++[y])))=_
  rw[hr3 f aB b q _ (by simp at hq;omega)];rw[bT];rfl
def aCb(L:Bool->List Tk)(j:Nat){os:List T}(ho1:os.length<=1)(ho:∀ x,x∈os->abE x)(hst:∀ b,cW (L b) j ((os.map (aL b)).flatten++[W sO,O aT])):∃ os',dK os' os=true/\(∀ b,cW (L b) (j+((os.map (aL false)).flatten).length) [W sO,O aT])/\∀ f,((os.map (aL false)).flatten).length<=f->∀ b acc,(if iT (L b) j [gV,qR]then aH (cH (L b) (jG (L b) f) true (j+1)) λy j3=>.ok (acc++[node 22 j [y]],j3)else .ok (acc,j))=(.ok (acc++os',j+((os.map (aL false)).flatten).length):R (List T)):=by
 cases os with
 | nil=>
  have hs:∀ b,cW (L b) j [W sO,O aT]:=hst;refine⟨[],bQ,hs,λf _ b acc=>?_⟩;rw[aC (by rw[adF (hs b).cons.1 aE];decide)]
  simp
 | cons o r=>
  have hr:r=[]:=by cases r with|nil=>rfl|cons _ _=>simp at ho1
  subst hr;obtain⟨a,y,rfl,hyv,hy⟩:=ho o (eW ..);have hs:∀ b,cW (L b) j (W (kw b a gV qR)::(aL b y++[W sO,O aT])):=λb=>by
   have:cW (L b) j ((aL b (.mk 22 0 a e0 [y])++[])++[W sO,O aT]):=hst b;rw[bD,LZ]at this;exact this
  have hlen:((([T.mk 22 0 a e0 [y]]:List T).map (aL false)).flatten).length=1+len y:=by
   show (aL false _++[]).length=_
   rw[bD,LZ,aV];unfold len;omega
  obtain⟨y',hy1,hy2⟩:=hy L (j+1) (λb=>(cW.app (hs b).cons.2.1).1);have hs2:∀ b,cW (L b) (j+(1+len y)) [W sO,O aT]:=λb=>by
   have:=(cW.app (hs b).cons.2.1).2
   rwa[eV,show j+1+len y=j+(1+len y)from by omega]at this
  rw[hlen];refine⟨[node 22 j [y']],bG (bY (bG hy1 bQ)) bQ,hs2,λf hf b acc=>?_⟩;have hkw:=KL b a gV qR;rw[aF (sS (hs b).cons.1 Ra)]
  rw[hy2 f aB (λ_ b=>by
   rw[show j+1+len y=j+(1+len y)from by omega]
   exact Ef (hs2 b).cons.1 aE) b]
  exact GS
def aFj(L:List Tk)(i:Nat):R T:=if cD L i [cJ]then fB L i else .ok (none_,i)
def adL(L:List Tk)(inner:Nat->R T)(a:Nat)(label:AAE)(i:Nat):lL L inner a label i =
 aH (aFj L i) λx j=>aH (aW L j aT) λ_ j1=>aH (jW L inner (L.length+1) [x] j1) λl j2=>
 aH (if iT L j2 [gV,qR]then aH (inner (j2+1)) λy j3=>.ok (l++[node 22 j2 [y]],j3)else .ok (l,j2)) λl2 j3=>
 aH (BP L label j3) λ_ j4=>.ok (node 20 a l2,j4):=rfl
def aHe(L:Bool->List Tk)(i:Nat){x:T}{zs:Bool->List Tk}(hx:¬ isNone x->V .expr x)(hst:∀ b,cW (L b) (i+1) ((if x.kind=10 then []else bI [aL b x])++O aT::zs b)):∃ x',dM x' x=true/\(∀ b,aFj (L b) (i+1)=.ok (x',i+1+(if x.kind=10 then 0 else len x+2)))/\(∀ b,cW (L b) (i+1+(if x.kind=10 then 0 else len x+2)) (O aT::zs b))/\∀ b,eF (L b) i=false/\cD (L b) (i+1) [cU]=false:=by
 by_cases hk:x.kind=10
 ·rw[aF hk];have hs:∀ b,cW (L b) (i+1) (O aT::zs b):=λb=>by have:=hst b;rwa[aF hk]at this
  refine⟨none_,wT (ED hx hk),λb=>?_,hs,λb=>aqH (by rw[(hs b).cons.1];decide +kernel)⟩;unfold aFj;rw[aC (by rw[eZ (hs b).cons.1];decide +kernel)]
 ·rw[aC hk];have hs:∀ b,cW (L b) (i+1) (bI [aL b x]++O aT::zs b):=λb=>by have:=hst b;rwa[aC hk]at this
  obtain⟨x',h1,h2,h3,h4⟩:=Un L (i+1) (EY hx hk) hs;refine⟨x',h1,λb=>?_,h4,λb=>aCN (xJ b (EY hx hk)) (cW.app (hs b)).1 (by rw[eV,show i+1+len x+2=i+1+(len x+2)from rfl,(h4 b).cons.1];decide +kernel)⟩;unfold aFj;rw[aF (by rw[eZ (h3 b)];decide +kernel),h2 b]
def aBL(inr lab:Bool)(a:Int)(x:T)(ws os:List T)(hx:¬ isNone x->V .expr x)(hw:∀ y,y∈ws->anF y)(ho1:os.length<=1)(ho:∀ y,y∈os->abE y):CL inr lab (.mk 20 0 a e0 (x::(ws++os))):=by
 have hlen:len (.mk 20 0 a e0 (x::(ws++os)))=1+(if x.kind=10 then 0 else len x+2)+1+((ws.map (aL false)).flatten).length+((os.map (aL false)).flatten).length+2:=by
  conv=>lhs;unfold len
  rw[JG];unfold group;rw[iX,FB];simp only[aV,aO,dD]
  split
  ·simp;omega
  ·rw[Fs];omega
 refine sW aB λL i hst=>?_;have hs:∀ b,cW (L b) i (W qB::((if x.kind=10 then []else bI [aL b x])++O aT::((ws.map (aL b)).flatten++((os.map (aL b)).flatten++[W sO,O aT])))):=λb=>by
  have:=hst b;rw[JG]at this;unfold group at this
  rwa[iX,FB,bT]at this
 obtain⟨x',hx1,hx2,hs2,hbf⟩:=aHe L i hx (λb=>(hs b).cons.2.1);generalize hm:i+1+(if x.kind=10 then 0 else len x+2)=m at hx2 hs2;have hfo:∀ b (P:Tk->Bool),P (W gV)=true->P (W qR)=true->P (W sO)=true->FT P ((os.map (aL b)).flatten++[W sO,O aT]):=λb P p1 p2 p3=>by
  cases os with
  | nil=>exact FT.cons p3
  | cons o r=>
   obtain⟨a,y,rfl,_⟩:=ho o (eW ..)
   show FT P ((aL b (.mk 22 0 a e0 [y])++(r.map (aL b)).flatten)++_)
   rw[LZ];exact FT.cons (by rcases KL b a gV qR with e|e<;>(rw[e];assumption))
 obtain⟨ws',hw1,hw2,hw3⟩:=aFI L (λb=>hfo b _ aE aE aE) (λb=>hfo b _ aE aE aE) ws hw (m+1) (λb=>(hs2 b).cons.2.1);obtain⟨os',hoo1,hoo2,hoo3⟩:=aCb L _ ho1 ho hw2;refine⟨node 20 i (x'::(ws'++os')),bY (bG hx1 (WT hw1 hoo1)),λb=>?_⟩;refine⟨_,(hs b).cons.1,(hbf b).2,.inl (hbf b).1,pF _ aE _ _,pJ _ aE _,λf label hf _=>?_⟩;have hfit:=(hs2 b).cons.2.1.fit aI;have hc:ws.length<=((ws.map (aL b)).flatten).length:=VU (b:=b) (λz hz=>by obtain⟨a2,xs2,y2,rfl,_⟩:=hw z hz;rw[MV];exact FV _ _);rw[aO]at hfit;rw[aeN,adL,hx2 b]
 show some (aH (aW (L b) m aT) _)=_
 rw[dV (hs2 b).cons.1]
 show some (aH (jW (L b) (cH (L b) (jG (L b) f) true) ((L b).length+1) [x'] (m+1)) _)=_
 rw[hw3 f aB b _ _ aB]
 show some (aH (if iT (L b) _ [gV,qR]then aH (cH (L b) (jG (L b) f) true _) λy j3=>.ok (([x']++ws')++[node 22 _ [y]],j3)else .ok ([x']++ws',_)) _)=_
 rw[hoo3 f aB b]
 show some (aH (BP (L b) label _) _)=_
 rw[(aoT (zs:=[]) (hoo2 b) label).1,hlen]
 show some (Except.ok (node 20 i ([x']++ws'++os'),_))=_
 congr 3
 omega
end Px
end
section
namespace Px
open Lx
def aFE(L:List Tk)(i:Nat):R T:=if cD L i [cJ]then aH (eR L 8 (mI L) (i+1)) λl j=>aH (aW L j dA) λ_ j'=>.ok (gQ l,j')else .ok (node 40 0 [],i)
def atH(L:List Tk)(j:Nat):R Int:=if iT L j [gB]then aH (aW L (j+1) cJ) λ_ j1=>aH (fV L j1 [pO]) λ_ j2=>aH (aW L j2 dA) λ_ j3=>.ok ((1:Int),j3)
 else if iT L j [gE]then .ok (2,j+1)else .ok (0,j)
def aAt(L:List Tk)(j1:Nat):R T:=if iT L j1 [gP]then aH (aW L (j1+1) cJ) λ_ k1=>aH (dS L k1) λx k2=>aH (pR L 3 k2) λxs k3=>aH (aW L k3 dA) λ_ k4=>.ok (gQ (x::xs),k4)
 else .ok (none_,j1)
def aAP(L:List Tk)(stmt:Nat->R T)(a:Nat)(label:AAE)(i:Nat):iE L stmt a label i =
 aH (aFE L i) λparams j=>aH (atH L j) λn j1=>aH (aAt L j1) λret j2=>aH (aW L j2 aT) λ_ j3=>aH (iO L stmt label j3) λg j4=>.ok (.mk 15 n a e0 (params::ret::g),j4):=rfl
def Xw(n:Int):List Tk:=if n=1 then [W gB,O cJ,W pO,O dA]else if n=2 then [W gE]else []
def Fl(b:Bool)(ret:T):List Tk:=if ret.kind=10 then []else W gP::O cJ::((ret.l.map (aL b)).flatten++[O dA])
def ND(b:Bool)(ps:List T):List Tk:=if ps=[]then []else bI (ps.map (aL b))
def aBp(b:Bool)(ret:T):(Fl b ret).length=(Fl false ret).length:=by
 unfold Fl
 split
 ·rfl
 ·simp only[aV,aO,Wi b]
def aAF(b:Bool)(ps:List T):(ND b ps).length=(ND false ps).length:=by
 unfold ND
 split
 ·rfl
 ·rw[pY,pY]
theorem FT.Xw{P:Tk->Bool}{n:Int}{zs:List Tk}(h1:P (W gB)=true)(h2:P (W gE)=true)(hz:FT P zs):FT P (Xw n++zs):=by
 unfold Px.Xw
 exact Sl
theorem FT.Fl{P:Tk->Bool}{b:Bool}{ret:T}{zs:List Tk}(h1:P (W gP)=true)(hz:FT P zs):FT P (Fl b ret++zs):=by
 unfold Px.Fl
 split
 ·exact hz
 ·exact FT.cons h1
section
variable(L:Bool->List Tk)(i:Nat)
include L i
theorem aHq{ps:List T}(a':Int){zs:Bool->List Tk}(hp8:ps.length<=8)(hp:∀ y,y∈ps->isWord y)(hst:∀ b,cW (L b) (i+1) (ND b ps++zs b))(hz:∀ b,FT (CC [cJ,lI,fT,tV,cU]) (zs b)):∃ x',dM x' (.mk 40 0 a' e0 ps)=true/\(∀ b,aFE (L b) (i+1)=.ok (x',i+1+(ND false ps).length))/\(∀ b,cW (L b) (i+1+(ND false ps).length) (zs b))/\∀ b,eF (L b) i=false/\cD (L b) (i+1) [cU]=false:=by
 have hs2:∀ b,cW (L b) (i+1+(ND false ps).length) (zs b):=λb=>by have:=(cW.app (hst b)).2;rwa[aAF]at this
 by_cases he:ps=[]
 ·subst he;have hs:∀ b,cW (L b) (i+1) (zs b):=hst;refine⟨node 40 0 [],bY bQ,λb=>?_,hs2,λb=>aqH (hz b _ _ (hs b))⟩;unfold aFE;rw[aC (by rw[nL rfl (BQ (hz b _ _ (hs b)) aI)];decide)];rfl
 ·have e:∀ b,ND b ps=bI (ps.map (aL b)):=λb=>by unfold ND;rw[aC he]
  have hs:∀ b,cW (L b) (i+1) (bI (ps.map (aL b))++zs b):=λb=>by have:=hst b;rwa[e b]at this
  have hl:(ND false ps).length=(aR (ps.map (aL false))).length+2:=by rw[e false,pY]
  obtain⟨l',h1,h2,h3,h4,h5⟩:=JS L (i+1) mI (λ_=>true) rfl rfl he (λy hy=>aaU (hp y hy)) hs;refine⟨gQ l',CY h1,λb=>?_,hs2,λb=>aCN (xs:=aR (ps.map (aL b))) (nW.aR (dU λy hy=>VB b (hp y hy))) (cW.app (hs b)).1 ?_⟩
  ·unfold aFE;rw[aF (by rw[eZ (h2 b)];decide +kernel),h3 b 8 hp8]
   show aH (aW (L b) _ dA) _=_
   rw[dV (h4 b),hl]
   exact GS
  ·have:=hz b _ _ (hs2 b);rw[hl]at this;rw[aBC];unfold CC at this ⊢;rw[show i+1+(aR (ps.map (aL false))).length+2=i+1+((aR (ps.map (aL false))).length+2)from rfl]
   cases hh:((tok (L b) (i+1+((aR (ps.map (aL false))).length+2))).kind==6&&eH (tok (L b) (i+1+((aR (ps.map (aL false))).length+2))).text [lI,fT,tV]) with
   | false=>rfl
   | true=>
    simp only[bA]at hh
    have hm:=(eX _ _).1 hh.2
    rw [hh.1, (eX _ _).2 (show (tok (L b) (i + 1 + ((aR (ps.map (aL false))).length + 2))).text ∈ [cJ, lI, fT, tV, cU] from by
      simp only [bO, List.not_mem_nil, or_false] at hm ⊢
      rcases hm with h | h | h
      · exact .inr (.inl h)
      · exact .inr (.inr (.inl h))
      · exact .inr (.inr (.inr (.inl h))))] at this
    exact rQ
theorem aGi{n:Int}{zs:Bool->List Tk}(hn:n=0\/n=1\/n=2)(hst:∀ b,cW (L b) i (Xw n++zs b))(h1:∀ b,FT (Oe [gB]) (zs b))(h2:∀ b,FT (Oe [gE]) (zs b)):(∀ b,atH (L b) i=.ok (n,i+(Xw n).length))/\∀ b,cW (L b) (i+(Xw n).length) (zs b):=by
 refine⟨λb=>?_,λb=>(cW.app (hst b)).2⟩;have hs:=hst b
 rcases hn with rfl|rfl|rfl
 ·have hs:cW (L b) i (zs b):=hs;unfold atH;rw[aC (by rw[Aq (h1 b _ _ hs)];decide),aC (by rw[Aq (h2 b _ _ hs)];decide)];rfl
 ·have hs:cW (L b) i (W gB::O cJ::W pO::O dA::zs b):=hs;have g1:=hs.cons;have g2:=g1.2.1.cons;have g3:=g2.2.1.cons;have g4:=g3.2.1.cons;unfold atH;rw[aF (sS g1.1 (kH _)),dV g2.1]
  show aH (fV (L b) (i+1+1) [pO]) _=_
  rw[yK g3.1 (kH _)]
  show aH (aW (L b) (i+1+1+1) dA) _=_
  rw[dV g4.1];rfl
 ·have hs:cW (L b) i (W gE::zs b):=hs;unfold atH;rw[aC (by rw[adF hs.cons.1 aE];decide),aF (sS hs.cons.1 (kH _))];rfl
theorem aHg{ret:T}{zs:Bool->List Tk}(hret:isNone ret\/∃ a' aSq,ret=.mk 40 0 a' e0 aSq/\aSq≠[])(hr4:ret.kind=40->ret.l.length<=4)(hrv:ret.kind=40->∀ y,y∈ret.l->V .attr y)(hst:∀ b,cW (L b) i (Fl b ret++zs b))(h1:∀ b,FT (Oe [gP]) (zs b)):∃ x',dM x' ret=true/\(∀ b,aAt (L b) i=.ok (x',i+(Fl false ret).length))/\∀ b,cW (L b) (i+(Fl false ret).length) (zs b):=by
 have hs2:∀ b,cW (L b) (i+(Fl false ret).length) (zs b):=λb=>by have:=(cW.app (hst b)).2;rwa[aBp]at this
 rcases hret with hn|⟨a',aSq,rfl,hne⟩
 ·have hk:ret.kind=10:=by obtain⟨a,rfl⟩:=hn;rfl
  have e:∀ b,Fl b ret=[]:=λb=>by unfold Fl;rw[aF hk]
  have hs:∀ b,cW (L b) i (zs b):=λb=>by have:=hst b;rwa[e b]at this
  refine⟨none_,wT hn,λb=>?_,hs2⟩;unfold aAt;rw[aC (by rw[Aq (h1 b _ _ (hs b))];decide),e false];rfl
 ·have hv:=hrv rfl;have h4:=hr4 rfl
  cases aSq with
  | nil=>exact absurd rfl hne
  | cons y r=>
   have hs:∀ b,cW (L b) i (W gP::O cJ::(aL b y++((r.map (aL b)).flatten++(O dA::zs b)))):=λb=>by
    have:cW (L b) i (W gP::O cJ::(((aL b y++(r.map (aL b)).flatten)++[O dA])++zs b)):=hst b
    rwa[bT,bT]at this
   have g1:=λb=>(hs b).cons.2.1.cons
   obtain⟨y',hy1,hy2⟩:=apM (hv y (eW ..)) L (i+1+1) (λb=>(cW.app (g1 b).2.1).1);have hs3:∀ b,cW (L b) (i+1+1+len y) ((r.map (aL b)).flatten++(O dA::zs b)):=λb=>by have:=(cW.app (g1 b).2.1).2;rwa[eV]at this
   obtain⟨r',hr1,hr2⟩:=aiI L r (λz hz=>hv z (jZ _ hz)) (i+1+1+len y) (λb=>(cW.app (hs3 b)).1);have hs4:∀ b,cW (L b) (i+1+1+len y+((r.map (aL false)).flatten).length) (O dA::zs b):=λb=>by have:=(cW.app (hs3 b)).2;rwa[Wi]at this
   have hlen:(Fl false (.mk 40 0 a' e0 (y::r))).length=len y+((r.map (aL false)).flatten).length+3:=by
    show (W gP::O cJ::((aL false y++(r.map (aL false)).flatten)++[O dA])).length=_
    simp only[aV,aO,dD];unfold len;omega
   refine⟨gQ (y'::r'),CY (bG hy1 hr1),λb=>?_,hs2⟩;have hSy:∀ b,xB (tok (L b) (i+1+1+len y))=true:=λb=>by
    cases r with
    | nil=>have h5:cW (L b) (i+1+1+len y) (O dA::zs b):=hs3 b;rw[h5.cons.1];decide +kernel
    | cons z q=>
     obtain⟨w,s,hw⟩:=Cr (hv z (jZ _ (eW ..))) b;have h5:cW (L b) (i+1+1+len y) ((aL b z++(q.map (aL b)).flatten)++(O dA::zs b)):=hs3 b;rw[hw]at h5;rw[h5.cons.1];rfl
   unfold aAt;rw[aF (sS (hs b).cons.1 (kH _)),dV (g1 b).1]
   show aH (dS (L b) (i+1+1)) _=_
   rw[show dS (L b) (i+1+1)=_ from hy2 hSy b]
   show aH (pR (L b) 3 (i+1+1+len y)) _=_
   unfold pR;rw[hr2 (λb=>⟨by unfold isName;rw[(hs4 b).cons.1];decide,by rw[(hs4 b).cons.1];decide +kernel⟩) b [] 3 (by have h5:r.length+1<=4:=h4;omega)]
   show aH (aW (L b) _ dA) _=_
   rw[dV (hs4 b).cons.1,hlen]
   show Except.ok (gQ (y'::([]++r')),_)=_
   rw[dI]
   congr 2;omega
end
def aHx(n a a':Int)(ps:List T)(ret:T)(g:List T)(hn:n=0\/n=1\/n=2)(hp8:ps.length<=8)(hp:∀ y,y∈ps->isWord y)(hret:isNone ret\/∃ a' aSq,ret=.mk 40 0 a' e0 aSq/\aSq≠[])(hr4:ret.kind=40->ret.l.length<=4)(hrv:ret.kind=40->∀ y,y∈ret.l->V .attr y)(hg:∀ y,y∈g->V (.st false) y/\CS false y):CL false true (.mk 15 n a e0 (.mk 40 0 a' e0 ps::ret::g)):=by
 have hpr:∀ b,aL b (.mk 15 n a e0 (.mk 40 0 a' e0 ps::ret::g))=W (kw b a bB jL)::(ND b ps++(Xw n++(Fl b ret++group (g.map (aL b))))):=λb=>Uj b _ _ _ _ _ _ _
 have hlen:len (.mk 15 n a e0 (.mk 40 0 a' e0 ps::ret::g))=1+(ND false ps).length+(Xw n).length+(Fl false ret).length+Lf g:=by
  unfold len;rw[hpr];exact Sg
 refine sW aB λL i hst=>?_;have hs:∀ b,cW (L b) i (W (kw b a bB jL)::(ND b ps++(Xw n++(Fl b ret++group (g.map (aL b)))))):=λb=>by have:=hst b;rwa[hpr]at this
 obtain⟨p',hp1,hp2,hs2,hbf⟩:=aHq L i a' hp8 hp (λb=>(hs b).cons.2.1) (λb=>FT.Xw aE aE (FT.Fl aE (FT.cons aE)));obtain⟨ho2,hs3⟩:=aGi L _ hn hs2 (λb=>FT.Fl aE (FT.cons aE)) (λb=>FT.Fl aE (FT.cons aE));obtain⟨r',hr1,hr2,hs4⟩:=aHg L _ hret hr4 hrv hs3 (λb=>FT.cons aE);obtain⟨g',hg1,hg2,hg3⟩:=Fg L _ hg hs4;refine⟨.mk 15 n i e0 (p'::r'::g'),bY (bG hp1 (bG hr1 hg1)),λb=>?_⟩;have hkw:=KL b a bB jL;refine⟨_,(hs b).cons.1,(hbf b).2,.inl (hbf b).1,λ_=>⟨rfl,rfl⟩,pJ _ Ra _,λf label hf _=>?_⟩;rw[Wg hkw,aAP,hp2 b]
 show some (aH (atH (L b) _) _)=_
 rw[ho2 b]
 show some (aH (aAt (L b) _) _)=_
 rw[hr2 b]
 exact Ji
def aLp: So->T->Prop
 | .when_,t=>anF t
 | .other,t=>abE t
 | .st inr,t=>CS inr t
 | .lb inr lab,t=>CL inr lab t
 | .pl inr lab,t=>CL inr lab t
 | _,_=>True
def aId{s:So}{t:T}(h:V s t):aLp s t:=by
 induction h with
 | prefixed inr a ws x h1 h4 hw hx ih=>exact aKR inr a ws x h1 h4 hw ih
 | stmt inr x hx ih=>exact aIs inr x hx ih
 | label inr lab a w x h hx ih=>exact aDY inr lab a w x h ih
 | plain inr lab x hx ih=>exact ih
 | null inr lab a=>exact aIg inr lab a
 | assign inr lab a r x hr h hx=>exact aBd inr lab a r x hr h hx
 | proc n a a' ps ret g hn hp8 hp hret hr4 hrv hg _ ih=>exact aHx n a a' ps ret g hn hp8 hp hret hr4 hrv (λy hy=>⟨hg y hy,ih y hy⟩)
 | begin_ inr lab a g hg ih=>exact aFg inr lab a g (λy hy=>⟨hg y hy,ih y hy⟩)
 | do_ inr lab a g hg ih=>exact aLf inr lab a g (λy hy=>⟨hg y hy,ih y hy⟩)
 | while_ inr lab a x y g hx hy hn hg _ _ ih=>exact aFr inr lab a x y g hx hy hn (λy hy=>⟨hg y hy,ih y hy⟩)
 | loop inr lab a r x t b wh un g hr h hx ht hb hw hu hg _ _ _ _ _ _ ih=>exact aIH inr lab a r x t b wh un g hr h hx ht hb hw hu (λy hy=>⟨hg y hy,ih y hy⟩)
 | select inr lab a x ws os hx hw ho1 ho _ ihw iho=>exact aBL inr lab a x ws os hx ihw ho1 iho
 | when_ a xs y h1 h8 hx hy _ ih=>exact⟨a,xs,y,rfl,h1,h8,hx,hy,ih⟩
 | other a y hy ih=>exact⟨a,y,rfl,hy,ih⟩
 | if2 inr lab a x y hx hy _ ih=>exact aJU inr lab a x y hx ih
 | if3 inr lab a x y z hx hy hc hz _ ihy ihz=>exact aKD inr lab a x y z hx ihy hc hz ihz
 | call inr lab a a' p hp=>exact aHp inr lab a a' p hp
 | ret0 inr lab a=>exact aIr inr lab a
 | ret1 inr lab a x hx=>exact aHI inr lab a x hx
 | goto_ inr lab a w h=>exact aHX inr lab a w
 | leave inr lab k a w hk h=>exact aEk inr lab k a w hk h
 | stop inr lab a=>exact aIn inr lab a
 | on1 inr lab a c x hc hx _ ih=>exact aJO inr lab a c x hc hx ih
 | on0 inr lab a a' c hc=>exact aJu inr lab a a' c hc
 | revert inr lab k a c hk hc=>exact aAz inr lab k a c hk hc
 | alloc inr lab a w x y h hx hxr hy hyr=>exact aFa inr lab a w x y hx hxr hy hyr
 | free inr lab a r x hr h hx hxr=>exact aHk inr lab a r x hr h hx hxr
 | stream0 inr lab k n a w x y hk h0 h99 hw hx hy=>exact awI inr lab k n a w x y hk h0 h99 hw hx hy
 | stream1 inr lab k n a a' w l y hk h0 h99 hw h1 h16 hl hr hy=>exact awK inr lab k n a a' w l y hk h0 h99 hw h1 h16 hl hr hy
 | stream2 inr lab k n a a' a2 w l m hk h0 h99 hw h1 h16 hl hr h2 h32 hm=>exact asV inr lab k n a a' a2 w l m hk h0 h99 hw h1 h16 hl hr h2 h32 hm
 | rd inr lab k a w r x hk h hr hrr hx h44=>exact aLy inr lab k a w r x hk hr hrr hx h44
 | delete inr lab a w x h hx=>exact azK inr lab a w x hx
 | declare lab a l h1 h60 hl=>exact arX lab a l h1 h60 hl
 | _=>trivial
def aKO{inr:Bool}{t:T}(h:V (.st inr) t):CS inr t:=aId h
def aqI(L:List Tk):tok L L.length=⟨0,e0⟩:=TZ (aG _)
def afZ(L:List Tk)(ss:List ByteArray):keyword L L.length ss=false:=wS (by rw[Gb (aqI L)];rfl)
def cW.all(L:List Tk):cW L 0 L:=⟨[],by simp⟩
def Zt{t:T}(h:V (.st false) t):∃ t',dM t' t=true/\∀ b,uN (aL b t) (rW (aL b t))=.ok t':=by
 obtain⟨t',h1,h2⟩:=aKO h (λb=>aL b t) 0 (λb=>cW.all _);refine⟨t',h1,λb=>?_⟩;have hl:=eV b t;unfold uN rW;rw[hl,h2 (len t+1) aB (λ_ b=>by rw[dT,<- eV b t];exact afZ _ _) b]
 exact SJ
def Zu{t:T}(h:V .expr t):∃ t',dM t' t=true/\∀ b,uN (aL b t) (dB (aL b t))=.ok t':=by
 obtain⟨t',h1,h2⟩:=Gr h (λb=>aL b t) 0 (λb=>cW.all _);refine⟨t',h1,λb=>?_⟩;have hl:=eV b t;unfold uN;rw[hl,show dB (aL b t) 0=_ from h2 (λb=>by rw[dT,<- eV b t,aqI];decide +kernel) b]
 exact SJ
end Px
end
section
namespace Px
open Lx
def Gd(ts:List Tk):Prop:=∀ x,x∈ts->eP x.kind x.text=true
def Gd.nil: Gd []:=λ_ h=>by cases h
def Gd.cons{x:Tk}{r:List Tk}(h:eP x.kind x.text=true)(hr:Gd r):Gd (x::r):=λy hy=>by
 rcases bO.1 hy with rfl|hy
 ·exact h
 ·exact hr y hy
def Gd.app{a b:List Tk}(ha:Gd a)(hb:Gd b):Gd (a++b):=λy hy=>by
 rcases fP.1 hy with hy|hy
 ·exact ha y hy
 ·exact hb y hy
theorem Gd.aR: ∀ {ps:List (List Tk)},(∀ p,p∈ps->Gd p)->Gd (aR ps):=by
 intro ps
 exact Tf
theorem Gd.jN: ∀ {ps:List (List Tk)},(∀ p,p∈ps->Gd p)->Gd (jN ps):=by
 intro ps
 exact Tf
def Gd.flat: ∀ {ps:List (List Tk)},(∀ p,p∈ps->Gd p)->Gd ps.flatten:=by
 intro ps
 induction ps with
 | nil=>intro _;exact Gd.nil
 | cons x r ih=>intro h;exact(h x (eW ..)).app (ih λp hp=>h p (jZ _ hp))
def Gd.one{x:Tk}(h:eP x.kind x.text=true):Gd [x]:=Gd.cons h Gd.nil
def Ru: eP (O cJ).kind (O cJ).text=true:=by decide +kernel
def St: eP (O dA).kind (O dA).text=true:=by decide +kernel
def Gd.FX{ps:List (List Tk)}(h:∀ p,p∈ps->Gd p):Gd (bI ps):=Gd.cons Ru ((Gd.aR h).app (Gd.one St))
def Gd.asS{p:List Tk}(h:Gd p):Gd (bI [p]):=Gd.FX (by intro q hq;rw[cO.1 hq];exact h)
theorem Gd.operand{c:T}{p:List Tk}{m:Int}(h:Gd p):Gd (operand c p m):=by
 unfold Px.operand
 split
 ·exact Gd.asS h
 ·exact h
theorem Gd.opt{w:AAE}{c:T}{p:List Tk}(hw:eP 1 w=true)(h:¬ isNone c->Gd p):Gd (opt w c p):=by
 unfold Px.opt
 split
 ·exact Gd.nil
 ·rename_i hk
  exact Gd.cons hw (Gd.asS (h λ⟨a,e⟩=>hk rO))
theorem Gd.lK{w:AAE}{c:T}{p:List Tk}(hw:eP 1 w=true)(h:¬ isNone c->Gd p):Gd (lK w c p):=by
 unfold Px.lK
 split
 ·exact Gd.nil
 ·rename_i hk
  exact Gd.cons hw (h λ⟨a,e⟩=>hk rO)
theorem Gd.group{ps:List (List Tk)}(h:∀ p,p∈ps->Gd p):Gd (group ps):=
 Gd.cons aE ((Gd.flat h).app (Gd.cons aE (Gd.one aE)))
def Gd.ite{c:Prop}[Decidable c]{x y:List Tk}(h:c->Gd x)(g:¬ c->Gd y):Gd (if c then x else y):=by
 exact Ap
theorem Gd.W{w:AAE}{r:List Tk}(h:Ci w)(hr:Gd r):Gd (W w::r):=Gd.cons h hr
def aJR(n:Nat):Bool:=eP 2 (UU n)
def ayU: ∀ n:Fin 1001,aJR n.val=true:=by decide +kernel
def aoW{n:Int}(h0:0<=n)(h1:n<=1000):eP (Nm n).kind (Nm n).text=true:=by
 have:=ayU ⟨n.toNat,by omega⟩;unfold aJR at this;simp only at this
 rw[Int.toNat_of_nonneg h0]at this;exact this
def aoO{w:AAE}(h:Ci w)(b:Bool)(a:Int):Ci (kA b a w):=by
 unfold kA
 rcases KL b a w (mJ w)with e|e
 ·rw[e];exact h
 ·rw[e];unfold mJ
  repeat' split
  all_goals first|exact h|(unfold Ci;decide +kernel)
def apA{l s:AAE}(hl:Ci l)(hs:Ci s)(b:Bool)(a:Int):Ci (kw b a l s):=by
 rcases KL b a l s with e|e<;>(rw[e];assumption)
def aCn{w:AAE}(h:0<=level w):eP 6 w=true:=by
 obtain⟨m,hm,_,h2,_⟩:=Nz w h;have h3:=(eX _ _).1 h2;have hall:∀ m:Fin 6,((hY m.val).all λs=>eP 6 s)=true:=by decide +kernel
 exact iJ.1 (hall ⟨m,by omega⟩) w h3
def Uw{t:T}(b:Bool)(h:isWord t):Gd (aL b t):=by
 obtain⟨a,w,rfl,hw⟩:=h;rw[sX];exact Gd.one hw
def alL{t:T}(b:Bool)(h:IY t):Gd (aL b t):=by
 obtain⟨n,a,w,rfl,hw⟩:=h;rw[lR];exact Gd.one hw.2
def aAv{t:T}(b:Bool)(h:VL t):Gd (aL b t):=by
 obtain⟨a,w,rfl,hw⟩:=h;rw[lR];exact Gd.one hw.2
def Nt{s:So}{t:T}(b:Bool)(h:V s t):Gd (aL b t):=by
 induction h with
 | const n a w h=>rw[lR];exact Gd.one h.2
 | ref a ps h1 h8 h ih=>rw[Ge];exact Gd.jN (dU ih)
 | ptr a x y hx hr hy h2 ihx ihy=>rw[Ic];exact ihx.app (Gd.cons aE ihy)
 | un a w x hw hx ih=>rw[Ij];exact Gd.cons Py (Gd.operand ih)
 | bin a w x y hw hx hy ihx ihy=>rw[Gh];exact(Gd.operand ihx).app (Gd.cons (aCn hw) (Gd.operand ihy))
 | part0 a w h=>rw[xV];exact Gd.one h
 | part1 a w l h h16 hl ih=>rw[yP];exact Gd.W h (Gd.FX (dU ih))
 | arg x h ih=>exact ih
 | star a=>rw[BV];exact Gd.one aE
 | fmtN n a l h1 h2 hne hl ih=>rw[Ub _ _ _ _ _ (NX hne hl)];exact Gd.cons (aoW aB aB) (Gd.FX (dU ih))
 | fmtP a c h=>rw[UF];exact Gd.W lH (aAv b h)
 | fmt a w l hw h h2 hl=>
  by_cases he:l=[]
  ·subst he;rw[UE];exact Gd.one h
  ·rw[Uo _ _ _ _ _ hw he];exact Gd.W h (Gd.FX (dU λx hx=>alL b (hl x hx)))
 | attrP a c h=>rw[qI];exact Gd.W (aoO lH b a) (aAv b h)
 | attrL a x h h2 ih=>rw[qI];exact Gd.W (aoO lH b a) ih
 | attr0 a w h h1 h2 h3=>rw[qI];exact Gd.W (aoO h b a) Gd.nil
 | attr1 a w l h h1 h2 h3 h60 hl ih=>rw[Hw];exact Gd.W (aoO h b a) (Gd.FX (dU ih))
 | val x h ih=>exact ih
 | valR n a c h1 h2 hc=>
  have hcc:isConst c=true:=by
   rcases hc with ⟨_,_,_,rfl,_⟩|⟨_,_,c',rfl,_,⟨_,_,_,rfl,_⟩⟩<;>rfl
  rw[Gt _ _ _ _ _ hcc];refine Gd.cons Ru (Gd.cons (aoW aB h2) (Gd.cons St ?_))
  rcases hc with h|⟨a',w,c',rfl,hw,h⟩
  ·exact alL b h
  ·rw[Ij];exact Gd.cons Py (Gd.operand (alL b h))
 | bound2 a x y hx hy ihx ihy=>rw[Ou _ _ _ _ _ _ (uT hx)];exact ihx.app (Gd.cons aE ihy)
 | bound1 a x y hx hy ihy=>rw[OB _ _ _ _ _ _ (by obtain⟨a,rfl⟩:=hx;rfl)];exact ihy
 | item n a x bs aSq h0 h99 hx hxs hi hb hbs hbv has hav ih1 ih2 ih3=>
  rw[LK];refine Gd.app (Gd.ite (λ_=>Gd.nil) (λ_=>Gd.one (aoW h0 aB))) (Gd.app ?_ (Gd.app (Gd.ite (λ_=>Gd.nil) (λ_=>Gd.FX (dU ih2))) (Gd.flat (dU ih3))));refine Gd.ite (λhk=>Gd.FX (dU λy hy=>ih1 hk y hy)) (λhk=>?_)
  rcases hx with hw|⟨a',its,rfl,_⟩
  ·exact Uw b hw
  ·exact absurd rfl hk
 | cond0 a w h=>rw[Jb];exact Gd.one h
 | cond1 a w x h hx=>rw[EX];exact Gd.W h (Gd.asS (Uw b hx))
 | prefixed inr a ws x h1 h4 hw hx ih=>rw[Lv];exact(Gd.FX (dU λy hy=>Uw b (hw y hy))).app (Gd.cons aE ih)
 | stmt inr x hx ih=>exact ih
 | label inr lab a w x h hx ih=>rw[EJ];exact Gd.W h (Gd.cons aE ih)
 | plain inr lab x hx ih=>exact ih
 | null inr lab a=>rw[Uh];exact Gd.one aE
 | assign inr lab a r x hr h hx ihr ihx=>rw[ES];exact ihr.app (Gd.cons aE (ihx.app (Gd.one aE)))
 | proc n a a' ps ret g hn hp8 hp hret hr4 hrv hg ih1 ih2=>
  rw[Uj];refine Gd.W (apA lH lH b a) (Gd.app (Gd.ite (λ_=>Gd.nil) (λ_=>Gd.FX (dU λy hy=>Uw b (hp y hy)))) (Gd.app (Gd.ite (λ_=>?_) (λ_=>Gd.ite (λ_=>Gd.one aE) (λ_=>Gd.nil))) (Gd.app (Gd.ite (λ_=>Gd.nil) (λhk=>?_)) (Gd.group (dU ih2)))))
  ·exact Gd.cons aE (Gd.cons Ru (Gd.cons aE (Gd.one St)))
  ·rcases hret with ⟨a',rfl⟩|⟨a',aSq,rfl,_⟩
   ·exact absurd rfl hk
   ·exact Gd.cons aE (Gd.cons Ru ((Gd.flat (dU (ih1 rfl))).app (Gd.one St)))
 | begin_ inr lab a g hg ih=>rw[Mq];exact OP
 | do_ inr lab a g hg ih=>rw[aqZ];exact OP
 | while_ inr lab a x y g hx hy hn hg ihx ihy ih=>rw[No];exact Gd.cons aE ((Gd.opt aE ihx).app ((Gd.opt aE ihy).app (Gd.group (dU ih))))
 | loop inr lab a r x t b' wh un g hr h hx ht hb hw hu hg ihr ihx iht ihb ihw ihu ih=>
  rw[Ue];exact Gd.cons aE (ihr.app (Gd.cons aE (ihx.app ((Gd.lK aE iht).app ((Gd.lK aE ihb).app ((Gd.opt aE ihw).app ((Gd.opt aE ihu).app (Gd.group (dU ih)))))))))
 | select inr lab a x ws os hx hw ho1 ho ihx ihw iho=>
  rw[JG];refine Gd.cons aE (Gd.app (Gd.ite (λ_=>Gd.nil) (λhk=>Gd.asS (ihx λ⟨a,e⟩=>hk rO))) (Gd.group (dU λy hy=>?_)))
  rcases fP.1 hy with hy|hy
  ·exact ihw y hy
  ·exact iho y hy
 | when_ a xs y h1 h8 hx hy ihx ihy=>rw[MV];exact Gd.cons aE ((Gd.FX (dU ihx)).app ihy)
 | other a y hy ih=>rw[LZ];exact Gd.W (apA lH lH b a) ih
 | if2 inr lab a x y hx hy ihx ihy=>rw[ZV];exact Gd.cons aE (ihx.app (Gd.cons aE ihy))
 | if3 inr lab a x y z hx hy hc hz ihx ihy ihz=>rw[aaV];exact Gd.cons aE (ihx.app (Gd.cons aE (ihy.app (Gd.cons aE ihz))))
 | call inr lab a a' p hp ih=>rw[Ut];exact Gd.cons aE (ih.app (Gd.one aE))
 | ret0 inr lab a=>rw[UB];exact QH
 | ret1 inr lab a x hx ih=>rw[Uk];exact Gd.cons aE ((Gd.asS ih).app (Gd.one aE))
 | goto_ inr lab a w h=>rw[UK];exact Gd.cons aE (Gd.cons aE (Gd.W h (Gd.one aE)))
 | leave inr lab k a w hk h=>
  rw[MR _ _ _ _ _ _ hk];refine Gd.cons pX (Gd.app (Gd.ite (λ_=>Gd.nil) (λhs=>Gd.one (h.resolve_left λe=>hs rO))) (Gd.one aE))
 | stop inr lab a=>rw[Ur];exact QH
 | on1 inr lab a c x hc hx ihc ihx=>rw[Vh];exact Gd.cons aE (ihc.app ihx)
 | on0 inr lab a a' c hc ihc=>rw[Vh,Nr];exact Gd.cons aE (ihc.app (Gd.cons aE (Gd.one aE)))
 | revert inr lab k a c hk hc ihc=>rw[JN _ _ _ _ _ _ hk];exact Gd.cons pX (ihc.app (Gd.one aE))
 | alloc inr lab a w x y h hx hxr hy hyr ihx ihy=>
  rw[MN];exact Gd.W (apA lH lH b a) (Gd.W h ((Gd.opt aE ihx).app ((Gd.opt aE ihy).app (Gd.one aE))))
 | free inr lab a r x hr h hx hxr ihr ihx=>rw[UI];exact Gd.cons aE (ihr.app ((Gd.opt aE ihx).app (Gd.one aE)))
 | stream0 inr lab k n a w x y hk h0 h99 hw hx hy=>
  rw[EM _ _ _ _ _ _ _ hk];obtain⟨ax,rfl⟩:=hx;obtain⟨ay,rfl⟩:=hy;refine Gd.cons pX (Gd.app (Gd.ite (λ_=>Gd.nil) (λhs=>?_)) (Gd.app (Gd.ite (λ_=>Gd.nil) (λ_=>?_)) (Gd.app Gd.nil (Gd.one aE))))
  ·exact Jp
  exact Ho
 | stream1 inr lab k n a a' w l y hk h0 h99 hw h1 h16 hl hr hy ih=>
  rw[EM _ _ _ _ _ _ _ hk];obtain⟨ay,rfl⟩:=hy;refine Gd.cons pX (Gd.app (Gd.ite (λ_=>Gd.nil) (λhs=>?_)) (Gd.app (Gd.ite (λ_=>Gd.nil) (λ_=>?_)) (Gd.app (show Gd (W wQ::bI (l.map (aL b)))from Gd.cons aE (Gd.FX (dU ih))) (Gd.one aE))))
  ·exact Jp
  exact Ho
 | stream2 inr lab k n a a' a2 w l m hk h0 h99 hw h1 h16 hl hr h2 h32 hm ih ihm=>
  rw[EM _ _ _ _ _ _ _ hk];refine Gd.cons pX (Gd.app (Gd.ite (λ_=>Gd.nil) (λhs=>?_)) (Gd.app (Gd.ite (λ_=>Gd.nil) (λ_=>?_)) (Gd.app (show Gd (W rX::(bI (l.map (aL b))++bI (m.map (aL b))))from Gd.cons aE ((Gd.FX (dU ih)).app (Gd.FX (dU ihm)))) (Gd.one aE))))
  ·exact Jp
  exact Ho
 | rd inr lab k a w r x hk h hr hrr hx h44 ihr ihx=>
  rw[aoH _ _ _ _ _ _ _ hk];exact Gd.cons xC (Gd.cons aE (Gd.cons Ru (Gd.W h (Gd.cons St ((Gd.opt xC (λ_=>ihr)).app ((Gd.opt xC ihx).app (Gd.one aE)))))))
 | delete inr lab a w x h hx ih=>rw[JX _ _ _ _ _ (uT hx)];exact Gd.cons aE (Gd.cons aE (Gd.cons Ru (Gd.W h (Gd.cons St (Gd.cons aE ((Gd.asS ih).app (Gd.one aE)))))))
 | declare lab a l h1 h60 hl ih=>rw[Gg];exact Gd.W (apA lH lH b a) ((Gd.aR (dU ih)).app (Gd.one aE))
end Px
end
