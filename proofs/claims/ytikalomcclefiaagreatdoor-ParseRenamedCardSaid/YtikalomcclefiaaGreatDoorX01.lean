/- Part 01. -/
import Derived.Test.YtikalomcclefiaaGreatDoorV14
import Derived.Test.YtikalomcclefiaaGreatDoorV46
set_option linter.all false
set_option maxHeartbeats 0
set_option maxRecDepth 100000
namespace Go.Proofs.YtikalomcclefiaaGreatDoor
section
namespace Px
open Lx
def alA(a:List T):dK a a=true:=(NP a a).2 rfl
end Px
end
section
namespace Px
open Lx
mutual
def qX(f:ByteArray->ByteArray)(b:Bool):T->T
 | .mk k n a w l=>.mk k n a (if k=3\/(b=true/\k=11)then f w else w) (BS f (decide (k=48)) l)
def BS(f:ByteArray->ByteArray)(b:Bool):List T->List T
 | []=>[]
 | x::r=>qX f b x::BS f false r
end
variable {f:ByteArray->ByteArray}
def Kg: ∀ (l:List T),BS f false l=l.map (qX f false):=by
 intro l
 induction l with
 | nil=>rw[BS];rfl
 | cons x r ih=>rw[BS,ih];rfl
def abJ(b:Bool)(l:List T):(BS f b l).length=l.length:=by
 cases l with
 | nil=>rw[BS]
 | cons x r=>rw[BS,Kg];simp
def aBO(b:Bool)(l:List T)(x:T):BS f b (l++[x])=BS f b l++[qX f (b&&l.isEmpty) x]:=by
 cases l with
 | nil=>simp[BS]
 | cons y r=>simp[BS,Kg]
def WQ(t:T)(s:AAE):T:=.mk t.kind t.n t.at_ s t.l
def aHS(t:T):qX f true t=qX f false (if t.kind=11 then WQ t (f t.word)else t):=by
 obtain⟨k,n,a,w,l⟩:=t
 by_cases h:k=11
 ·subst h
  simp[qX,WQ,T.kind,T.n,T.at_,T.l,T.word]
 ·simp[qX,h,T.kind]
def MS(b:Bool)(t:T):(qX f b t).kind=t.kind:=by obtain⟨k,n,a,w,l⟩:=t;rw[qX];rfl
def Tc(b:Bool)(k n a:Int)(w:AAE)(l:List T)(h3:k≠3)(h11:k≠11)(h48:k≠48):qX f b (.mk k n a w l)=.mk k n a w (l.map (qX f false)):=by
 rw[qX,aC aB,bX h48,Kg]
def aLB{b:Bool}{t:T}(h:t.kind≠11):qX f b t=qX f false t:=by
 obtain⟨k,n,a,w,l⟩:=t;have h:k≠11:=h;rw[qX,qX]
 congr 1
 by_cases h3:k=3
 ·rw[aF (.inl h3),aF (.inl h3)]
 ·rw[aC (by simp[h3,h]),aC (by simp[h3,h])]
def FM{b:Bool}{t:T}(h:isNone t):qX f b t=t:=by obtain⟨a,rfl⟩:=h;rw[Tc _ _ _ _ _ _ aD aD aD];rfl
def acF{t:T}(h:isWord t):qX f false t=t:=by
 obtain⟨a,w,rfl,_⟩:=h;rw[qX,aC aI,BS]
def amQ{t:T}(h:IY t):qX f false t=t:=by obtain⟨n,a,w,rfl,_⟩:=h;rw[Tc _ _ _ _ _ _ aD aD aD];rfl
def ayW{t:T}(h:VL t):qX f false t=t:=by obtain⟨a,w,rfl,_⟩:=h;rw[Tc _ _ _ _ _ _ aD aD aD];rfl
def NA{t:T}(h:isNone (qX f false t)):isNone t:=by
 obtain⟨a,h⟩:=h;obtain⟨k,n,a',w,l⟩:=t;have hk:k=10:=by have:=congrArg T.kind h;rwa[MS]at this
 subst hk;rw[Tc _ _ _ _ _ _ aD aD aD]at h
 injection h with h1 h2 h3 h4 h5
 rw[List.map_eq_nil_iff]at h5;exact⟨a',by rw[h2,h4,h5]⟩
def Ha{t:T}(h:isRef t):isRef (qX f false t):=by unfold isRef at h ⊢; rwa[MS]
def aGu: ∀ d (t:T),depth t<=d->eN (qX f false t)=eN t:=by
 intro d
 induction d with
 | zero=>exact Ro
 | succ d ih=>
  intro t hd;obtain⟨k,n,a,w,l⟩:=t
  by_cases h48:k=48
  ·subst h48;rw[qX,aaE aD,aaE aD]
  rw[qX,bX h48,Kg];unfold depth at hd;have H:=λx (hx:x∈l)=>ih x (by have:=JR hx;omega)
  match l,H with
  | [],_=>
   conv=>lhs;unfold eN
   conv=>rhs;unfold eN
   rfl
  | [x],H=>
   conv=>lhs;unfold eN
   conv=>rhs;unfold eN
   simp only[dC,oY]
   rw[H x aI]
  | [x,y],H=>
   conv=>lhs;unfold eN
   conv=>rhs;unfold eN
   simp only[dC,oY]
   rw[H y aI]
  | [x,y,z],H=>
   conv=>lhs;unfold eN
   conv=>rhs;unfold eN
   simp only[dC,oY]
   rw[H z aI]
  | [x,y,z,u],H=>
   conv=>lhs;unfold eN
   conv=>rhs;unfold eN
   simp only[dC,oY]
   rw[H u aI]
  | [x,y,z,u,v],H=>
   conv=>lhs;unfold eN
   conv=>rhs;unfold eN
   simp only[dC,oY]
   rw[H v aI]
  | x::y::z::u::v::r::s,_=>
   conv=>lhs;unfold eN
   conv=>rhs;unfold eN
   rfl
def Wu{s:So}{l:List T}{g:T->T}(h:∀ x,x∈l->V s (g x)):∀ y,y∈l.map g->V s y:=λy hy=>by
 obtain⟨x,hx,rfl⟩:=iL.1 hy;exact h x hx
def Vj{l:List T}{g:T->T}(h:∀ x,x∈l->g x=x):l.map g=l:=by
 induction l with
 | nil=>rfl
 | cons x r ih=>rw[dC,h x (.head _),ih λy hy=>h y (.tail _ hy)]
def opV{t:T}(h:¬ isNone t->V .expr (qX f false t)):¬ isNone (qX f false t)->V .expr (qX f false t):=λg=>h λe=>g (by rw[FM e];exact e)
def opR{t:T}(h:¬ isNone t->isRef t):¬ isNone (qX f false t)->isRef (qX f false t):=λg=>Ha (h λe=>g (by rw[FM e];exact e))
def aKz(hf:∀ w,Ci w->Ci (f w)){s:So}{t:T}(h:V s t):V s (qX f false t):=by
 have M:=λ(k n a:Int) (w:AAE) (l:List T) (h3:k≠3) (h11:k≠11) (h48:k≠48)=>Tc (f:=f) false k n a w l h3 h11 h48
 induction h with
 | const n a w h=>rw[M _ _ _ _ _ aD aD aD];exact .const _ _ _ h
 | ref a ps h1 h8 h ih=>rw[M _ _ _ _ _ aD aD aD];exact .ref _ _ wX (by simpa using h8) (Wu ih)
 | ptr a x y hx hr hy h2 ix iy=>rw[M _ _ _ _ _ aD aD aD];exact .ptr _ _ _ ix (Ha hr) iy (by rw[MS];exact h2)
 | un a w x hw hx ix=>rw[M _ _ _ _ _ aD aD aD];exact .un _ _ _ hw ix
 | bin a w x y hw hx hy ix iy=>rw[M _ _ _ _ _ aD aD aD];exact .bin _ _ _ _ hw ix iy
 | part0 a w h=>rw[qX,aF (.inl rfl),BS];exact .part0 _ _ (hf w h)
 | part1 a w l h h16 hl ih=>rw[qX,aF (.inl rfl),bX aD,Kg];exact .part1 _ _ _ (hf w h) (by simpa using h16) (Wu ih)
 | arg x h ih=>exact .arg _ ih
 | star a=>rw[M _ _ _ _ _ aD aD aD];exact .star _
 | fmtN n a l h1 h2 hne hl ih=>rw[M _ _ _ _ _ aD aD aD];exact .fmtN _ _ _ h1 h2 (by simpa using hne) (Wu ih)
 | fmtP a c h=>rw[M _ _ _ _ _ aD aD aD,dC,ayW h];exact .fmtP _ _ h
 | fmt a w l hw h h2 hl=>rw[M _ _ _ _ _ aD aD aD,Vj λx hx=>amQ (hl x hx)];exact .fmt _ _ _ hw h h2 hl
 | attrP a c h=>rw[M _ _ _ _ _ aD aD aD,dC,ayW h];exact .attrP _ _ h
 | attrL a x h h2 ih=>rw[M _ _ _ _ _ aD aD aD];exact .attrL _ _ ih (by rw[MS];exact h2)
 | attr0 a w h h1 h2 h3=>rw[M _ _ _ _ _ aD aD aD];exact .attr0 _ _ h h1 h2 h3
 | attr1 a w l h h1 h2 h3 h60 hl ih=>rw[M _ _ _ _ _ aD aD aD];exact .attr1 _ _ _ h h1 h2 h3 (by simpa using h60) (Wu ih)
 | val x h ih=>exact .val _ ih
 | valR n a c h1 h2 hc=>
  rw[M _ _ _ _ _ aD aD aD,dC]
  rcases hc with hc|⟨a',w,c',rfl,hw,hc⟩
  ·rw[amQ hc];exact .valR _ _ _ h1 h2 (.inl hc)
  ·rw[M _ _ _ _ _ aD aD aD,dC,amQ hc];exact .valR _ _ _ h1 h2 (.inr ⟨_,_,_,rfl,hw,hc⟩)
 | bound2 a x y hx hy ix iy=>rw[M _ _ _ _ _ aD aD aD];exact .bound2 _ _ _ ix iy
 | bound1 a x y hx hy iy=>rw[M _ _ _ _ _ aD aD aD,dC,FM hx];exact .bound1 _ _ _ hx iy
 | item n a x bs aSq h0 h99 hx hxs hi hb hbs hbv has hav ii ib ia=>
  rw[qX,aC aD,eQ rfl,BS,Kg,dC];obtain⟨a',l,rfl⟩:=hb;rw[M _ _ _ _ _ aD aD aD]
  rcases hx with ⟨a2,w2,rfl,hw2⟩|⟨a2,its,rfl,hne⟩
  ·rw[qX,aF (.inr ⟨rfl,rfl⟩),BS];exact .item _ _ _ _ _ h0 h99 (.inl ⟨_,_,rfl,hf _ hw2⟩) (λh=>absurd h (show ¬ (11:Int)=40 by decide)) (λh=>absurd h (show ¬ (11:Int)=40 by decide)) ⟨_,_,rfl⟩ (by simpa[T.l]using hbs) (Wu ib) (by simpa using has) (Wu ia)
  ·rw[Tc _ _ _ _ _ _ aD aD aD];exact .item _ _ _ _ _ h0 h99 (.inr ⟨_,_,rfl,by simpa using hne⟩) (λ_=>by have:=hxs rfl;simpa[T.l]using this) (λ_=>Wu (ii rfl)) ⟨_,_,rfl⟩ (by simpa[T.l]using hbs) (Wu ib) (by simpa using has) (Wu ia)
 | cond0 a w h=>rw[M _ _ _ _ _ aD aD aD];exact .cond0 _ _ h
 | cond1 a w x h hx=>rw[M _ _ _ _ _ aD aD aD,dC,acF hx];exact .cond1 _ _ _ h hx
 | prefixed inr a ws x h1 h4 hw hx ix=>rw[M _ _ _ _ _ aD aD aD,iX,Vj λy hy=>acF (hw y hy)];exact .prefixed _ _ _ _ h1 h4 hw ix
 | stmt inr x hx ix=>exact .stmt _ _ ix
 | label inr lab a w x h hx ix=>rw[M _ _ _ _ _ aD aD aD];exact .label _ _ _ _ _ h ix
 | plain inr lab x hx ix=>exact .plain _ _ _ ix
 | null inr lab a=>rw[M _ _ _ _ _ aD aD aD];exact .null _ _ _
 | assign inr lab a r x hr h hx ir ix=>rw[M _ _ _ _ _ aD aD aD];exact .assign _ _ _ _ _ ir (Ha h) ix
 | proc n a a' ps ret g hn hp8 hp hret hr4 hrv hg ir ig=>
  rw[M _ _ _ _ _ aD aD aD,dC,M _ _ _ _ _ aD aD aD,Vj λy hy=>acF (hp y hy),dC]
  rcases hret with h|⟨a2,aSq,rfl,hne⟩
  ·rw[FM h];exact .proc _ _ _ _ _ _ hn hp8 hp (.inl h) hr4 hrv (Wu ig)
  ·rw[M _ _ _ _ _ aD aD aD];exact .proc _ _ _ _ _ _ hn hp8 hp (.inr ⟨_,_,rfl,by simpa using hne⟩) (λ_=>by have:=hr4 rfl;simpa[T.l]using this) (λ_=>Wu (ir rfl)) (Wu ig)
 | begin_ inr lab a g hg ig=>rw[M _ _ _ _ _ aD aD aD];exact .begin_ _ _ _ _ (Wu ig)
 | do_ inr lab a g hg ig=>rw[M _ _ _ _ _ aD aD aD];exact .do_ _ _ _ _ (Wu ig)
 | while_ inr lab a x y g hx hy hn hg ix iy ig=>rw[M _ _ _ _ _ aD aD aD];exact .while_ _ _ _ _ _ _ (opV ix) (opV iy) (λe=>hn ⟨NA e.1,NA e.2⟩) (Wu ig)
 | loop inr lab a r x t b wh un g hr h hx ht hb hw hu hg ir ix it ib iw iu ig=>rw[M _ _ _ _ _ aD aD aD];exact .loop _ _ _ _ _ _ _ _ _ _ ir (Ha h) ix (opV it) (opV ib) (opV iw) (opV iu) (Wu ig)
 | select inr lab a x ws os hx hw ho1 ho ix iw io=>rw[M _ _ _ _ _ aD aD aD,dC,iX];exact .select _ _ _ _ _ _ (opV ix) (Wu iw) (by simpa using ho1) (Wu io)
 | when_ a xs y h1 h8 hx hy ix iy=>rw[M _ _ _ _ _ aD aD aD,iX];exact .when_ _ _ _ wX (by simpa using h8) (Wu ix) iy
 | other a y hy iy=>rw[M _ _ _ _ _ aD aD aD];exact .other _ _ iy
 | if2 inr lab a x y hx hy ix iy=>rw[M _ _ _ _ _ aD aD aD];exact .if2 _ _ _ _ _ ix iy
 | if3 inr lab a x y z hx hy hc hz ix iy iz=>rw[M _ _ _ _ _ aD aD aD];exact .if3 _ _ _ _ _ _ ix iy (by rw[aGu _ y (aG _)];exact hc) iz
 | call inr lab a a' p hp ip=>rw[M _ _ _ _ _ aD aD aD,dC,M _ _ _ _ _ aD aD aD];exact .call _ _ _ _ _ ip
 | ret0 inr lab a=>rw[M _ _ _ _ _ aD aD aD];exact .ret0 _ _ _
 | ret1 inr lab a x hx ix=>rw[M _ _ _ _ _ aD aD aD];exact .ret1 _ _ _ _ ix
 | goto_ inr lab a w h=>rw[M _ _ _ _ _ aD aD aD];exact .goto_ _ _ _ _ h
 | leave inr lab k a w hk h=>rw[M _ _ _ _ _ aB aB aB];exact .leave _ _ _ _ _ hk h
 | stop inr lab a=>rw[M _ _ _ _ _ aD aD aD];exact .stop _ _ _
 | on1 inr lab a c x hc hx ic ix=>rw[M _ _ _ _ _ aD aD aD];exact .on1 _ _ _ _ _ ic ix
 | on0 inr lab a a' c hc ic=>rw[M _ _ _ _ _ aD aD aD,dC,dC,M 33 _ _ _ _ aD aD aD];exact .on0 _ _ _ _ _ ic
 | revert inr lab k a c hk hc ic=>rw[M _ _ _ _ _ aB aB aB];exact .revert _ _ _ _ _ hk ic
 | alloc inr lab a w x y h hx hxr hy hyr ix iy=>rw[M _ _ _ _ _ aD aD aD];exact .alloc _ _ _ _ _ _ h (opV ix) (opR hxr) (opV iy) (opR hyr)
 | free inr lab a r x hr h hx hxr ir ix=>rw[M _ _ _ _ _ aD aD aD];exact .free _ _ _ _ _ ir (Ha h) (opV ix) (opR hxr)
 | stream0 inr lab k n a w x y hk h0 h99 hw hx hy=>rw[M _ _ _ _ _ aB aB aB,dC,dC,FM hx,FM hy];exact .stream0 _ _ _ _ _ _ _ _ hk h0 h99 hw hx hy
 | stream1 inr lab k n a a' w l y hk h0 h99 hw h1 h16 hl hr hy il=>rw[M _ _ _ _ _ aB aB aB,dC,dC,M 40 _ _ _ _ aD aD aD,FM hy];exact .stream1 _ _ _ _ _ _ _ _ _ hk h0 h99 hw wX (by simpa using h16) (Wu il) (λe y hy=>by obtain⟨x,hx,rfl⟩:=iL.1 hy;exact Ha (hr e x hx)) hy
 | stream2 inr lab k n a a' a2 w l m hk h0 h99 hw h1 h16 hl hr h2 h32 hm il im=>rw[M _ _ _ _ _ aB aB aB,dC,dC,M 40 _ _ _ _ aD aD aD,M 40 _ _ _ _ aD aD aD];exact .stream2 _ _ _ _ _ _ _ _ _ _ hk h0 h99 hw wX (by simpa using h16) (Wu il) (λe y hy=>by obtain⟨x,hx,rfl⟩:=iL.1 hy;exact Ha (hr e x hx)) (by simpa using h2) (by simpa using h32) (Wu im)
 | rd inr lab k a w r x hk h hr hrr hx h44 ir ix=>rw[M _ _ _ _ _ aB aB aB];exact .rd _ _ _ _ _ _ _ hk h ir (Ha hrr) (opV ix) (λe g=>h44 e (NA g))
 | delete inr lab a w x h hx ix=>rw[M _ _ _ _ _ aD aD aD];exact .delete _ _ _ _ _ h ix
 | declare lab a l h1 h60 hl ih=>rw[M _ _ _ _ _ aD aD aD];exact .declare _ _ _ wX (by simpa using h60) (Wu ih)
end Px
end
section
open Lx Px
mutual
theorem UX{f:ByteArray->ByteArray}:∀ (b:Bool) (t:T),nodes (qX f b t)=nodes t
 | b,.mk k n a w l=>by rw[qX,nodes,nodes,XT]
theorem XT{f:ByteArray->ByteArray}:∀ (b:Bool) (l:List T),bV (BS f b l)=bV l
 | _,[]=>by rw[BS]
 | b,x::r=>by rw[BS,bV,bV,UX,XT]
end
mutual
theorem Vw{f:ByteArray->ByteArray}:∀ (b:Bool) (t:T),depth (qX f b t)=depth t
 | b,.mk k n a w l=>by rw[qX,depth,depth,Zm]
theorem Zm{f:ByteArray->ByteArray}:∀ (b:Bool) (l:List T),jX (BS f b l)=jX l
 | _,[]=>by rw[BS]
 | b,x::r=>by rw[BS,jX,jX,Vw,Zm]
end
mutual
theorem ayM{f:ByteArray->ByteArray}{P:Int->ByteArray->Nat->Prop}(hP:∀ n w m,P n w m->P n (f w) m):∀ (b:Bool) (t:T),ev P t->ev P (qX f b t)
 | b,.mk k n a w l,h=>by
  rw[qX];unfold ev at h ⊢;rw[abJ];refine⟨?_,ayP hP _ l h.2⟩
  split
  ·exact hP _ _ _ h.1
  ·exact h.1
theorem ayP{f:ByteArray->ByteArray}{P:Int->ByteArray->Nat->Prop}(hP:∀ n w m,P n w m->P n (f w) m):∀ (b:Bool) (l:List T),Xz P l->Xz P (BS f b l)
 | _,[],h=>by rw[BS];exact h
 | b,x::r,h=>by rw[BS];unfold Xz at h ⊢; exact⟨ayM hP b x h.1,ayP hP false r h.2⟩
end
mutual
theorem aoV{f:ByteArray->ByteArray}:∀ (b:Bool) (t u:T),dM t u=true->dM (qX f b t) (qX f b u)=true
 | b,.mk k n a w l,.mk k' n' a' w' l',h=>by
  unfold dM at h;simp only[bA,dX]at h
  obtain⟨⟨⟨rfl,rfl⟩,rfl⟩,h4⟩:=h;rw[qX,qX];unfold dM;simp only[decide_true,qV]
  exact agP _ l l' h4
theorem agP{f:ByteArray->ByteArray}:∀ (b:Bool) (l m:List T),dK l m=true->dK (BS f b l) (BS f b m)=true
 | _,[],[],_=>by rw[BS];exact alA _
 | b,x::r,y::s,h=>by
  unfold dK at h;rw[bA]at h;rw[BS,BS];unfold dK;rw[aoV b x y h.1,agP false r s h.2];rfl
 | _,[],_::_,h=>by unfold dK at h;cases h
 | _,_::_,[],h=>by unfold dK at h;cases h
end
mutual
def vrT(b:Bool):T->List ByteArray
 | .mk k _ _ w l=>(if k=3\/(b=true/\k=11)then [w]else [])++vrL (decide (k=48)) l
def vrL(b:Bool):List T->List ByteArray
 | []=>[]
 | x::r=>vrT b x++vrL false r
end
mutual
theorem aGR{f:ByteArray->ByteArray}:∀ (b:Bool) (t:T),vrT b (qX f b t)=(vrT b t).map f
 | b,.mk k n a w l=>by
  rw[qX,vrT,vrT,aDi,iX]
  congr 1
  split<;>simp
theorem aDi{f:ByteArray->ByteArray}:∀ (b:Bool) (l:List T),vrL b (BS f b l)=(vrL b l).map f
 | _,[]=>by rw[BS,vrL];rfl
 | b,x::r=>by rw[BS,vrL,vrL,aGR,aDi,iX]
end
mutual
theorem aAR{f:ByteArray->ByteArray}:∀ (b:Bool) (t:T),(∀ v,v∈vrT b t->f v=v)->qX f b t=t
 | b,.mk k n a w l,h=>by
  rw[vrT]at h;rw[qX,aDj _ l λv hv=>h v (GA _ hv)]
  congr 1
  split
  ·rename_i hc
   exact h w (CQ _ (by rw[aF hc];exact .head _))
  ·rfl
theorem aDj{f:ByteArray->ByteArray}:∀ (b:Bool) (l:List T),(∀ v,v∈vrL b l->f v=v)->BS f b l=l
 | _,[],_=>by rw[BS]
 | b,x::r,h=>by
  rw[vrL]at h;rw[BS,aAR b x λv hv=>h v (CQ _ hv),aDj false r λv hv=>h v (GA _ hv)]
end
mutual
theorem aoL{f g:ByteArray->ByteArray}:∀ (b:Bool) (t:T),qX g b (qX f b t)=qX (λw=>g (f w)) b t
 | b,.mk k n a w l=>by
  rw[qX,qX,qX,agU]
  congr 1
  split<;>rfl
theorem agU{f g:ByteArray->ByteArray}:∀ (b:Bool) (l:List T),BS g b (BS f b l)=BS (λw=>g (f w)) b l
 | _,[]=>by rw[BS,BS,BS]
 | b,x::r=>by rw[BS,BS,BS,aoL,agU]
end
def GZ(vs ss:List ByteArray):List ByteArray:=vs.foldl (λs w=>sL w s) ss
mutual
theorem aiH: ∀ (t:T) (ss:List ByteArray),En t ss=GZ (vrT false t) ss
 | .mk k n a w l,ss=>by
  rw[En,vrT,azU];unfold GZ;rw[Ga]
  congr 1
  by_cases h:k=3
  ·rw[aF h,aF (.inl h)];rfl
  ·rw[aC h,aC (by simp[h])];rfl
theorem azU: ∀ (b:Bool) (l:List T) (ss:List ByteArray),Ev b l ss=GZ (vrL b l) ss
 | _,[],ss=>by rw[Ev,vrL];rfl
 | b,x::r,ss=>by
  rw[Ev,vrL,azU false r,aiH x];unfold GZ;rw[Ga]
  congr 1
  obtain⟨k,n,a,w,l⟩:=x;rw[vrT,vrT,Ga,Ga]
  congr 1
  simp only[T.kind,T.word]
  by_cases h:k=3
  ·subst h;simp
  ·by_cases h2:b=true/\k=11
   ·obtain⟨rfl,rfl⟩:=h2;simp
   ·simp[h,h2]
end
def Vr{s v:dL}{ss:List ByteArray}:v∈sL s ss↔v=s\/v∈ss:=by
 unfold sL
 split
 ·rename_i h
  have:=(eX _ _).1 h;exact⟨.inr,λe=>e.elim (λe=>e ▸ this) id⟩
 ·rw[fP,cO];exact Or.comm
def avW{v:dL}:∀ {vs ss:List ByteArray},v∈GZ vs ss↔v∈vs\/v∈ss:=by
 intro vs
 induction vs with
 | nil=>intro ss;simp[GZ]
 | cons s r ih=>
  intro ss
  show v∈GZ r (sL s ss)↔_
  rw[ih,Vr,bO,or_left_comm,or_assoc]
def aiJ: ∀ {vs ss:List ByteArray},ss.Nodup->(GZ vs ss).Nodup:=by
 intro vs
 induction vs with
 | nil=>intro ss h;exact h
 | cons s r ih=>
  intro ss h;refine ih (ss:=sL s ss) ?_;unfold sL
  split
  ·exact h
  ·rename_i hm
   have hm:s∉ss:=λe=>hm ((eX _ _).2 e)
   exact List.nodup_append.2 ⟨h,by simp,λa ha b hb=>by rw[cO.1 hb];exact λe=>hm (e ▸ ha)⟩
def atY{f:ByteArray->ByteArray}:∀ {vs ss:List ByteArray},(∀ a b,a∈vs\/a∈ss->b∈vs\/b∈ss->f a=f b->a=b)->GZ (vs.map f) (ss.map f)=(GZ vs ss).map f:=by
 intro vs
 induction vs with
 | nil=>intro ss _;rfl
 | cons s r ih=>
  intro ss h;have e:sL (f s) (ss.map f)=(sL s ss).map f:=by
   unfold sL
   by_cases hm:s∈ss
   ·rw[aF ((eX _ _).2 (Lg hm)),aF ((eX _ _).2 hm)]
   ·rw[aC (λe=>hm ?_),aC (λe=>hm ((eX _ _).1 e)),iX];rfl;obtain⟨a,ha,hfa⟩:=iL.1 ((eX _ _).1 e);rw[h s a (.inl (.head _)) (.inr ha) hfa.symm];exact ha
  show GZ (r.map f) (sL (f s) (ss.map f))=_
  rw[e];refine ih λa b ha hb=>h a b ?_ ?_
  ·rcases ha with ha|ha
   ·exact .inl (.tail _ ha)
   ·rcases Vr.1 ha with rfl|ha
    ·exact .inl (.head _)
    ·exact .inr ha
  ·rcases hb with hb|hb
   ·exact .inl (.tail _ hb)
   ·rcases Vr.1 hb with rfl|hb
    ·exact .inl (.head _)
    ·exact .inr hb
def rf(a b:dL)(s:dL):ByteArray:=if s=a then b else s
def aHV{a b:dL}{x y:dL}(hx:x≠b)(hy:y≠b)(h:rf a b x=rf a b y):x=y:=by
 unfold rf at h
 split at h<;>split at h
 ·exact ‹x=a›.trans ‹y=a›.symm
 ·exact absurd h.symm hy
 ·exact absurd h hx
 ·exact h
def aEZ{a b x:dL}(h:x≠b):rf b a (rf a b x)=x:=by
 unfold rf
 by_cases e:x=a
 ·rw[aF e,aF rfl,e]
 ·rw[aC e,aC h]
def aII{a b:dL}:∀ {l:List ByteArray},l.Nodup->∀ i,(hi:i<l.length)->l[i]=a->l.map (rf a b)=l.set i b:=by
 intro l
 induction l with
 | nil=>intro _ i hi;exact Ja
 | cons x r ih=>
  intro hn i hi he;obtain⟨h1,h2⟩:=List.nodup_cons.1 hn
  cases i with
  | zero=>
   obtain rfl:x=a:=he;rw[dC,FJ]
   congr 1
   ·unfold rf;rw[aF rfl]
   ·exact(Gp λy hy=>by unfold rf;rw[aC (λe:y=x=>h1 (by rw[<- e];exact hy))]).trans (List.map_id' _)
  | succ i=>
   rw[dC,Fv,ih h2 i wK he]
   congr 1
   unfold rf;rw[aC];rintro rfl;exact h1 (he ▸ eJ _)
def aAX{t:T}{a b:dL}(hb:b∉En t [])(i:Nat)(hi:i<(En t []).length)(he:(En t [])[i]=a):En (qX (rf a b) false t) []=(En t []).set i b:=by
 have hv:∀ v,v∈vrT false t->v≠b:=λv h e=>hb Jz
 rw[<- aII (by rw[aiH];exact aiJ .nil) i hi he,aiH,aiH,aGR];exact atY (ss:=[]) λx y hx hy=>aHV (hv x (hx.resolve_right aI)) (hv y (hy.resolve_right aI))
def aET{t:T}{a b:dL}(hb:b∉En t []):qX (rf b a) false (qX (rf a b) false t)=t:=by
 rw[aoL];exact aAR _ _ λv h=>aEZ λe=>hb Jz
def aEc{t:T}{a b:dL}(ha:a∉En t []):qX (rf a b) false t=t:=
 aAR _ _ λv h=>by unfold rf;rw[aC λe=>ha Jz]
def aIS{t:T}{a b:dL}(hc:De t=true)(hb:Ci b):De (qX (rf a b) false t)=true:=by
 obtain⟨h1,t',h2,h3⟩:=(BK t).1 hc;have hf:∀ w,Ci w->Ci (rf a b w):=λw hw=>by unfold rf;split;exact hb;exact hw
 refine(BK _).2 ⟨?_,qX (rf a b) false t',aoV false _ _ h2,h3.imp (aKz hf) (aKz hf)⟩;have:=BX.1 h1;exact BX.2 (by rw[UX,Vw];exact this)
end
