/- Part 47. -/
import Derived.Test.YtikalomcclefiaaGreatDoorV46
import Derived.Test.YtikalomcclefiaaGreatDoorV45
set_option linter.all false
set_option maxHeartbeats 0
set_option maxRecDepth 100000
namespace Go.Proofs.YtikalomcclefiaaGreatDoor
section
open Go.RowKit Lx Px
def Tryz.acZ: Go.Shelf.Ren:=⟨λ|29=>91|31=>56|n=>n,λ|22=>42|23=>3|4=>4|3=>3|0=>0|n=>n,λ|n=>n⟩
def Tryz.Xi: Go.Proofs.SlLaysE.n31 Tryz.prog Tryz.acZ:={
 mixed:=by kernel_rfl
 f29:=⟨Tryz.f91.name,by decide,Tryz.func91.trans (congrArg some aQ)⟩
 f31:=⟨Tryz.f56.name,by decide,Tryz.func56.trans (congrArg some aQ)⟩
 t0:=Tryz.underlying0
 a0:=Tryz.isAgg0
 z0:=Tryz.sizeOf0
 v0:=Tryz.zeroValue0
 t3:=Tryz.underlying3
 a3:=Tryz.isAgg3
 z3:=Tryz.sizeOf3
 v3:=Tryz.zeroValue3
 t4:=Tryz.underlying4
 a4:=Tryz.isAgg4
 z4:=Tryz.sizeOf4
 v4:=Tryz.zeroValue4
 t22:=Tryz.underlying42
 a22:=Tryz.isAgg42
 z22:=Tryz.sizeOf42
 v22:=Tryz.zeroValue42
 a23:=Tryz.isAgg3
 z23:=Tryz.sizeOf3 }
def Tryz.WS: Go.Shelf.Ren:=⟨λ|41=>57|n=>n,λ|22=>42|23=>3|4=>4|n=>n,λ|n=>n⟩
def Tryz.Xa: Go.Proofs.SlLaysE0.n41 Tryz.prog Tryz.WS:={
 mixed:=by kernel_rfl
 f41:=⟨Tryz.f57.name,by decide,Tryz.func57.trans (congrArg some aQ)⟩
 t4:=Tryz.underlying4
 a4:=Tryz.isAgg4
 z4:=Tryz.sizeOf4
 v4:=Tryz.zeroValue4
 t22:=Tryz.underlying42
 a22:=Tryz.isAgg42
 z22:=Tryz.sizeOf42
 v22:=Tryz.zeroValue42 }
def apS: (Tryz.prog.info? 3).map (λi=>(i.zero,i.size,i.bytes))=some (some (.int .i64 0),1,8):=by kernel_rfl
def aCy: (Tryz.prog.info? 42).map (λi=>(i.zero,i.size,i.bytes))=some (some (.slice none 0 0),1,24):=by kernel_rfl
def aBG: Tryz.prog.underlying 51=some (.slice 42):=by kernel_rfl
def rI(ob:Nat)(w:World)(v u:Value)(p:List Int):Prop:=(p=[]/\u=.slice none 0 0)\/∃ b off cap,u=.slice (some (AAF b off)) p.length cap/\p≠[]/\b<w.heap.size/\b≠ob/\v.ownBlock≠some b/\p.length<=cap/\∀ i,(hi:i<p.length)->w.cell? (AAF b (off+i))=some (.int .i64 (p[i]'hi))
def rI.mv{ob:Nat}{w w':World}{v v' u:Value}{p:List Int}(h:rI ob w v u p)(m:Mv ob w v w' v'):rI ob w' v' u p:=by
 rcases h with h|⟨b,off,cap,rfl,h0,h1,h2,h3,h4,h5⟩
 ·exact .inl h
 ·refine .inr ⟨b,off,cap,rfl,h0,gH h1 m.size,h2,λe=>?_,h4,λi hi=>(tR (a:=(AAF b (off+i))) (m.blk b h1 h2 h3)).trans (h5 i hi)⟩
  rcases m.own _ e with h|h
  ·exact h3 h
  ·omega
theorem rI.below{ob:Nat}{w w':World}{v u:Value}{p:List Int}(h:rI ob w v u p)(b:iY w w'):rI ob w' v u p:=h.mv ((Mv.refl ob w v).below b)
def mV(ob:Nat)(w:World)(v:Value):List Value->List (List Int)->Prop
 | [],[]=>True
 | u::us,p::ps=>rI ob w v u p/\mV ob w v us ps
 | _,_=>False
theorem mV.mv{ob:Nat}{w w':World}{v v':Value}(m:Mv ob w v w' v'):∀ {us:List Value} {ps:List (List Int)},mV ob w v us ps->mV ob w' v' us ps:=by
 intro us
 induction us with
 | nil=>intro ps h;cases ps with
  | nil=>trivial
  | cons p ps=>exact h
 | cons u us ih=>intro ps h;cases ps with
  | nil=>exact h
  | cons p ps=>exact⟨h.1.mv m,ih h.2⟩
def mV.snoc{ob:Nat}{w:World}{v u:Value}{p:List Int}(hu:rI ob w v u p):∀ {us:List Value} {ps:List (List Int)},mV ob w v us ps->mV ob w v (us++[u]) (ps++[p]):=by
 intro us
 induction us with
 | nil=>intro ps h;cases ps with
  | nil=>exact⟨hu,trivial⟩
  | cons p ps=>exact h.elim
 | cons u us ih=>intro ps h;cases ps with
  | nil=>exact h.elim
  | cons p ps=>exact⟨h.1,ih h.2⟩
def mV.len{ob:Nat}{w:World}{v:Value}:∀ {us:List Value} {ps:List (List Int)},mV ob w v us ps->us.length=ps.length:=by
 intro us
 induction us with
 | nil=>intro ps h;cases ps with
  | nil=>rfl
  | cons p ps=>exact h.elim
 | cons u us ih=>intro ps h;cases ps with
  | nil=>exact h.elim
  | cons p ps=>simp[ih h.2]
def PSt(wB:World)(ob:Nat)(w:World)(v:Value)(ps:List (List Int)):Prop:=∃ us,Ot 42 51 wB ob w v us/\mV ob w v us ps
def XA(w:World)(b:Nat)(hb:w.heap[b]?=some (.cells #[iq 21,iq 22,iq 33,iq 40,iq 41,iq 42] 3 (0,0)))(k:Int):AAA 56 #[.slice (some (AAF b 0)) 6 6,k] w λe w'=>e=.returned (.bool (decide (k∈WD)))/\w'=w:=by
 refine(AnyE.slices_Contains Tryz.Xi (Value.int .i64) _ (EqlAt.int _ _ .i64) b 0 6 6 WD k w aD aD (λj hj=>?_)).mono ?_
 ·have hj6:j<6:=hj;rw[dT,aK w b j _ _ _ hb]
  match j,hj6 with
  | 0,_=>rfl
  | 1,_=>rfl
  | 2,_=>rfl
  | 3,_=>rfl
  | 4,_=>rfl
  | 5,_=>rfl
 ·rintro e w' ⟨rfl,rfl⟩;refine⟨?_,rfl⟩
  show Ending.returned (.bool (WD.any λy=>k==y))=_
  congr 2
  rw[nS]
  simp
def KF(ob:Nat)(w:World)(v u:Value)(p:List Int)(h:rI ob w v u p)(hob:ob<w.heap.size)(hvb:∀ g,v.ownBlock=some g->g<w.heap.size)(hp:p.length<=1000000):AAA 57 #[u] w λe w'=>∃ u',e=.returned u'/\rI ob w' v u' p/\iY w w':=by
 rcases h with ⟨rfl,rfl⟩|⟨b,off,cap,rfl,h0,h1,h2,h3,h4,h5⟩
 ·refine(AnyE.slices_Clone_nil Tryz.Xa 0 0 w).mono ?_;rintro e w' ⟨rfl,rfl⟩;exact⟨_,rfl,.inl ⟨rfl,rfl⟩,bH _ _⟩
 ·obtain⟨i0,hi0,hz0,hz1,hz2⟩:=nU apS;refine(AnyE.slices_Clone Tryz.Xa i0 _ 1 8 hi0 hz0 hz1 hz2 rfl aD Tryz.sizeOf3 b off p.length cap (p.map (Value.int .i64)) w aI tJ aB (λm u hm=>?_) (λu hu=>?_)).mono ?_
  ·rw[lV]at hm;obtain⟨x,hx,rfl⟩:=gY.1 hm;obtain⟨hi,rfl⟩:=lS.1 hx;exact h5 m hi
  ·obtain⟨x,_,rfl⟩:=iL.1 hu;rfl
  ·rintro e w' ⟨u',rfl,hown,_,hb⟩;refine⟨u',rfl,?_,hb⟩;have hpos:0<p.length:=pE.2 h0
   rcases hown.2 with ⟨_,h⟩|⟨g,cap',cur,rfl,hg,hblk,hle,hmx,hsz,htk⟩
   ·omega
   ·refine .inr ⟨g,0,cap',rfl,h0,(aX.1 hblk).1,by omega,λe=>by have:=hvb g e;omega,hle,λi hi=>?_⟩;rw[dT,aK w' g i _ _ _ hblk,<- Cy];have h6:(List.take (p.length*1) cur.toList)[i]?=(p.map (Value.int .i64))[i]?:=by rw[htk]
    exact RL
section
variable{ob:Nat}{w:World}{v u:Value}{p:List Int}(h:rI ob w v u p)
include ob w v u p h
theorem rI.form:∃ ao n c,u=.slice ao n c:=by
 rcases h with ⟨_,rfl⟩|⟨b,off,cap,rfl,_⟩<;>exact⟨_,_,_,rfl⟩
theorem rI.one:u.oneCell'=true:=by
 rcases h with ⟨_,rfl⟩|⟨b,off,cap,rfl,_⟩<;>rfl
end
def PSQ(wB:World)(ob:Nat)(w:World)(v:Value)(ps:List (List Int))(e:Ending)(w':World):Prop:=e=.returned (.tuple #[])/\∃ v',PSt wB ob w' v' ps/\Mv ob w v w' v'
def ajA(wB:World)(tb:Nat):Prop:=∃ ab,tb<wB.heap.size/\ab<wB.heap.size/\wB.heap[tb]?=some (.cells #[.slice (some (AAF ab 0)) 6 6] 42 (0,0))/\wB.heap[ab]?=some (.cells #[iq 21,iq 22,iq 33,iq 40,iq 41,iq 42] 3 (0,0))
def aFd(wB:World)(ob tb:Nat)(hO:ajA wB tb)(w:World)(v:Value)(ps:List (List Int))(hst:PSt wB ob w v ps)(hl:ps.length<=1000000)(u:Value)(p:List Int)(hp:rI ob w v u p)(hpl:p.length<=1000000)(k n a:Int)(s:dL)(ao:iD)(m c:Nat):AAA 55 #[tg k n a s ao m c,u,pq tb,pq ob] w (PSQ wB ob w v (if GP k=true then ps++[p]else ps)):=by
 obtain⟨qs,hqs⟩:∃ qs,(if GP k=true then ps++[p]else ps)=qs:=⟨_,rfl⟩
 rw[hqs];have HQS:=aN hqs;clear hqs;obtain⟨us,hot,hps⟩:=hst;obtain⟨ab,htb,hab,hb1,hb2⟩:=hO;have hlow:=hot.low;have b1:=aJ w (.cells (tg k n a s ao m c) 24);have t1:=TV.new w k n a s (.slice ao m c);go_in;go_upto_region 1 with fail;generalize World.alloc w _=w1 at b1 t1 ⊢;have hot1:=hot.below b1;have hps1:=mV.mv ((Mv.refl ob w v).below b1) hps;have hp1:=hp.below b1;have hmv1:=(Mv.refl ob w v).below b1;have low1:=hot1.low;have o1:=(low1.block _ htb).trans hb1;have o2:=(low1.block _ hab).trans hb2;have ko:w1.cell? (AAF tb 0)=some (.slice (some (AAF ab 0)) 6 6):=aK w1 tb 0 _ _ _ o1;have hC:=XA w1 ab o2 k;have hCl:=KF ob w1 v u p hp1 hot1.lt (λg hg=>(hot1.own.lt g hg).2) hpl;clear hot hps hp o1 o2 hlow b1;have stay:qs=ps->PSQ wB ob w v qs (.returned (.tuple #[])) w1:=λh=>by rw[h];exact⟨rfl,v,⟨us,hot1,hps1⟩,hmv1⟩
 have ST:=aN stay;clear stay;have:=AAD t1
 by_cases h15:15<=k
 ·by_cases h47:k<=47
  ·cases hk:decide (k∈WD) with
   | true=>
    rw[hk]at hC;have HE:=aN (show qs=ps by rw[<- HQS.out,aC];unfold GP;rw[hk];simp);clear hk;go_wp2_with (go_at_call 56;refine hC.mono ?_;rintro e w2 ⟨rfl,hw⟩;subst hw);go_end0;exact ST.out HE.out
   | false=>
    rw[hk]at hC;have HE:=aN (show qs=ps++[p]by rw[<- HQS.out,aF];unfold GP;rw[hk];simp[h15,h47]);clear hk ST;go_upto_region 2 with (go_at_call 56;refine hC.mono ?_;rintro e w2 ⟨rfl,hw⟩;subst hw);obtain⟨i0,hi0,hz0,hz1,hz2⟩:=nU aCy;have hul:us.length<=1000000:=by rw[hps1.len];exact hl
    have bd:=(bH w2.heap.size w2).drew;have hotd:=hot1.below bd;have hCd:=KF ob w2.drew v u p (hp1.below bd) hotd.lt (λg hg=>(hotd.own.lt g hg).2) hpl;have kd:w2.drew.cell? (AAF ob 0)=some v:=aK w2.drew ob 0 _ _ _ hotd.blk;have hone:∀ (w:World) (x:Value),rI ob w v x p->∀ y∈[x],y.oneCell'=true:=λw x hx y hy=>by rw[cO.1 hy];exact hx.one
    have hmx:us.length+1<=maxLen:=by unfold maxLen;omega
    have hby:(us.length+1)*24<=140737488355328:=by omega
    clear hC hCl ko t1
    go_region_law (first
     | (refine step_append_lies _ rfl _ _ _ rfl wB.heap.size 42 i0 (.slice none 0 0) 1 24 aBG hi0 hz0 hz1 hz2 rfl aD v us.length us rfl own4 (AAF w3.heap.size 0) 1 1 [.slice uo un uc] rfl rfl (tG (aP w3 _)) (hone _ _ hpu) aD hmx hby hB4 _ rfl ?_;intro g cap w5 hown hgrow hor hlt;have hmid:=Ot.mid hot3 (aJ w3 (.cells #[.slice uo un uc] 42)) hgrow;have k5:w5.cell? (AAF ob 0)=some v:=aK w5 ob 0 _ _ _ hmid;have f5:=aY hmid 0)
     | (go_simp;go_at_call 57;refine hCd.mono ?_;rintro e w3 ⟨u',rfl,hpu,b3⟩;obtain⟨uo,un,uc,rfl⟩:=hpu.form;have hot3:=hotd.below b3;have own4:=hot3.own.alloc (.cells #[.slice uo un uc] 42);have k3:w3.cell? (AAF ob 0)=some v:=aK w3 ob 0 _ _ _ hot3.blk;have k4:(w3.alloc (.cells #[.slice uo un uc] 42)).cell? (AAF ob 0)=some v:=aK _ ob 0 _ _ _ (((aJ w3 (.cells #[.slice uo un uc] 42)).block _ hot3.lt).trans hot3.blk);have hB4:wB.heap.size<=(w3.alloc (.cells #[.slice uo un uc] 42)).heap.size:=by(have h1:=hot3.low.size;have h2:=(aJ w3 (.cells #[.slice uo un uc] 42)).size;omega)))
    all_goals
     have hs:=Ot.snoc hot3 (aJ w3 (.cells #[.slice uo un uc] 42)) hown hgrow (hor.imp id (λe=>Nat.le_of_eq e.symm));have hm3:Mv ob w2 v w3 v:=(Mv.refl ob w2 v).below (bd.trans b3);have hfin:PSQ wB ob w v qs (.returned (.tuple #[])) (w5.setCell (AAF ob 0) (.slice (some (AAF g 0)) (us.length+1) cap)):=by
      rw[HE.out];exact⟨rfl,_,⟨_,hs.1,mV.snoc (hpu.mv hs.2) (mV.mv (hm3.trans hs.2) hps1)⟩,hmv1.trans (hm3.trans hs.2)⟩
     clear hown hgrow hor hs hm3 hmid own4 hot3;go_end0;exact hfin
  ·have HE:=aN (show qs=ps by rw[<- HQS.out,aC];unfold GP;simp[h47])
   go_wp2
   go_end0;exact ST.out HE.out
 ·have HE:=aN (show qs=ps by rw[<- HQS.out,aC];unfold GP;simp[h15])
  go_wp2
  go_end0;exact ST.out HE.out
def auC(p:List Int):∀ (l:List T) (i:Nat) (x:T),uL p i (l++[x])=uL p i l++Md (p++[((i+l.length:Nat):Int)]) x:=by
 intro l
 induction l with
 | nil=>intro i x;rw[dI,uL,uL,uL,bD,dI];rfl
 | cons y r ih=>intro i x;rw[kE,uL,ih,uL,bT,aV,show i+1+r.length=i+(r.length+1)by omega]
def aGy: ∀ d (t:T),depth t<=d->∀ p,(Md p t).length<=nodes t:=by
 intro d
 induction d using Nat.strongRecOn with
 | _ d ih=>
  intro t hd p;have H:=λ(x:T) (hx:x∈t.l) p=>ih (depth x) (by have:=Px.sD hx;omega) x (aG _) p
  obtain⟨k,n,a,w,l⟩:=t;have hl:∀ (m:List T) (i:Nat),(∀ x,x∈m->∀ p,(Md p x).length<=nodes x)->(uL p i m).length<=bV m:=by
   intro m
   induction m with
   | nil=>intro i _;rw[uL];exact aS _
   | cons x r ihr=>
    intro i h;have h1:=h x (.head _) (p++[(i:Int)]);have h2:=ihr (i+1) (λy hy=>h y (.tail _ hy));rw[uL,aO,bV];omega
  have h1:=hl l 0 H;rw[Md,aO,nodes];have h2:(if GP k=true then [p]else []).length<=1:=by split<;>simp
  omega
def azR(p:List Int):∀ (m:List T) (i:Nat),(uL p i m).length<=bV m:=by
 intro m
 induction m with
 | nil=>intro i;rw[uL];exact aS _
 | cons x r ihr=>
  intro i;have h1:=aGy _ x (aG _) (p++[(i:Int)]);have h2:=ihr (i+1);rw[uL,aO,bV];omega
def arV{ob:Nat}{w:World}{v u:Value}{r:List Int}{B:Nat}(hr:r≠[])(hown:w.ownsRow B 3 1 u r.length (r.map (Value.int .i64)))(hob:ob<B)(hv:∀ g,v.ownBlock=some g->g<B):rI ob w v u r:=by
 have hpos:0<r.length:=pE.2 hr
 rcases hown.2 with ⟨_,h⟩|⟨g,cap',cur,rfl,hg,hblk,hle,hmx,hsz,htk⟩
 ·omega
 ·refine .inr ⟨g,0,cap',rfl,hr,(aX.1 hblk).1,by omega,λe=>by have:=hv g e;omega,hle,λi hi=>?_⟩;rw[dT,aK w g i _ _ _ hblk,<- Cy];have h6:(List.take (r.length*1) cur.toList)[i]?=(r.map (Value.int .i64))[i]?:=by rw[htk]
  exact RL
def arC: Tryz.prog.underlying 42=some (.slice 3):=by kernel_rfl
def WkC(wB:World)(ob tb:Nat)(t:T):Prop:=∀ (w:World) (v:Value) (ps:List (List Int)) (u:Value) (p:List Int),PSt wB ob w v ps->rI ob w v u p->ps.length+nodes t<=1000000->p.length+depth t<=1000000->∀ (k n a:Int) (s:dL) (ao:iD) (m c:Nat),Tr wB t (vT k n a s ao m c)->
 AAA 54 #[tg k n a s ao m c,u,.func (.func 55) #[] #[pq tb,pq ob]] w (PSQ wB ob w v (ps++Md p t))
def aEP(wB:World)(ob tb:Nat)(hO:ajA wB tb):∀ d (t:T),depth t<=d->WkC wB ob tb t:=by
 intro d
 induction d using Nat.strongRecOn with
 | _ d ih=>
  intro t hd w v ps u p hst hp hbd hpd k n a s ao m c ht;have H:=aN (λ(x:T) (hx:x∈t.l)=>ih (depth x) (by have:=Px.sD hx;omega) x (aG _));have HDL:=aN (λ(x:T) (hx:x∈t.l)=>Px.sD hx);clear ih hd;have hkt:k=t.kind:=ht.split.1;obtain rfl:m=t.l.length:=ht.split.2.2.2.2;have hU:ps++Md p t=(if GP k=true then ps++[p]else ps)++uL p 0 t.l:=by
   rw[hkt];obtain⟨k',n',a',s',l⟩:=t;rw[Md]
   show ps++((if GP k'=true then [p]else [])++uL p 0 l)=(if GP k'=true then ps++[p]else ps)++uL p 0 l
   split<;>simp
  have HU:=aN hU;clear hkt hU;have e1:nodes t=1+bV t.l:=by obtain⟨k,n,a,w,l⟩:=t;rw[nodes];rfl
  have hq1:(if GP k=true then ps++[p]else ps).length<=ps.length+1:=by split<;>simp
  have b1:=aJ w (.cells (tg k n a s ao t.l.length c) 24);have t1:=TV.new w k n a s (.slice ao t.l.length c);have hobw:ob<w.heap.size:=by obtain⟨us,h,_⟩:=hst;exact h.lt
  have hvw:∀ g,v.ownBlock=some g->g<w.heap.size:=by obtain⟨us,h,_⟩:=hst;exact λg hg=>(h.own.lt g hg).2
  go_in;go_upto_region 1 with fail;generalize World.alloc w _=w1 at b1 t1 ⊢;have hm1:Mv ob w v w1 v:=(Mv.refl ob w v).below b1;have hst1:PSt wB ob w1 v ps:=by
   obtain⟨us,h,g⟩:=hst;exact⟨us,h.below b1,mV.mv hm1 g⟩
  have hp1:=hp.below b1;have hV:=aFd wB ob tb hO w1 v ps hst1 aB u p hp1 aB k n a s ao t.l.length c;obtain⟨qs,hqs⟩:∃ qs,(if GP k=true then ps++[p]else ps)=qs:=⟨_,rfl⟩
  rw[hqs]at hV hq1;have HU2:=aN (HU.out.trans (by rw[hqs]));have n1:w.heap.size≠ob:=by omega
  have n2:v.ownBlock≠some w.heap.size:=λe=>by have:=hvw _ e;omega
  clear hqs HU hst hp hst1 hvw b1;have T1:=aN t1;have:=AAD t1;go_upto_block 1 with fail;refine hV.mono ?_;rintro e w2 ⟨rfl,v2,hst2,hm2⟩;have t2:TV w2 w.heap.size _ _ _ _ _:=(hm2.blk _ t1.lt n1 n2).trans t1;clear hV t1;have:=AAD t2;go_wp2_with fail;clear t2
  go_loopg [15] t.l.length (λg t15 wr=>∃ (q:Nat) (v':Value),t15=.int .i64 q/\q<=t.l.length/\g=t.l.length - q/\PSt wB ob wr v' (qs++uL p 0 (t.l.take q))/\Mv ob w1 v wr v')
  case atStart=>exact⟨0,v2,rfl,aS _,rfl,by rw[Co,uL,bD];exact hst2,hm2⟩
  case round=>
   clear hst2 hm2;obtain⟨q,v',rfl,hq,hg,hS,hM⟩:=hrel;have HG:=aN hg;clear hg
   by_cases hlt:q<t.l.length
   ·obtain⟨us,hot,hps⟩:=hS;obtain⟨ao1,c1',vs1,e,hTs,hrow⟩:=mH.tree (rv:=[]) hot.low ht;obtain⟨b,off,rfl,_,hcell⟩:=hrow kF;simp only[dZ,fD]at e
    obtain⟨rfl,rfl⟩:=e;obtain⟨k1,n1',a1,s1,o1,m1,c1,hTr,d0,d1,d2,d3,d4⟩:=Tr.elem hTs hcell q hlt;have tk:=jY hlt;have hmem:=eJ hlt;have hnt:=Kd t.l q hlt;have htd:=zQ t.l (q+1);have hsl:=azR p (t.l.take q) 0;generalize t.l[q]'hlt=y at hTr tk hmem hnt;have hdl:=HDL.out y hmem
    have HSN:=aN (show qs++uL p 0 (t.l.take (q+1))=(qs++uL p 0 (t.l.take q))++Md (p++[(q:Int)]) y by
     rw[tk,auC,bT,jV,dT,FW aB])
    have hb1:(qs++uL p 0 (t.l.take q)).length+nodes y<=1000000:=by rw[aO];omega
    have hb2:(p++[(q:Int)]).length+depth y<=1000000:=by simp;omega
    have x1:(q:Int)<(t.l.length:Int):=by omega
    have hq6:q<=1000000:=by have:=lU t.l;omega
    have b4:=aJ wr (.cells (tg k1 n1' a1 s1 o1 m1 c1) 24);have x4:=TV.new wr k1 n1' a1 s1 (.slice o1 m1 c1);clear tk hnt htd hsl;go_upto_region 5 with fail;generalize World.alloc wr _=w5 at b4 x4 ⊢;have hot5:=hot.below b4;have hm5:Mv ob w1 v w5 v':=hM.below b4;have hps5:=mV.mv ((Mv.refl ob wr v').below b4) hps;have hp5:=hp1.mv hm5;clear hot hps b4 d0 d1 d2 d3 d4 hcell;have:=AAD x4;obtain⟨i0,hi0,hz0,hz1,hz2⟩:=nU apS;have bW:iY w5 (w5.alloc (.cells #[iq q] 3)).drew:=(aJ w5 (.cells #[iq q] 3)).drew;have x8:=x4;have xW:=x4.below bW;have hotW:=hot5.below bW;have hpsW:=mV.mv ((Mv.refl ob w5 v').below bW) hps5;have hone:∀ y∈[Value.int .i64 (q:Int)],y.oneCell'=true:=λy hy=>by rw[cO.1 hy];rfl
    have hcallX:∀ (uo6:iD) (uc6:Nat) (w6:World),w6.ownsRow (w5.alloc (.cells #[iq q] 3)).drew.heap.size 3 1 (.slice uo6 (p.length+1) uc6) (p.length+1) (p.map (Value.int .i64)++[.int .i64 q])->Below (w5.alloc (.cells #[iq q] 3)).drew.heap.size (w5.alloc (.cells #[iq q] 3)).drew w6->
     AAA 54 #[tg k1 n1' a1 s1 o1 m1 c1,.slice uo6 (p.length+1) uc6,.func (.func 55) #[] #[pq tb,pq ob]] w6 (PSQ wB ob w6 v' ((qs++uL p 0 (t.l.take q))++Md (p++[(q:Int)]) y)):=λuo6 uc6 w6 hown b6=>
     H.out y hmem w6 v' _ _ (p++[(q:Int)]) ⟨us,hotW.below b6,mV.mv ((Mv.refl ob _ v').below b6) hpsW⟩ (arV aI (by rw[aO,iX];exact hown) hotW.lt (λg hg=>(hotW.own.lt g hg).2)) hb1 hb2 k1 n1' a1 s1 o1 m1 c1 hTr
    have HCALL:=aN hcallX;have hmx:p.length+1<=maxLen:=by unfold maxLen;omega
    have hby:(p.length+1)*8<=140737488355328:=by omega
    clear hcallX hot5 hps5 x4;have x9:=x8.below (aJ w5 (.cells #[iq q] 3));have:=AAD x8;have:=AAD x9
    rcases hp5 with ⟨rfl,rfl⟩|⟨b',off',cap',rfl,h0,h1,h2,h3,h4,h5⟩
    ·have hz0':([]:List Int).length=0:=rfl
     go_region_law (first
      | (refine step_append_grows rfl _ _ _ rfl 3 i0 (iq 0) 1 8 arC hi0 hz0 hz1 hz2 rfl aD none 0 0 [] rfl (λ_=>⟨rfl,rfl⟩) rfl (λb h=>(nomatch h)) (AAF w5.heap.size 0) 1 1 [.int .i64 q] rfl rfl (tG (w:=(w5.alloc (.cells #[iq q] 3)).drew) (aP w5 _)) hone aD hmx hby ?_;intro u6 w6 hown hgrow;obtain⟨uo6,uc6,rfl⟩:=Ko hown;have b6:Below (w5.alloc (.cells #[iq q] 3)).drew.heap.size (w5.alloc (.cells #[iq q] 3)).drew w6:=(bH _ _).grown hgrow (aG _) (λj hj=>by cases hj);have hcall:=HCALL.out _ _ _ hown b6;have x6:=xW.below b6;have:=AAD x6)
      | (go_simp;go_at_call 54;refine hcall.mono ?_;rintro e w7 ⟨rfl,v7,hst7,hm7⟩))
     all_goals
      have hM7:Mv ob w1 v w7 v7:=(hm5.below (bW.trans (b6.mono bW.size))).trans hm7;clear hcall hown hgrow b6 x6 hm7;go_wp2_with fail
      go_roundg (t.l.length - (q+1))
      case measure=>rw[HG.out];omega
      case rel=>exact⟨q+1,v7,by go_num,hlt,rfl,by rw[HSN.out];exact hst7,hM7⟩
    ·have y1:(p.length:Int)<=(cap':Int):=by omega
     have y2:(0:Int)<=(p.length:Int):=by omega
     have hold:∀ b,some ((AAF b' off'):Addr)=some b->∀ (j:Nat) (x:Value),(p.map (Value.int .i64))[j]?=some x->(w5.alloc (.cells #[iq q] 3)).drew.cell? (b.add j)=some x:=λb hb j x hx=>by
      cases hb
      rw[lV]at hx;obtain⟨z,hz,rfl⟩:=gY.1 hx;obtain⟨hi,rfl⟩:=lS.1 hz;rw[vL];exact(bW.cell (p:=(AAF b' (off'+j))) h1).trans (h5 j hi)
     go_region_law (first
      | (refine step_append_grows rfl _ _ _ rfl 3 i0 (iq 0) 1 8 arC hi0 hz0 hz1 hz2 rfl aD (some (AAF b' off')) p.length p.length (p.map (Value.int .i64)) rfl (λh=>(nomatch h)) aI hold (AAF w5.heap.size 0) 1 1 [.int .i64 q] rfl rfl (tG (w:=(w5.alloc (.cells #[iq q] 3)).drew) (aP w5 _)) hone aB hmx hby ?_;intro u6 w6 hown hgrow;obtain⟨uo6,uc6,rfl⟩:=Ko hown;have b6:Below (w5.alloc (.cells #[iq q] 3)).drew.heap.size (w5.alloc (.cells #[iq q] 3)).drew w6:=(bH _ _).grown hgrow (aG _) (λj hj=>by cases hj);have hcall:=HCALL.out _ _ _ hown b6;have x6:=xW.below b6;have:=AAD x6)
      | (go_simp;go_at_call 54;refine hcall.mono ?_;rintro e w7 ⟨rfl,v7,hst7,hm7⟩))
     all_goals
      have hM7:Mv ob w1 v w7 v7:=(hm5.below (bW.trans (b6.mono bW.size))).trans hm7;clear hcall hown hgrow b6 x6 hm7;go_wp2_with fail
      go_roundg (t.l.length - (q+1))
      case measure=>rw[HG.out];omega
      case rel=>exact⟨q+1,v7,by go_num,hlt,rfl,by rw[HSN.out];exact hst7,hM7⟩
   ·have x1:¬ (q:Int)<(t.l.length:Int):=by omega
    rw[nQ aB]at hS;have hfin:PSQ wB ob w v (ps++Md p t) (.returned (.tuple #[])) wr:=by rw[HU2.out];exact⟨rfl,v',hS,hm1.trans hM⟩
    clear hS hM
    go_wp2
    go_end0;exact hfin
end
