/- Part 46. -/
import Derived.Test.YtikalomcclefiaaGreatDoorV32
set_option linter.all false
set_option maxHeartbeats 0
set_option maxRecDepth 100000
namespace Go.Proofs.YtikalomcclefiaaGreatDoor
section
open Go.RowKit Lx Px
structure Ot (e rt:TypeId) (wB:World) (ob:Nat) (w:World) (v:Value) (us:List Value):Prop where
 low:iY wB w
 blk:w.heap[ob]?=some (.cells #[v] rt (0,0))
 hq:wB.heap.size<=ob
 own:w.ownsRow wB.heap.size e 1 v us.length us
 ne:v.ownBlock≠some ob
def Ot.lt{e rt:TypeId}{wB:World}{ob:Nat}{w:World}{v:Value}{us:List Value}(h:Ot e rt wB ob w v us):ob<w.heap.size:=(aX.1 h.blk).1
def Ot.below{e rt:TypeId}{wB:World}{ob:Nat}{w w':World}{v:Value}{us:List Value}(h:Ot e rt wB ob w v us)(b:iY w w'):Ot e rt wB ob w' v us:=
 ⟨h.low.trans (b.mono h.low.size),(b.block _ h.lt).trans h.blk,h.hq,Vs h.own (λg hg=>(h.own.lt g hg).2) b,h.ne⟩
def Ot.mid{e rt:TypeId}{wB:World}{ob:Nat}{w w1 w':World}{v:Value}{us:List Value}(h:Ot e rt wB ob w v us)(hb:iY w w1)(hgrow:w1.grownBy w' v.ownBlock):w'.heap[ob]?=some (.cells #[v] rt (0,0)):=
 (hgrow.block ob (by have:=h.lt;have:=hb.size;omega) (λe=>h.ne e.symm)).trans ((hb.block _ h.lt).trans h.blk)
def Ot.snoc{e rt:TypeId}{wB:World}{ob:Nat}{w w1 w':World}{v:Value}{us:List Value}(h:Ot e rt wB ob w v us)(hb:iY w w1){g cap:Nat}{u:Value}(hown:w'.ownsRow wB.heap.size e 1 (.slice (some (AAF g 0)) (us.length+1) cap) (us.length+1) (us++[u]))(hgrow:w1.grownBy w' v.ownBlock)(hor:v.ownBlock=some g\/w1.heap.size<=g):Ot e rt wB ob (w'.setCell (AAF ob 0) (.slice (some (AAF g 0)) (us.length+1) cap)) (.slice (some (AAF g 0)) (us.length+1) cap) (us++[u])/\Mv ob w v (w'.setCell (AAF ob 0) (.slice (some (AAF g 0)) (us.length+1) cap)) (.slice (some (AAF g 0)) (us.length+1) cap):=by
 have blk':w'.heap[ob]?=some (.cells #[v] rt (0,0)):=(hgrow.block ob (by have:=h.lt;have:=hb.size;omega) (λe=>h.ne e.symm)).trans ((hb.block _ h.lt).trans h.blk);have hsz:w.heap.size<=w'.heap.size:=by have:=hgrow.size;have:=hb.size;omega
 have hgq:g≠ob:=λe=>by
  subst e
  rcases hor with h1|h1
  ·exact h.ne h1
  ·have:=h.lt;have:=hb.size;omega
 have hkeep:∀ j,j<w.heap.size->j≠ob->v.ownBlock≠some j->(w'.setCell (AAF ob 0) (.slice (some (AAF g 0)) (us.length+1) cap)).heap[j]?=w.heap[j]?:=λj hj hq ho=>by
  rw[dJ _ _ _ _ (by simpa using hq)];exact(hgrow.block j (by have:=hb.size;omega) (λe=>ho e.symm)).trans (hb.block _ hj)
 have hss:(w'.setCell (AAF ob 0) (.slice (some (AAF g 0)) (us.length+1) cap)).heap.size=w'.heap.size:=by simp[World.setCell]
 refine⟨⟨⟨?_,?_,?_,by rw[hss];exact aZ h.low.size hsz,λj hj=>?_⟩,?_,h.hq,?_,?_⟩,⟨by rw[hss];exact hsz,hkeep,λj hj=>?_⟩⟩
 ·exact hgrow.os.trans (hb.os.trans h.low.os)
 ·exact hgrow.tape.trans (hb.tape.trans h.low.tape)
 ·exact hgrow.output.trans (hb.output.trans h.low.output)
 ·exact Pw
 ·simp[World.setCell,pK,blk']
 ·rw[aO];refine⟨by rw[aO];simp,?_⟩
  exact QP
 ·exact Rt
 ·simp only[Value.ownBlock,mP]at hj
  subst hj
  rcases hor with h1|h1
  ·exact .inl h1
  ·exact .inr (by have:=hb.size;omega)
def sL(s:dL)(ss:List ByteArray):List ByteArray:=if eH s ss=true then ss else ss++[s]
def NSt(wB:World)(ob:Nat)(w:World)(v:Value)(ss:List ByteArray):Prop:=Ot 9 62 wB ob w v (ss.map Value.string)
def NSQ(wB:World)(ob:Nat)(w:World)(v:Value)(ss:List ByteArray)(E:Ending->Prop)(e:Ending)(w':World):Prop:=E e/\∃ v',NSt wB ob w' v' ss/\Mv ob w v w' v'
def aHM: (Tryz.prog.info? 9).map (λi=>(i.zero,i.size,i.bytes))=some (some (.string ⟨#[]⟩),1,16):=by kernel_rfl
def aIl: Tryz.prog.underlying 62=some (.slice 9):=by kernel_rfl
def acD(c:Nat)(s:dL)(w:World):AAA 31 #[.slice none 0 c,s] w λe w'=>e=.returned (.int .i64 (-1))/\w'=w:=by
 go_in;go_wp2_with fail
 go_loopg [8] 0 (λg tt wr=>g=0/\tt=.int .i64 0/\wr=w)
 case atStart=>exact⟨rfl,rfl,rfl⟩
 case round=>
  obtain⟨rfl,rfl,rfl⟩:=hrel;go_wp2_with fail;go_ret;exact⟨rfl,rfl⟩
def GC(c:Nat)(s:dL)(w:World):AAA 30 #[.slice none 0 c,s] w λe w'=>e=.returned (.bool false)/\w'=w:=by
 have hI:=acD c s w;go_in;go_wp2_with (go_at_call 31;refine hI.mono ?_;rintro e w2 ⟨rfl,rfl⟩);go_ret;exact⟨rfl,rfl⟩
def NSt.contains{wB:World}{ob:Nat}{w:World}{v:Value}{ss:List ByteArray}(h:NSt wB ob w v ss)(s:dL):AAA 30 #[v,s] w λe w'=>e=.returned (.bool (eH s ss))/\w'=w:=by
 have hown:=h.own
 rcases hown.2 with ⟨rfl,h0⟩|⟨g,cap,cur,rfl,hB,hg,hle,hmx,hsz,htk⟩
 ·rw[bN]at h0;obtain rfl:=nN.1 h0;exact GC 0 s w
 ·rw[bN]at hle htk ⊢;refine Ae _ ss s w ⟨g,0,cap,rfl,(aX.1 hg).1,λj hj=>?_⟩ (by unfold maxLen at hmx;omega);exact Pp
def WX(wB:World)(ob:Nat)(w:World)(v:Value)(ss:List ByteArray)(s:dL)(h:NSt wB ob w v ss)(hl:ss.length<=1000000):AAA 62 #[s,pq ob] w (NSQ wB ob w v (sL s ss) (λe=>e=.returned (.string s))):=by
 have k0:w.cell? (AAF ob 0)=some v:=aK w ob 0 _ _ _ h.blk;have hC:=NSt.contains h s
 cases hm:eH s ss with
 | true=>
  rw[hm]at hC;have HA:=aN (show sL s ss=ss by unfold sL;rw[aF hm]);clear hm;go_in;go_wp2_with (go_at_call 30;refine hC.mono ?_;rintro e w2 ⟨rfl,hb⟩;subst hb);go_ret;exact⟨rfl,v,by rw[HA.out];exact h,Mv.refl _ _ _⟩
 | false=>
  rw[hm]at hC;have HA:=aN (show sL s ss=ss++[s]by unfold sL;rw[hm];rfl);clear hm;obtain⟨i0,hi0,hz0,hz1,hz2⟩:=nU aHM;have hln:(ss.map Value.string).length<=1000000:=by rw[bN];exact hl
  go_in;go_upto_region 2 with (go_at_call 30;refine hC.mono ?_;rintro e w2 ⟨rfl,hb⟩;subst hb);go_wp2_with (at_builtin;go_loud (refine wpList_append_lies _ rfl _ _ 62 rfl wB.heap.size 9 i0 _ 1 16 aIl hi0 hz0 hz1 hz2 rfl aD v (ss.map Value.string).length (ss.map Value.string) rfl (h.own.alloc _) (AAF w2.heap.size 0) 1 1 [.string s] rfl rfl (tG (aP w2 _)) (by intro u hu;simp at hu;rcases hu with rfl;rfl) aD tJ aB (by have:=h.low.size;simp;omega) _ rfl ?_));intro g cap w' hown hgrow hor hlt;have b1:=aJ w2 (.cells #[.string s] 9);have hmid:=Ot.mid h b1 hgrow;have k1:w'.cell? (AAF ob 0)=some v:=aK w' ob 0 _ _ _ hmid;have f1:=aY hmid 0;have hfin:=Ot.snoc h b1 (u:=.string s) (g:=g) (cap:=cap) (by rw[bN];exact hown) hgrow (hor.imp id (λe=>by rw[e];simp));rw[bN]at hfin;have HFIN:=aN hfin;clear hown hgrow hor hmid hfin k0 h;go_wp2_with fail;go_ret;refine⟨rfl,_,?_,HFIN.out.2⟩;unfold NSt;rw[HA.out,iX];exact HFIN.out.1
mutual
def En: T->List ByteArray->List ByteArray
 | .mk k _ _ w l,ss=>Ev (decide (k=48)) l (if k=3 then sL w ss else ss)
def Ev: Bool->List T->List ByteArray->List ByteArray
 | _,[],ss=>ss
 | b,x::r,ss=>Ev false r (En x (if b=true/\x.kind=11 then sL x.word ss else ss))
end
def avR: ∀ (l:List T) (x:T) (ss:List ByteArray),Ev false (l++[x]) ss=En x (Ev false l ss):=by
 intro l
 induction l with
 | nil=>intro x ss;rw[dI,Ev,Ev,Ev,aC (λh=>(nomatch h.1))]
 | cons y r ih=>intro x ss;rw[kE,Ev,ih,Ev]
def Ir(b:Bool)(l:List T)(x:T)(ss:List ByteArray):Ev b (l++[x]) ss=En x (if b=true/\l=[]/\x.kind=11 then sL x.word (Ev b l ss)else Ev b l ss):=by
 cases l with
 | nil=>
  rw[dI,Ev,Ev,Ev]
  congr 1
  by_cases h:b=true/\x.kind=11
  ·rw[aF h,aF ⟨h.1,rfl,h.2⟩]
  ·rw[aC h,aC (λg=>h ⟨g.1,g.2.2⟩)]
 | cons y r=>
  rw[aC (c:=b=true/\y::r=[]/\x.kind=11) (λh=>(nomatch h.2.1)),kE,Ev,avR]
  congr 1
def MO(s:dL)(ss:List ByteArray):(sL s ss).length<=ss.length+1:=by
 unfold sL;split
 ·omega
 ·simp
def akK: ∀ d (t:T),depth t<=d->∀ ss,(En t ss).length<=ss.length+2*nodes t/\(En t ss).length+1<=ss.length+2*nodes t:=by
 intro d
 induction d using Nat.strongRecOn with
 | _ d ih=>
  intro t hd ss;have H:=λ(x:T) (hx:x∈t.l) ss=>(ih (depth x) (by have:=Px.sD hx;omega) x (aG _) ss).2
  obtain⟨k,n,a,w,l⟩:=t;have hl:∀ (m:List T) (b:Bool) (ss:List ByteArray),(∀ x,x∈m->∀ ss,(En x ss).length+1<=ss.length+2*nodes x)->(Ev b m ss).length<=ss.length+2*bV m:=by
   intro m
   induction m with
   | nil=>intro b ss _;rw[Ev];omega
   | cons x r ihr=>
    intro b ss h;rw[Ev,bV];have h1:=ihr false (En x (if b=true/\x.kind=11 then sL x.word ss else ss)) (λy hy=>h y (.tail _ hy));have h2:=h x (.head _) (if b=true/\x.kind=11 then sL x.word ss else ss);have h3:(if b=true/\x.kind=11 then sL x.word ss else ss).length<=ss.length+1:=by
     exact Hr
    omega
  rw[En,nodes];have h1:=hl l (decide (k=48)) (if k=3 then sL w ss else ss) H;have h3:(if k=3 then sL w ss else ss).length<=ss.length+1:=by
   exact Hr
  omega
def Mc{w w':World}{B:Nat}{e:TypeId}{n:Nat}{v:Value}{len:Nat}{cs:List Value}(h:w.ownsRow B e n v len cs)(hk:∀ g,v.ownBlock=some g->w'.heap[g]?=w.heap[g]?):w'.ownsRow B e n v len cs:=by
 obtain⟨h1,h2⟩:=h;refine⟨h1,h2.imp id ?_⟩;rintro⟨g,cap,cur,rfl,k2,k3,k4⟩;exact⟨g,cap,cur,rfl,k2,(hk g rfl).trans k3,k4⟩
structure FSs (wB:World) (ob:Nat) (w1:World) (v0:Value) (wr:World) (v:Value) (ss:List ByteArray) (lv:Value) (n:Nat):Prop where
 st:NSt wB ob wr v ss
 mv:Mv ob w1 v0 wr v
 own:∃ vs,wr.ownsRow w1.heap.size 24 5 lv n vs
 ne:∀ g,lv.ownBlock=some g->v.ownBlock≠some g
 hb:ob<w1.heap.size
def FSs.tv{wB:World}{ob:Nat}{w1 wr:World}{v0 v lv:Value}{ss:List ByteArray}{n:Nat}(h:FSs wB ob w1 v0 wr v ss lv n){b:Nat}{x y z u q:Value}(t:TV w1 b x y z u q)(h1:b≠ob)(h2:v0.ownBlock≠some b):TV wr b x y z u q:=(h.mv.blk b t.lt h1 h2).trans t
theorem FSs.below{wB:World}{ob:Nat}{w1 wr w':World}{v0 v lv:Value}{ss:List ByteArray}{n:Nat}(h:FSs wB ob w1 v0 wr v ss lv n)(b:iY wr w'):FSs wB ob w1 v0 w' v ss lv n:=by
 obtain⟨vs,ho⟩:=h.own;exact⟨Ot.below h.st b,h.mv.below b,⟨vs,Mc ho λg hg=>b.block g (ho.lt g hg).2⟩,h.ne,h.hb⟩
def FSs.call{wB:World}{ob:Nat}{w1 wr w':World}{v0 v v' lv:Value}{ss ss':List ByteArray}{n:Nat}(h:FSs wB ob w1 v0 wr v ss lv n)(s:NSt wB ob w' v' ss')(m:Mv ob wr v w' v'):FSs wB ob w1 v0 w' v' ss' lv n:=by
 obtain⟨vs,ho⟩:=h.own;refine⟨s,h.mv.trans m,⟨vs,Mc ho λg hg=>m.blk g (ho.lt g hg).2 (λe=>?_) (λe=>h.ne g hg e)⟩,λg hg e=>?_,h.hb⟩
 ·have h1:=(ho.lt g hg).1;have h2:=h.hb;omega
 ·rcases m.own g e with h1|h1
  ·exact h.ne g hg h1
  ·have:=(ho.lt g hg).2;omega
def FSs.app{wB:World}{ob:Nat}{w1 wr wz w':World}{v0 v lv:Value}{ss:List ByteArray}{n:Nat}(h:FSs wB ob w1 v0 wr v ss lv n)(b:iY wr wz){g cap:Nat}{vs:List Value}(hown:w'.ownsRow w1.heap.size 24 5 (.slice (some (AAF g 0)) (n+1) cap) (n+1) vs)(hgrow:wz.grownBy w' lv.ownBlock)(hor:lv.ownBlock=some g\/wr.heap.size<=g):FSs wB ob w1 v0 w' v ss (.slice (some (AAF g 0)) (n+1) cap) (n+1):=by
 have hz:=h.below b;obtain⟨vs0,ho⟩:=hz.own;have hst:=hz.st;have hne:lv.ownBlock≠some ob:=λe=>by have:=(ho.lt ob e).1;have:=h.hb;omega
 have hlow:∀ j,lv.ownBlock=some j->wB.heap.size<=j:=λj hj=>by have h1:=(ho.lt j hj).1;have h2:=h.hb;have h3:=hst.hq;omega
 have hvl:=hst.own;refine⟨⟨hst.low.grown hgrow hst.low.size hlow,(hgrow.block ob hst.lt (λe=>hne e.symm)).trans hst.blk,hst.hq,Mc hst.own λg hg=>hgrow.block g (hvl.lt g hg).2 (λe=>hz.ne g e.symm hg),hst.ne⟩,?_,⟨vs,hown⟩,λj hj e=>?_,h.hb⟩
 ·exact⟨aZ hz.mv.size hgrow.size,λk hk hq ho2=>(hgrow.block k (gH hk hz.mv.size) (λe=>by have:=(ho.lt k e.symm).1;omega)).trans (hz.mv.blk k hk hq ho2),hz.mv.own⟩
 ·simp only[Value.ownBlock,mP]at hj
  subst hj
  rcases hor with h1|h1
  ·exact hz.ne _ h1 e
  ·have:=(h.st.own.lt _ e).2;omega
def NmC(wB:World)(ob:Nat)(t:T):Prop:=∀ (w:World) (v:Value) (ss:List ByteArray),NSt wB ob w v ss->ss.length+2*nodes t<=1000000->∀ (k n a:Int) (s:dL) (ao:iD) (m c:Nat),Tr wB t (vT k n a s ao m c)->
 AAA 58 #[tg k n a s ao m c,.func (.func 62) #[] #[pq ob]] w (NSQ wB ob w v (En t ss) (λe=>∃ k n a s ao m c,e=.returned (tg k n a s ao m c)))
def MJ{w:World}{b:Nat}{x y z u v:Value}(h:TV w b x y z u v):w.setCell (AAF b 3) u=w:=by
 unfold TV at h;obtain⟨hb,he⟩:=aX.1 h
 cases w
 simp only[World.setCell]
 congr 1
 apply Array.ext
 ·simp
 ·intro i h1 h2;rw[Array.getElem_modify]
  split
  ·rename_i e
   subst e;simp only at he
   rw[he]
   simp
  ·rfl
def aoX(b:Bool)(m:List T)(ss:List ByteArray):(Ev b m ss).length<=ss.length+2*bV m:=by
 induction m generalizing b ss with
 | nil=>rw[Ev];omega
 | cons x r ihr=>
  rw[Ev,bV];have h1:=ihr false (En x (if b=true/\x.kind=11 then sL x.word ss else ss));have h2:=(akK _ x (aG _) (if b=true/\x.kind=11 then sL x.word ss else ss)).2;have h3:(if b=true/\x.kind=11 then sL x.word ss else ss).length<=ss.length+1:=by
   exact Hr
  omega
def Ko{w:World}{B:Nat}{e:TypeId}{n:Nat}{v:Value}{len:Nat}{cs:List Value}(h:w.ownsRow B e n v len cs):∃ ao c,v=.slice ao len c:=by
 exact RY
def Ot.other{e rt:TypeId}{wB:World}{ob:Nat}{w w':World}{v:Value}{us:List Value}(h:Ot e rt wB ob w v us)(hlow:Below wB.heap.size w w')(hs:w.heap.size<=w'.heap.size)(hk:∀ j,(j=ob\/v.ownBlock=some j)->w'.heap[j]?=w.heap[j]?):Ot e rt wB ob w' v us:=
 ⟨h.low.trans hlow,(hk ob (.inl rfl)).trans h.blk,h.hq,Mc h.own (λg hg=>hk g (.inr hg)),h.ne⟩
def Mv.other{ob:Nat}{w0 w w':World}{v0 v:Value}(m:Mv ob w0 v0 w v)(b:Below w0.heap.size w w'):Mv ob w0 v0 w' v:=⟨aZ m.size b.size,λk hk hq ho=>(b.block k hk).trans (m.blk k hk hq ho),m.own⟩
def TV.aBu{w:World}{b:Nat}{x y z u v:Value}(h:TV w b x y z u v)(v':Value):TV (w.setCell (AAF b 4) v') b x y z u v':=by
 exact Se
def ahK(wB:World)(ob:Nat):∀ d (t:T),depth t<=d->NmC wB ob t:=by
 intro d
 induction d using Nat.strongRecOn with
 | _ d ih=>
  intro t hd w v ss hst hbd k n a s ao m c ht;have H:=aN (λ(x:T) (hx:x∈t.l)=>ih (depth x) (by have:=Px.sD hx;omega) x (aG _));clear ih hd;have hkt:k=t.kind:=ht.split.1;have hsw:s=t.word:=ht.split.2.2.2.1;obtain rfl:m=t.l.length:=ht.split.2.2.2.2;have hU:En t ss=Ev (decide (k=48)) t.l (if k=3 then sL s ss else ss):=by
   rw[hkt,hsw];obtain⟨k',n',a',s',l⟩:=t;rw[En];rfl
  have HU:=aN hU;have e1:nodes t=1+bV t.l:=by obtain⟨k,n,a,w,l⟩:=t;rw[nodes];rfl
  have b1:=aJ w (.cells (tg k n a s ao t.l.length c) 24);have t1:=TV.new w k n a s (.slice ao t.l.length c);have z1:(w.alloc (.cells (tg k n a s ao t.l.length c) 24)).heap.size=w.heap.size+1:=by simp
  have b2:=aJ (w.alloc (.cells (tg k n a s ao t.l.length c) 24)) (.cells zT 24);have r2:=TV.new (w.alloc (.cells (tg k n a s ao t.l.length c) 24)) (iq 0) (iq 0) (iq 0) (.string ⟨#[]⟩) (.slice none 0 0);have t2:=t1.below b2;have B2:=b1.trans (b2.mono b1.size);rw[z1]at r2;clear z1 b1 b2 t1 hkt hsw hU;unfold zT at t2 B2;go_in;go_upto_region 1 with fail;generalize World.alloc (World.alloc w _) _=w2 at t2 r2 B2 ⊢;have hst2:=Ot.below hst B2;have hob:=hst.lt;have hvl:=λg (hg:v.ownBlock=some g)=>(hst.own.lt g hg).2
  have hob2:ob<w2.heap.size:=hst2.lt;have hF:FSs wB ob w2 v w2 v ss (.slice none 0 0) 0:=⟨hst2,Mv.refl _ _ _,⟨[],rfl,.inl ⟨rfl,rfl⟩⟩,λg hg=>(nomatch hg),hob2⟩
  have n1:w.heap.size≠ob:=by omega
  have n2:v.ownBlock≠some w.heap.size:=λe=>by have:=hvl _ e;omega
  have n3:w.heap.size+1≠ob:=by omega
  have n4:v.ownBlock≠some (w.heap.size+1):=λe=>by have:=hvl _ e;omega
  have T2:=aN t2;have R2:=aN r2;have HB2:=aN B2;have hlowB:=hst.low.size;have hvl9:=hvl;have HV9:=aN hvl9;clear hvl hvl9 hst2 hst B2 r2;have:=AAD t2
  by_cases hk3:k=3
  ·subst hk3;have hN:=WX wB ob w2 v ss s hF.st aB;go_upto_block 2 with fail;refine hN.mono ?_;rintro e w3 ⟨rfl,v3,hs3,hm3⟩;have hF3:=hF.call hs3 hm3;have tb3:=hF3.tv T2.out n1 n2;have hnoop:=MJ tb3;clear hF hs3 hm3 hN t2;have:=AAD tb3;go_wp2_with fail;clear hnoop
   go_loopg [5,19] t.l.length (λg t5 t19 wr=>∃ (q:Nat) (v' lv:Value),t19=.int .i64 q/\lv=t5/\q<=t.l.length/\g=t.l.length - q/\FSs wB ob w2 v wr v' (Ev (decide ((3:Int)=48)) (t.l.take q) (sL s ss)) lv q)
   case atStart=>exact PT
   case round=>
    clear hF3 tb3;obtain⟨q,v',lv,rfl,hlv,hq,hg,hF⟩:=hrel;subst hlv;have HG:=aN hg;clear hg;have tb:=hF.tv T2.out n1 n2
    by_cases hlt:q<t.l.length
    ·obtain⟨ao1,c1',vs1,e,hTs,hrow⟩:=mH.tree (rv:=[]) hF.st.low ht;obtain⟨b,off,rfl,_,hcell⟩:=hrow kF;simp only[dZ,fD]at e
     obtain⟨rfl,rfl⟩:=e;obtain⟨k1,n1',a1,s1,o1,m1,c1,hTr,d0,d1,d2,d3,d4⟩:=Tr.elem hTs hcell q hlt;have TK:=aN (jY hlt);have hmem:=eJ hlt;have hnt:=Kd t.l q hlt;have htd:=zQ t.l (q+1);have hnl:=aoX (decide ((3:Int)=48)) (t.l.take q) ((sL s ss));have hadd:=MO s ss;have hyk:k1=(t.l[q]'hlt).kind:=hTr.split.1;have hys:s1=(t.l[q]'hlt).word:=hTr.split.2.2.2.1
     have htk0:t.l.take q=[]↔q=0:=⟨λh=>by
      have h1:=congrArg List.length h
      rw[jV,dD]at h1;omega,λh=>by rw[h];rfl⟩
     generalize t.l[q]'hlt=y at hTr TK hmem hnt hyk hys;have HYK:=aN hyk;have HYS:=aN hys;have HT0:=aN htk0;have HB1:=aN (show (Ev (decide ((3:Int)=48)) (t.l.take q) ((sL s ss))).length+2*nodes y+2<=1000002 by omega);have HB2:=aN (show (Ev (decide ((3:Int)=48)) (t.l.take q) ((sL s ss))).length+1+2*nodes y<=1000000 by omega);clear hyk hys htk0 hnt htd hnl hadd;have x1:(q:Int)<(t.l.length:Int):=by omega
     have hq6:q<=1000000:=by have:=lU t.l;omega
     have b4:=aJ wr (.cells (tg k1 n1' a1 s1 o1 m1 c1) 24);have x4:=TV.new wr k1 n1' a1 s1 (.slice o1 m1 c1);have:=AAD tb;go_upto_region 7 with fail;generalize World.alloc wr _=w5 at b4 x4 ⊢;have hF4:=hF.below b4;have tb5:=tb.below b4;have hvr:=hF.st.own.lt;have hobr:=hF.st.lt;clear hF tb b4 d0 d1 d2 d3 d4 hcell;have HSN:=aN ((Ir (decide ((3:Int)=48)) (t.l.take q) y ((sL s ss))).trans (by rw[aC (λh=>by simp at h)]));have hF5:FSs wB ob w2 v w5 v' (Ev (decide ((3:Int)=48)) (t.l.take q) ((sL s ss))) lv q:=hF4;have hbd5:(Ev (decide ((3:Int)=48)) (t.l.take q) ((sL s ss))).length+2*nodes y<=1000000:=by have:=HB1.out;omega
     have x5:=x4;clear hF4 x4;have:=AAD tb5;have hcall:=H.out y hmem w5 v' _ hF5.st hbd5 k1 n1' a1 s1 o1 m1 c1 hTr;exact PB
    ·have x1:¬ (q:Int)<(t.l.length:Int):=by omega
     have HFIN:=aN (HU.out.trans (show _=Ev (decide ((3:Int)=48)) (t.l.take q) ((sL s ss))by rw[nQ aB];simp));obtain⟨vs9,ho9⟩:=hF.own;obtain⟨ao9,c9,rfl⟩:=Ko ho9;have rb:=hF.tv R2.out n3 n4;have t9:=TV.aBu tb (.slice ao9 q c9);have r9:TV (wr.setCell (AAF w.heap.size 4) (.slice ao9 q c9)) (w.heap.size+1) _ _ _ _ _:=(dJ wr (AAF w.heap.size 4) (.slice ao9 q c9) _ (show w.heap.size+1≠w.heap.size by omega)).trans rb;have hb9:Below w.heap.size wr (wr.setCell (AAF w.heap.size 4) (.slice ao9 q c9)):=(bH w.heap.size wr).setCell (p:=(AAF w.heap.size 4)) (aG _) _;have hmv:Mv ob w v wr v':=((Mv.refl ob w v).below HB2.out).trans hF.mv;have hst9:=hF.st;have hown9:=hF.mv.own;clear hF ho9 rb;have:=AAD tb;have hs9:∀ j,j≠w.heap.size->(wr.setCell (AAF w.heap.size 4) (.slice ao9 q c9)).heap[j]?=wr.heap[j]?:=λj hj=>dJ wr (AAF w.heap.size 4) (.slice ao9 q c9) j hj
     have HS9:=aN hs9;clear hs9;go_upto_region 12 with fail;generalize World.setCell wr _ _=w9 at t9 r9 hb9 HS9 ⊢;have t9':=t9;have r9':=r9;have:=AAD t9';have:=AAD r9';go_wp2_with fail;have P1:=r9.set (iq 3) n a s (.slice ao9 q c9);have P2:=jH hb9 (bU _) (iq 3) n a s (.slice ao9 q c9);have P3:∀ j,j<w.heap.size\/w2.heap.size<=j->(((((w9.setCell (AAF (w.heap.size+1) 0) (iq 3)).setCell (AAF (w.heap.size+1) 1) (iq n)).setCell (AAF (w.heap.size+1) 2) (iq a)).setCell (AAF (w.heap.size+1) 3) (.string s)).setCell (AAF (w.heap.size+1) 4) (.slice ao9 q c9)).heap[j]?=wr.heap[j]?:=λj hj=>(Aw (show w.heap.size+1≠j by have:=R2.out.lt;omega) w9 _ _ _ _ _).trans (HS9.out j (by have:=R2.out.lt;omega))
     generalize World.setCell (World.setCell (World.setCell (World.setCell (World.setCell w9 _ _) _ _) _ _) _ _) _ _=w10 at P1 P2 P3 ⊢;refine nX P1 Tryz.results58 ?_;refine⟨⟨3,n,a,s,ao9,q,c9,rfl⟩,v',?_,hmv.other P2⟩;exact Qr
  ·have hF3:=hF;have hkb:(k==(3:Int))=false:=by simp[hk3]
   clear hF;go_wp2_with fail
   try rw[hkb]
   go_loopg [5,19] t.l.length (λg t5 t19 wr=>∃ (q:Nat) (v' lv:Value),t19=.int .i64 q/\lv=t5/\q<=t.l.length/\g=t.l.length - q/\FSs wB ob w2 v wr v' (Ev (decide (k=48)) (t.l.take q) ss) lv q)
   case atStart=>exact PT
   case round=>
    clear hF3 t2;obtain⟨q,v',lv,rfl,hlv,hq,hg,hF⟩:=hrel;subst hlv;have HG:=aN hg;clear hg;have tb:=hF.tv T2.out n1 n2
    by_cases hlt:q<t.l.length
    ·obtain⟨ao1,c1',vs1,e,hTs,hrow⟩:=mH.tree (rv:=[]) hF.st.low ht;obtain⟨b,off,rfl,_,hcell⟩:=hrow kF;simp only[dZ,fD]at e
     obtain⟨rfl,rfl⟩:=e;obtain⟨k1,n1',a1,s1,o1,m1,c1,hTr,d0,d1,d2,d3,d4⟩:=Tr.elem hTs hcell q hlt;have TK:=aN (jY hlt);have hmem:=eJ hlt;have hnt:=Kd t.l q hlt;have htd:=zQ t.l (q+1);have hnl:=aoX (decide (k=48)) (t.l.take q) (ss);have hadd:=MO s ss;have hyk:k1=(t.l[q]'hlt).kind:=hTr.split.1;have hys:s1=(t.l[q]'hlt).word:=hTr.split.2.2.2.1
     have htk0:t.l.take q=[]↔q=0:=⟨λh=>by
      have h1:=congrArg List.length h
      rw[jV,dD]at h1;omega,λh=>by rw[h];rfl⟩
     generalize t.l[q]'hlt=y at hTr TK hmem hnt hyk hys;have HYK:=aN hyk;have HYS:=aN hys;have HT0:=aN htk0;have HB1:=aN (show (Ev (decide (k=48)) (t.l.take q) (ss)).length+2*nodes y+2<=1000002 by omega);have HB2:=aN (show (Ev (decide (k=48)) (t.l.take q) (ss)).length+1+2*nodes y<=1000000 by omega);clear hyk hys htk0 hnt htd hnl hadd;have x1:(q:Int)<(t.l.length:Int):=by omega
     have hq6:q<=1000000:=by have:=lU t.l;omega
     have b4:=aJ wr (.cells (tg k1 n1' a1 s1 o1 m1 c1) 24);have x4:=TV.new wr k1 n1' a1 s1 (.slice o1 m1 c1);have:=AAD tb;go_upto_region 7 with fail;generalize World.alloc wr _=w5 at b4 x4 ⊢;have hF4:=hF.below b4;have tb5:=tb.below b4;have hvr:=hF.st.own.lt;have hobr:=hF.st.lt;clear hF tb b4 d0 d1 d2 d3 d4 hcell
     by_cases d48:k=48
     ·by_cases dq0:q=0
      ·by_cases d11:k1=11
       ·have y1:((q:Int)==0)=true:=by simp[dq0]
        have y2:(k==(48:Int))=true:=by simp[d48]
        have y3:(k1==(11:Int))=true:=by simp[d11]
        have D1:=aN d48;have D2:=aN dq0;have D3:=aN d11;clear d48 dq0 d11;have hN1:=WX wB ob w5 v' (Ev (decide (k=48)) (t.l.take q) (ss)) s1 hF4.st (by have:=HB2.out;omega);have HSN:=aN ((Ir (decide (k=48)) (t.l.take q) y (ss)).trans (by rw[aF (⟨eQ D1.out,HT0.out.2 D2.out,by rw[<- HYK.out];exact D3.out⟩),<- HYS.out]));have hbd5:(sL s1 (Ev (decide (k=48)) (t.l.take q) (ss))).length+2*nodes y<=1000000:=by have:=HB2.out;have:=MO s1 (Ev (decide (k=48)) (t.l.take q) (ss));omega
        have xlt:=x4.lt;have:=AAD tb5;have:=AAD x4;go_upto_block 8 with fail;refine hN1.mono ?_;rintro e w8 ⟨rfl,v8,hs8,hm8⟩;have hF5:=hF4.call hs8 hm8;have x5:TV w8 wr.heap.size _ _ _ _ _:=(hm8.blk _ xlt aB (λe=>by have:=(hvr _ e).2;omega)).trans x4;have hnoop:=MJ x5;clear hF4 x4 hs8 hm8 hN1;have hcall:=H.out y hmem w8 v8 _ hF5.st hbd5 k1 n1' a1 s1 o1 m1 c1 hTr;exact PB
       ·have y1:((q:Int)==0)=true:=by simp[dq0]
        have y2:(k==(48:Int))=true:=by simp[d48]
        clear d48 dq0;have HSN:=aN ((Ir (decide (k=48)) (t.l.take q) y (ss)).trans (by rw[aC (λh=>d11 (by rw[HYK.out];exact h.2.2))]));exact Jc
      ·have y1:¬ (q:Int)=0:=by omega
       have y2:(k==(48:Int))=true:=by simp[d48]
       clear d48;have HSN:=aN ((Ir (decide (k=48)) (t.l.take q) y (ss)).trans (by rw[aC (λh=>dq0 (HT0.out.1 h.2.1))]));exact Jc
     ·have HSN:=aN ((Ir (decide (k=48)) (t.l.take q) y (ss)).trans (by rw[aC (λh=>d48 (iG h.1))]));exact Jc
    ·have x1:¬ (q:Int)<(t.l.length:Int):=by omega
     have HFIN:=aN (HU.out.trans (show _=Ev (decide (k=48)) (t.l.take q) (ss)by rw[nQ aB];rw[aC hk3]));obtain⟨vs9,ho9⟩:=hF.own;obtain⟨ao9,c9,rfl⟩:=Ko ho9;have rb:=hF.tv R2.out n3 n4;have t9:=TV.aBu tb (.slice ao9 q c9);have r9:TV (wr.setCell (AAF w.heap.size 4) (.slice ao9 q c9)) (w.heap.size+1) _ _ _ _ _:=(dJ wr (AAF w.heap.size 4) (.slice ao9 q c9) _ (show w.heap.size+1≠w.heap.size by omega)).trans rb;have hb9:Below w.heap.size wr (wr.setCell (AAF w.heap.size 4) (.slice ao9 q c9)):=(bH w.heap.size wr).setCell (p:=(AAF w.heap.size 4)) (aG _) _;have hmv:Mv ob w v wr v':=((Mv.refl ob w v).below HB2.out).trans hF.mv;have hst9:=hF.st;have hown9:=hF.mv.own;clear hF ho9 rb;have:=AAD tb;have hs9:∀ j,j≠w.heap.size->(wr.setCell (AAF w.heap.size 4) (.slice ao9 q c9)).heap[j]?=wr.heap[j]?:=λj hj=>dJ wr (AAF w.heap.size 4) (.slice ao9 q c9) j hj
     have HS9:=aN hs9;clear hs9;go_upto_region 12 with fail;generalize World.setCell wr _ _=w9 at t9 r9 hb9 HS9 ⊢;have t9':=t9;have r9':=r9;have:=AAD t9';have:=AAD r9';go_wp2_with fail;have P1:=r9.set k n a s (.slice ao9 q c9);have P2:=jH hb9 (bU _) k n a s (.slice ao9 q c9);have P3:∀ j,j<w.heap.size\/w2.heap.size<=j->(((((w9.setCell (AAF (w.heap.size+1) 0) (iq k)).setCell (AAF (w.heap.size+1) 1) (iq n)).setCell (AAF (w.heap.size+1) 2) (iq a)).setCell (AAF (w.heap.size+1) 3) (.string s)).setCell (AAF (w.heap.size+1) 4) (.slice ao9 q c9)).heap[j]?=wr.heap[j]?:=λj hj=>(Aw (show w.heap.size+1≠j by have:=R2.out.lt;omega) w9 _ _ _ _ _).trans (HS9.out j (by have:=R2.out.lt;omega))
     generalize World.setCell (World.setCell (World.setCell (World.setCell (World.setCell w9 _ _) _ _) _ _) _ _) _ _=w10 at P1 P2 P3 ⊢;refine nX P1 Tryz.results58 ?_;refine⟨⟨k,n,a,s,ao9,q,c9,rfl⟩,v',?_,hmv.other P2⟩;exact Qr
end
