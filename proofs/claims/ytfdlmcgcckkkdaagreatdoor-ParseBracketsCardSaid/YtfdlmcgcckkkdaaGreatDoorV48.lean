/- ParseWhole, part 48: what it stands on. -/
import Derived.Test.YtfdlmcgcckkkdaaGreatDoorV30
import Derived.StillTailTactics
set_option linter.all false
set_option maxHeartbeats 40000000
set_option maxRecDepth 100000
namespace Go.Proofs.YtfdlmcgcckkkdaaGreatDoor
section
open Go.RowKit Lx Px
structure Ot (e rt:TypeId) (wB:World) (ob:Nat) (w:World) (v:Value) (us:List Value):Prop where
 low:Below wB.heap.size wB w
 blk:w.heap[ob]?=some (.cells #[v] rt (0,0))
 hq:wB.heap.size≤ob
 own:w.ownsRow wB.heap.size e 1 v us.length us
 ne:v.ownBlock≠some ob
theorem Ot.lt{e rt:TypeId}{wB:World}{ob:Nat}{w:World}{v:Value}{us:List Value}(h:Ot e rt wB ob w v us):ob<w.heap.size:=(Array.getElem?_eq_some_iff.1 h.blk).1
theorem Ot.below{e rt:TypeId}{wB:World}{ob:Nat}{w w':World}{v:Value}{us:List Value}(h:Ot e rt wB ob w v us)(b:Below w.heap.size w w'):Ot e rt wB ob w' v us:=
 ⟨h.low.trans (b.mono h.low.size),(b.block _ h.lt).trans h.blk,h.hq,xU h.own (fun g hg=>(h.own.lt g hg).2) b,h.ne⟩
theorem Ot.mid{e rt:TypeId}{wB:World}{ob:Nat}{w w1 w':World}{v:Value}{us:List Value}(h:Ot e rt wB ob w v us)(hb:Below w.heap.size w w1)(hgrow:w1.grownBy w' v.ownBlock):w'.heap[ob]?=some (.cells #[v] rt (0,0)):=
 (hgrow.block ob (by have:=h.lt;have:=hb.size;omega) (fun e=>h.ne e.symm)).trans ((hb.block _ h.lt).trans h.blk)
theorem Ot.snoc{e rt:TypeId}{wB:World}{ob:Nat}{w w1 w':World}{v:Value}{us:List Value}(h:Ot e rt wB ob w v us)(hb:Below w.heap.size w w1){g cap:Nat}{u:Value}(hown:w'.ownsRow wB.heap.size e 1 (.slice (some ⟨g,0,none⟩) (us.length+1) cap) (us.length+1) (us++[u]))(hgrow:w1.grownBy w' v.ownBlock)(hor:v.ownBlock=some g∨w1.heap.size≤g):Ot e rt wB ob (w'.setCell ⟨ob,0,none⟩ (.slice (some ⟨g,0,none⟩) (us.length+1) cap)) (.slice (some ⟨g,0,none⟩) (us.length+1) cap) (us++[u])∧Mv ob w v (w'.setCell ⟨ob,0,none⟩ (.slice (some ⟨g,0,none⟩) (us.length+1) cap)) (.slice (some ⟨g,0,none⟩) (us.length+1) cap):=by
 have blk':w'.heap[ob]?=some (.cells #[v] rt (0,0)):=(hgrow.block ob (by have:=h.lt;have:=hb.size;omega) (fun e=>h.ne e.symm)).trans ((hb.block _ h.lt).trans h.blk);have hsz:w.heap.size≤w'.heap.size:=by have:=hgrow.size;have:=hb.size;omega
 have hgq:g≠ob:=fun e=>by
  subst e
  rcases hor with h1|h1
  ·exact h.ne h1
  ·have:=h.lt;have:=hb.size;omega
 have hkeep:∀ j,j<w.heap.size→j≠ob→v.ownBlock≠some j→(w'.setCell ⟨ob,0,none⟩ (.slice (some ⟨g,0,none⟩) (us.length+1) cap)).heap[j]?=w.heap[j]?:=fun j hj hq ho=>by
  rw[Below.heap_setCell _ _ _ _ (by simpa using hq)];exact(hgrow.block j (by have:=hb.size;omega) (fun e=>ho e.symm)).trans (hb.block _ hj)
 have hss:(w'.setCell ⟨ob,0,none⟩ (.slice (some ⟨g,0,none⟩) (us.length+1) cap)).heap.size=w'.heap.size:=by simp[World.setCell]
 refine⟨⟨⟨?_,?_,?_,by rw[hss];exact Nat.le_trans h.low.size hsz,fun j hj=>?_⟩,?_,h.hq,?_,?_⟩,⟨by rw[hss];exact hsz,hkeep,fun j hj=>?_⟩⟩
 ·exact hgrow.os.trans (hb.os.trans h.low.os)
 ·exact hgrow.tape.trans (hb.tape.trans h.low.tape)
 ·exact hgrow.output.trans (hb.output.trans h.low.output)
 ·have:=h.hq;have:=h.low.size;refine(hkeep j (by omega) (by omega) (fun e=>?_)).trans (h.low.block j hj);have:=(h.own.lt j e).1;omega
 ·simp[World.setCell,Array.getElem?_modify,blk']
 ·rw[List.length_append];refine⟨by rw[List.length_append];simp,?_⟩
  rcases hown.2 with h0|⟨g',cap',cur,hv,hB,hg,rest⟩
  ·exact absurd h0.2 (by omega)
  ·refine .inr ⟨g',cap',cur,hv,hB,?_,rest⟩;have e:g=g':=by
    simp only[Value.slice.injEq,Option.some.injEq,Addr.mk.injEq]at hv
    exact hv.1.1
   rw[Below.heap_setCell _ _ _ _ (by rw[← e];simpa using hgq)];exact hg
 ·simp only[Value.ownBlock,ne_eq,Option.some.injEq]
  exact hgq
 ·simp only[Value.ownBlock,Option.some.injEq]at hj
  subst hj
  rcases hor with h1|h1
  ·exact .inl h1
  ·exact .inr (by have:=hb.size;omega)
def sF(s:ByteArray)(ss:List ByteArray):List ByteArray:=if mV s ss=true then ss else ss++[s]
def NSt(wB:World)(ob:Nat)(w:World)(v:Value)(ss:List ByteArray):Prop:=Ot 9 64 wB ob w v (ss.map Value.string)
def NSQ(wB:World)(ob:Nat)(w:World)(v:Value)(ss:List ByteArray)(E:Ending→Prop)(e:Ending)(w':World):Prop:=E e∧∃ v',NSt wB ob w' v' ss∧Mv ob w v w' v'
theorem OQ: (Tryz.prog.info? 9).map (fun i=>(i.zero,i.size,i.bytes))=some (some (.string ⟨#[]⟩),1,16):=by kernel_rfl
theorem OI: Tryz.prog.underlying 64=some (.slice 9):=by kernel_rfl
theorem Cg(c:Nat)(s:ByteArray)(w:World):Calls Tryz.prog 35 #[.slice none 0 c,s] w fun e w'=>e=.returned (.int .i64 (-1))∧w'=w:=by
 go_enter Tryz.func35,Tryz.ntmps35;go_wp2_with fail
 go_loopg [8] 0 (fun g tt wr=>g=0∧tt=.int .i64 0∧wr=w)
 case atStart=>exact⟨rfl,rfl,rfl⟩
 case round=>
  obtain⟨rfl,rfl,rfl⟩:=hrel;go_wp2_with fail;go_ret;exact⟨rfl,rfl⟩
theorem xD(c:Nat)(s:ByteArray)(w:World):Calls Tryz.prog 34 #[.slice none 0 c,s] w fun e w'=>e=.returned (.bool false)∧w'=w:=by
 have hI:=Cg c s w;go_enter Tryz.func34,Tryz.ntmps34;go_wp2_with (go_at_call 35;refine hI.mono ?_;rintro e w2 ⟨rfl,rfl⟩);go_ret;exact⟨rfl,rfl⟩
theorem NSt.contains{wB:World}{ob:Nat}{w:World}{v:Value}{ss:List ByteArray}(h:NSt wB ob w v ss)(s:ByteArray):Calls Tryz.prog 34 #[v,s] w fun e w'=>e=.returned (.bool (mV s ss))∧w'=w:=by
 have hown:=h.own
 rcases hown.2 with ⟨rfl,h0⟩|⟨g,cap,cur,rfl,hB,hg,hle,hmx,hsz,htk⟩
 ·rw[List.length_map]at h0;obtain rfl:=List.length_eq_zero_iff.1 h0;exact xD 0 s w
 ·rw[List.length_map]at hle htk ⊢;refine jE _ ss s w ⟨g,0,cap,rfl,(Array.getElem?_eq_some_iff.1 hg).1,fun j hj=>?_⟩ (by unfold maxLen at hmx;omega);rw[Nat.zero_add,cell_of_row w g j _ _ _ hg,← Array.getElem?_toList];have h1:(List.take (ss.length*1) cur.toList)[j]?=(ss.map Value.string)[j]?:=by rw[htk]
  rw[List.getElem?_take,if_pos (by omega)]at h1;rw[h1,List.getElem?_map,getElem!_pos ss j hj,List.getElem?_eq_getElem hj];rfl
theorem zV(wB:World)(ob:Nat)(w:World)(v:Value)(ss:List ByteArray)(s:ByteArray)(h:NSt wB ob w v ss)(hl:ss.length≤1000000):Calls Tryz.prog 74 #[s,pq ob] w (NSQ wB ob w v (sF s ss) (fun e=>e=.returned (.string s))):=by
 have k0:w.cell? ⟨ob,0,none⟩=some v:=cell_of_row w ob 0 _ _ _ h.blk;have hC:=NSt.contains h s
 cases hm:mV s ss with
 | true=>
  rw[hm]at hC;have HA:=hdq (show sF s ss=ss by unfold sF;rw[if_pos hm]);clear hm;go_enter Tryz.func74,Tryz.ntmps74;go_wp2_with (go_at_call 34;refine hC.mono ?_;rintro e w2 ⟨rfl,hb⟩;subst hb);go_ret;exact⟨rfl,v,by rw[HA.out];exact h,Mv.refl _ _ _⟩
 | false=>
  rw[hm]at hC;have HA:=hdq (show sF s ss=ss++[s]by unfold sF;rw[hm];rfl);clear hm;obtain⟨i0,hi0,hz0,hz1,hz2⟩:=info_parts OQ;have hln:(ss.map Value.string).length≤1000000:=by rw[List.length_map];exact hl
  go_enter Tryz.func74,Tryz.ntmps74;go_upto_region 2 with (go_at_call 34;refine hC.mono ?_;rintro e w2 ⟨rfl,hb⟩;subst hb);go_wp2_with (at_builtin;go_loud (refine wpList_append_lies _ rfl _ _ 64 rfl wB.heap.size 9 i0 _ 1 16 OI hi0 hz0 hz1 hz2 rfl (by decide) v (ss.map Value.string).length (ss.map Value.string) rfl (h.own.alloc _) ⟨w2.heap.size,0,none⟩ 1 1 [.string s] rfl rfl (World.news_of_block (heap_alloc_new w2 _)) (by intro u hu;simp at hu;rcases hu with rfl;rfl) (by decide) (by unfold maxLen;omega) (by omega) (by have:=h.low.size;simp;omega) _ rfl ?_));intro g cap w' hown hgrow hor hlt;have b1:=aC w2 (.cells #[.string s] 9);have hmid:=Ot.mid h b1 hgrow;have k1:w'.cell? ⟨ob,0,none⟩=some v:=cell_of_row w' ob 0 _ _ _ hmid;have f1:=Lib.frozen_of_heap hmid 0;have hfin:=Ot.snoc h b1 (u:=.string s) (g:=g) (cap:=cap) (by rw[List.length_map];exact hown) hgrow (hor.imp id (fun e=>by rw[e];simp));rw[List.length_map]at hfin;have HFIN:=hdq hfin;clear hown hgrow hor hmid hfin k0 h;go_wp2_with fail;go_ret;refine⟨rfl,_,?_,HFIN.out.2⟩;unfold NSt;rw[HA.out,List.map_append];exact HFIN.out.1
mutual
def nmT: T→List ByteArray→List ByteArray
 | .mk k _ _ w l,ss=>nmL (decide (k=48)) l (if k=3 then sF w ss else ss)
def nmL: Bool→List T→List ByteArray→List ByteArray
 | _,[],ss=>ss
 | b,x::r,ss=>nmL false r (nmT x (if b=true∧x.kind=11 then sF x.word ss else ss))
end
theorem Hg: ∀ (l:List T) (x:T) (ss:List ByteArray),nmL false (l++[x]) ss=nmT x (nmL false l ss):=by
 intro l
 induction l with
 | nil=>intro x ss;rw[List.nil_append,nmL,nmL,nmL,if_neg (fun h=>(nomatch h.1))]
 | cons y r ih=>intro x ss;rw[List.cons_append,nmL,ih,nmL]
theorem rU(b:Bool)(l:List T)(x:T)(ss:List ByteArray):nmL b (l++[x]) ss=nmT x (if b=true∧l=[]∧x.kind=11 then sF x.word (nmL b l ss)else nmL b l ss):=by
 cases l with
 | nil=>
  rw[List.nil_append,nmL,nmL,nmL]
  congr 1
  by_cases h:b=true∧x.kind=11
  ·rw[if_pos h,if_pos ⟨h.1,rfl,h.2⟩]
  ·rw[if_neg h,if_neg (fun g=>h ⟨g.1,g.2.2⟩)]
 | cons y r=>
  rw[if_neg (c:=b=true∧y::r=[]∧x.kind=11) (fun h=>(nomatch h.2.1)),List.cons_append,nmL,Hg]
  congr 1
theorem oN(s:ByteArray)(ss:List ByteArray):(sF s ss).length≤ss.length+1:=by
 unfold sF;split
 ·omega
 ·simp
theorem UH: ∀ d (t:T),depth t≤d→∀ ss,(nmT t ss).length≤ss.length+2*nodes t∧(nmT t ss).length+1≤ss.length+2*nodes t:=by
 intro d
 induction d using Nat.strongRecOn with
 | _ d ih=>
  intro t hd ss;have H:=fun (x:T) (hx:x∈t.l) ss=>(ih (depth x) (by have:=Px.iQ hx;omega) x (Nat.le_refl _) ss).2
  obtain⟨k,n,a,w,l⟩:=t;have hl:∀ (m:List T) (b:Bool) (ss:List ByteArray),(∀ x,x∈m→∀ ss,(nmT x ss).length+1≤ss.length+2*nodes x)→(nmL b m ss).length≤ss.length+2*aH m:=by
   intro m
   induction m with
   | nil=>intro b ss _;rw[nmL];omega
   | cons x r ihr=>
    intro b ss h;rw[nmL,aH];have h1:=ihr false (nmT x (if b=true∧x.kind=11 then sF x.word ss else ss)) (fun y hy=>h y (.tail _ hy));have h2:=h x (.head _) (if b=true∧x.kind=11 then sF x.word ss else ss);have h3:(if b=true∧x.kind=11 then sF x.word ss else ss).length≤ss.length+1:=by
     split
     ·exact oN _ _
     ·omega
    omega
  rw[nmT,nodes];have h1:=hl l (decide (k=48)) (if k=3 then sF w ss else ss) H;have h3:(if k=3 then sF w ss else ss).length≤ss.length+1:=by
   split
   ·exact oN _ _
   ·omega
  omega
theorem Ao{w w':World}{B:Nat}{e:TypeId}{n:Nat}{v:Value}{len:Nat}{cs:List Value}(h:w.ownsRow B e n v len cs)(hk:∀ g,v.ownBlock=some g→w'.heap[g]?=w.heap[g]?):w'.ownsRow B e n v len cs:=by
 obtain⟨h1,h2⟩:=h;refine⟨h1,h2.imp id ?_⟩;rintro⟨g,cap,cur,rfl,k2,k3,k4⟩;exact⟨g,cap,cur,rfl,k2,(hk g rfl).trans k3,k4⟩
structure FSs (wB:World) (ob:Nat) (w1:World) (v0:Value) (wr:World) (v:Value) (ss:List ByteArray) (lv:Value) (n:Nat):Prop where
 st:NSt wB ob wr v ss
 mv:Mv ob w1 v0 wr v
 own:∃ vs,wr.ownsRow w1.heap.size 24 5 lv n vs
 ne:∀ g,lv.ownBlock=some g→v.ownBlock≠some g
 hb:ob<w1.heap.size
theorem FSs.tv{wB:World}{ob:Nat}{w1 wr:World}{v0 v lv:Value}{ss:List ByteArray}{n:Nat}(h:FSs wB ob w1 v0 wr v ss lv n){b:Nat}{x y z u q:Value}(t:TV w1 b x y z u q)(h1:b≠ob)(h2:v0.ownBlock≠some b):TV wr b x y z u q:=(h.mv.blk b t.lt h1 h2).trans t
theorem FSs.below{wB:World}{ob:Nat}{w1 wr w':World}{v0 v lv:Value}{ss:List ByteArray}{n:Nat}(h:FSs wB ob w1 v0 wr v ss lv n)(b:Below wr.heap.size wr w'):FSs wB ob w1 v0 w' v ss lv n:=by
 obtain⟨vs,ho⟩:=h.own;exact⟨Ot.below h.st b,h.mv.below b,⟨vs,Ao ho fun g hg=>b.block g (ho.lt g hg).2⟩,h.ne,h.hb⟩
theorem FSs.call{wB:World}{ob:Nat}{w1 wr w':World}{v0 v v' lv:Value}{ss ss':List ByteArray}{n:Nat}(h:FSs wB ob w1 v0 wr v ss lv n)(s:NSt wB ob w' v' ss')(m:Mv ob wr v w' v'):FSs wB ob w1 v0 w' v' ss' lv n:=by
 obtain⟨vs,ho⟩:=h.own;refine⟨s,h.mv.trans m,⟨vs,Ao ho fun g hg=>m.blk g (ho.lt g hg).2 (fun e=>?_) (fun e=>h.ne g hg e)⟩,fun g hg e=>?_,h.hb⟩
 ·have h1:=(ho.lt g hg).1;have h2:=h.hb;omega
 ·rcases m.own g e with h1|h1
  ·exact h.ne g hg h1
  ·have:=(ho.lt g hg).2;omega
theorem FSs.app{wB:World}{ob:Nat}{w1 wr wz w':World}{v0 v lv:Value}{ss:List ByteArray}{n:Nat}(h:FSs wB ob w1 v0 wr v ss lv n)(b:Below wr.heap.size wr wz){g cap:Nat}{vs:List Value}(hown:w'.ownsRow w1.heap.size 24 5 (.slice (some ⟨g,0,none⟩) (n+1) cap) (n+1) vs)(hgrow:wz.grownBy w' lv.ownBlock)(hor:lv.ownBlock=some g∨wr.heap.size≤g):FSs wB ob w1 v0 w' v ss (.slice (some ⟨g,0,none⟩) (n+1) cap) (n+1):=by
 have hz:=h.below b;obtain⟨vs0,ho⟩:=hz.own;have hst:=hz.st;have hne:lv.ownBlock≠some ob:=fun e=>by have:=(ho.lt ob e).1;have:=h.hb;omega
 have hlow:∀ j,lv.ownBlock=some j→wB.heap.size≤j:=fun j hj=>by have h1:=(ho.lt j hj).1;have h2:=h.hb;have h3:=hst.hq;omega
 have hvl:=hst.own;refine⟨⟨hst.low.grown hgrow hst.low.size hlow,(hgrow.block ob hst.lt (fun e=>hne e.symm)).trans hst.blk,hst.hq,Ao hst.own fun g hg=>hgrow.block g (hvl.lt g hg).2 (fun e=>hz.ne g e.symm hg),hst.ne⟩,?_,⟨vs,hown⟩,fun j hj e=>?_,h.hb⟩
 ·exact⟨Nat.le_trans hz.mv.size hgrow.size,fun k hk hq ho2=>(hgrow.block k (Nat.lt_of_lt_of_le hk hz.mv.size) (fun e=>by have:=(ho.lt k e.symm).1;omega)).trans (hz.mv.blk k hk hq ho2),hz.mv.own⟩
 ·simp only[Value.ownBlock,Option.some.injEq]at hj
  subst hj
  rcases hor with h1|h1
  ·exact hz.ne _ h1 e
  ·have:=(h.st.own.lt _ e).2;omega
def NmC(wB:World)(ob:Nat)(t:T):Prop:=∀ (w:World) (v:Value) (ss:List ByteArray),NSt wB ob w v ss→ss.length+2*nodes t≤1000000→∀ (k n a:Int) (s:ByteArray) (ao:Option Addr) (m c:Nat),Tr wB t (vT k n a s ao m c)→
 Calls Tryz.prog 70 #[tg k n a s ao m c,.func (.func 74) #[] #[pq ob]] w (NSQ wB ob w v (nmT t ss) (fun e=>∃ k n a s ao m c,e=.returned (tg k n a s ao m c)))
theorem tI{w:World}{b:Nat}{x y z u v:Value}(h:TV w b x y z u v):w.setCell ⟨b,3,none⟩ u=w:=by
 unfold TV at h;obtain⟨hb,he⟩:=Array.getElem?_eq_some_iff.1 h
 cases w
 simp only[World.setCell]
 congr 1
 apply Array.ext
 ·simp
 ·intro i h1 h2;rw[Array.getElem_modify]
  split
  ·rename_i e
   subst e;simp only at he
   rw[he]
   simp
  ·rfl
theorem IZ(b:Bool)(m:List T)(ss:List ByteArray):(nmL b m ss).length≤ss.length+2*aH m:=by
 induction m generalizing b ss with
 | nil=>rw[nmL];omega
 | cons x r ihr=>
  rw[nmL,aH];have h1:=ihr false (nmT x (if b=true∧x.kind=11 then sF x.word ss else ss));have h2:=(UH _ x (Nat.le_refl _) (if b=true∧x.kind=11 then sF x.word ss else ss)).2;have h3:(if b=true∧x.kind=11 then sF x.word ss else ss).length≤ss.length+1:=by
   split
   ·exact oN _ _
   ·omega
  omega
theorem qU{w:World}{B:Nat}{e:TypeId}{n:Nat}{v:Value}{len:Nat}{cs:List Value}(h:w.ownsRow B e n v len cs):∃ ao c,v=.slice ao len c:=by
 rcases h.2 with ⟨rfl,rfl⟩|⟨g,cap,cur,rfl,_⟩
 ·exact⟨_,_,rfl⟩
 ·exact⟨_,_,rfl⟩
theorem Ot.other{e rt:TypeId}{wB:World}{ob:Nat}{w w':World}{v:Value}{us:List Value}(h:Ot e rt wB ob w v us)(hlow:Below wB.heap.size w w')(hs:w.heap.size≤w'.heap.size)(hk:∀ j,(j=ob∨v.ownBlock=some j)→w'.heap[j]?=w.heap[j]?):Ot e rt wB ob w' v us:=
 ⟨h.low.trans hlow,(hk ob (.inl rfl)).trans h.blk,h.hq,Ao h.own (fun g hg=>hk g (.inr hg)),h.ne⟩
theorem Mv.other{ob:Nat}{w0 w w':World}{v0 v:Value}(m:Mv ob w0 v0 w v)(b:Below w0.heap.size w w'):Mv ob w0 v0 w' v:=⟨Nat.le_trans m.size b.size,fun k hk hq ho=>(b.block k hk).trans (m.blk k hk hq ho),m.own⟩
theorem TV.OO{w:World}{b:Nat}{x y z u v:Value}(h:TV w b x y z u v)(v':Value):TV (w.setCell ⟨b,4,none⟩ v') b x y z u v':=by
 unfold TV at *
 simp[World.setCell,Array.getElem?_modify,h]
theorem DJ(wB:World)(ob:Nat):∀ d (t:T),depth t≤d→NmC wB ob t:=by
 intro d
 induction d using Nat.strongRecOn with
 | _ d ih=>
  intro t hd w v ss hst hbd k n a s ao m c ht;have H:=hdq (fun (x:T) (hx:x∈t.l)=>ih (depth x) (by have:=Px.iQ hx;omega) x (Nat.le_refl _));clear ih hd;have hkt:k=t.kind:=ht.split.1;have hsw:s=t.word:=ht.split.2.2.2.1;obtain rfl:m=t.l.length:=ht.split.2.2.2.2;have hU:nmT t ss=nmL (decide (k=48)) t.l (if k=3 then sF s ss else ss):=by
   rw[hkt,hsw];obtain⟨k',n',a',s',l⟩:=t;rw[nmT];rfl
  have HU:=hdq hU;have e1:nodes t=1+aH t.l:=by obtain⟨k,n,a,w,l⟩:=t;rw[nodes];rfl
  have b1:=aC w (.cells (tg k n a s ao t.l.length c) 24);have t1:=TV.new w k n a s (.slice ao t.l.length c);have z1:(w.alloc (.cells (tg k n a s ao t.l.length c) 24)).heap.size=w.heap.size+1:=by simp
  have b2:=aC (w.alloc (.cells (tg k n a s ao t.l.length c) 24)) (.cells zT 24);have r2:=TV.new (w.alloc (.cells (tg k n a s ao t.l.length c) 24)) (.int .i64 0) (.int .i64 0) (.int .i64 0) (.string ⟨#[]⟩) (.slice none 0 0);have t2:=t1.below b2;have B2:=b1.trans (b2.mono b1.size);rw[z1]at r2;clear z1 b1 b2 t1 hkt hsw hU;unfold zT at t2 B2;go_enter Tryz.func70,Tryz.ntmps70;go_upto_region 1 with fail;generalize World.alloc (World.alloc w _) _=w2 at t2 r2 B2 ⊢;have hst2:=Ot.below hst B2;have hob:=hst.lt;have hvl:=fun g (hg:v.ownBlock=some g)=>(hst.own.lt g hg).2
  have hob2:ob<w2.heap.size:=hst2.lt;have hF:FSs wB ob w2 v w2 v ss (.slice none 0 0) 0:=⟨hst2,Mv.refl _ _ _,⟨[],rfl,.inl ⟨rfl,rfl⟩⟩,fun g hg=>(nomatch hg),hob2⟩
  have n1:w.heap.size≠ob:=by omega
  have n2:v.ownBlock≠some w.heap.size:=fun e=>by have:=hvl _ e;omega
  have n3:w.heap.size+1≠ob:=by omega
  have n4:v.ownBlock≠some (w.heap.size+1):=fun e=>by have:=hvl _ e;omega
  have T2:=hdq t2;have R2:=hdq r2;have HB2:=hdq B2;have hlowB:=hst.low.size;have hvl9:=hvl;have HV9:=hdq hvl9;clear hvl hvl9 hst2 hst B2 r2;have:=TV.facts t2
  by_cases hk3:k=3
  ·subst hk3;have hN:=zV wB ob w2 v ss s hF.st (by omega);go_upto_block 2 with fail;refine hN.mono ?_;rintro e w3 ⟨rfl,v3,hs3,hm3⟩;have hF3:=hF.call hs3 hm3;have tb3:=hF3.tv T2.out n1 n2;have hnoop:=tI tb3;clear hF hs3 hm3 hN t2;have:=TV.facts tb3;go_wp2_with fail;clear hnoop
   go_loopg [5,19] t.l.length (fun g t5 t19 wr=>∃ (q:Nat) (v' lv:Value),t19=.int .i64 q∧lv=t5∧q≤t.l.length∧g=t.l.length - q∧FSs wB ob w2 v wr v' (nmL (decide ((3:Int)=48)) (t.l.take q) (sF s ss)) lv q)
   case atStart=>exact⟨0,_,_,rfl,rfl,Nat.zero_le _,rfl,by rw[List.take_zero,nmL];exact hF3⟩
   case round=>
    clear hF3 tb3;obtain⟨q,v',lv,rfl,hlv,hq,hg,hF⟩:=hrel;subst hlv;have HG:=hdq hg;clear hg;have tb:=hF.tv T2.out n1 n2
    by_cases hlt:q<t.l.length
    ·obtain⟨ao1,c1',vs1,e,hTs,hrow⟩:=eF.tree (rv:=[]) hF.st.low ht;obtain⟨b,off,rfl,_,hcell⟩:=hrow (by intro e;rw[e]at hlt;simp at hlt);simp only[Value.slice.injEq,true_and]at e
     obtain⟨rfl,rfl⟩:=e;obtain⟨k1,n1',a1,s1,o1,m1,c1,hTr,d0,d1,d2,d3,d4⟩:=Tr.elem hTs hcell q hlt;have TK:=hdq (List.take_succ_eq_append_getElem hlt);have hmem:=List.getElem_mem hlt;have hnt:=sL t.l q hlt;have htd:=jT t.l (q+1);have hnl:=IZ (decide ((3:Int)=48)) (t.l.take q) ((sF s ss));have hadd:=oN s ss;have hyk:k1=(t.l[q]'hlt).kind:=hTr.split.1;have hys:s1=(t.l[q]'hlt).word:=hTr.split.2.2.2.1
     have htk0 : t.l.take q = [] ↔ q = 0 := ⟨fun h => by
       have h1 := congrArg List.length h
       rw [List.length_take, List.length_nil] at h1; omega, fun h => by rw [h]; rfl⟩
     generalize t.l[q]'hlt=y at hTr TK hmem hnt hyk hys;have HYK:=hdq hyk;have HYS:=hdq hys;have HT0:=hdq htk0;have HB1:=hdq (show (nmL (decide ((3:Int)=48)) (t.l.take q) ((sF s ss))).length+2*nodes y+2≤1000002 by omega);have HB2:=hdq (show (nmL (decide ((3:Int)=48)) (t.l.take q) ((sF s ss))).length+1+2*nodes y≤1000000 by omega);clear hyk hys htk0 hnt htd hnl hadd;have x1:(q:Int)<(t.l.length:Int):=by omega
     have hq6:q≤1000000:=by have:=eY t.l;omega
     have b4:=aC wr (.cells (tg k1 n1' a1 s1 o1 m1 c1) 24);have x4:=TV.new wr k1 n1' a1 s1 (.slice o1 m1 c1);have:=TV.facts tb;go_upto_region 7 with fail;generalize World.alloc wr _=w5 at b4 x4 ⊢;have hF4:=hF.below b4;have tb5:=tb.below b4;have hvr:=hF.st.own.lt;have hobr:=hF.st.lt;clear hF tb b4 d0 d1 d2 d3 d4 hcell;have HSN:=hdq ((rU (decide ((3:Int)=48)) (t.l.take q) y ((sF s ss))).trans (by rw[if_neg (fun h=>by simp at h)]));have hF5:FSs wB ob w2 v w5 v' (nmL (decide ((3:Int)=48)) (t.l.take q) ((sF s ss))) lv q:=hF4;have hbd5:(nmL (decide ((3:Int)=48)) (t.l.take q) ((sF s ss))).length+2*nodes y≤1000000:=by have:=HB1.out;omega
     have x5:=x4;clear hF4 x4;have:=TV.facts tb5;have hcall:=H.out y hmem w5 v' _ hF5.st hbd5 k1 n1' a1 s1 o1 m1 c1 hTr;have:=TV.facts x5;go_upto_block 9 with fail;refine hcall.mono ?_;rintro e w6 ⟨⟨k6,n6,a6,s6,o6,m6,c6,rfl⟩,v6,hs6,hm6⟩;have hF6:=hF5.call hs6 hm6;clear hcall x5 hF5 hs6 hm6;obtain⟨vs,hown6⟩:=hF6.own;obtain⟨i0,hi0,hz0,hz1,hz2⟩:=info_parts tX;have hw26:=hF6.mv.size;go_wp2_with (at_builtin;go_loud (refine wpList_append_lies _ rfl _ _ 22 rfl w2.heap.size 24 i0 _ 5 64 vA hi0 hz0 hz1 hz2 rfl (by decide) lv q vs rfl (hown6.alloc _) ⟨w6.heap.size,0,none⟩ 1 1 (vT k6 n6 a6 s6 o6 m6 c6) rfl rfl (World.news_of_block (heap_alloc_new w6 (.cells (tg k6 n6 a6 s6 o6 m6 c6) 24))) (by intro u hu;simp[vT]at hu;rcases hu with rfl|rfl|rfl|rfl|rfl<;>rfl) (by decide) (by unfold maxLen;omega) (by omega) (by simp;omega) _ rfl ?_));intro g cap w7 hown hgrow hor hlt7;have hF7:=hF6.app (aC w6 (.cells (tg k6 n6 a6 s6 o6 m6 c6) 24)) hown hgrow (hor.imp id (fun e=>by rw[e];simp));clear hown hgrow hor hlt7 hF6 hown6 hz0 hz1 hz2 hi0;go_wp2_with fail
     go_roundg (t.l.length - (q+1))
     case measure=>rw[HG.out];omega
     case rel=>exact⟨q+1,v6,.slice (some ⟨g,0,none⟩) (q+1) cap,by go_num,rfl,hlt,rfl,by rw[TK.out,HSN.out];exact hF7⟩
    ·have x1:¬ (q:Int)<(t.l.length:Int):=by omega
     have HFIN:=hdq (HU.out.trans (show _=nmL (decide ((3:Int)=48)) (t.l.take q) ((sF s ss))by rw[List.take_of_length_le (by omega)];simp));obtain⟨vs9,ho9⟩:=hF.own;obtain⟨ao9,c9,rfl⟩:=qU ho9;have rb:=hF.tv R2.out n3 n4;have t9:=TV.OO tb (.slice ao9 q c9);have r9:TV (wr.setCell ⟨w.heap.size,4,none⟩ (.slice ao9 q c9)) (w.heap.size+1) _ _ _ _ _:=(Below.heap_setCell wr ⟨w.heap.size,4,none⟩ (.slice ao9 q c9) _ (show w.heap.size+1≠w.heap.size by omega)).trans rb;have hb9:Below w.heap.size wr (wr.setCell ⟨w.heap.size,4,none⟩ (.slice ao9 q c9)):=(Below.refl w.heap.size wr).setCell (p:=⟨w.heap.size,4,none⟩) (Nat.le_refl _) _;have hmv:Mv ob w v wr v':=((Mv.refl ob w v).below HB2.out).trans hF.mv;have hst9:=hF.st;have hown9:=hF.mv.own;clear hF ho9 rb;have:=TV.facts tb;have hs9:∀ j,j≠w.heap.size→(wr.setCell ⟨w.heap.size,4,none⟩ (.slice ao9 q c9)).heap[j]?=wr.heap[j]?:=fun j hj=>Below.heap_setCell wr ⟨w.heap.size,4,none⟩ (.slice ao9 q c9) j hj
     have HS9:=hdq hs9;clear hs9;go_upto_region 12 with fail;generalize World.setCell wr _ _=w9 at t9 r9 hb9 HS9 ⊢;have t9':=t9;have r9':=r9;have:=TV.facts t9';have:=TV.facts r9';go_wp2_with fail;have P1:=r9.set (.int .i64 3) n a s (.slice ao9 q c9);have P2:=bO hb9 (Nat.le_succ _) (.int .i64 3) n a s (.slice ao9 q c9);have P3:∀ j,j<w.heap.size∨w2.heap.size≤j→(((((w9.setCell ⟨w.heap.size+1,0,none⟩ (.int .i64 3)).setCell ⟨w.heap.size+1,1,none⟩ (.int .i64 n)).setCell ⟨w.heap.size+1,2,none⟩ (.int .i64 a)).setCell ⟨w.heap.size+1,3,none⟩ (.string s)).setCell ⟨w.heap.size+1,4,none⟩ (.slice ao9 q c9)).heap[j]?=wr.heap[j]?:=fun j hj=>(nV (show w.heap.size+1≠j by have:=R2.out.lt;omega) w9 _ _ _ _ _).trans (HS9.out j (by have:=R2.out.lt;omega))
     generalize World.setCell (World.setCell (World.setCell (World.setCell (World.setCell w9 _ _) _ _) _ _) _ _) _ _=w10 at P1 P2 P3 ⊢;refine rtv P1 Tryz.results70 ?_;refine⟨⟨3,n,a,s,ao9,q,c9,rfl⟩,v',?_,hmv.other P2⟩;rw[HFIN.out];refine Ot.other hst9 (P2.mono hlowB) (P2.size) (fun j hj=>P3 j ?_)
     rcases hj with rfl|hj
     ·exact .inl (by omega)
     ·rcases hown9 j hj with h1|h1
      ·exact .inl (HV9.out j h1)
      ·exact .inr h1
  ·have hF3:=hF;have hkb:(k==(3:Int))=false:=by simp[hk3]
   clear hF;go_wp2_with fail
   try rw[hkb]
   go_loopg [5,19] t.l.length (fun g t5 t19 wr=>∃ (q:Nat) (v' lv:Value),t19=.int .i64 q∧lv=t5∧q≤t.l.length∧g=t.l.length - q∧FSs wB ob w2 v wr v' (nmL (decide (k=48)) (t.l.take q) ss) lv q)
   case atStart=>exact⟨0,_,_,rfl,rfl,Nat.zero_le _,rfl,by rw[List.take_zero,nmL];exact hF3⟩
   case round=>
    clear hF3 t2;obtain⟨q,v',lv,rfl,hlv,hq,hg,hF⟩:=hrel;subst hlv;have HG:=hdq hg;clear hg;have tb:=hF.tv T2.out n1 n2
    by_cases hlt:q<t.l.length
    ·obtain⟨ao1,c1',vs1,e,hTs,hrow⟩:=eF.tree (rv:=[]) hF.st.low ht;obtain⟨b,off,rfl,_,hcell⟩:=hrow (by intro e;rw[e]at hlt;simp at hlt);simp only[Value.slice.injEq,true_and]at e
     obtain⟨rfl,rfl⟩:=e;obtain⟨k1,n1',a1,s1,o1,m1,c1,hTr,d0,d1,d2,d3,d4⟩:=Tr.elem hTs hcell q hlt;have TK:=hdq (List.take_succ_eq_append_getElem hlt);have hmem:=List.getElem_mem hlt;have hnt:=sL t.l q hlt;have htd:=jT t.l (q+1);have hnl:=IZ (decide (k=48)) (t.l.take q) (ss);have hadd:=oN s ss;have hyk:k1=(t.l[q]'hlt).kind:=hTr.split.1;have hys:s1=(t.l[q]'hlt).word:=hTr.split.2.2.2.1
     have htk0 : t.l.take q = [] ↔ q = 0 := ⟨fun h => by
       have h1 := congrArg List.length h
       rw [List.length_take, List.length_nil] at h1; omega, fun h => by rw [h]; rfl⟩
     generalize t.l[q]'hlt=y at hTr TK hmem hnt hyk hys;have HYK:=hdq hyk;have HYS:=hdq hys;have HT0:=hdq htk0;have HB1:=hdq (show (nmL (decide (k=48)) (t.l.take q) (ss)).length+2*nodes y+2≤1000002 by omega);have HB2:=hdq (show (nmL (decide (k=48)) (t.l.take q) (ss)).length+1+2*nodes y≤1000000 by omega);clear hyk hys htk0 hnt htd hnl hadd;have x1:(q:Int)<(t.l.length:Int):=by omega
     have hq6:q≤1000000:=by have:=eY t.l;omega
     have b4:=aC wr (.cells (tg k1 n1' a1 s1 o1 m1 c1) 24);have x4:=TV.new wr k1 n1' a1 s1 (.slice o1 m1 c1);have:=TV.facts tb;go_upto_region 7 with fail;generalize World.alloc wr _=w5 at b4 x4 ⊢;have hF4:=hF.below b4;have tb5:=tb.below b4;have hvr:=hF.st.own.lt;have hobr:=hF.st.lt;clear hF tb b4 d0 d1 d2 d3 d4 hcell
     by_cases d48:k=48
     ·by_cases dq0:q=0
      ·by_cases d11:k1=11
       ·have y1:((q:Int)==0)=true:=by simp[dq0]
        have y2:(k==(48:Int))=true:=by simp[d48]
        have y3:(k1==(11:Int))=true:=by simp[d11]
        have D1:=hdq d48;have D2:=hdq dq0;have D3:=hdq d11;clear d48 dq0 d11;have hN1:=zV wB ob w5 v' (nmL (decide (k=48)) (t.l.take q) (ss)) s1 hF4.st (by have:=HB2.out;omega);have HSN:=hdq ((rU (decide (k=48)) (t.l.take q) y (ss)).trans (by rw[if_pos (⟨decide_eq_true D1.out,HT0.out.2 D2.out,by rw[← HYK.out];exact D3.out⟩),← HYS.out]));have hbd5:(sF s1 (nmL (decide (k=48)) (t.l.take q) (ss))).length+2*nodes y≤1000000:=by have:=HB2.out;have:=oN s1 (nmL (decide (k=48)) (t.l.take q) (ss));omega
        have xlt:=x4.lt;have:=TV.facts tb5;have:=TV.facts x4;go_upto_block 8 with fail;refine hN1.mono ?_;rintro e w8 ⟨rfl,v8,hs8,hm8⟩;have hF5:=hF4.call hs8 hm8;have x5:TV w8 wr.heap.size _ _ _ _ _:=(hm8.blk _ xlt (by omega) (fun e=>by have:=(hvr _ e).2;omega)).trans x4;have hnoop:=tI x5;clear hF4 x4 hs8 hm8 hN1;have hcall:=H.out y hmem w8 v8 _ hF5.st hbd5 k1 n1' a1 s1 o1 m1 c1 hTr;have:=TV.facts x5;go_upto_block 9 with fail;refine hcall.mono ?_;rintro e w6 ⟨⟨k6,n6,a6,s6,o6,m6,c6,rfl⟩,v6,hs6,hm6⟩;have hF6:=hF5.call hs6 hm6;clear hcall x5 hF5 hs6 hm6;obtain⟨vs,hown6⟩:=hF6.own;obtain⟨i0,hi0,hz0,hz1,hz2⟩:=info_parts tX;have hw26:=hF6.mv.size;go_wp2_with (at_builtin;go_loud (refine wpList_append_lies _ rfl _ _ 22 rfl w2.heap.size 24 i0 _ 5 64 vA hi0 hz0 hz1 hz2 rfl (by decide) lv q vs rfl (hown6.alloc _) ⟨w6.heap.size,0,none⟩ 1 1 (vT k6 n6 a6 s6 o6 m6 c6) rfl rfl (World.news_of_block (heap_alloc_new w6 (.cells (tg k6 n6 a6 s6 o6 m6 c6) 24))) (by intro u hu;simp[vT]at hu;rcases hu with rfl|rfl|rfl|rfl|rfl<;>rfl) (by decide) (by unfold maxLen;omega) (by omega) (by simp;omega) _ rfl ?_));intro g cap w7 hown hgrow hor hlt7;have hF7:=hF6.app (aC w6 (.cells (tg k6 n6 a6 s6 o6 m6 c6) 24)) hown hgrow (hor.imp id (fun e=>by rw[e];simp));clear hown hgrow hor hlt7 hF6 hown6 hz0 hz1 hz2 hi0;go_wp2_with fail
        go_roundg (t.l.length - (q+1))
        case measure=>rw[HG.out];omega
        case rel=>exact⟨q+1,v6,.slice (some ⟨g,0,none⟩) (q+1) cap,by go_num,rfl,hlt,rfl,by rw[TK.out,HSN.out];exact hF7⟩
       ·have y1:((q:Int)==0)=true:=by simp[dq0]
        have y2:(k==(48:Int))=true:=by simp[d48]
        clear d48 dq0;have HSN:=hdq ((rU (decide (k=48)) (t.l.take q) y (ss)).trans (by rw[if_neg (fun h=>d11 (by rw[HYK.out];exact h.2.2))]));have hF5:FSs wB ob w2 v w5 v' (nmL (decide (k=48)) (t.l.take q) (ss)) lv q:=hF4;have hbd5:(nmL (decide (k=48)) (t.l.take q) (ss)).length+2*nodes y≤1000000:=by have:=HB1.out;omega
        have x5:=x4;clear hF4 x4;have:=TV.facts tb5;have hcall:=H.out y hmem w5 v' _ hF5.st hbd5 k1 n1' a1 s1 o1 m1 c1 hTr;have:=TV.facts x5;go_upto_block 9 with fail;refine hcall.mono ?_;rintro e w6 ⟨⟨k6,n6,a6,s6,o6,m6,c6,rfl⟩,v6,hs6,hm6⟩;have hF6:=hF5.call hs6 hm6;clear hcall x5 hF5 hs6 hm6;obtain⟨vs,hown6⟩:=hF6.own;obtain⟨i0,hi0,hz0,hz1,hz2⟩:=info_parts tX;have hw26:=hF6.mv.size;go_wp2_with (at_builtin;go_loud (refine wpList_append_lies _ rfl _ _ 22 rfl w2.heap.size 24 i0 _ 5 64 vA hi0 hz0 hz1 hz2 rfl (by decide) lv q vs rfl (hown6.alloc _) ⟨w6.heap.size,0,none⟩ 1 1 (vT k6 n6 a6 s6 o6 m6 c6) rfl rfl (World.news_of_block (heap_alloc_new w6 (.cells (tg k6 n6 a6 s6 o6 m6 c6) 24))) (by intro u hu;simp[vT]at hu;rcases hu with rfl|rfl|rfl|rfl|rfl<;>rfl) (by decide) (by unfold maxLen;omega) (by omega) (by simp;omega) _ rfl ?_));intro g cap w7 hown hgrow hor hlt7;have hF7:=hF6.app (aC w6 (.cells (tg k6 n6 a6 s6 o6 m6 c6) 24)) hown hgrow (hor.imp id (fun e=>by rw[e];simp));clear hown hgrow hor hlt7 hF6 hown6 hz0 hz1 hz2 hi0;go_wp2_with fail
        go_roundg (t.l.length - (q+1))
        case measure=>rw[HG.out];omega
        case rel=>exact⟨q+1,v6,.slice (some ⟨g,0,none⟩) (q+1) cap,by go_num,rfl,hlt,rfl,by rw[TK.out,HSN.out];exact hF7⟩
      ·have y1:¬ (q:Int)=0:=by omega
       have y2:(k==(48:Int))=true:=by simp[d48]
       clear d48;have HSN:=hdq ((rU (decide (k=48)) (t.l.take q) y (ss)).trans (by rw[if_neg (fun h=>dq0 (HT0.out.1 h.2.1))]));have hF5:FSs wB ob w2 v w5 v' (nmL (decide (k=48)) (t.l.take q) (ss)) lv q:=hF4;have hbd5:(nmL (decide (k=48)) (t.l.take q) (ss)).length+2*nodes y≤1000000:=by have:=HB1.out;omega
       have x5:=x4;clear hF4 x4;have:=TV.facts tb5;have hcall:=H.out y hmem w5 v' _ hF5.st hbd5 k1 n1' a1 s1 o1 m1 c1 hTr;have:=TV.facts x5;go_upto_block 9 with fail;refine hcall.mono ?_;rintro e w6 ⟨⟨k6,n6,a6,s6,o6,m6,c6,rfl⟩,v6,hs6,hm6⟩;have hF6:=hF5.call hs6 hm6;clear hcall x5 hF5 hs6 hm6;obtain⟨vs,hown6⟩:=hF6.own;obtain⟨i0,hi0,hz0,hz1,hz2⟩:=info_parts tX;have hw26:=hF6.mv.size;go_wp2_with (at_builtin;go_loud (refine wpList_append_lies _ rfl _ _ 22 rfl w2.heap.size 24 i0 _ 5 64 vA hi0 hz0 hz1 hz2 rfl (by decide) lv q vs rfl (hown6.alloc _) ⟨w6.heap.size,0,none⟩ 1 1 (vT k6 n6 a6 s6 o6 m6 c6) rfl rfl (World.news_of_block (heap_alloc_new w6 (.cells (tg k6 n6 a6 s6 o6 m6 c6) 24))) (by intro u hu;simp[vT]at hu;rcases hu with rfl|rfl|rfl|rfl|rfl<;>rfl) (by decide) (by unfold maxLen;omega) (by omega) (by simp;omega) _ rfl ?_));intro g cap w7 hown hgrow hor hlt7;have hF7:=hF6.app (aC w6 (.cells (tg k6 n6 a6 s6 o6 m6 c6) 24)) hown hgrow (hor.imp id (fun e=>by rw[e];simp));clear hown hgrow hor hlt7 hF6 hown6 hz0 hz1 hz2 hi0;go_wp2_with fail
       go_roundg (t.l.length - (q+1))
       case measure=>rw[HG.out];omega
       case rel=>exact⟨q+1,v6,.slice (some ⟨g,0,none⟩) (q+1) cap,by go_num,rfl,hlt,rfl,by rw[TK.out,HSN.out];exact hF7⟩
     ·have HSN:=hdq ((rU (decide (k=48)) (t.l.take q) y (ss)).trans (by rw[if_neg (fun h=>d48 (of_decide_eq_true h.1))]));have hF5:FSs wB ob w2 v w5 v' (nmL (decide (k=48)) (t.l.take q) (ss)) lv q:=hF4;have hbd5:(nmL (decide (k=48)) (t.l.take q) (ss)).length+2*nodes y≤1000000:=by have:=HB1.out;omega
      have x5:=x4;clear hF4 x4;have:=TV.facts tb5;have hcall:=H.out y hmem w5 v' _ hF5.st hbd5 k1 n1' a1 s1 o1 m1 c1 hTr;have:=TV.facts x5;go_upto_block 9 with fail;refine hcall.mono ?_;rintro e w6 ⟨⟨k6,n6,a6,s6,o6,m6,c6,rfl⟩,v6,hs6,hm6⟩;have hF6:=hF5.call hs6 hm6;clear hcall x5 hF5 hs6 hm6;obtain⟨vs,hown6⟩:=hF6.own;obtain⟨i0,hi0,hz0,hz1,hz2⟩:=info_parts tX;have hw26:=hF6.mv.size;go_wp2_with (at_builtin;go_loud (refine wpList_append_lies _ rfl _ _ 22 rfl w2.heap.size 24 i0 _ 5 64 vA hi0 hz0 hz1 hz2 rfl (by decide) lv q vs rfl (hown6.alloc _) ⟨w6.heap.size,0,none⟩ 1 1 (vT k6 n6 a6 s6 o6 m6 c6) rfl rfl (World.news_of_block (heap_alloc_new w6 (.cells (tg k6 n6 a6 s6 o6 m6 c6) 24))) (by intro u hu;simp[vT]at hu;rcases hu with rfl|rfl|rfl|rfl|rfl<;>rfl) (by decide) (by unfold maxLen;omega) (by omega) (by simp;omega) _ rfl ?_));intro g cap w7 hown hgrow hor hlt7;have hF7:=hF6.app (aC w6 (.cells (tg k6 n6 a6 s6 o6 m6 c6) 24)) hown hgrow (hor.imp id (fun e=>by rw[e];simp));clear hown hgrow hor hlt7 hF6 hown6 hz0 hz1 hz2 hi0;go_wp2_with fail
      go_roundg (t.l.length - (q+1))
      case measure=>rw[HG.out];omega
      case rel=>exact⟨q+1,v6,.slice (some ⟨g,0,none⟩) (q+1) cap,by go_num,rfl,hlt,rfl,by rw[TK.out,HSN.out];exact hF7⟩
    ·have x1:¬ (q:Int)<(t.l.length:Int):=by omega
     have HFIN:=hdq (HU.out.trans (show _=nmL (decide (k=48)) (t.l.take q) (ss)by rw[List.take_of_length_le (by omega)];rw[if_neg hk3]));obtain⟨vs9,ho9⟩:=hF.own;obtain⟨ao9,c9,rfl⟩:=qU ho9;have rb:=hF.tv R2.out n3 n4;have t9:=TV.OO tb (.slice ao9 q c9);have r9:TV (wr.setCell ⟨w.heap.size,4,none⟩ (.slice ao9 q c9)) (w.heap.size+1) _ _ _ _ _:=(Below.heap_setCell wr ⟨w.heap.size,4,none⟩ (.slice ao9 q c9) _ (show w.heap.size+1≠w.heap.size by omega)).trans rb;have hb9:Below w.heap.size wr (wr.setCell ⟨w.heap.size,4,none⟩ (.slice ao9 q c9)):=(Below.refl w.heap.size wr).setCell (p:=⟨w.heap.size,4,none⟩) (Nat.le_refl _) _;have hmv:Mv ob w v wr v':=((Mv.refl ob w v).below HB2.out).trans hF.mv;have hst9:=hF.st;have hown9:=hF.mv.own;clear hF ho9 rb;have:=TV.facts tb;have hs9:∀ j,j≠w.heap.size→(wr.setCell ⟨w.heap.size,4,none⟩ (.slice ao9 q c9)).heap[j]?=wr.heap[j]?:=fun j hj=>Below.heap_setCell wr ⟨w.heap.size,4,none⟩ (.slice ao9 q c9) j hj
     have HS9:=hdq hs9;clear hs9;go_upto_region 12 with fail;generalize World.setCell wr _ _=w9 at t9 r9 hb9 HS9 ⊢;have t9':=t9;have r9':=r9;have:=TV.facts t9';have:=TV.facts r9';go_wp2_with fail;have P1:=r9.set k n a s (.slice ao9 q c9);have P2:=bO hb9 (Nat.le_succ _) k n a s (.slice ao9 q c9);have P3:∀ j,j<w.heap.size∨w2.heap.size≤j→(((((w9.setCell ⟨w.heap.size+1,0,none⟩ (.int .i64 k)).setCell ⟨w.heap.size+1,1,none⟩ (.int .i64 n)).setCell ⟨w.heap.size+1,2,none⟩ (.int .i64 a)).setCell ⟨w.heap.size+1,3,none⟩ (.string s)).setCell ⟨w.heap.size+1,4,none⟩ (.slice ao9 q c9)).heap[j]?=wr.heap[j]?:=fun j hj=>(nV (show w.heap.size+1≠j by have:=R2.out.lt;omega) w9 _ _ _ _ _).trans (HS9.out j (by have:=R2.out.lt;omega))
     generalize World.setCell (World.setCell (World.setCell (World.setCell (World.setCell w9 _ _) _ _) _ _) _ _) _ _=w10 at P1 P2 P3 ⊢;refine rtv P1 Tryz.results70 ?_;refine⟨⟨k,n,a,s,ao9,q,c9,rfl⟩,v',?_,hmv.other P2⟩;rw[HFIN.out];refine Ot.other hst9 (P2.mono hlowB) (P2.size) (fun j hj=>P3 j ?_)
     rcases hj with rfl|hj
     ·exact .inl (by omega)
     ·rcases hown9 j hj with h1|h1
      ·exact .inl (HV9.out j h1)
      ·exact .inr h1
def Pg(wB:World)(t u:T):Prop:=∀ (w:World),Below wB.heap.size wB w→∀ (k n a:Int) (s:ByteArray) (ao:Option Addr) (m c:Nat) (k' n' a':Int) (s':ByteArray) (ao':Option Addr) (m' c':Nat),Tr wB t (vT k n a s ao m c)→Tr wB u (vT k' n' a' s' ao' m' c')→
 Calls Tryz.prog 44 #[tg k n a s ao m c,tg k' n' a' s' ao' m' c'] w fun e w'=>e=.returned (.bool (fU t u))∧Below w.heap.size w w'
theorem Bc(wB:World):∀ d (t:T),depth t≤d→∀ u,nodes u≤1000000→Pg wB t u:=by
 intro d
 induction d using Nat.strongRecOn with
 | _ d ih=>
  intro t hd u hN w low k n a s ao m c k' n' a' s' ao' m' c' ht hu;have e1:nodes u=1+aH u.l:=by obtain⟨k,n,a,w,l⟩:=u;rw[nodes];rfl
  have e4:=eY u.l;have HH:=hdq (fun (x:T) (hx:x∈t.l) (y:T) (hy:y∈u.l)=>ih (depth x) (by have:=Px.iQ hx;omega) x (Nat.le_refl _) y (by have:=tF hy;omega));obtain⟨f1,f2,f4,f3,f5⟩:=ht.split;obtain⟨g1,g2,g4,g3,g5⟩:=hu.split;have hsp:=xA t u;rw[← f1,← f2,← f3,← g1,← g2,← g3]at hsp;have HSP:=hdq hsp;have HT:=hdq ht;have HU:=hdq hu;have hlu:u.l.length≤1000000:=by omega
  have M1:=hdq f5;have M2:=hdq g5;clear hsp f1 f2 f3 f4 f5 g1 g2 g3 g4 g5 ih e1 e4 ht hu;have b1:=aC w (.cells (tg k n a s ao m c) 24);have t1:=TV.new w k n a s (.slice ao m c);generalize hw1:w.alloc (.cells (tg k n a s ao m c) 24)=w1 at b1 t1;have b2:=aC w1 (.cells (tg k' n' a' s' ao' m' c') 24);have t2:=TV.new w1 k' n' a' s' (.slice ao' m' c');have t1':=TV.below t1 b2;have hz:w1.heap.size=w.heap.size+1:=by rw[← hw1];simp
  rw[hz]at t2;clear hz;subst hw1;go_enter Tryz.func44,Tryz.ntmps44;go_upto_region 1 with fail;generalize World.alloc (World.alloc w _) _=w2 at b2 t2 t1' ⊢;have low1:=low.trans (b1.mono low.size);have low2:=low1.trans (b2.mono low1.size);have hB2:=b1.trans (b2.mono b1.size);have T1:=hdq t1';have T2:=hdq t2;clear t1 b1 b2 low1;have:=TV.facts t1';have:=TV.facts t2
  by_cases hk:k=k'
  ·by_cases hn:n=n'
   ·by_cases hs:s=s'
    ·by_cases hm:m=m'
     ·have hfin:fU t u=eG t.l u.l:=by rw[HSP.out,hk,hn,hs];simp
      have HF:=hdq hfin;subst hk hn hs hm;clear hfin HSP;obtain⟨N,hN1⟩:∃ N,t.l.length=N:=⟨_,rfl⟩
      have L1:=hdq hN1;have hN2:u.l.length=N:=by have:=M1.out;have:=M2.out;omega
      have L2:=hdq hN2;obtain rfl:m=N:=by have:=M1.out;omega
      have hNN:m≤1000000:=by omega
      clear hN1 hN2 hlu;go_wp2_with fail;clear t1' t2
      go_loopg [5] m (fun g tt wr=>∃ q:Nat,tt=.int .i64 q∧q≤m∧g=m - q∧Below w2.heap.size w2 wr∧Aside (∀ j (h:j<t.l.length) (hqq:j<u.l.length),j<q→fU (t.l[j]'h) (u.l[j]'hqq)=true))
      case atStart=>exact⟨0,rfl,Nat.zero_le _,rfl,Below.refl _ _,fun j _ _ h=>absurd h (Nat.not_lt_zero _)⟩
      case round=>
       obtain⟨q,rfl,hq,hg,hB,A⟩:=hrel;have HG:=hdq hg;clear hg;have lowr:=low2.trans (hB.mono low2.size);have hBr:=hB2.trans (hB.mono hB2.size);have r1:=T1.out.below hB;have r2:=T2.out.below hB;have:=TV.facts r1;have:=TV.facts r2
       by_cases hln:q<m
       ·have hlt:q<t.l.length:=by rw[L1.out];exact hln
        have hltu:q<u.l.length:=by rw[L2.out];exact hln
        obtain⟨ao1,c1',vs1,e,hTs,hrow⟩:=eF.tree (rv:=[]) lowr HT.out;obtain⟨b,off,rfl,_,hcell⟩:=hrow (by intro e;rw[e]at hlt;simp at hlt);simp only[Value.slice.injEq]at e
        obtain⟨rfl,hzz,rfl⟩:=e;clear hzz;obtain⟨k1,n1,a1,s1,o1,m1,c1,hTr,d0,d1,d2,d3,d4⟩:=Tr.elem hTs hcell q hlt;obtain⟨ao3,c3,vs3,e,hTs3,hrow3⟩:=eF.tree (rv:=[]) lowr HU.out;obtain⟨b',off',rfl,_,hcell3⟩:=hrow3 (by intro e;rw[e]at hltu;simp at hltu);simp only[Value.slice.injEq]at e
        obtain⟨rfl,hzz,rfl⟩:=e;clear hzz;obtain⟨k3,n3,a3,s3,o3,m3,c3,hTr3,e0,e1,e2,e3,e4⟩:=Tr.elem hTs3 hcell3 q hltu;have hC:=HH.out _ (List.getElem_mem hlt) _ (List.getElem_mem hltu);have hno:fU (t.l[q]'hlt) (u.l[q]'hltu)=false→eG t.l u.l=false:=fun h=>by
         cases e:eG t.l u.l with
         | false=>rfl
         | true=>exact absurd ((oS e).2 q hlt hltu) (by rw[h];decide)
        have hyes:fU (t.l[q]'hlt) (u.l[q]'hltu)=true→∀ j (h:j<t.l.length) (hqq:j<u.l.length),j<q+1→fU (t.l[j]'h) (u.l[j]'hqq)=true:=fun h j h1 h2 h3=>by
         by_cases e:j=q
         ·subst e;exact h
         ·exact A.out j h1 h2 (by omega)
        have HNO:=hdq hno;have HYES:=hdq hyes;clear hno hyes A hcell hcell3 hTs hTs3 hrow hrow3;have x1:(q:Int)<(m:Int):=by omega
        have hCC:=hC wr.drew lowr.drew k1 n1 a1 s1 o1 m1 c1 k3 n3 a3 s3 o3 m3 c3 hTr hTr3
        cases hsm:fU (t.l[q]'hlt) (u.l[q]'hltu) with
        | false=>
         rw[hsm]at hCC;have HN2:=hdq (HNO.out hsm);clear hsm hC HNO HYES;go_upto_region 6 with fail
         go_still_tail 10,(by kernel_rfl)
         change wpList _ _ _ _ _ wr.drew;go_wp2_with (go_at_call 44;refine hCC.mono ?_;rintro e w4 ⟨rfl,b4⟩);go_ret;exact⟨by rw[HF.out,HN2.out];rfl,hBr.drew.trans (b4.mono hBr.drew.size)⟩
        | true=>
         rw[hsm]at hCC;have HN2:=hdq (HYES.out hsm);clear hsm hC HNO HYES;go_upto_region 6 with fail
         go_still_tail 10,(by kernel_rfl)
         change wpList _ _ _ _ _ wr.drew;go_wp2_with (go_at_call 44;refine hCC.mono ?_;rintro e w4 ⟨rfl,b4⟩)
         go_roundg (m - (q+1))
         case measure=>rw[HG.out];omega
         case rel=>exact⟨q+1,by go_num,hln,rfl,hB.drew.trans (b4.mono hB.drew.size),HN2.out⟩
       ·have x1:¬ (q:Int)<(m:Int):=by omega
        have hr:eG t.l u.l=true:=BK (L1.out.trans L2.out.symm) fun j h hqq=>A.out j h hqq (by have:=L1.out;omega)
        have HR:=hdq hr;clear hr;go_wp2_with fail;go_ret;exact⟨by rw[HF.out,HR.out];rfl,hBr⟩
     ·have HF := hdq (show fU t u = false by
        rw [HSP.out]
        have : eG t.l u.l = false := by
          cases e : eG t.l u.l with
          | false => rfl
          | true => exact absurd (oS e).1 (by have := M1.out; have := M2.out; omega)
        rw [this, Bool.and_false])
      have hmi:(m:Int)≠(m':Int):=by omega
      subst hk hn hs;go_wp2_with fail;go_ret;exact⟨by rw[HF.out];rfl,hB2⟩
    ·have HF:=hdq (show fU t u=false by rw[HSP.out];simp[hs]);have hs2:(s.toList==s'.toList)=false:=beq_eq_false_iff_ne.2 (by rw[ne_eq,kK];exact hs);have hs3:decide (s=s')=false:=decide_eq_false hs;subst hk hn;go_wp2_with fail;go_ret;exact⟨by rw[HF.out];rfl,hB2⟩
   ·have HF:=hdq (show fU t u=false by rw[HSP.out];simp[hn]);subst hk;go_wp2_with fail;go_ret;exact⟨by rw[HF.out];rfl,hB2⟩
  ·have HF:=hdq (show fU t u=false by rw[HSP.out];simp[hk]);go_wp2_with fail;go_ret;exact⟨by rw[HF.out];rfl,hB2⟩
end
end Go.Proofs.YtfdlmcgcckkkdaaGreatDoor
