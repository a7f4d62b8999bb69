/- ParseWhole, part 46: what it stands on. -/
import Derived.Test.YtfdlmcgcckkkdaaGreatDoorV48
import Derived.Test.YtfdlmcgcckkkdaaGreatDoorV45
import Derived.Shelf.SlicesE.Clone
import Derived.Laws.OwnMore
import Derived.Deep.AppendLies
import Derived.Deep.RegionLaw
import Derived.Deep.RegionLawGrows
set_option linter.all false
set_option maxHeartbeats 40000000
set_option maxRecDepth 100000
namespace Go.Proofs.YtfdlmcgcckkkdaaGreatDoor
section
open Go.RowKit Lx Px
def Tryz.CV: Go.Shelf.Ren:=⟨fun|29=>103|31=>68|n=>n,fun|22=>47|23=>3|4=>4|3=>3|0=>0|n=>n,fun|n=>n⟩
theorem Tryz.Ar: Go.Proofs.SlLaysE.n31 Tryz.prog Tryz.CV:={
 mixed:=by kernel_rfl
 f29:=⟨Tryz.f103.name,by decide,Tryz.func103.trans (congrArg some (by kernel_rfl))⟩
 f31:=⟨Tryz.f68.name,by decide,Tryz.func68.trans (congrArg some (by kernel_rfl))⟩
 t0:=Tryz.underlying0
 a0:=Tryz.isAgg0
 z0:=Tryz.sizeOf0
 v0:=Tryz.zeroValue0
 t3:=Tryz.underlying3
 a3:=Tryz.isAgg3
 z3:=Tryz.sizeOf3
 v3:=Tryz.zeroValue3
 t4:=Tryz.underlying4
 a4:=Tryz.isAgg4
 z4:=Tryz.sizeOf4
 v4:=Tryz.zeroValue4
 t22:=Tryz.underlying47
 a22:=Tryz.isAgg47
 z22:=Tryz.sizeOf47
 v22:=Tryz.zeroValue47
 a23:=Tryz.isAgg3
 z23:=Tryz.sizeOf3 }
def Tryz.xJ: Go.Shelf.Ren:=⟨fun|41=>69|n=>n,fun|22=>47|23=>3|4=>4|n=>n,fun|n=>n⟩
theorem Tryz.yN: Go.Proofs.SlLaysE0.n41 Tryz.prog Tryz.xJ:={
 mixed:=by kernel_rfl
 f41:=⟨Tryz.f69.name,by decide,Tryz.func69.trans (congrArg some (by kernel_rfl))⟩
 t4:=Tryz.underlying4
 a4:=Tryz.isAgg4
 z4:=Tryz.sizeOf4
 v4:=Tryz.zeroValue4
 t22:=Tryz.underlying47
 a22:=Tryz.isAgg47
 z22:=Tryz.sizeOf47
 v22:=Tryz.zeroValue47 }
theorem IE: (Tryz.prog.info? 3).map (fun i=>(i.zero,i.size,i.bytes))=some (some (.int .i64 0),1,8):=by kernel_rfl
theorem Ky: (Tryz.prog.info? 47).map (fun i=>(i.zero,i.size,i.bytes))=some (some (.slice none 0 0),1,24):=by kernel_rfl
theorem LJ: Tryz.prog.underlying 53=some (.slice 47):=by kernel_rfl
def gP(ob:Nat)(w:World)(v u:Value)(p:List Int):Prop:=(p=[]∧u=.slice none 0 0)∨∃ b off cap,u=.slice (some ⟨b,off,none⟩) p.length cap∧p≠[]∧b<w.heap.size∧b≠ob∧v.ownBlock≠some b∧p.length≤cap∧∀ i,(hi:i<p.length)→w.cell? ⟨b,off+i,none⟩=some (.int .i64 (p[i]'hi))
theorem gP.mv{ob:Nat}{w w':World}{v v' u:Value}{p:List Int}(h:gP ob w v u p)(m:Mv ob w v w' v'):gP ob w' v' u p:=by
 rcases h with h|⟨b,off,cap,rfl,h0,h1,h2,h3,h4,h5⟩
 ·exact .inl h
 ·refine .inr ⟨b,off,cap,rfl,h0,Nat.lt_of_lt_of_le h1 m.size,h2,fun e=>?_,h4,fun i hi=>(World.cell?_of_block (a:=⟨b,off+i,none⟩) (m.blk b h1 h2 h3)).trans (h5 i hi)⟩
  rcases m.own _ e with h|h
  ·exact h3 h
  ·omega
theorem gP.below{ob:Nat}{w w':World}{v u:Value}{p:List Int}(h:gP ob w v u p)(b:Below w.heap.size w w'):gP ob w' v u p:=h.mv ((Mv.refl ob w v).below b)
def eR(ob:Nat)(w:World)(v:Value):List Value→List (List Int)→Prop
 | [],[]=>True
 | u::us,p::ps=>gP ob w v u p∧eR ob w v us ps
 | _,_=>False
theorem eR.mv{ob:Nat}{w w':World}{v v':Value}(m:Mv ob w v w' v'):∀ {us:List Value} {ps:List (List Int)},eR ob w v us ps→eR ob w' v' us ps:=by
 intro us
 induction us with
 | nil=>intro ps h;cases ps with
  | nil=>trivial
  | cons p ps=>exact h
 | cons u us ih=>intro ps h;cases ps with
  | nil=>exact h
  | cons p ps=>exact⟨h.1.mv m,ih h.2⟩
theorem eR.snoc{ob:Nat}{w:World}{v u:Value}{p:List Int}(hu:gP ob w v u p):∀ {us:List Value} {ps:List (List Int)},eR ob w v us ps→eR ob w v (us++[u]) (ps++[p]):=by
 intro us
 induction us with
 | nil=>intro ps h;cases ps with
  | nil=>exact⟨hu,trivial⟩
  | cons p ps=>exact h.elim
 | cons u us ih=>intro ps h;cases ps with
  | nil=>exact h.elim
  | cons p ps=>exact⟨h.1,ih h.2⟩
theorem eR.len{ob:Nat}{w:World}{v:Value}:∀ {us:List Value} {ps:List (List Int)},eR ob w v us ps→us.length=ps.length:=by
 intro us
 induction us with
 | nil=>intro ps h;cases ps with
  | nil=>rfl
  | cons p ps=>exact h.elim
 | cons u us ih=>intro ps h;cases ps with
  | nil=>exact h.elim
  | cons p ps=>simp[ih h.2]
def PSt(wB:World)(ob:Nat)(w:World)(v:Value)(ps:List (List Int)):Prop:=∃ us,Ot 47 53 wB ob w v us∧eR ob w v us ps
def BO: List Int:=[21,22,33,40,41,42]
def Fj(k:Int):Bool:=decide (15≤k)&&decide (k≤47)&&!decide (k∈BO)
theorem AQ(w:World)(b:Nat)(hb:w.heap[b]?=some (.cells #[.int .i64 21,.int .i64 22,.int .i64 33,.int .i64 40,.int .i64 41,.int .i64 42] 3 (0,0)))(k:Int):Calls Tryz.prog 68 #[.slice (some ⟨b,0,none⟩) 6 6,k] w fun e w'=>e=.returned (.bool (decide (k∈BO)))∧w'=w:=by
 refine(AnyE.slices_Contains Tryz.Ar (Value.int .i64) _ (EqlAt.int _ _ .i64) b 0 6 6 BO k w (by decide) (by decide) (fun j hj=>?_)).mono ?_
 ·have hj6:j<6:=hj;rw[Nat.zero_add,cell_of_row w b j _ _ _ hb]
  match j,hj6 with
  | 0,_=>rfl
  | 1,_=>rfl
  | 2,_=>rfl
  | 3,_=>rfl
  | 4,_=>rfl
  | 5,_=>rfl
 ·rintro e w' ⟨rfl,rfl⟩;refine⟨?_,rfl⟩
  show Ending.returned (.bool (BO.any fun y=>k==y))=_
  congr 2
  rw[Bool.eq_iff_iff]
  simp
theorem rY(ob:Nat)(w:World)(v u:Value)(p:List Int)(h:gP ob w v u p)(hob:ob<w.heap.size)(hvb:∀ g,v.ownBlock=some g→g<w.heap.size)(hp:p.length≤1000000):Calls Tryz.prog 69 #[u] w fun e w'=>∃ u',e=.returned u'∧gP ob w' v u' p∧Below w.heap.size w w':=by
 rcases h with ⟨rfl,rfl⟩|⟨b,off,cap,rfl,h0,h1,h2,h3,h4,h5⟩
 ·refine(AnyE.slices_Clone_nil Tryz.yN 0 0 w).mono ?_;rintro e w' ⟨rfl,rfl⟩;exact⟨_,rfl,.inl ⟨rfl,rfl⟩,Below.refl _ _⟩
 ·obtain⟨i0,hi0,hz0,hz1,hz2⟩:=info_parts IE;refine(AnyE.slices_Clone Tryz.yN i0 _ 1 8 hi0 hz0 hz1 hz2 rfl (by decide) Tryz.sizeOf3 b off p.length cap (p.map (Value.int .i64)) w (by simp) (by unfold maxLen;omega) (by omega) (fun m u hm=>?_) (fun u hu=>?_)).mono ?_
  ·rw[List.getElem?_map]at hm;obtain⟨x,hx,rfl⟩:=Option.map_eq_some_iff.1 hm;obtain⟨hi,rfl⟩:=List.getElem?_eq_some_iff.1 hx;exact h5 m hi
  ·obtain⟨x,_,rfl⟩:=List.mem_map.1 hu;rfl
  ·rintro e w' ⟨u',rfl,hown,_,hb⟩;refine⟨u',rfl,?_,hb⟩;have hpos:0<p.length:=List.length_pos_iff.2 h0
   rcases hown.2 with ⟨_,h⟩|⟨g,cap',cur,rfl,hg,hblk,hle,hmx,hsz,htk⟩
   ·omega
   ·refine .inr ⟨g,0,cap',rfl,h0,(Array.getElem?_eq_some_iff.1 hblk).1,by omega,fun e=>by have:=hvb g e;omega,hle,fun i hi=>?_⟩;rw[Nat.zero_add,cell_of_row w' g i _ _ _ hblk,← Array.getElem?_toList];have h6:(List.take (p.length*1) cur.toList)[i]?=(p.map (Value.int .i64))[i]?:=by rw[htk]
    rw[List.getElem?_take,if_pos (by omega)]at h6;rw[h6,List.getElem?_map,List.getElem?_eq_getElem hi];rfl
theorem gP.form{ob:Nat}{w:World}{v u:Value}{p:List Int}(h:gP ob w v u p):∃ ao n c,u=.slice ao n c:=by
 rcases h with ⟨_,rfl⟩|⟨b,off,cap,rfl,_⟩<;>exact⟨_,_,_,rfl⟩
theorem gP.one{ob:Nat}{w:World}{v u:Value}{p:List Int}(h:gP ob w v u p):u.oneCell'=true:=by
 rcases h with ⟨_,rfl⟩|⟨b,off,cap,rfl,_⟩<;>rfl
def PSQ(wB:World)(ob:Nat)(w:World)(v:Value)(ps:List (List Int))(e:Ending)(w':World):Prop:=e=.returned (.tuple #[])∧∃ v',PSt wB ob w' v' ps∧Mv ob w v w' v'
def II(wB:World)(tb:Nat):Prop:=∃ ab,tb<wB.heap.size∧ab<wB.heap.size∧wB.heap[tb]?=some (.cells #[.slice (some ⟨ab,0,none⟩) 6 6] 47 (0,0))∧wB.heap[ab]?=some (.cells #[.int .i64 21,.int .i64 22,.int .i64 33,.int .i64 40,.int .i64 41,.int .i64 42] 3 (0,0))
theorem Nt(wB:World)(ob tb:Nat)(hO:II wB tb)(w:World)(v:Value)(ps:List (List Int))(hst:PSt wB ob w v ps)(hl:ps.length≤1000000)(u:Value)(p:List Int)(hp:gP ob w v u p)(hpl:p.length≤1000000)(k n a:Int)(s:ByteArray)(ao:Option Addr)(m c:Nat):Calls Tryz.prog 67 #[tg k n a s ao m c,u,pq tb,pq ob] w (PSQ wB ob w v (if Fj k=true then ps++[p]else ps)):=by
 obtain⟨qs,hqs⟩:∃ qs,(if Fj k=true then ps++[p]else ps)=qs:=⟨_,rfl⟩
 rw[hqs];have HQS:=hdq hqs;clear hqs;obtain⟨us,hot,hps⟩:=hst;obtain⟨ab,htb,hab,hb1,hb2⟩:=hO;have hlow:=hot.low;have b1:=aC w (.cells (tg k n a s ao m c) 24);have t1:=TV.new w k n a s (.slice ao m c);go_enter Tryz.func67,Tryz.ntmps67;go_upto_region 1 with fail;generalize World.alloc w _=w1 at b1 t1 ⊢;have hot1:=hot.below b1;have hps1:=eR.mv ((Mv.refl ob w v).below b1) hps;have hp1:=hp.below b1;have hmv1:=(Mv.refl ob w v).below b1;have low1:=hot1.low;have o1:=(low1.block _ htb).trans hb1;have o2:=(low1.block _ hab).trans hb2;have ko:w1.cell? ⟨tb,0,none⟩=some (.slice (some ⟨ab,0,none⟩) 6 6):=cell_of_row w1 tb 0 _ _ _ o1;have hC:=AQ w1 ab o2 k;have hCl:=rY ob w1 v u p hp1 hot1.lt (fun g hg=>(hot1.own.lt g hg).2) hpl;clear hot hps hp o1 o2 hlow b1;have stay:qs=ps→PSQ wB ob w v qs (.returned (.tuple #[])) w1:=fun h=>by rw[h];exact⟨rfl,v,⟨us,hot1,hps1⟩,hmv1⟩
 have ST:=hdq stay;clear stay;have:=TV.facts t1
 by_cases h15:15≤k
 ·by_cases h47:k≤47
  ·cases hk:decide (k∈BO) with
   | true=>
    rw[hk]at hC;have HE:=hdq (show qs=ps by rw[← HQS.out,if_neg];unfold Fj;rw[hk];simp);clear hk;go_wp2_with (go_at_call 68;refine hC.mono ?_;rintro e w2 ⟨rfl,hw⟩;subst hw);go_end0;exact ST.out HE.out
   | false=>
    rw[hk]at hC;have HE:=hdq (show qs=ps++[p]by rw[← HQS.out,if_pos];unfold Fj;rw[hk];simp[h15,h47]);clear hk ST;go_upto_region 2 with (go_at_call 68;refine hC.mono ?_;rintro e w2 ⟨rfl,hw⟩;subst hw);obtain⟨i0,hi0,hz0,hz1,hz2⟩:=info_parts Ky;have hul:us.length≤1000000:=by rw[hps1.len];exact hl
    have bd:=(Below.refl w2.heap.size w2).drew;have hotd:=hot1.below bd;have hCd:=rY ob w2.drew v u p (hp1.below bd) hotd.lt (fun g hg=>(hotd.own.lt g hg).2) hpl;have kd:w2.drew.cell? ⟨ob,0,none⟩=some v:=cell_of_row w2.drew ob 0 _ _ _ hotd.blk;have hone:∀ (w:World) (x:Value),gP ob w v x p→∀ y∈[x],y.oneCell'=true:=fun w x hx y hy=>by rw[List.mem_singleton.1 hy];exact hx.one
    have hmx:us.length+1≤maxLen:=by unfold maxLen;omega
    have hby:(us.length+1)*24≤140737488355328:=by omega
    clear hC hCl ko t1
    go_region_law (first
      | (refine step_append_lies _ rfl _ _ _ rfl wB.heap.size 47 i0 (.slice none 0 0) 1 24 LJ hi0 hz0 hz1 hz2 rfl (by decide) v us.length us rfl own4 ⟨w3.heap.size, 0, none⟩ 1 1 [.slice uo un uc] rfl rfl (World.news_of_block (heap_alloc_new w3 _)) (hone _ _ hpu) (by decide) hmx hby hB4 _ rfl ?_; intro g cap w5 hown hgrow hor hlt; have hmid := Ot.mid hot3 (aC w3 (.cells #[.slice uo un uc] 47)) hgrow; have k5 : w5.cell? ⟨ob, 0, none⟩ = some v := cell_of_row w5 ob 0 _ _ _ hmid; have f5 := Lib.frozen_of_heap hmid 0)
      | (go_simp; go_at_call 69; refine hCd.mono ?_; rintro e w3 ⟨u', rfl, hpu, b3⟩; obtain ⟨uo, un, uc, rfl⟩ := hpu.form; have hot3 := hotd.below b3; have own4 := hot3.own.alloc (.cells #[.slice uo un uc] 47); have k3 : w3.cell? ⟨ob, 0, none⟩ = some v := cell_of_row w3 ob 0 _ _ _ hot3.blk; have k4 : (w3.alloc (.cells #[.slice uo un uc] 47)).cell? ⟨ob, 0, none⟩ = some v := cell_of_row _ ob 0 _ _ _ (((aC w3 (.cells #[.slice uo un uc] 47)).block _ hot3.lt).trans hot3.blk); have hB4 : wB.heap.size ≤ (w3.alloc (.cells #[.slice uo un uc] 47)).heap.size := by (have h1 := hot3.low.size; have h2 := (aC w3 (.cells #[.slice uo un uc] 47)).size; omega)))
    all_goals
     have hs:=Ot.snoc hot3 (aC w3 (.cells #[.slice uo un uc] 47)) hown hgrow (hor.imp id (fun e=>Nat.le_of_eq e.symm));have hm3:Mv ob w2 v w3 v:=(Mv.refl ob w2 v).below (bd.trans b3);have hfin:PSQ wB ob w v qs (.returned (.tuple #[])) (w5.setCell ⟨ob,0,none⟩ (.slice (some ⟨g,0,none⟩) (us.length+1) cap)):=by
      rw[HE.out];exact⟨rfl,_,⟨_,hs.1,eR.snoc (hpu.mv hs.2) (eR.mv (hm3.trans hs.2) hps1)⟩,hmv1.trans (hm3.trans hs.2)⟩
     clear hown hgrow hor hs hm3 hmid own4 hot3;go_end0;exact hfin
  ·have HE:=hdq (show qs=ps by rw[← HQS.out,if_neg];unfold Fj;simp[h47])
   go_wp2
   go_end0;exact ST.out HE.out
 ·have HE:=hdq (show qs=ps by rw[← HQS.out,if_neg];unfold Fj;simp[h15])
  go_wp2
  go_end0;exact ST.out HE.out
mutual
def stW(p:List Int):T→List (List Int)
 | .mk k _ _ _ l=>(if Fj k=true then [p]else [])++uH p 0 l
def uH(p:List Int):Nat→List T→List (List Int)
 | _,[]=>[]
 | i,x::r=>stW (p++[(i:Int)]) x++uH p (i+1) r
end
theorem Ji(p:List Int):∀ (l:List T) (i:Nat) (x:T),uH p i (l++[x])=uH p i l++stW (p++[((i+l.length:Nat):Int)]) x:=by
 intro l
 induction l with
 | nil=>intro i x;rw[List.nil_append,uH,uH,uH,List.append_nil,List.nil_append];rfl
 | cons y r ih=>intro i x;rw[List.cons_append,uH,ih,uH,List.append_assoc,List.length_cons,show i+1+r.length=i+(r.length+1)by omega]
theorem MV: ∀ d (t:T),depth t≤d→∀ p,(stW p t).length≤nodes t:=by
 intro d
 induction d using Nat.strongRecOn with
 | _ d ih=>
  intro t hd p;have H:=fun (x:T) (hx:x∈t.l) p=>ih (depth x) (by have:=Px.iQ hx;omega) x (Nat.le_refl _) p
  obtain⟨k,n,a,w,l⟩:=t;have hl:∀ (m:List T) (i:Nat),(∀ x,x∈m→∀ p,(stW p x).length≤nodes x)→(uH p i m).length≤aH m:=by
   intro m
   induction m with
   | nil=>intro i _;rw[uH];exact Nat.zero_le _
   | cons x r ihr=>
    intro i h;have h1:=h x (.head _) (p++[(i:Int)]);have h2:=ihr (i+1) (fun y hy=>h y (.tail _ hy));rw[uH,List.length_append,aH];omega
  have h1:=hl l 0 H;rw[stW,List.length_append,nodes];have h2:(if Fj k=true then [p]else []).length≤1:=by split<;>simp
  omega
theorem KC(p:List Int):∀ (m:List T) (i:Nat),(uH p i m).length≤aH m:=by
 intro m
 induction m with
 | nil=>intro i;rw[uH];exact Nat.zero_le _
 | cons x r ihr=>
  intro i;have h1:=MV _ x (Nat.le_refl _) (p++[(i:Int)]);have h2:=ihr (i+1);rw[uH,List.length_append,aH];omega
theorem GS{ob:Nat}{w:World}{v u:Value}{r:List Int}{B:Nat}(hr:r≠[])(hown:w.ownsRow B 3 1 u r.length (r.map (Value.int .i64)))(hob:ob<B)(hv:∀ g,v.ownBlock=some g→g<B):gP ob w v u r:=by
 have hpos:0<r.length:=List.length_pos_iff.2 hr
 rcases hown.2 with ⟨_,h⟩|⟨g,cap',cur,rfl,hg,hblk,hle,hmx,hsz,htk⟩
 ·omega
 ·refine .inr ⟨g,0,cap',rfl,hr,(Array.getElem?_eq_some_iff.1 hblk).1,by omega,fun e=>by have:=hv g e;omega,hle,fun i hi=>?_⟩;rw[Nat.zero_add,cell_of_row w g i _ _ _ hblk,← Array.getElem?_toList];have h6:(List.take (r.length*1) cur.toList)[i]?=(r.map (Value.int .i64))[i]?:=by rw[htk]
  rw[List.getElem?_take,if_pos (by omega)]at h6;rw[h6,List.getElem?_map,List.getElem?_eq_getElem hi];rfl
theorem Jh: Tryz.prog.underlying 47=some (.slice 3):=by kernel_rfl
def WkC(wB:World)(ob tb:Nat)(t:T):Prop:=∀ (w:World) (v:Value) (ps:List (List Int)) (u:Value) (p:List Int),PSt wB ob w v ps→gP ob w v u p→ps.length+nodes t≤1000000→p.length+depth t≤1000000→∀ (k n a:Int) (s:ByteArray) (ao:Option Addr) (m c:Nat),Tr wB t (vT k n a s ao m c)→
 Calls Tryz.prog 66 #[tg k n a s ao m c,u,.func (.func 67) #[] #[pq tb,pq ob]] w (PSQ wB ob w v (ps++stW p t))
theorem No (wB : World) (ob tb : Nat) (hO : II wB tb) : ∀ d (t : T), depth t ≤ d → WkC wB ob tb t := by
  intro d
  induction d using Nat.strongRecOn with
  | _ d ih =>
    intro t hd w v ps u p hst hp hbd hpd k n a s ao m c ht
    have H := hdq (fun (x : T) (hx : x ∈ t.l) => ih (depth x) (by have := Px.iQ hx; omega) x (Nat.le_refl _))
    have HDL := hdq (fun (x : T) (hx : x ∈ t.l) => Px.iQ hx)
    clear ih hd
    have hkt : k = t.kind := ht.split.1
    obtain rfl : m = t.l.length := ht.split.2.2.2.2
    have hU : ps ++ stW p t = (if Fj k = true then ps ++ [p] else ps) ++ uH p 0 t.l := by
      rw [hkt]; obtain ⟨k', n', a', s', l⟩ := t; rw [stW]
      show ps ++ ((if Fj k' = true then [p] else []) ++ uH p 0 l) = (if Fj k' = true then ps ++ [p] else ps) ++ uH p 0 l
      split <;> simp
    have HU := hdq hU
    clear hkt hU
    have e1 : nodes t = 1 + aH t.l := by obtain ⟨k, n, a, w, l⟩ := t; rw [nodes]; rfl
    have hq1 : (if Fj k = true then ps ++ [p] else ps).length ≤ ps.length + 1 := by split <;> simp
    have b1 := aC w (.cells (tg k n a s ao t.l.length c) 24)
    have t1 := TV.new w k n a s (.slice ao t.l.length c)
    have hobw : ob < w.heap.size := by obtain ⟨us, h, _⟩ := hst; exact h.lt
    have hvw : ∀ g, v.ownBlock = some g → g < w.heap.size := by obtain ⟨us, h, _⟩ := hst; exact fun g hg => (h.own.lt g hg).2
    go_enter Tryz.func66, Tryz.ntmps66
    go_upto_region 1 with fail
    generalize World.alloc w _ = w1 at b1 t1 ⊢
    have hm1 : Mv ob w v w1 v := (Mv.refl ob w v).below b1
    have hst1 : PSt wB ob w1 v ps := by
      obtain ⟨us, h, g⟩ := hst
      exact ⟨us, h.below b1, eR.mv hm1 g⟩
    have hp1 := hp.below b1
    have hV := Nt wB ob tb hO w1 v ps hst1 (by omega) u p hp1 (by omega) k n a s ao t.l.length c
    obtain ⟨qs, hqs⟩ : ∃ qs, (if Fj k = true then ps ++ [p] else ps) = qs := ⟨_, rfl⟩
    rw [hqs] at hV hq1
    have HU2 := hdq (HU.out.trans (by rw [hqs]))
    have n1 : w.heap.size ≠ ob := by omega
    have n2 : v.ownBlock ≠ some w.heap.size := fun e => by have := hvw _ e; omega
    clear hqs HU hst hp hst1 hvw b1
    have T1 := hdq t1
    have := TV.facts t1
    go_upto_block 1 with fail
    refine hV.mono ?_
    rintro e w2 ⟨rfl, v2, hst2, hm2⟩
    have t2 : TV w2 w.heap.size _ _ _ _ _ := (hm2.blk _ t1.lt n1 n2).trans t1
    clear hV t1
    have := TV.facts t2
    go_wp2_with fail
    clear t2
    go_loopg [15] t.l.length (fun g t15 wr => ∃ (q : Nat) (v' : Value), t15 = .int .i64 q ∧ q ≤ t.l.length ∧ g = t.l.length - q ∧ PSt wB ob wr v' (qs ++ uH p 0 (t.l.take q)) ∧ Mv ob w1 v wr v')
    case atStart => exact ⟨0, v2, rfl, Nat.zero_le _, rfl, by rw [List.take_zero, uH, List.append_nil]; exact hst2, hm2⟩
    case round =>
      clear hst2 hm2
      obtain ⟨q, v', rfl, hq, hg, hS, hM⟩ := hrel
      have HG := hdq hg
      clear hg
      by_cases hlt : q < t.l.length
      · obtain ⟨us, hot, hps⟩ := hS
        obtain ⟨ao1, c1', vs1, e, hTs, hrow⟩ := eF.tree (rv := []) hot.low ht
        obtain ⟨b, off, rfl, _, hcell⟩ := hrow (by intro e; rw [e] at hlt; simp at hlt)
        simp only [Value.slice.injEq, true_and] at e
        obtain ⟨rfl, rfl⟩ := e
        obtain ⟨k1, n1', a1, s1, o1, m1, c1, hTr, d0, d1, d2, d3, d4⟩ := Tr.elem hTs hcell q hlt
        have tk := List.take_succ_eq_append_getElem hlt
        have hmem := List.getElem_mem hlt
        have hnt := sL t.l q hlt
        have htd := jT t.l (q + 1)
        have hsl := KC p (t.l.take q) 0
        generalize t.l[q]'hlt = y at hTr tk hmem hnt
        have hdl := HDL.out y hmem
        have HSN := hdq (show qs ++ uH p 0 (t.l.take (q + 1)) = (qs ++ uH p 0 (t.l.take q)) ++ stW (p ++ [(q : Int)]) y by
          rw [tk, Ji, List.append_assoc, List.length_take, Nat.zero_add, Nat.min_eq_left (by omega)])
        have hb1 : (qs ++ uH p 0 (t.l.take q)).length + nodes y ≤ 1000000 := by rw [List.length_append]; omega
        have hb2 : (p ++ [(q : Int)]).length + depth y ≤ 1000000 := by simp; omega
        have x1 : (q : Int) < (t.l.length : Int) := by omega
        have hq6 : q ≤ 1000000 := by have := eY t.l; omega
        have b4 := aC wr (.cells (tg k1 n1' a1 s1 o1 m1 c1) 24)
        have x4 := TV.new wr k1 n1' a1 s1 (.slice o1 m1 c1)
        clear tk hnt htd hsl
        go_upto_region 5 with fail
        generalize World.alloc wr _ = w5 at b4 x4 ⊢
        have hot5 := hot.below b4
        have hm5 : Mv ob w1 v w5 v' := hM.below b4
        have hps5 := eR.mv ((Mv.refl ob wr v').below b4) hps
        have hp5 := hp1.mv hm5
        clear hot hps b4 d0 d1 d2 d3 d4 hcell
        have := TV.facts x4
        obtain ⟨i0, hi0, hz0, hz1, hz2⟩ := info_parts IE
        have bW : Below w5.heap.size w5 (w5.alloc (.cells #[.int .i64 q] 3)).drew := (aC w5 (.cells #[.int .i64 q] 3)).drew
        have x8 := x4
        have xW := x4.below bW
        have hotW := hot5.below bW
        have hpsW := eR.mv ((Mv.refl ob w5 v').below bW) hps5
        have hone : ∀ y ∈ [Value.int .i64 (q : Int)], y.oneCell' = true := fun y hy => by rw [List.mem_singleton.1 hy]; rfl
        have hcallX : ∀ (uo6 : Option Addr) (uc6 : Nat) (w6 : World), w6.ownsRow (w5.alloc (.cells #[.int .i64 q] 3)).drew.heap.size 3 1 (.slice uo6 (p.length + 1) uc6) (p.length + 1) (p.map (Value.int .i64) ++ [.int .i64 q]) → Below (w5.alloc (.cells #[.int .i64 q] 3)).drew.heap.size (w5.alloc (.cells #[.int .i64 q] 3)).drew w6 →
            Calls Tryz.prog 66 #[tg k1 n1' a1 s1 o1 m1 c1, .slice uo6 (p.length + 1) uc6, .func (.func 67) #[] #[pq tb, pq ob]] w6 (PSQ wB ob w6 v' ((qs ++ uH p 0 (t.l.take q)) ++ stW (p ++ [(q : Int)]) y)) := fun uo6 uc6 w6 hown b6 =>
          H.out y hmem w6 v' _ _ (p ++ [(q : Int)]) ⟨us, hotW.below b6, eR.mv ((Mv.refl ob _ v').below b6) hpsW⟩ (GS (by simp) (by rw [List.length_append, List.map_append]; exact hown) hotW.lt (fun g hg => (hotW.own.lt g hg).2)) hb1 hb2 k1 n1' a1 s1 o1 m1 c1 hTr
        have HCALL := hdq hcallX
        have hmx : p.length + 1 ≤ maxLen := by unfold maxLen; omega
        have hby : (p.length + 1) * 8 ≤ 140737488355328 := by omega
        clear hcallX hot5 hps5 x4
        have x9 := x8.below (aC w5 (.cells #[.int .i64 q] 3))
        have := TV.facts x8
        have := TV.facts x9
        rcases hp5 with ⟨rfl, rfl⟩ | ⟨b', off', cap', rfl, h0, h1, h2, h3, h4, h5⟩
        · have hz0' : ([] : List Int).length = 0 := rfl
          go_region_law (first
            | (refine step_append_grows rfl _ _ _ rfl 3 i0 (.int .i64 0) 1 8 Jh hi0 hz0 hz1 hz2 rfl (by decide) none 0 0 [] rfl (fun _ => ⟨rfl, rfl⟩) rfl (fun b h => (nomatch h)) ⟨w5.heap.size, 0, none⟩ 1 1 [.int .i64 q] rfl rfl (World.news_of_block (w := (w5.alloc (.cells #[.int .i64 q] 3)).drew) (heap_alloc_new w5 _)) hone (by decide) hmx hby ?_; intro u6 w6 hown hgrow; obtain ⟨uo6, uc6, rfl⟩ := qU hown; have b6 : Below (w5.alloc (.cells #[.int .i64 q] 3)).drew.heap.size (w5.alloc (.cells #[.int .i64 q] 3)).drew w6 := (Below.refl _ _).grown hgrow (Nat.le_refl _) (fun j hj => by cases hj); have hcall := HCALL.out _ _ _ hown b6; have x6 := xW.below b6; have := TV.facts x6)
            | (go_simp; go_at_call 66; refine hcall.mono ?_; rintro e w7 ⟨rfl, v7, hst7, hm7⟩))
          all_goals
            have hM7 : Mv ob w1 v w7 v7 := (hm5.below (bW.trans (b6.mono bW.size))).trans hm7
            clear hcall hown hgrow b6 x6 hm7
            go_wp2_with fail
            go_roundg (t.l.length - (q + 1))
            case measure => rw [HG.out]; omega
            case rel => exact ⟨q + 1, v7, by go_num, hlt, rfl, by rw [HSN.out]; exact hst7, hM7⟩
        · have y1 : (p.length : Int) ≤ (cap' : Int) := by omega
          have y2 : (0 : Int) ≤ (p.length : Int) := by omega
          have hold : ∀ b, some (⟨b', off', none⟩ : Addr) = some b → ∀ (j : Nat) (x : Value), (p.map (Value.int .i64))[j]? = some x → (w5.alloc (.cells #[.int .i64 q] 3)).drew.cell? (b.add j) = some x := fun b hb j x hx => by
            cases hb
            rw [List.getElem?_map] at hx
            obtain ⟨z, hz, rfl⟩ := Option.map_eq_some_iff.1 hx
            obtain ⟨hi, rfl⟩ := List.getElem?_eq_some_iff.1 hz
            rw [Go.WideShapes.add_plain]
            exact (bW.cell (p := ⟨b', off' + j, none⟩) h1).trans (h5 j hi)
          go_region_law (first
            | (refine step_append_grows rfl _ _ _ rfl 3 i0 (.int .i64 0) 1 8 Jh hi0 hz0 hz1 hz2 rfl (by decide) (some ⟨b', off', none⟩) p.length p.length (p.map (Value.int .i64)) rfl (fun h => (nomatch h)) (by simp) hold ⟨w5.heap.size, 0, none⟩ 1 1 [.int .i64 q] rfl rfl (World.news_of_block (w := (w5.alloc (.cells #[.int .i64 q] 3)).drew) (heap_alloc_new w5 _)) hone (by omega) hmx hby ?_; intro u6 w6 hown hgrow; obtain ⟨uo6, uc6, rfl⟩ := qU hown; have b6 : Below (w5.alloc (.cells #[.int .i64 q] 3)).drew.heap.size (w5.alloc (.cells #[.int .i64 q] 3)).drew w6 := (Below.refl _ _).grown hgrow (Nat.le_refl _) (fun j hj => by cases hj); have hcall := HCALL.out _ _ _ hown b6; have x6 := xW.below b6; have := TV.facts x6)
            | (go_simp; go_at_call 66; refine hcall.mono ?_; rintro e w7 ⟨rfl, v7, hst7, hm7⟩))
          all_goals
            have hM7 : Mv ob w1 v w7 v7 := (hm5.below (bW.trans (b6.mono bW.size))).trans hm7
            clear hcall hown hgrow b6 x6 hm7
            go_wp2_with fail
            go_roundg (t.l.length - (q + 1))
            case measure => rw [HG.out]; omega
            case rel => exact ⟨q + 1, v7, by go_num, hlt, rfl, by rw [HSN.out]; exact hst7, hM7⟩
      · have x1 : ¬ (q : Int) < (t.l.length : Int) := by omega
        rw [List.take_of_length_le (by omega)] at hS
        have hfin : PSQ wB ob w v (ps ++ stW p t) (.returned (.tuple #[])) wr := by rw [HU2.out]; exact ⟨rfl, v', hS, hm1.trans hM⟩
        clear hS hM
        go_wp2
        go_end0
        exact hfin
end
end Go.Proofs.YtfdlmcgcckkkdaaGreatDoor
