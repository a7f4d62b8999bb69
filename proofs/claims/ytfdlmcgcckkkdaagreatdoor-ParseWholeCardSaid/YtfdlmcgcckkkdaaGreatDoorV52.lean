/- ParseWhole, part 52: what it stands on. -/
import Derived.Test.YtfdlmcgcckkkdaaGreatDoorV31
import Derived.Test.YtfdlmcgcckkkdaaGreatDoorV44
import Derived.Test.YtfdlmcgcckkkdaaGreatDoorV49
import Derived.Shelf.SlicesE.Clone
import Derived.Laws.OwnMore
import Derived.Test.YtfdlmcgcckkkdaaGreatDoorV51
set_option linter.all false
set_option maxHeartbeats 40000000
set_option maxRecDepth 100000
namespace Go.Proofs.YtfdlmcgcckkkdaaGreatDoor
section
open Go.RowKit Lx Px
theorem UC: ∀ args w,(callFunc 48 args).run Tryz.prog w=.ok (.enter 48 args) w:=
 enters_of Tryz.func48 (by decide) rfl
def To(t:T3):Bool:=decide (1000<t.text.size)
theorem Ug(t:T3)(w:World):Calls Tryz.prog 48 #[SU t] w fun e w'=>e=.returned (.bool (To t))∧Below w.heap.size w w':=by
 obtain⟨k,t,a⟩:=t;unfold SU To;go_enter Tryz.func48,Tryz.ntmps48
 go_wp2
 all_goals (
   go_ret
   refine ⟨aR ?_, aC _ _⟩
   rw [Bool.eq_iff_iff]
   simp
   try omega)
def Um(ts:List T3):Bool:=decide (ts.length≤5100)&&!ts.any To
theorem Uw(v:Value)(ts:List T3)(w:World)(h:cK w v ts)(hn:ts.length≤9223372036854775807):Calls Tryz.prog 13 #[v] w fun e w'=>e=.returned (.bool (Um ts))∧Below w.heap.size w w':=by
 have hc:=fun W (hW:cK W v ts)=>DK 48 UC To v ts (fun t _ w=>Ug t w) W hW hn
 have HC:=hdq hc;have H:=hdq h;obtain⟨ao,cap,rfl,_⟩:=h;clear hc
 by_cases hl:ts.length≤5100
 ·have hlz:(ts.length:Int)≤5100:=by omega
  have hf:Um ts = !ts.any To:=by unfold Um;rw[decide_eq_true hl];rfl
  have HF:=hdq hf;clear hf;go_enter Tryz.func13,Tryz.ntmps13;go_wp2_with fail;refine(HC.out _ H.out).mono ?_;rintro e w' ⟨rfl,hb⟩;go_wp2_with fail;go_ret;exact⟨by rw[HF.out];simp,hb⟩
 ·have hlz:¬ (ts.length:Int)≤5100:=by omega
  have hf:Um ts=false:=by unfold Um;rw[decide_eq_false hl];rfl
  have HF:=hdq hf;clear hf;go_enter Tryz.func13,Tryz.ntmps13;go_wp2_with fail;go_ret;exact⟨by rw[HF.out];rfl,Below.refl _ _⟩
def Tryz.SJ: Go.Shelf.Ren:=⟨fun|41=>24|n=>n,fun|22=>25|23=>43|4=>4|n=>n,fun|n=>n⟩
theorem Tryz.SR: Go.Proofs.SlLaysE0.n41 Tryz.prog Tryz.SJ:={
 mixed:=by kernel_rfl
 f41:=⟨Tryz.f24.name,by decide,Tryz.func24.trans (congrArg some (by kernel_rfl))⟩
 t4:=Tryz.underlying4
 a4:=Tryz.isAgg4
 z4:=Tryz.sizeOf4
 v4:=Tryz.zeroValue4
 t22:=Tryz.underlying25
 a22:=Tryz.isAgg25
 z22:=Tryz.sizeOf25
 v22:=Tryz.zeroValue25 }
theorem yF(ts:List T3):(rM ts).length=ts.length*3:=by
 induction ts with
 | nil=>rfl
 | cons t ts ih=>unfold rM at *; rw[List.flatMap_cons,List.length_append,ih];simp[EB];omega
theorem Tm(a b:List T3):rM (a++b)=rM a++rM b:=by simp[rM]
theorem Ty(ts:List T3):∀ u∈rM ts,u.oneCell'=true:=by
 intro u hu;unfold rM at hu;rw[List.mem_flatMap]at hu;obtain⟨t,_,hu⟩:=hu
 simp[EB]at hu
 rcases hu with rfl|rfl|rfl<;>rfl
theorem TC(ts:List T3)(m:Nat)(u:Value)(h:(rM ts)[m]?=some u):∃ j i,j<ts.length∧m=j*3+i∧(EB ts[j]!)[i]?=some u:=by
 have hm:m<ts.length*3:=by rw[← yF];exact(List.getElem?_eq_some_iff.1 h).1
 refine⟨m / 3,m % 3,by omega,by omega,?_⟩;have hj:m / 3<ts.length:=by omega
 have hi:m % 3<3:=by omega
 have ht:(EB ts[m / 3]!)[m % 3]?=some ((EB ts[m / 3]!)[m % 3]'(by simp[EB];omega)):=List.getElem?_eq_getElem _;have:=FO ts (m / 3) hj (m % 3) _ ht;rw[show m / 3*3+m % 3=m from by omega,h]at this;rw[this];exact ht
theorem TF(v:Value)(ts:List T3)(w:World)(h:cK w v ts)(hn:ts.length≤1000000):Calls Tryz.prog 24 #[v] w fun e w'=>∃ v',e=.returned v'∧w'.ownsRow w.heap.size 43 3 v' ts.length (rM ts)∧Below w.heap.size w w':=by
 obtain⟨ao,cap,rfl,h⟩:=h
 by_cases h0:ts=[]
 ·subst h0
  cases ao with
  | none=>
   refine(AnyE.slices_Clone_nil Tryz.SR 0 cap w).mono ?_;rintro e w' ⟨rfl,rfl⟩;exact⟨_,rfl,World.ownsRow_nil _ _ _ _,Below.refl _ _⟩
  | some a=>
   clear h;obtain⟨i0,hi0,hz0,hz1,hz2⟩:=info_parts QP;have n1:=heap_alloc_new w (.cells #[] 43);have own1:(w.alloc (.cells #[] 43)).ownsRow w.heap.size 43 3 (.slice (some ⟨w.heap.size,0,none⟩) 0 0) 0 []:=
    ⟨rfl,.inr ⟨w.heap.size,0,#[],rfl,Nat.le_refl _,n1,Nat.le_refl _,by unfold maxLen;omega,rfl,rfl⟩⟩
   have b1:=aC w (.cells #[] 43);have hp3:0<3:=by decide
   have q22:∀ (w:World) (a:Option Addr) (n c n' c':Nat),(binOp .eql 25 (.slice a n c) (.slice none n' c')).run Tryz.prog w=.ok (.bool a.isNone) w:=fun w a n c n' c'=>Lib.run_eql_slice_nil w _ _ a n c n' c' QN
   have hno:∀ u∈([]:List Value),u.oneCell'=true:=fun u hu=>by cases hu
   have hne:∀ (j:Nat) (u:Value),([]:List Value)[j]?=some u→(w.alloc (.cells #[] 43)).cell? (a.add j)=some u:=fun j u hu=>by simp at hu
   go_enter Tryz.func24,Tryz.ntmps24;go_wp2_with (at_builtin;refine wpList_append_own _ rfl _ _ 25 rfl w.heap.size 43 i0 (.agg #[.int .i64 0,.string ⟨#[]⟩,.int .i64 0]) 3 32 QN hi0 hz0 hz1 hz2 rfl hp3 _ _ _ rfl own1 a 0 cap [] rfl rfl hne hno ?dd3 ?dd4 ?dd5 ?_)
   case dd3=>decide
   case dd4=>decide
   case dd5=>simp
   intro v' w' own2 hg _;go_wp2_with fail;go_ret;exact⟨v',rfl,own2,b1.grown hg (by simp) (fun k hk=>by cases hk;exact Nat.le_refl _)⟩
 ·obtain⟨b,off,rfl,hlt,hc⟩:=h h0;obtain⟨i0,hi0,hz0,hz1,hz2⟩:=info_parts QP
  refine (AnyE.slices_Clone Tryz.SR i0 _ 3 32 hi0 hz0 hz1 hz2 rfl (by decide) Tryz.sizeOf43 b off ts.length cap (rM ts) w (yF ts) (by unfold maxLen; omega) (by omega)
    (fun m u hm => by
      obtain ⟨j, i, hj, rfl, hu⟩ := TC ts m u hm
      rw [← Nat.add_assoc]; exact hc j hj i u hu) (Ty ts)).mono ?_
  rintro e w' ⟨v',rfl,hown,_,hb⟩;exact⟨v',rfl,hown,hb⟩
end
section
open Go.RowKit Lx Px
structure WS (L:List T3) (cs:List Value) (w8 W:World) (lit:Option Nat) (own own2:Option Value) (zb:Option Nat):Prop where
 low:Below w8.heap.size w8 W
 l:∀ b,lit=some b→W.heap[b]?=some (.cells cs.toArray 43 (0,0))
 o:∀ v,own=some v→W.ownsRow w8.heap.size 43 3 v L.length (rM L)
 o2:∀ v,own2=some v→W.ownsRow w8.heap.size 43 3 v (L.length+1) (rM L++cs)
 z:∀ b,zb=some b→TV W b (.int .i64 0) (.int .i64 0) (.int .i64 0) (.string ⟨#[]⟩) (.slice none 0 0)
section
variable {L:List T3} {cs:List Value} {w8 W:World} {lit:Option Nat} {own own2:Option Value} {zb:Option Nat}
theorem WS.any(S:WS L cs w8 W lit own own2 zb)(o:Obj):WS L cs w8 (W.alloc o) lit own own2 zb:=
 ⟨S.low.alloc S.low.size _,fun b hb=>((aC W o).block b (Array.getElem?_eq_some_iff.1 (S.l b hb)).1).trans (S.l b hb),fun v hv=>(S.o v hv).alloc _,fun v hv=>(S.o2 v hv).alloc _,fun b hb=>((aC W o).block b (S.z b hb).lt).trans (S.z b hb)⟩
theorem WS.alloc(S:WS L cs w8 W lit own own2 zb){ar:Array Value}(ha:ar=#[.int .i64 0,.int .i64 0,.int .i64 0,.string ⟨#[]⟩,.slice none 0 0]:=by exact rfl):WS L cs w8 (W.alloc (.cells ar 24)) lit own own2 (some W.heap.size):=by
 subst ha;exact { S.any _ with z:=fun b hb=>(by cases hb;exact heap_alloc_new W _) }
theorem WS.build(S:WS L cs w8 W lit own own2 zb){ar:Array Value}{B:Nat}(ha:ar=cs.toArray:=by exact rfl)(hB:W.heap.size=B:=by first|exact rfl|simp):WS L cs w8 (W.alloc (.cells ar 43)) (some B) own own2 zb:=by
 subst ha hB;exact { S.any _ with l:=fun b hb=>(by cases hb;exact heap_alloc_new W _) }
theorem WS.drew(S:WS L cs w8 W lit own own2 zb):WS L cs w8 W.drew lit own own2 zb:=⟨S.low.drew,S.l,S.o,S.o2,S.z⟩
theorem WS.clone(S:WS L cs w8 W lit none none zb){x:Value}(h:cK w8 x L)(hn:L.length≤1000000):Calls Tryz.prog 24 #[x] W fun e w'=>∃ v,e=.returned v∧WS L cs w8 w' lit (some v) none zb:=by
 refine(TF x L W (h.below S.low (Nat.le_refl _)) hn).mono ?_;rintro e w' ⟨v,rfl,ho,hb⟩;exact⟨v,rfl,S.low.trans (hb.mono S.low.size),fun b hl=>(hb.block b (Array.getElem?_eq_some_iff.1 (S.l b hl)).1).trans (S.l b hl),fun u hu=>(by cases hu;exact ho.mono S.low.size),fun u hu=>(nomatch hu),fun b hz=>(hb.block b (S.z b hz).lt).trans (S.z b hz)⟩
theorem WS.app{o:Oper}{a:Act}{K:Act→World→Prop}{Q:Exit→Act→World→Prop}{E:Prop}{b:Nat}{v:Value}(S:WS L cs w8 W (some b) (some v) none zb)(h3:cs.length=3)(h1:∀ u∈cs,u.oneCell'=true)(hn:L.length≤1000000)(hgd:o.guard=none)(s x:Operand)(ho:o.op=.call { callee:=.builtin .append,args:=#[s,x],argTypes:=#[25,25] })(hs:a.eval s=v)(hx:a.eval x=.slice (some ⟨b,0,none⟩) 1 1)(hK:∀ g cap w',WS L cs w8 w' none none (some (.slice (some ⟨g,0,none⟩) (L.length+1) cap)) zb→K (a.put o.dst (.slice (some ⟨g,0,none⟩) (L.length+1) cap)) w'){ops:Array Oper}:if Region.wanted o (yielded ops a.tmps)=true then Oper.wp Tryz.prog o a W K Q else E:=by
 obtain⟨i0,hi0,hz0,hz1,hz2⟩:=info_parts OX;have own:=S.o v rfl;refine step_append_lies W hgd s x _ ho w8.heap.size 43 i0 _ 3 32 Pe hi0 hz0 hz1 hz2 rfl (by decide) v L.length (rM L) hs own ⟨b,0,none⟩ 1 1 cs hx (by rw[h3]) (fun j u hu=>World.news_of_block (S.l b rfl) j u (by simpa using hu)) h1 (by decide) (by unfold maxLen;omega) (by omega) S.low.size _ rfl ?_;intro g cap w' h g1 _ _;refine hK g cap w' ⟨S.low.grown g1 S.low.size (fun j hj=>(own.lt j hj).1),fun _ h=>(nomatch h),fun _ h=>(nomatch h),fun u hu=>(by cases hu;exact h),fun c hz=>?_⟩;have hc:=S.z c hz;refine(g1.block c hc.lt fun e=>?_).trans hc
 rcases own.2 with h0|⟨g',cap',cur,rfl,_,hg,_⟩
 ·rw[h0.1]at e;cases e
 ·have e':c=g':=by simpa[Value.ownBlock]using e
  subst e';have:=hg.symm.trans hc
  simp at this
theorem WS.parse{v:Value}(S:WS L cs w8 W lit own (some v) zb){f:FuncId}{zt:T}{zx zy:Int}(h:∀ (W:World) (v:Value),W.ownsRow w8.heap.size 43 3 v (L.length+1) (rM L++cs)→Calls Tryz.prog f #[v] W (TQ W (zt,zx,zy))):Calls Tryz.prog f #[v] W fun e w'=>(∃ k n a s ao m c,e=.returned (.tuple #[tg k n a s ao m c,.int .i64 zx,.int .i64 zy]))∧WS L cs w8 w' none none none zb:=by
 refine(h W v (S.o2 v rfl)).mono ?_;rintro e w' ⟨hb,k,n,a,s,ao,m,c,rfl,_⟩;exact⟨⟨k,n,a,s,ao,m,c,rfl⟩,S.low.trans (hb.mono S.low.size),fun _ h=>(nomatch h),fun _ h=>(nomatch h),fun _ h=>(nomatch h),fun b hz=>(hb.block b (S.z b hz).lt).trans (S.z b hz)⟩
end
theorem TA(L:List T3):(lk L).length=L.length:=List.length_map _
theorem Uv(L:List T3)(m:Nat):lk (L.take m)=(lk L).take m:=List.map_take
theorem cK.take{w:World}{ao:Option Addr}{cap:Nat}{L:List T3}(h:cK w (.slice ao L.length cap) L)(m:Nat)(hm:m≤L.length):cK w (.slice ao m m) (L.take m):=by
 obtain⟨ao',cap',e,h⟩:=h;simp only[Value.slice.injEq,true_and]at e
 obtain⟨rfl,rfl⟩:=e;refine⟨ao,m,by rw[List.length_take,Nat.min_eq_left hm],fun hne=>?_⟩;have hl:L≠[]:=fun e=>hne (by rw[e];simp)
 obtain⟨b,off,rfl,hb,hc⟩:=h hl;refine⟨b,off,rfl,hb,fun j hj i u hu=>hc j ?_ i u ?_⟩
 ·rw[List.length_take]at hj;omega
 ·rw[List.length_take]at hj;have e:(L.take m)[j]! = L[j]!:=by
   rw[List.getElem!_eq_getElem?_getD,List.getElem!_eq_getElem?_getD,List.getElem?_take_of_lt (by omega)]
  rwa[e]at hu
theorem Uj{L:List T3}(h:Um L=true):∀ t,t∈L→t.text.size≤140737488351232:=fun t ht=>by
 unfold Um at h;simp only[Bool.and_eq_true,Bool.not_eq_true',List.any_eq_false]at h
 have:=h.2 t ht;unfold To at this;have:¬ 1000<t.text.size:=by simpa using this
 omega
theorem Sj(w:World)(hTab:eJ w)(hml:ML w)(L:List T3)(ao:Option Addr)(cap:Nat)(hL:cK w (.slice ao L.length cap) L)(hcap:L.length≤cap)(hmax:cap≤9223372036854775807)(m:Int)(k:Int)(s:ByteArray)(a:Int):Calls Tryz.prog 4 #[.slice ao L.length cap,m,.agg #[.int .i64 k,s,.int .i64 a]] w fun e w'=>e=.returned (.bool true)∧Below w.heap.size w w':=by
 have b1:=aC w (.cells #[.int .i64 k,.string s,.int .i64 a] 43);have n1:=heap_alloc_new w (.cells #[.int .i64 k,.string s,.int .i64 a] 43);have hz1:w.heap.size<(w.alloc (.cells #[.int .i64 k,.string s,.int .i64 a] 43)).heap.size:=by simp
 have hsn:=LW _ (hTab.below b1) (hml.below b1);go_enter Tryz.func4,Tryz.ntmps4;go_upto_region 1 with fail;generalize World.alloc w _=w1 at b1 n1 hz1 hsn ⊢;go_upto_region 3 with (go_at_call 11;refine hsn.mono ?_;rintro e w2 ⟨rfl,b2⟩);have B2:=b1.trans (b2.mono b1.size);have n2:=(b2.block _ hz1).trans n1;have hz2:w.heap.size<w2.heap.size:=Nat.lt_of_lt_of_le hz1 b2.size;clear hsn b1 n1 hz1 b2;have hL2:=hL.below B2 (Nat.le_refl _);have cF:=Uw _ L w2 hL2 (by omega)
 cases hf:Um L with
 | false=>
  rw[hf]at cF;go_wp2_with (go_at_call 13;refine cF.mono ?_;rintro e w3 ⟨rfl,b3⟩);go_ret;exact⟨rfl,B2.trans (b3.mono B2.size)⟩
 | true=>
  rw[hf]at cF
  by_cases h1:(2000:Int)<(L.length:Int)
  ·go_wp2_with (go_at_call 13;refine cF.mono ?_;rintro e w3 ⟨rfl,b3⟩;have B3:=B2.trans (b3.mono B2.size);have n3:=(b3.block _ hz2).trans n2;have c0:=cell_of_row w3 _ 0 _ _ _ n3;have c1:=cell_of_row w3 _ 1 _ _ _ n3;have c2:=cell_of_row w3 _ 2 _ _ _ n3);go_ret;exact⟨rfl,B3⟩
  by_cases h2:m<0
  ·go_wp2_with (go_at_call 13;refine cF.mono ?_;rintro e w3 ⟨rfl,b3⟩;have B3:=B2.trans (b3.mono B2.size);have n3:=(b3.block _ hz2).trans n2;have c0:=cell_of_row w3 _ 0 _ _ _ n3;have c1:=cell_of_row w3 _ 1 _ _ _ n3;have c2:=cell_of_row w3 _ 2 _ _ _ n3);go_ret;exact⟨rfl,B3⟩
  by_cases h3:(L.length:Int)≤m
  ·go_wp2_with (go_at_call 13;refine cF.mono ?_;rintro e w3 ⟨rfl,b3⟩;have B3:=B2.trans (b3.mono B2.size);have n3:=(b3.block _ hz2).trans n2;have c0:=cell_of_row w3 _ 0 _ _ _ n3;have c1:=cell_of_row w3 _ 1 _ _ _ n3;have c2:=cell_of_row w3 _ 2 _ _ _ n3);go_ret;exact⟨rfl,B3⟩
  by_cases h4:(1000:Int)<(s.size:Int)
  ·go_wp2_with (go_at_call 13;refine cF.mono ?_;rintro e w3 ⟨rfl,b3⟩;have B3:=B2.trans (b3.mono B2.size);have n3:=(b3.block _ hz2).trans n2;have c0:=cell_of_row w3 _ 0 _ _ _ n3;have c1:=cell_of_row w3 _ 1 _ _ _ n3;have c2:=cell_of_row w3 _ 2 _ _ _ n3);go_ret;exact⟨rfl,B3⟩
  have hC:=fun w3=>nG k s a (by omega) w3
  cases h5:bX k s with
  | false=>
   rw[h5]at hC;unfold qB at hC;go_wp2_with (first|(go_at_call 13;refine cF.mono ?_;rintro e w3 ⟨rfl,b3⟩;have B3:=B2.trans (b3.mono B2.size);have n3:=(b3.block _ hz2).trans n2;have c0:=cell_of_row w3 _ 0 _ _ _ n3;have c1:=cell_of_row w3 _ 1 _ _ _ n3;have c2:=cell_of_row w3 _ 2 _ _ _ n3)|(go_at_call 23;refine(hC _).mono ?_;rintro e w4 ⟨rfl,b4⟩));go_ret;exact⟨rfl,B3.trans (b4.mono B3.size)⟩
  | true=>
   rw[h5]at hC;unfold qB at hC;obtain⟨m,rfl⟩:∃ k:Nat,m=(k:Int):=⟨m.toNat,by omega⟩
   go_upto_region 5 with (first|(go_at_call 13;refine cF.mono ?_;rintro e w3 ⟨rfl,b3⟩;have B3:=B2.trans (b3.mono B2.size);have n3:=(b3.block _ hz2).trans n2;have c0:=cell_of_row w3 _ 0 _ _ _ n3;have c1:=cell_of_row w3 _ 1 _ _ _ n3;have c2:=cell_of_row w3 _ 2 _ _ _ n3)|(go_at_call 23;refine(hC _).mono ?_;rintro e w4 ⟨rfl,b4⟩;have B4:=B3.trans (b4.mono B3.size);have n4:=(b4.block _ (Nat.lt_of_lt_of_le hz2 b3.size)).trans n3));clear hC cF c0 c1 c2;have hs:=Uj hf;have hP:=Fc L hs (.slice ao L.length cap) w4 (hL.below B4 (Nat.le_refl _)) (by omega);obtain⟨r,hr⟩:∃ r,jS gH (lk L)=r:=⟨_,rfl⟩
   rw[hr]at hP;obtain⟨rt,rx,ry⟩:=r;have HR:=hdq hr;clear hr;go_upto_region 6 with (go_at_call 22;refine hP.mono ?_;rintro e w5 ⟨b5,k5,n5,a5,s5,o5,m5,c5,rfl,_⟩);have B5:=B4.trans (b5.mono B4.size);have b6:=aC w5 (.cells (tg k5 n5 a5 s5 o5 m5 c5) 24);have n5:=(b5.block _ (Nat.lt_of_lt_of_le hz2 (Nat.le_trans b3.size b4.size))).trans n4;generalize World.alloc w5 _=w6 at b6 ⊢;have B6:=B5.trans (b6.mono B5.size);have n6:=(b6.block _ (by have:=B4.size;have:=b5.size;have:=b4.size;have:=b3.size;omega)).trans n5;clear hP
   by_cases hy:ry=0
   ·subst hy;go_upto_region 8 with fail;obtain⟨hall1,hall2⟩:=TH (by rw[TA];omega) (show (jS gH (lk L)).2.2=0 by rw[HR.out]);have hm1:=hall1 m (by rw[TA];omega);have hm2:(m:Int)≤(cap:Int):=by omega
    have hm3:(0:Int)≤(m:Int):=by omega
    have hLm:=(hL.below B6 (Nat.le_refl _)).take m (by omega);have hP:=Fc (L.take m) (fun t ht=>hs t (List.mem_of_mem_take ht)) _ w6 hLm (by rw[List.length_take];omega);rw[Uv]at hP;obtain⟨r,hr⟩:∃ r,jS gH ((lk L).take m)=r:=⟨_,rfl⟩
    rw[hr]at hP hm1;obtain⟨qt,qx,qy⟩:=r;obtain rfl:qy=70:=hm1;clear hr;go_upto_block 8 with fail;refine hP.mono ?_;rintro e w7 ⟨b7,k7,n7,a7,s7,o7,m7,c7,rfl,_⟩;go_upto_region 9 with fail;have B7:=B6.trans (b7.mono B6.size);have b8:=aC w7 (.cells (tg k7 n7 a7 s7 o7 m7 c7) 24);have hz6:w.heap.size<w6.heap.size:=by have:=b6.size;have:=b5.size;have:=b4.size;have:=b3.size;omega
    have n7:=(b7.block _ hz6).trans n6;have hz7:w.heap.size<w7.heap.size:=Nat.lt_of_lt_of_le hz6 b7.size;generalize World.alloc w7 _=w8 at b8 ⊢;have B8:=B7.trans (b8.mono B7.size);have n8:=(b8.block _ hz7).trans n7;have hz8:w.heap.size<w8.heap.size:=Nat.lt_of_lt_of_le hz7 b8.size;have hL8:=hL.below B8 (Nat.le_refl _);clear hP hLm b3 b4 b5 b6 b7 b8 n2 n3 n4 n5 n6 n7 B2 B3 B4 B5 B6 B7 hL2 hz2 hz6 hz7 hall1;have hLx:=hall2 ⟨k,s⟩ h5;clear hall2;have c0:=cell_of_row w8 _ 0 _ _ _ n8;have c1:=cell_of_row w8 _ 1 _ _ _ n8;have c2:=cell_of_row w8 _ 2 _ _ _ n8;have hone:∀ y∈[Value.int .i64 k,Value.string s,Value.int .i64 a],y.oneCell'=true:=by
     intro y hy;simp only[List.mem_cons,List.not_mem_nil,or_false]at hy
     rcases hy with rfl|rfl|rfl<;>rfl
    rw[TA]at hLx;obtain⟨r3,hr3⟩:∃ r,jS gH (lk L++[⟨k,s⟩])=r:=⟨_,rfl⟩
    rw[hr3]at hLx;obtain⟨zt,zx,zy⟩:=r3;obtain⟨rfl,rfl⟩:zx=(L.length:Int)∧zy=70:=Prod.mk.inj hLx;have HPar:∀ (W:World) (v:Value),W.ownsRow w8.heap.size 43 3 v (L.length+1) (rM L++[.int .i64 k,.string s,.int .i64 a])→Calls Tryz.prog 22 #[v] W (TQ W (zt,(L.length:Int),70)):=fun W v h=>by
     rw[← hr3];have e:(L++[(⟨k,s,a⟩:T3)]).length=L.length+1:=by simp
     have hT:cK W v (L++[⟨k,s,a⟩]):=cK.Bu (B:=w8.heap.size) (by rw[e,Tm];exact h)
     have := Fc (L ++ [⟨k, s, a⟩]) (fun t ht => by
       rcases List.mem_append.1 ht with h | h
       · exact hs t h
       · rw [List.mem_singleton.1 h]; show s.size ≤ _; omega) v W hT (by rw [e]; omega)
     unfold lk at this ⊢;rw[List.map_append]at this;exact this
    have hn6:L.length≤1000000:=by omega
    have S8:WS L [.int .i64 k,.string s,.int .i64 a] w8 w8 none none none none:=⟨Below.refl _ _,fun _ h=>(nomatch h),fun _ h=>(nomatch h),fun _ h=>(nomatch h),fun _ h=>(nomatch h)⟩
    clear hr3 hLx HR h1 h2 h3 h4 h5 hm2 hm3 hs hL hTab hml hf hcap hmax;have hCell:∀ {W:World},Below w8.heap.size w8 W→∀ i,W.cell? ⟨w.heap.size,i,none⟩=w8.cell? ⟨w.heap.size,i,none⟩:=fun b i=>b.cell (p:=⟨w.heap.size,i,none⟩) hz8
    have bz:Below w8.heap.size w8 (w8.alloc (.cells z5q 24)):=aC w8 _;have bd:Below w8.heap.size w8 w8.drew:=(Below.refl _ _).drew;have g0:=(hCell bz 0).trans c0;have g1:=(hCell bz 1).trans c1;have g2:=(hCell bz 2).trans c2;have C0:=hdq c0;have C1:=hdq c1;have C2:=hdq c2
    go_region_law (first
      | (refine WS.app (by first | exact Sq | exact Sq.build | exact Sq.alloc | exact (Sq.alloc).build | exact Sq.build.alloc) rfl hone hn6 rfl (.tmp 66) (.tmp 68) rfl rfl rfl (fun g cap12 w12 Sq => ?_); have hz12 := Sq.low.size)
      | (go_simp; go_at_call 24; refine (WS.clone (L := L) (cs := [.int .i64 k, .string s, .int .i64 a]) (w8 := w8) (by first | exact S8.drew | exact (S8.alloc).drew | exact S8.build.drew | exact (S8.alloc).build.drew | exact (S8.build.alloc).drew) hL8 hn6).mono ?_; rintro e w10 ⟨v10, rfl, Sq⟩; (try simp only [World.drew, World.alloc, Array.size_push] at Sq); have hz10 := Sq.low.size; have d0 := (hCell Sq.low 0).trans C0.out; have d1 := (hCell Sq.low 1).trans C1.out; have d2 := (hCell Sq.low 2).trans C2.out; have e0 := (hCell Sq.alloc.low 0).trans C0.out; have e1 := (hCell Sq.alloc.low 1).trans C1.out; have e2 := (hCell Sq.alloc.low 2).trans C2.out)
      | (go_simp; go_at_call 22; refine (WS.parse (by first | exact Sq | exact Sq.alloc) HPar).mono ?_; rintro e w13 ⟨⟨k13, n13, a13, s13, o13, m13, c13, rfl⟩, Sq⟩; have hz13 := Sq.low.size; (try (have t13 := TV.facts (Sq.z _ rfl); try simp only [World.drew, World.alloc, Array.size_push] at t13))))
    all_goals
     have hz0:=B8.size;go_wp2_with fail;go_ret;refine⟨rfl,?_⟩
     repeat' first|refine Below.setCell ?_ ?_ _|refine Below.alloc ?_ ?_ _
     all_goals first|exact B8.trans (Sq.low.mono B8.size)|omega|(dsimp only;omega)|(simp;omega)
   ·have hy2:¬ (0:Int)=ry:=fun e=>hy e.symm
    go_wp2_with fail;go_ret;exact⟨rfl,B6⟩
end
end Go.Proofs.YtfdlmcgcckkkdaaGreatDoor
