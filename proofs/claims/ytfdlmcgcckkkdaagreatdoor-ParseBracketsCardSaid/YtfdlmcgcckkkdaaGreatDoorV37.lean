/- ParseWhole, part 37: what it stands on. -/
import Derived.Test.YtfdlmcgcckkkdaaGreatDoorV20
import Derived.Test.YtfdlmcgcckkkdaaGreatDoorV02
import Derived.Test.YtfdlmcgcckkkdaaGreatDoorV33
import Derived.Deep.RegionHeld
set_option linter.all false
set_option maxHeartbeats 40000000
set_option maxRecDepth 100000
namespace Go.Proofs.YtfdlmcgcckkkdaaGreatDoor
section
open Go.RowKit Lx Px
def EP(w:World)(b:Nat)(ks:List (ByteArray×Value)):Prop:=
 ∃ es clk,w.heap[b]?=some (.map es clk)∧es.toList.map (fun e=>(e.key,e.val))=ks.map (fun s=>(Value.string s.1,s.2))
def cY(k:ByteArray):List (ByteArray×Value)→Option Value
 | []=>none
 | (s,v)::r=>if k=s then some v else cY k r
theorem Bk (k : ByteArray) : ∀ (es : List MapEntry) (ks : List (ByteArray × Value)) (i : Nat), es.map (fun e => (e.key, e.val)) = ks.map (fun s => (Value.string s.1, s.2)) →
    match cY k ks with
    | none => Instr.findNow .string (.string k) es i = some none
    | some v => ∃ j, Instr.findNow .string (.string k) es i = some (some (j, v)) := by
  intro es
  induction es with
  | nil => intro ks i h; match ks, h with | [], _ => rfl
  | cons e es ih =>
    intro ks i h
    match ks, h with
    | (s, v) :: ks, h =>
      simp only [List.map_cons, List.cons.injEq, Prod.mk.injEq] at h
      unfold cY
      by_cases he : k = s
      · rw [if_pos he]
        have : (k == s) = true := by rw [Bl]; simpa using he
        refine ⟨i, ?_⟩
        unfold Instr.findNow
        rw [h.1.1, h.1.2]
        simp only [Instr.sameNow, this]
      · rw [if_neg he]
        have : (k == s) = false := by rw [Bl]; simpa using he
        have h2 := ih ks (i + 1) h.2
        unfold Instr.findNow
        rw [h.1.1]
        simp only [Instr.sameNow, this]
        exact h2
theorem EP.new(w:World):EP (w.alloc (.map #[] 0)) w.heap.size []:=⟨#[],0,heap_alloc_new w _,rfl⟩
def JN(w0 w:World)(b:Nat)(ks:List (ByteArray×Value)):Prop:=EP w b ks∧Below b w0 w
theorem jN{P:Program}(w0 w:World){ops:Array Oper}{rest:List Oper}{o:Oper}{a:Act}{Q:Exit→Act→World→Prop}(hg:o.guard=none)(m x v:Operand)(t:TypeId)(hop:o.op=Op.insert t m x v)(k e:TypeId)(ht:P.underlying t=some (.map k e))(hk:P.underlying k=some .string)(b:Nat)(ks:List (ByteArray×Value))(hm:a.eval m=.map (some b))(hmap:JN w0 w b ks)(key:ByteArray)(val:Value)(hx:a.eval x=.string key)(hv:a.eval v=val)(hnew:cY key ks=none)(hK:∀ w',JN w0 w' b (ks++[(key,val)])→wpList P ops Q rest (a.put o.dst undef) w'):wpList P ops Q (o::rest) a w:=by
 refine wpList_plain hg fun K' hK'=>?_;obtain⟨⟨es,clk,hb,hes⟩,hbel⟩:=hmap;have hf:=Bk key es.toList ks 0 hes;rw[hnew]at hf;have hrun:(Instr.mapUpdate t (.map (some b)) (.string key) val).run P w=.ok () { w with heap:=w.heap.setIfInBounds b (.map (es.push { key:=.string key,val:=val,born:=clk }) (clk+1)) }:=by
  have hc:(Instr.checkKey false 10000 k (.string key)).run P w=.ok () w:=MapKept.run_checkKey (k:=.string key) hk (by simp[MapKept.IsKey]) false 9999
  simp[Instr.mapUpdate,run_underlying ht,MapKept.run_getObj_map hb,hc,MapKept.run_findKey hk hf,MapKept.run_setObj_map _ hb,Result.andThen]
 have hlt:b<w.heap.size:=(Array.getElem?_eq_some_iff.1 hb).1;have hg2:w.grownBy { w with heap:=w.heap.setIfInBounds b (.map (es.push { key:=.string key,val:=val,born:=clk }) (clk+1)) } (some b):=
  ⟨rfl, rfl, rfl, by simp, fun j _ hne => by
    have : b ≠ j := fun h => hne (by rw [h])
    simp [this]⟩
 have hres:=hK { w with heap:=w.heap.setIfInBounds b (.map (es.push { key:=.string key,val:=val,born:=clk }) (clk+1)) }
  ⟨⟨es.push { key:=.string key,val:=val,born:=clk },clk+1,by simp[hlt],by simp[hes]⟩,hbel.grown hg2 (Nat.le_of_lt hlt) (fun j hj=>by cases hj;exact Nat.le_refl _)⟩
 unfold Oper.wp
 simp[execOp,hop,hm,hx,hv,hrun,Result.andThen]
 exact hK' _ _ hres
theorem nH{P:Program}(w:World)(t k e:TypeId)(ht:P.underlying t=some (.map k e))(hk:P.underlying k=some .string)(z:Value)(hz:∀ W,(zeroValue e).run P W=.ok z W)(b:Nat)(ks:List (ByteArray×Value))(hmap:EP w b ks)(key:ByteArray):(Instr.lookup t (.map (some b)) (.string key) false).run P w=.ok ((cY key ks).getD z) w:=by
 obtain⟨es,clk,hb,hes⟩:=hmap;have hc:(Instr.checkKey es.isEmpty 10000 k (.string key)).run P w=.ok () w:=MapKept.run_checkKey (k:=.string key) hk (by simp[MapKept.IsKey]) es.isEmpty 9999;have hf:=Bk key es.toList ks 0 hes
 cases hv:cY key ks with
 | some v=>
  rw[hv]at hf;obtain⟨j,hf⟩:=hf
  simp[Instr.lookup,run_underlying ht,MapKept.run_getObj_map hb,hc,MapKept.run_findKey hk hf,Result.andThen]
 | none=>
  rw[hv]at hf
  simp[Instr.lookup,run_underlying ht,MapKept.run_getObj_map hb,hc,MapKept.run_findKey hk hf,Result.andThen,hz]
def oJ: List (ByteArray×Value):=[(LV,.string sT),(PT,.string AH),(PX,.string CR),(Qa,.string dF),(Qe,.string Ah),(Kv,.string AN),(Qf,.string Au),(KD,.string sU),(PZ,.string qD),(Qh,.string AE)]
theorem Jj(s:ByteArray):(∃ r,(cY s oJ).getD (.string ⟨#[]⟩)=.string r∧¬ r=⟨#[]⟩∧Ay s=r)∨((cY s oJ).getD (.string ⟨#[]⟩)=.string ⟨#[]⟩∧Ay s=s):=by
 unfold oJ cY cY cY cY cY cY cY cY cY cY cY Ay
 by_cases h1:s=LV
 ·left;rw[if_pos h1,if_pos h1];exact⟨_,rfl,by decide,rfl⟩
 rw[if_neg h1,if_neg h1]
 by_cases h2:s=PT
 ·left;rw[if_pos h2,if_pos h2];exact⟨_,rfl,by decide,rfl⟩
 rw[if_neg h2,if_neg h2]
 by_cases h3:s=PX
 ·left;rw[if_pos h3,if_pos h3];exact⟨_,rfl,by decide,rfl⟩
 rw[if_neg h3,if_neg h3]
 by_cases h4:s=Qa
 ·left;rw[if_pos h4,if_pos h4];exact⟨_,rfl,by decide,rfl⟩
 rw[if_neg h4,if_neg h4]
 by_cases h5:s=Qe
 ·left;rw[if_pos h5,if_pos h5];exact⟨_,rfl,by decide,rfl⟩
 rw[if_neg h5,if_neg h5]
 by_cases h6:s=Kv
 ·left;rw[if_pos h6,if_pos h6];exact⟨_,rfl,by decide,rfl⟩
 rw[if_neg h6,if_neg h6]
 by_cases h7:s=Qf
 ·left;rw[if_pos h7,if_pos h7];exact⟨_,rfl,by decide,rfl⟩
 rw[if_neg h7,if_neg h7]
 by_cases h8:s=KD
 ·left;rw[if_pos h8,if_pos h8];exact⟨_,rfl,by decide,rfl⟩
 rw[if_neg h8,if_neg h8]
 by_cases h9:s=PZ
 ·left;rw[if_pos h9,if_pos h9];exact⟨_,rfl,by decide,rfl⟩
 rw[if_neg h9,if_neg h9]
 by_cases h10:s=Qh
 ·left;rw[if_pos h10,if_pos h10];exact⟨_,rfl,by decide,rfl⟩
 rw[if_neg h10,if_neg h10];exact .inr ⟨rfl,rfl⟩
theorem uN: Tryz.prog.underlying 145=some (.map 9 9):=by kernel_rfl
theorem zP: Tryz.prog.underlying 9=some .string:=by kernel_rfl
theorem Jd(W:World):(zeroValue 9).run Tryz.prog W=.ok (.string ⟨#[]⟩) W:=by kernel_rfl
def doL(L:List Tk)(stmt:Nat→R T)(a:Nat)(label:ByteArray)(i:Nat):R T:=
 aB (Cr L i) fun r j=>aB (aM L j sEQ) fun _ j1=>aB (bM L j1) fun x j2=>aB (gB L wTO j2) fun t j3=>aB (gB L wBY j3) fun b j4=>
  aB (fC L eM j4) fun wh j5=>aB (fC L eL j5) fun un j6=>aB (aM L j6 aS) fun _ j7=>aB (fF L stmt label j7) fun g j8=>.ok (node 19 a (r::x::t::b::wh::un::g),j8)
def doW(L:List Tk)(stmt:Nat→R T)(a:Nat)(label:ByteArray)(i:Nat):R T:=
 if wrd L i [eM,eL]then
  aB (fC L eM i) fun wh j=>aB (fC L eL j) fun un j1=>aB (aM L j1 aS) fun _ j2=>aB (fF L stmt label j2) fun g j3=>.ok (node 18 a (wh::un::g),j3)
 else .error i
theorem PJ(L:List Tk)(stmt:Nat→R T)(a:Nat)(label:ByteArray)(i:Nat):doP L stmt a label i =
 if sgn L i [aS]then aB (fF L stmt label (i+1)) fun g j=>.ok (node 17 a g,j)else if dU L i then doL L stmt a label i else doW L stmt a label i:=rfl
theorem OW(pb:Nat)(L:List T3)(lo:Nat)(stmt:Nat→R T)(hS:Reads 53 pb L lo stmt)(up:∀ i,Up (i+1) (stmt i))(a:Nat)(lab:ByteArray)(i:Nat)(hi:lo≤i)(w:World)(h:PS w pb L i):Calls Tryz.prog 181 #[pq pb,a,lab] w (aD pb L w (doP (lk L) stmt a lab i)):=by
 have HU:=hdq (PJ (lk L) stmt a lab i);have hbd:=h.bd;go_enter Tryz.func181,Tryz.ntmps181;go_upto_region 1 with fail;have S1:=SV.new h;generalize World.alloc w _=w1 at S1 ⊢
 cases hs:sgn (lk L) i [aS] with
 | true=>
  have hC:=S1.AM aS hs;have HS:=hdq hs;clear hs;go_upto_block 2 with (go_at_call 135;refine hC.mono ?_;rintro e w2 ⟨rfl,S2⟩);refine(S2.pL (fR pb L lo stmt hS up lab (i+1) (by omega) w2 S2.ps)).mono ?_;rintro e w3 (⟨x,hr,rfl,hg⟩|⟨l3,j3,o3,c3,hr,rfl,S3⟩)
  ·unfold pan;go_wp2_with fail;exact⟨rfl,aD.err x (by simp[HU.out,aB,HS.out,hr]) hg⟩
  have H3:=hdq hr;clear hr;go_upto_block 2 with fail;refine m2q (S3.dI 17 a) fun w4 S4=>?_;have:=TV.facts (S4.facts 0 rfl);go_wp2_with fail;have S5:=S4.bN 0 rfl (.int .i64 17) (.int .i64 0) a (.string ⟨#[]⟩) (.slice o3 l3.length c3);refine rtv (S5.facts 0 rfl) Tryz.results181 ?_;exact S5.res (.head _) (by simp[HU.out,aB,HS.out,H3.out]<;>rfl) rfl
 | false=>
  have hC:=S1.Af aS hs;have HS:=hdq hs;clear hs;go_upto_region 3 with (go_at_call 135;refine hC.mono ?_;rintro e w2 ⟨rfl,S2⟩);have hA:=mP pb L i w2 S2.ps
  cases hs:dU (lk L) i with
  | true=>
   rw[hs]at hA;have HA:=hdq hs;clear hs hC S1;go_upto_block 4 with (go_at_call 147;refine(S2.aQ (E:=fun e=>e=_) hA).mono ?_;rintro e w3 ⟨rfl,S3⟩);refine(S3.aN (qO pb L i w3 (Nat.zero_le _) S3.ps)).mono ?_;rintro e w4 (⟨x,hr,rfl,hg⟩|⟨t4,j4,k4,n4,a4,s4,o4,m4,c4,hr,rfl,S4⟩)
   ·unfold pan;go_wp2_with fail;exact⟨rfl,aD.err x (by simp[HU.out,aB,doL,HS.out,HA.out,hr]) hg⟩
   have H4:=hdq hr;clear hr;go_upto_region 5 with fail;have S5:=S4.yV (tg k4 n4 a4 s4 o4 m4 c4);generalize World.alloc w4 _=w5 at S5 ⊢;generalize w4.heap.size=B5 at S5 ⊢;go_upto_block 5 with fail;refine(S5.dR sEQ).mono ?_;rintro e w6 (⟨x,hr,rfl,hg⟩|⟨j6,hr,rfl,S6⟩)
   ·unfold pan;go_wp2_with fail;exact⟨rfl,aD.err x (by simp[HU.out,aB,doL,HS.out,HA.out,H4.out,hr]) hg⟩
   have H6:=hdq hr;clear hr;go_upto_region 6 with fail;have S7:=S6.drew;refine wp_region_held_drew (S:=(fun w'=>TV w' B5 k4 n4 a4 s4 (.slice o4 m4 c4))) (by kernel_rfl) (S7.facts 0 rfl) (fun RY=>?_);generalize World.drew w6=w7 at *;refine tkH 0 ?_;refine tkH 1 ?_;refine tkH 3 ?_;refine tkH 5 ?_;refine tkH 7 ?_;refine tkH 9 ?_;refine bA 2 fun Kx RZ=>?_;go_simp;refine(S7.aN (aV pb L j6 _ (Nat.zero_le _) S7.ps)).mono ?_;rintro e w8 (⟨x,hr,rfl,hg⟩|⟨t8,j8,k8,n8,a8,s8,o8,m8,c8,hr,rfl,S8⟩)
   ·unfold pan;exact⟨rfl,aD.err x (by simp[HU.out,aB,doL,HS.out,HA.out,H4.out,H6.out,hr]) hg⟩
   have H8:=hdq hr;clear hr;refine goH RZ (S8.facts 0 rfl) fun RY=>?_;clear RZ Kx;refine bA 4 fun Kx RZ=>?_;go_simp;refine(S8.aN (nQ pb L wTO j8 _ S8.ps)).mono ?_;rintro e w9 (⟨x,hr,rfl,hg⟩|⟨t9,j9,k9,n9,a9,s9,o9,m9,c9,hr,rfl,S9⟩)
   ·unfold pan;exact⟨rfl,aD.err x (by simp[HU.out,aB,doL,HS.out,HA.out,H4.out,H6.out,H8.out,hr]) hg⟩
   have H9:=hdq hr;clear hr;refine goH RZ (S9.facts 0 rfl) fun RY=>?_;clear RZ Kx;refine bA 6 fun Kx RZ=>?_;go_simp;refine(S9.aN (nQ pb L wBY j9 _ S9.ps)).mono ?_;rintro e w10 (⟨x,hr,rfl,hg⟩|⟨t10,j10,k10,n10,a10,s10,o10,m10,c10,hr,rfl,S10⟩)
   ·unfold pan;exact⟨rfl,aD.err x (by simp[HU.out,aB,doL,HS.out,HA.out,H4.out,H6.out,H8.out,H9.out,hr]) hg⟩
   have H10:=hdq hr;clear hr;refine goH RZ (S10.facts 0 rfl) fun RY=>?_;clear RZ Kx;refine bA 8 fun Kx RZ=>?_;go_simp;refine(S10.aN (jJ pb L eM j10 _ S10.ps)).mono ?_;rintro e w11 (⟨x,hr,rfl,hg⟩|⟨t11,j11,k11,n11,a11,s11,o11,m11,c11,hr,rfl,S11⟩)
   ·unfold pan;exact⟨rfl,aD.err x (by simp[HU.out,aB,doL,HS.out,HA.out,H4.out,H6.out,H8.out,H9.out,H10.out,hr]) hg⟩
   have H11:=hdq hr;clear hr;refine goH RZ (S11.facts 0 rfl) fun RY=>?_;clear RZ Kx;refine bA 10 fun Kx RZ=>?_;go_simp;refine(S11.aN (jJ pb L eL j11 _ S11.ps)).mono ?_;rintro e w12 (⟨x,hr,rfl,hg⟩|⟨t12,j12,k12,n12,a12,s12,o12,m12,c12,hr,rfl,S12⟩)
   ·unfold pan;exact⟨rfl,aD.err x (by simp[HU.out,aB,doL,HS.out,HA.out,H4.out,H6.out,H8.out,H9.out,H10.out,H11.out,hr]) hg⟩
   have H12:=hdq hr;clear hr;refine goH RZ (S12.facts 0 rfl) fun RY=>?_;clear RZ Kx;refine bA 11 fun Kx RZ=>?_;have S13:=S12.lit ((aW.two (S12.tr (t4,vT k4 n4 a4 s4 o4 m4 c4) (by simp)) (S12.tr (t8,vT k8 n8 a8 s8 o8 m8 c8) (by simp))).app ((aW.two (S12.tr (t9,vT k9 n9 a9 s9 o9 m9 c9) (by simp)) (S12.tr (t10,vT k10 n10 a10 s10 o10 m10 c10) (by simp))).app (aW.two (S12.tr (t11,vT k11 n11 a11 s11 o11 m11 c11) (by simp)) (S12.tr (t12,vT k12 n12 a12 s12 o12 m12 c12) (by simp))))) #[.int .i64 k4,.int .i64 n4,.int .i64 a4,.string s4,.slice o4 m4 c4,.int .i64 k8,.int .i64 n8,.int .i64 a8,.string s8,.slice o8 m8 c8,.int .i64 k9,.int .i64 n9,.int .i64 a9,.string s9,.slice o9 m9 c9,.int .i64 k10,.int .i64 n10,.int .i64 a10,.string s10,.slice o10 m10 c10,.int .i64 k11,.int .i64 n11,.int .i64 a11,.string s11,.slice o11 m11 c11,.int .i64 k12,.int .i64 n12,.int .i64 a12,.string s12,.slice o12 m12 c12] rfl 40 0 0 e0 6 6 rfl;go_simp;refine goH RZ (S13.facts 0 rfl) fun RY=>?_;clear RZ Kx;refine tkH 12 ?_;refine cW ?_;have h6:=aK (lk L) _ sEQ _ _ H6.out;have h4:=nI (lk L) _ _ _ H4.out;have h8:=bD (lk L) _ _ _ H8.out;have h9:=gO (lk L) _ _ _ _ H9.out;have h10:=gO (lk L) _ _ _ _ H10.out;have h11:=dW (lk L) _ _ _ _ H11.out;have h12:=dW (lk L) _ _ _ _ H12.out;go_upto_block 7 with fail;refine(S13.dR aS).mono ?_;rintro e w14 (⟨x,hr,rfl,hg⟩|⟨j14,hr,rfl,S14⟩)
   ·unfold pan;go_wp2_with fail;exact⟨rfl,aD.err x (by simp[HU.out,aB,doL,HS.out,HA.out,H4.out,H6.out,H8.out,H9.out,H10.out,H11.out,H12.out,hr]) hg⟩
   have H14:=hdq hr;clear hr;have h14:=aK (lk L) _ aS _ _ H14.out;go_upto_block 8 with fail;refine(S14.pL (fR pb L lo stmt hS up lab j14 (by omega) w14 S14.ps)).mono ?_;rintro e w15 (⟨x,hr,rfl,hg⟩|⟨l15,j15,o15,c15,hr,rfl,S15⟩)
   ·unfold pan;go_wp2_with fail;exact⟨rfl,aD.err x (by simp[HU.out,aB,doL,HS.out,HA.out,H4.out,H6.out,H8.out,H9.out,H10.out,H11.out,H12.out,H14.out,hr]) hg⟩
   have H15:=hdq hr;clear hr;go_upto_block 8 with (at_builtin;go_loud (refine pN rfl _ _ rfl S15 (.tail _ (.head _)) (.head _) (by decide) (by have:=dY up H15.out;have:=S15.ps.le;omega) 19 0 a e0 (by decide) rfl rfl (fun ao16 c16 w16 S16=>?_)));refine m2q (S16.dI 19 a) fun w17 S17=>?_;have:=TV.facts (S17.facts 1 rfl);go_wp2_with fail;have S18:=S17.bN 1 rfl (.int .i64 19) (.int .i64 0) a (.string ⟨#[]⟩) (.slice ao16 (6+l15.length) c16);refine rtv (S18.facts 1 rfl) Tryz.results181 ?_;exact S18.res (.head _) (by simp[HU.out,aB,doL,HS.out,HA.out,H4.out,H6.out,H8.out,H9.out,H10.out,H11.out,H12.out,H14.out,H15.out]<;>rfl) rfl
  | false=>
   rw[hs]at hA;have HA:=hdq hs;clear hs hC S1
   cases hs:wrd (lk L) i [eM,eL] with
   | false=>
    have HW:=hdq hs;go_upto_region 9 with (go_at_call 147;refine(S2.aQ (E:=fun e=>e=_) hA).mono ?_;rintro e w3 ⟨rfl,S3⟩);have hC:=S3.uC [eM,eL] (by simp) #[.string ⟨#[87,72,73,76,69]⟩,.string ⟨#[85,78,84,73,76]⟩] rfl 2 rfl false hs;clear hs;go_upto_block 10 with (go_at_call 155;refine hC.mono ?_;rintro e w4 ⟨rfl,S4⟩);refine S4.sX.mono ?_;rintro e wf ⟨rfl,hg⟩;unfold pan;go_wp2_with fail;exact⟨rfl,aD.err _ (by simp[HU.out,aB,doW,HS.out,HA.out,HW.out]) hg⟩
   | true=>
    have HW:=hdq hs;go_upto_region 9 with (go_at_call 147;refine(S2.aQ (E:=fun e=>e=_) hA).mono ?_;rintro e w3 ⟨rfl,S3⟩);have hC:=S3.uC [eM,eL] (by simp) #[.string ⟨#[87,72,73,76,69]⟩,.string ⟨#[85,78,84,73,76]⟩] rfl 2 rfl true hs;clear hs;go_upto_block 11 with (go_at_call 155;refine hC.mono ?_;rintro e w4 ⟨rfl,S4⟩);refine(S4.aN (jJ pb L eM i w4 S4.ps)).mono ?_;rintro e w5 (⟨x,hr,rfl,hg⟩|⟨t5,j5,k5,n5,a5,s5,o5,m5,c5,hr,rfl,S5⟩)
    ·unfold pan;go_wp2_with fail;exact⟨rfl,aD.err x (by simp[HU.out,aB,doW,HS.out,HA.out,HW.out,hr]) hg⟩
    have H5:=hdq hr;clear hr;go_upto_block 11 with fail;refine(S5.aN (jJ pb L eL j5 w5 S5.ps)).mono ?_;rintro e w6 (⟨x,hr,rfl,hg⟩|⟨t6,j6,k6,n6,a6,s6,o6,m6,c6,hr,rfl,S6⟩)
    ·unfold pan;go_wp2_with fail;exact⟨rfl,aD.err x (by simp[HU.out,aB,doW,HS.out,HA.out,HW.out,H5.out,hr]) hg⟩
    have H6:=hdq hr;clear hr;have S7:=S6.lit (aW.two (S6.tr _ (.tail _ (.head _))) (S6.tr _ (.head _))) #[.int .i64 k5,.int .i64 n5,.int .i64 a5,.string s5,.slice o5 m5 c5,.int .i64 k6,.int .i64 n6,.int .i64 a6,.string s6,.slice o6 m6 c6] rfl 40 0 0 e0 2 2 rfl;go_upto_block 12 with fail;refine(S7.dR aS).mono ?_;rintro e w8 (⟨x,hr,rfl,hg⟩|⟨j8,hr,rfl,S8⟩)
    ·unfold pan;go_wp2_with fail;exact⟨rfl,aD.err x (by simp[HU.out,aB,doW,HS.out,HA.out,HW.out,H5.out,H6.out,hr]) hg⟩
    have H8:=hdq hr;clear hr;have h5:=dW (lk L) _ _ _ _ H5.out;have h6:=dW (lk L) _ _ _ _ H6.out;have h8:=aK (lk L) _ aS _ _ H8.out;go_upto_block 13 with fail;refine(S8.pL (fR pb L lo stmt hS up lab j8 (by omega) w8 S8.ps)).mono ?_;rintro e w15 (⟨x,hr,rfl,hg⟩|⟨l15,j15,o15,c15,hr,rfl,S15⟩)
    ·unfold pan;go_wp2_with fail;exact⟨rfl,aD.err x (by simp[HU.out,aB,doW,HS.out,HA.out,HW.out,H5.out,H6.out,H8.out,hr]) hg⟩
    have H15:=hdq hr;clear hr;go_upto_block 13 with (at_builtin;go_loud (refine pN rfl _ _ rfl S15 (.tail _ (.head _)) (.head _) (by decide) (by have:=dY up H15.out;have:=S15.ps.le;omega) 18 0 a e0 (by decide) rfl rfl (fun ao16 c16 w16 S16=>?_)));refine m2q (S16.dI 18 a) fun w17 S17=>?_;have:=TV.facts (S17.facts 0 rfl);go_wp2_with fail;have S18:=S17.bN 0 rfl (.int .i64 18) (.int .i64 0) a (.string ⟨#[]⟩) (.slice ao16 (2+l15.length) c16);refine rtv (S18.facts 0 rfl) Tryz.results181 ?_;exact S18.res (.head _) (by simp[HU.out,aB,doW,HS.out,HA.out,HW.out,H5.out,H6.out,H8.out,H15.out]<;>rfl) rfl
def kwM: List (ByteArray×Value):=[(aE,.func (.func 179) #[] #[]),(pT,.func (.func 179) #[] #[]),(qM,.func (.func 180) #[] #[]),(wDO,.func (.func 181) #[] #[]),(fY,.func (.func 182) #[] #[]),(wIF,.func (.func 183) #[] #[]),(Al,.func (.func 184) #[] #[]),(fZ,.func (.func 185) #[] #[]),(wGO,.func (.func 186) #[] #[]),(Ou,.func (.func 187) #[] #[]),(mS,.func (.func 188) #[] #[]),(gG,.func (.func 189) #[] #[]),(AW,.func (.func 190) #[] #[]),(wON,.func (.func 191) #[] #[]),(mK,.func (.func 192) #[] #[]),(lQ,.func (.func 193) #[] #[]),(iB,.func (.func 194) #[] #[]),(BB,.func (.func 194) #[] #[]),(Ab,.func (.func 195) #[] #[]),(Hw,.func (.func 196) #[] #[]),(JZ,.func (.func 197) #[] #[]),(Ai,.func (.func 198) #[] #[]),(sB,.func (.func 199) #[] #[]),(jD,.func (.func 200) #[] #[]),(mM,.func (.func 201) #[] #[]),(fI,.func (.func 202) #[] #[]),(Ki,.func (.func 202) #[] #[])]
theorem Eg: Tryz.prog.underlying 187=some (.map 9 186):=by kernel_rfl
theorem QM(W:World):(zeroValue 186).run Tryz.prog W=.ok .nilFunc W:=by kernel_rfl
theorem tW(w:World):Calls Tryz.prog 163 #[] w fun e w'=>e=.returned (.map (some w.heap.size))∧EP w' w.heap.size kwM∧Below w.heap.size w w':=by
 have hmm:=@run_makeMap Tryz.prog;have h0:JN w (w.alloc (.map #[] 0)) w.heap.size []:=⟨EP.new w,(Below.refl _ _).alloc (Nat.le_refl _) _⟩
 go_enter Tryz.func163,Tryz.ntmps163;go_wp2_with (refine jN w _ rfl _ _ _ _ rfl _ _ Eg zP w.heap.size _ rfl (by assumption) _ _ rfl rfl (by kernel_rfl) ?_;clear h0;intro w' h0);go_ret;exact⟨rfl,(fun ks (e:ks=kwM) (h:EP w' w.heap.size ks)=>e ▸ h) _ (by kernel_rfl) h0.1,h0.2⟩
theorem BS(w:World)(b:Nat)(h:EP w b kwM)(s:ByteArray):(Instr.lookup 187 (.map (some b)) (.string s) false).run Tryz.prog w=.ok ((cY s kwM).getD .nilFunc) w:=
 nH (P:=Tryz.prog) w 187 9 186 Eg zP .nilFunc QM b kwM h s
end
end Go.Proofs.YtfdlmcgcckkkdaaGreatDoor
