/- ParseWhole, part 44: what it stands on. -/
import Derived.Test.YtfdlmcgcckkkdaaGreatDoorV31
import Derived.Test.YtfdlmcgcckkkdaaGreatDoorV43
import Derived.Test.YtfdlmcgcckkkdaaGreatDoorV30
import Derived.Test.YtfdlmcgcckkkdaaGreatDoorV11
import Derived.Test.YtfdlmcgcckkkdaaGreatDoorV12
import Derived.Test.YtfdlmcgcckkkdaaGreatDoorV09
set_option linter.all false
set_option maxHeartbeats 40000000
set_option maxRecDepth 100000
namespace Go.Proofs.YtfdlmcgcckkkdaaGreatDoor
section
open Go.RowKit Lx Px
def K3(L:List Tk):List T3:=L.map fun k=>⟨k.kind,k.text,0⟩
theorem Cl(L:List Tk):(K3 L).length=L.length:=List.length_map _
theorem MO(L:List Tk):lk (K3 L)=L:=by
 induction L with
 | nil=>rfl
 | cons t r ih=>exact congrArg (List.cons t) ih
theorem Km(L:List Tk):rM (K3 L)=kI L:=by
 induction L with
 | nil=>rfl
 | cons t r ih=>exact congrArg (fun x=>tkv t++x) ih
theorem Ir{w:World}{B:Nat}{v:Value}{L:List Tk}(h:w.ownsRow B 43 3 v L.length (kI L)):cK w v (K3 L):=
 cK.Bu (B:=B) (by rw[Cl,Km];exact h)
theorem Ph(L:List Tk):(K3 L).any Hl = !gdL L:=by
 unfold gdL
 induction L with
 | nil=>rfl
 | cons t r ih=>
  show (Hl _||(K3 r).any Hl)=_
  rw[ih,List.all_cons]
  show (!bX t.kind t.text||_)=_
  cases bX t.kind t.text<;>rfl
theorem Lr{L:List Tk}(h:gdL L=true):iC (K3 L):=fun t ht=>by
 obtain⟨x,hx,rfl⟩:=List.mem_map.1 ht;exact(NJ L).1 h x hx
theorem MS{L:List Tk}(h:Tx L):∀ t,t∈K3 L→t.text.size≤140737488351232:=fun t ht=>by
 obtain⟨x,hx,rfl⟩:=List.mem_map.1 ht;have:=h x hx;unfold big at this;exact Nat.le_trans this (by decide)
theorem Tr.low{wB w:World}{t:T}{us:List Value}(h:Tr wB t us)(b:Below wB.heap.size wB w):Tr w t us:=
 TrC.kept (fun _ _ _=>trivial) b.size (fun k _ hk=>b.block k hk) h
theorem wX: ∀ args w,(callFunc 53 args).run Tryz.prog w=.ok (.enter 53 args) w:=
 enters_of Tryz.func53 (by decide) rfl
def rdP: Nat→List Tk→Nat→R T
 | 0=>bM
 | _=>qJ
def rdK: Nat→FuncId
 | 0=>52
 | _=>53
theorem ER: ∀ (q:Nat) args w,(callFunc (rdK q) args).run Tryz.prog w=.ok (.enter (rdK q) args) w
 | 0=>kH
 | _+1=>wX
theorem PC(q:Nat)(L:List Tk)(hX:iC (K3 L)):∀ pb w,PS w pb (K3 L) 0→Calls Tryz.prog (rdK q) #[pq pb] w (aD pb (K3 L) w (rdP q L 0)):=fun pb w h=>by
 cases q with
 | zero=>have:=aV pb (K3 L) 0 w (Nat.zero_le _) h;rw[MO]at this;exact this
 | succ q=>have:=uO pb (K3 L) hX 0 w (Nat.zero_le _) h;rw[MO]at this;exact this
theorem OY(t:T)(h1:lH t=true)(h2:gdL (prO false t)=true):chk t=(okR (rdP 0) (prO false t) t||okR (rdP 1) (prO false t) t):=by
 unfold chk;rw[h1,show gdL (prT t)=true from h2,Bool.true_and,Bool.true_and];rfl
theorem Qn(t:T)(h1:lH t=false):chk t=false:=by unfold chk;rw[h1];rfl
theorem QY(t:T)(h2:gdL (prO false t)=false):chk t=false:=by unfold chk;rw[show gdL (prT t)=false from h2,Bool.false_and,Bool.and_false]
def Db(t:T):Int:=if chk t=true then 0 else 71
theorem jG(w:World)(hTab:eJ w)(t:T)(ho:okT t)(hwd:wdT t)(k n a:Int)(s:ByteArray)(ao:Option Addr)(m c:Nat)(ht:Tr w t (vT k n a s ao m c)):Calls Tryz.prog 14 #[tg k n a s ao m c] w fun e w'=>e=.returned (.int .i64 (Db t))∧Below w.heap.size w w':=by
 have b1:=aC w (.cells (tg k n a s ao m c) 24);have t1:=TV.new w k n a s (.slice ao m c);go_enter Tryz.func14,Tryz.ntmps14;go_upto_region 1 with fail;generalize World.alloc w _=w1 at b1 t1 ⊢;have hS:=Hx w1 t k n a s ao m c (ht.low b1);have:=TV.facts t1
 cases hsm:lH t with
 | false=>
  rw[hsm]at hS;have HE:=hdq (show Db t=71 by unfold Db;rw[Qn t hsm];rfl);clear hsm ht ho hwd;go_wp2_with (go_at_call 49;refine hS.mono ?_;rintro e w2 ⟨rfl,b2⟩);go_ret;exact⟨by rw[HE.out];rfl,b1.trans (b2.mono b1.size)⟩
 | true=>
  rw[hsm]at hS;have hsz:nodes t≤4000:=by unfold lH at hsm;rw[Bool.and_eq_true,decide_eq_true_eq]at hsm;exact hsm.1
  have hlen:(prO false t).length≤192000:=by have:=MF false t;omega
  go_upto_region 3 with (go_at_call 49;refine hS.mono ?_;rintro e w2 ⟨rfl,b2⟩);have t2:=t1.below b2;have B2:=b1.trans (b2.mono b1.size);have hTk:=yJ w2 (hTab.below B2) t ho k n a s ao m c (ht.low B2) (by unfold dK;omega);clear b1 b2 t1 hS;have:=TV.facts t2;go_upto_region 4 with (go_at_call 50;refine hTk.mono ?_;rintro e w3 ⟨v,rfl,hown,b3⟩);have hrow:=Ir hown;have t3:=t2.below b3;have B3:=B2.trans (b3.mono B2.size);clear hTk hown B2 t2 b3;have hC:=DK 51 QK Hl v (K3 (prO false t)) (fun x hx w=>NU x (MS (MB false hwd) x hx) w) w3 hrow (by rw[Cl];omega);rw[Ph]at hC
  cases hgd:gdL (prO false t) with
  | false=>
   rw[hgd]at hC;have HE:=hdq (show Db t=71 by unfold Db;rw[QY t hgd];rfl);clear hgd hsm ht ho hwd hrow t3 hlen hsz;go_wp2_with (go_at_call 47;refine hC.mono ?_;rintro e w4 ⟨rfl,b4⟩);go_ret;exact⟨by rw[HE.out];rfl,B3.trans (b4.mono B3.size)⟩
  | true=>
   rw[hgd]at hC;have hE:chk t=(okR (rdP 0) (prO false t) t||okR (rdP 1) (prO false t) t):=OY t hsm hgd;have HE:=hdq hE;have HX:=hdq (Lr hgd);have HT:=hdq ht;have HL:=hdq hlen;have HSZ:=hdq hsz;clear hE hgd hsm ht ho hwd hlen hsz;go_upto_region 6 with (go_at_call 47;refine hC.mono ?_;rintro e w4 ⟨rfl,b4⟩);have hrow4:=hrow.below b4 (Nat.le_refl _);have t4:=t3.below b4;have B4:=B3.trans (b4.mono B3.size);clear hC hrow t3 b4 B3;have n5:=heap_alloc_new w4 (.cells #[.func (.func 52) #[] #[],.func (.func 53) #[] #[]] 84);have b5:=aC w4 (.cells #[.func (.func 52) #[] #[],.func (.func 53) #[] #[]] 84);go_wp2_with fail;generalize World.alloc w4 _=w5 at n5 b5 ⊢;have hrow5:=hrow4.below b5 (Nat.le_refl _);have t5:=t4.below b5;have B5:=B4.trans (b5.mono B4.size);have l5:w4.heap.size<w5.heap.size:=fP n5;have hB4:=B4.size;clear hrow4 t4 b5 B4;have HR:=hdq hrow5;have HT5:=hdq t5;have HN5:=hdq n5;have hfm:=hrow5;obtain⟨vao,vcap,rfl,-⟩:=hfm;clear hrow5 t5 n5
   go_loopg [18] 2 (fun g tt wr=>∃ q:Nat,tt=.int .i64 q∧q≤2∧g=2 - q∧Below w5.heap.size w5 wr∧Aside (∀ j,j<q→okR (rdP j) (prO false t) t=false))
   case atStart=>exact⟨0,rfl,Nat.zero_le _,rfl,Below.refl _ _,fun j h=>absurd h (Nat.not_lt_zero _)⟩
   case round=>
    obtain⟨q,rfl,hq,hg,hB,A⟩:=hrel;have HG:=hdq hg;clear hg
    by_cases hlt:q<2
    ·have x1:(q:Int)<2:=by omega
     have hcell:wr.cell? ⟨w4.heap.size,q,none⟩=some (.func (.func (rdK q)) #[] #[]):=by
      rw[hB.cell (p:=⟨w4.heap.size,q,none⟩) l5,cell_of_row w5 w4.heap.size q _ _ _ HN5.out]
      match q,hlt with
      | 0,_=>rfl
      | 1,_=>rfl
     have hrowr:=HR.out.below hB (Nat.le_refl _);have hall:=Ik (rdK q) (ER q) (K3 (prO false t)) (rdP q (prO false t)) (PC q _ HX.out) _ wr hrowr (by rw[Cl];have:=HL.out;omega);rw[MO]at hall;have hK:=ER q;have hrd:okR (rdP q) (prO false t) t=(match Bb (prO false t) (rdP q (prO false t))with | .ok t'=>fU t' t | .error _=>false):=rfl
     cases hr:Bb (prO false t) (rdP q (prO false t)) with
     | error x=>
      rw[hr]at hall hrd;have HRD:=hdq hrd;clear hr hrd hrowr;go_upto_region 9 with fail;clear hcell;go_upto_region 10 with (go_at_call 54;refine hall.mono ?_;rintro e w6 ⟨b6,rfl⟩);have b7:=aC w6 (.cells z5q 24);generalize World.alloc w6 _=w7 at b7 ⊢;go_wp2_with fail
      go_roundg (2 - (q+1))
      case measure=>rw[HG.out];omega
      case rel => exact ⟨q + 1, by go_num, hlt, rfl, hB.trans ((b6.trans (b7.mono b6.size)).mono hB.size), fun j hj => by
        by_cases e : j = q
        · rw [e]; exact HRD.out
        · exact A.out j (by omega)⟩
     | ok t'=>
      rw[hr]at hall hrd;have HRD:=hdq hrd;clear hr hrd hrowr;go_upto_region 9 with fail;clear hcell;go_upto_region 10 with (go_at_call 54;refine hall.mono ?_;rintro e w6 ⟨b6,k1,n1,a1,s1,o1,m1,c1,rfl,htr⟩);have b7:=aC w6 (.cells (tg k1 n1 a1 s1 o1 m1 c1) 24);have t7:=TV.new w6 k1 n1 a1 s1 (.slice o1 m1 c1);generalize World.alloc w6 _=w7 at b7 t7 ⊢;have hB7:=hB.trans ((b6.trans (b7.mono b6.size)).mono hB.size);have B7:=B5.trans (hB7.mono B5.size);have t8:=HT5.out.below hB7;have hT1:Tr w6 t' (vT k1 n1 a1 s1 o1 m1 c1):=htr.kept (fun _ _ _=>trivial) (Nat.le_refl _) (fun _ _ _=>rfl);have hS:=uS w7 _ t' (Nat.le_refl _) t (by have:=HSZ.out;omega) w7 (Below.refl _ _) k1 n1 a1 s1 o1 m1 c1 k n a s ao m c (hT1.low b7) (HT.out.low B7);clear htr hT1 hall;have:=TV.facts t7;have:=TV.facts t8
      cases hsm:fU t' t with
      | true=>
       rw[hsm]at hS
       have HE2 := hdq (show Db t = 0 by
         have h1 : okR (rdP q) (prO false t) t = true := HRD.out.trans hsm
         unfold Db
         rw [HE.out]
         match q, hlt with
         | 0, _ => rw [h1]; rfl
         | 1, _ => rw [h1, Bool.or_true]; rfl)
       clear hsm;go_wp2_with (go_at_call 16;refine hS.mono ?_;rintro e w8 ⟨rfl,b8⟩);go_ret;exact⟨by rw[HE2.out];rfl,B7.trans (b8.mono B7.size)⟩
      | false=>
       rw[hsm]at hS;have HN:=hdq (show okR (rdP q) (prO false t) t=false from HRD.out.trans hsm);clear hsm;go_wp2_with (go_at_call 16;refine hS.mono ?_;rintro e w8 ⟨rfl,b8⟩)
       go_roundg (2 - (q+1))
       case measure=>rw[HG.out];omega
       case rel => exact ⟨q + 1, by go_num, hlt, rfl, hB7.trans (b8.mono hB7.size), fun j hj => by
         by_cases e : j = q
         · rw [e]; exact HN.out
         · exact A.out j (by omega)⟩
    ·have x1:¬ (q:Int)<2:=by omega
     have hq2:q=2:=by omega
     subst hq2;have HE2:=hdq (show Db t=71 by unfold Db;rw[HE.out,A.out 0 (by decide),A.out 1 (by decide)];rfl);go_wp2_with fail;go_ret;exact⟨by rw[HE2.out];rfl,B5.trans (hB.mono B5.size)⟩
theorem NP: ∀ args w,(callFunc 94 args).run Tryz.prog w=.ok (.enter 94 args) w:=
 enters_of Tryz.func94 (by decide) rfl
theorem JR(t:T3)(ht:t.text.size≤140737488351232)(w:World):Calls Tryz.prog 94 #[SU t] w fun e w'=>e=.returned (.bool (Hl t))∧Below w.heap.size w w':=by
 obtain⟨k,t,a⟩:=t;unfold SU Hl;have hc:=fun w=>nG k t a ht w
 have n1:=heap_alloc_new w (.cells #[.int .i64 k,.string t,.int .i64 a] 43);have b1:=aC w (.cells #[.int .i64 k,.string t,.int .i64 a] 43);go_enter Tryz.func94,Tryz.ntmps94;go_upto_region 1 with fail;generalize World.alloc w _=w1 at b1 n1 ⊢;have c0:w1.cell? ⟨w.heap.size,0,none⟩=some (.int .i64 k):=cell_of_row w1 _ 0 _ _ _ n1;have c1:w1.cell? ⟨w.heap.size,1,none⟩=some (.string t):=cell_of_row w1 _ 1 _ _ _ n1;have c2:w1.cell? ⟨w.heap.size,2,none⟩=some (.int .i64 a):=cell_of_row w1 _ 2 _ _ _ n1
 cases hq:bX k t with
 | true=>
  rw[hq]at hc;have HQ:=hdq hq;clear hq;go_wp2_with (go_at_call 23;refine(hc _).mono ?_;rintro e w2 ⟨rfl,hb⟩;unfold qB);go_ret;exact⟨by rw[HQ.out];rfl,b1.trans (hb.mono b1.size)⟩
 | false=>
  rw[hq]at hc;have HQ:=hdq hq;clear hq;go_wp2_with (go_at_call 23;refine(hc _).mono ?_;rintro e w2 ⟨rfl,hb⟩;unfold qB);go_ret;exact⟨by rw[HQ.out];rfl,b1.trans (hb.mono b1.size)⟩
theorem BI: ∀ (ts:List T3) (i:Nat),Kh Hl ts i=match jY (lk ts) i with|some j=>(j:Int)|none => -1:=by
 intro ts
 induction ts with
 | nil=>intro i;rfl
 | cons t r ih=>
  intro i;rw[rT]
  show _=match (if bX t.kind t.text=true then jY (lk r) (i+1)else some i) with|some j=>(j:Int)|none => -1
  unfold Hl
  cases h:bX t.kind t.text with
  | true=>rw[if_neg (by decide),if_pos rfl];exact ih (i+1)
  | false=>rw[if_pos (by decide),if_neg (by decide)]
def TQ(w:World)(r:T×Int×Int)(e:Ending)(w':World):Prop:=Below w.heap.size w w'∧∃ k n a s ao m c,e=.returned (.tuple #[tg k n a s ao m c,.int .i64 r.2.1,.int .i64 r.2.2])∧TrC (Fr w) w' r.1 (vT k n a s ao m c)
theorem TQ.mk{w:World}{r:T×Int×Int}{w':World}{t:T}{x y:Int}(h:r=(t,x,y))(b:Below w.heap.size w w'){k n a:Int}{s:ByteArray}{ao:Option Addr}{m c:Nat}(ht:TrC (Fr w) w' t (vT k n a s ao m c)):TQ w r (.returned (.tuple #[tg k n a s ao m c,.int .i64 x,.int .i64 y])) w':=by
 subst h;exact⟨b,k,n,a,s,ao,m,c,rfl,ht⟩
theorem dL{P:Program}{fn:Func}{R:Ending→World→Prop}{a:Act}{w:World}{b:Nat}{x y z u v:Value}(val:Value)(t:TV w b x y z u v)(hr:w.cell? ⟨b,0,none⟩=some x→w.cell? ⟨b,1,none⟩=some y→w.cell? ⟨b,2,none⟩=some z→w.cell? ⟨b,3,none⟩=some u→w.cell? ⟨b,4,none⟩=some v→(results fn a.tmps).run P w=.ok val w)(hd:a.defers=[])(hR:R (.returned val) w):bodyPost P fn R .ret a w:=
 bodyPost_ret (hr t.facts.1 t.facts.2.1 t.facts.2.2.1 t.facts.2.2.2.1 t.facts.2.2.2.2.1) hd hR
theorem TrC.xO{av:Nat→Prop}{w:World}{t:T}{us:List Value}(h:TrC av w t us)(B:Nat)(hB:∀ b,av b→b≠B)(x y z u v:Value):TrC av (((((w.setCell ⟨B,0,none⟩ x).setCell ⟨B,1,none⟩ y).setCell ⟨B,2,none⟩ z).setCell ⟨B,3,none⟩ u).setCell ⟨B,4,none⟩ v) t us:=
 h.kept (fun _ hb _=>hb) (by simp[World.setCell]) (fun b hb _=>nV (fun e=>hB b hb e.symm) _ _ _ _ _ _)
theorem AZ (K : FuncId) (hK : ∀ args w, (callFunc K args).run Tryz.prog w = .ok (.enter K args) w) (L : List T3) (read : List Tk → Nat → R T) (hR : iC L → ∀ pb w, PS w pb L 0 → Calls Tryz.prog K #[pq pb] w (aD pb L w (read (lk L) 0))) (hN : L.length ≤ 5000 → ∀ t, Bb (lk L) (read (lk L)) = .ok t → nodes t ≤ 1000000000) (hs : ∀ t, t ∈ L → t.text.size ≤ 140737488351232) (v : Value) (w : World) (hT : cK w v L) (hl : L.length ≤ 9223372036854775807) : Calls Tryz.prog 58 #[v, .func (.func K) #[] #[]] w (TQ w (jS read (lk L))) := by
  have hlen : (lk L).length = L.length := List.length_map _
  have hfm := hT
  obtain ⟨vao, vcap, rfl, -⟩ := hfm
  have HT := hdq hT
  clear hT
  have b1 := aC w (.cells zT 24)
  have t1 := TV.new w (.int .i64 0) (.int .i64 0) (.int .i64 0) (.string ⟨#[]⟩) (.slice none 0 0)
  by_cases h5 : 5000 < L.length
  · have h5' : (5000 : Int) < (L.length : Int) := by omega
    have HU := hdq (show jS read (lk L) = (gI, 0, 2) by unfold jS; rw [if_pos (by rw [hlen]; exact h5)])
    clear hN hR
    go_enter Tryz.func58, Tryz.ntmps58
    go_upto_region 1 with fail
    unfold zT at b1
    generalize World.alloc w _ = w1 at b1 t1 ⊢
    have := TV.facts t1
    go_wp2_with fail
    refine dL (.tuple #[tg 0 0 0 ⟨#[]⟩ none 0 0, .int .i64 0, .int .i64 2]) (t1.set _ _ _ _ _) (fun q0 q1 q2 q3 q4 => by simp [results, Tryz.results58, go_sem, q0, q1, q2, q3, q4]) rfl ?_
    exact TQ.mk HU.out (bO b1 (Nat.le_refl _) _ _ _ _ _) (TrC.leaf _ _ _ _ _ _ _)
  · have h5' : ¬ (5000 : Int) < (L.length : Int) := by omega
    have hUU : jS read (lk L) = match jY (lk L) 0 with
        | some i => (gI, i, 50)
        | none => match Bb (lk L) (read (lk L)) with
          | .error a => (gI, a, 70)
          | .ok t => if 4000 < nodes t ∨ 60 < depth t then (gI, 0, 2) else (t, 0, 0) := by
      conv => lhs; unfold jS
      rw [if_neg (by rw [hlen]; exact h5)]
      rfl
    have hI := fun w1 (h : cK w1 (.slice vao L.length vcap) L) => tH 94 NP Hl _ L (fun x hx w => JR x (hs x hx) w) w1 h hl
    rw [BI] at hI
    cases hf : jY (lk L) 0 with
    | some i =>
      rw [hf] at hI hUU
      have HU := hdq hUU
      clear hf hUU hN hR
      go_enter Tryz.func58, Tryz.ntmps58
      go_upto_region 1 with fail
      unfold zT at b1
      generalize World.alloc w _ = w1 at b1 t1 ⊢
      have h1 := hI w1 (HT.out.below b1 (Nat.le_refl _))
      clear hI
      have hi0 : (i : Int) ≥ 0 := by omega
      go_upto_region 5 with (go_at_call 78; refine h1.mono ?_; rintro e w2 ⟨rfl, b2⟩)
      have t2 := t1.below b2
      have B2 := b1.trans (b2.mono b1.size)
      clear t1 h1
      have := TV.facts t2
      go_wp2_with fail
      refine dL (.tuple #[tg 0 0 0 ⟨#[]⟩ none 0 0, .int .i64 i, .int .i64 50]) (t2.set _ _ _ _ _) (fun q0 q1 q2 q3 q4 => by simp [results, Tryz.results58, go_sem, q0, q1, q2, q3, q4]) rfl ?_
      exact TQ.mk HU.out (bO B2 (Nat.le_refl _) _ _ _ _ _) (TrC.leaf _ _ _ _ _ _ _)
    | none =>
      rw [hf] at hI hUU
      have hX : iC L := fun t ht => (At (lk L) 0).1 hf t.tk (List.mem_map_of_mem ht)
      have hall := fun w1 (h : cK w1 (.slice vao L.length vcap) L) => Ik K hK L (read (lk L)) (hR hX) _ w1 h (by omega)
      clear hR hf
      go_enter Tryz.func58, Tryz.ntmps58
      go_upto_region 1 with fail
      unfold zT at b1
      generalize World.alloc w _ = w1 at b1 t1 ⊢
      have h1 := hI w1 (HT.out.below b1 (Nat.le_refl _))
      have HALL := hdq hall
      clear hI hall
      have hneg : ¬ (-1 : Int) ≥ 0 := by omega
      cases hr : Bb (lk L) (read (lk L)) with
      | error x =>
        rw [hr] at hUU HALL
        have HU := hdq hUU
        clear hUU hN hr
        go_upto_region 6 with (go_at_call 78; refine h1.mono ?_; rintro e w2 ⟨rfl, b2⟩)
        have t2 := t1.below b2
        have B2 := b1.trans (b2.mono b1.size)
        have h3 := HALL.out w2 (HT.out.below B2 (Nat.le_refl _))
        clear t1 h1 HALL b1 b2
        go_upto_region 7 with (go_at_call 54; refine h3.mono ?_; rintro e w3 ⟨b3, rfl⟩)
        have b4 := aC w3 (.cells z5q 24)
        generalize World.alloc w3 _ = w4 at b4 ⊢
        have b34 := b3.trans (b4.mono b3.size)
        have t4 := t2.below b34
        have B4 := B2.trans (b34.mono B2.size)
        clear h3 t2 b34 b3 b4 B2
        have := TV.facts t4
        go_wp2_with fail
        refine dL (.tuple #[tg 0 0 0 ⟨#[]⟩ none 0 0, .int .i64 x, .int .i64 70]) (t4.set _ _ _ _ _) (fun q0 q1 q2 q3 q4 => by simp [results, Tryz.results58, go_sem, q0, q1, q2, q3, q4]) rfl ?_
        exact TQ.mk HU.out (bO B4 (Nat.le_refl _) _ _ _ _ _) (TrC.leaf _ _ _ _ _ _ _)
      | ok t =>
        rw [hr] at hUU HALL
        have hnt := hN (by omega) t hr
        have HU := hdq hUU
        clear hUU hN hr
        go_upto_region 6 with (go_at_call 78; refine h1.mono ?_; rintro e w2 ⟨rfl, b2⟩)
        have t2 := t1.below b2
        have B2 := b1.trans (b2.mono b1.size)
        have h3 := HALL.out w2 (HT.out.below B2 (Nat.le_refl _))
        have hlt2 : w.heap.size < w2.heap.size := t2.lt
        clear t1 h1 HALL b1 b2
        go_upto_region 7 with (go_at_call 54; refine h3.mono ?_; rintro e w3 ⟨b3, k1, n1, a1, s1, o1, m1, c1, rfl, htr⟩)
        have b4 := aC w3 (.cells (tg k1 n1 a1 s1 o1 m1 c1) 24)
        have t4 := TV.new w3 k1 n1 a1 s1 (.slice o1 m1 c1)
        have htr4 : TrC (Fr w2) (w3.alloc (.cells (tg k1 n1 a1 s1 o1 m1 c1) 24)) t (vT k1 n1 a1 s1 o1 m1 c1) := htr.kept (fun _ h _ => h) b4.size (fun k _ hk => b4.block k hk)
        generalize World.alloc w3 _ = w4 at b4 t4 htr4 ⊢
        have b34 := b3.trans (b4.mono b3.size)
        have tr4 := t2.below b34
        have B4 := B2.trans (b34.mono B2.size)
        have hT4 : Tr w4 t (vT k1 n1 a1 s1 o1 m1 c1) := htr4.kept (fun _ _ _ => trivial) (Nat.le_refl _) (fun _ _ _ => rfl)
        have hSz := Er w4 _ t (Nat.le_refl _) hnt w4 (Below.refl _ _) k1 n1 a1 s1 o1 m1 c1 hT4
        have hB2 := B2.size
        clear h3 htr t2 hT4 b34
        have := TV.facts t4
        go_upto_region 10 with (go_at_call 45; refine hSz.mono ?_; rintro e w5 ⟨rfl, b5⟩)
        have t5 := t4.below b5
        have tr5 := tr4.below b5
        have B5 := B4.trans (b5.mono B4.size)
        have htr5 := htr4.kept (av' := Fr w2) (fun _ h _ => h) b5.size (fun k _ hk => b5.block k hk)
        have hdn := pW _ t (Nat.le_refl _)
        clear hSz tr4 t4 htr4 b4 b5 B4
        have := TV.facts t5
        have := TV.facts tr5
        by_cases hb1 : 4000 < nodes t
        · have y1 : (4000 : Int) < (nodes t : Int) := by omega
          have HU2 := hdq (HU.out.trans (if_pos (.inl hb1)))
          clear HU hb1 htr5
          go_wp2_with fail
          refine dL (.tuple #[tg 0 0 0 ⟨#[]⟩ none 0 0, .int .i64 0, .int .i64 2]) (tr5.set _ _ _ _ _) (fun q0 q1 q2 q3 q4 => by simp [results, Tryz.results58, go_sem, q0, q1, q2, q3, q4]) rfl ?_
          exact TQ.mk HU2.out (bO B5 (Nat.le_refl _) _ _ _ _ _) (TrC.leaf _ _ _ _ _ _ _)
        · have y1 : ¬ (4000 : Int) < (nodes t : Int) := by omega
          by_cases hb2 : 60 < depth t
          · have y2 : (60 : Int) < (depth t : Int) := by omega
            have HU2 := hdq (HU.out.trans (if_pos (.inr hb2)))
            clear HU hb1 hb2 htr5
            go_wp2_with fail
            refine dL (.tuple #[tg 0 0 0 ⟨#[]⟩ none 0 0, .int .i64 0, .int .i64 2]) (tr5.set _ _ _ _ _) (fun q0 q1 q2 q3 q4 => by simp [results, Tryz.results58, go_sem, q0, q1, q2, q3, q4]) rfl ?_
            exact TQ.mk HU2.out (bO B5 (Nat.le_refl _) _ _ _ _ _) (TrC.leaf _ _ _ _ _ _ _)
          · have y2 : ¬ (60 : Int) < (depth t : Int) := by omega
            have HU2 := hdq (HU.out.trans (if_neg (fun h => h.elim hb1 hb2)))
            clear HU hb1 hb2
            go_wp2_with fail
            refine dL (.tuple #[tg k1 n1 a1 s1 o1 m1 c1, .int .i64 0, .int .i64 0]) (tr5.set _ _ _ _ _) (fun q0 q1 q2 q3 q4 => by simp [results, Tryz.results58, go_sem, q0, q1, q2, q3, q4]) rfl ?_
            refine TQ.mk HU2.out (bO B5 (Nat.le_refl _) _ _ _ _ _) ?_
            exact (htr5.xO _ (fun b hb => by unfold Fr at hb; omega) _ _ _ _ _).kept (fun b hb _ => by unfold Fr at hb ⊢; omega) (Nat.le_refl _) (fun _ _ _ => rfl)
theorem Iu: ∀ args w,(callFunc 59 args).run Tryz.prog w=.ok (.enter 59 args) w:=
 enters_of Tryz.func59 (by decide) rfl
theorem vG(L:List T3)(hs:∀ t,t∈L→t.text.size≤140737488351232)(v:Value)(w:World)(hT:cK w v L)(hl:L.length≤9223372036854775807):Calls Tryz.prog 20 #[v] w (TQ w (jS bM (lk L))):=by
 have hlen:(lk L).length=L.length:=List.length_map _;have hC:=fun w1 (h:cK w1 v L)=>AZ 52 kH L bM (fun hX pb w h=>aV pb L 0 w (Nat.zero_le _) h) (fun h t e=>by have:=Ig (lk L) (eH (lk L) 0) e;omega) hs v w1 h hl
 have b1:=aC w (.cells zT 24);have t1:=TV.new w (.int .i64 0) (.int .i64 0) (.int .i64 0) (.string ⟨#[]⟩) (.slice none 0 0);go_enter Tryz.func20,Tryz.ntmps20;go_upto_region 1 with fail;unfold zT at b1;generalize World.alloc w _=w1 at b1 t1 ⊢;have h1:=hC w1 (hT.below b1 (Nat.le_refl _));obtain⟨r,hr⟩:∃ r,jS bM (lk L)=r:=⟨_,rfl⟩
 rw[hr]at h1;have HR:=hdq hr;clear hr hC hT;obtain⟨rt,rx,ry⟩:=r;go_upto_block 1 with fail;refine h1.mono ?_;rintro e w2 ⟨b2,k,n,a,s,ao,m,c,rfl,htr⟩;have t2:=t1.below b2;have B2:=b1.trans (b2.mono b1.size);have hw1:=b1.size;have hlt1:=t1.lt;clear h1 t1 b2 b1;have:=TV.facts t2;go_wp2_with fail;refine dL (.tuple #[tg k n a s ao m c,.int .i64 rx,.int .i64 ry]) (t2.set _ _ _ _ _) (fun q0 q1 q2 q3 q4=>by simp[results,Tryz.results20,go_sem,q0,q1,q2,q3,q4]) rfl ?_;refine TQ.mk HR.out (bO B2 (Nat.le_refl _) _ _ _ _ _) ?_;exact(htr.xO _ (fun b hb=>by unfold Fr at hb;omega) _ _ _ _ _).kept (fun b hb _=>by unfold Fr at hb ⊢; omega) (Nat.le_refl _) (fun _ _ _=>rfl)
theorem xH(L:List T3)(hs:∀ t,t∈L→t.text.size≤140737488351232)(v:Value)(w:World)(hT:cK w v L)(hl:L.length≤9223372036854775807):Calls Tryz.prog 21 #[v] w (TQ w (jS qJ (lk L))):=by
 have hlen:(lk L).length=L.length:=List.length_map _;have hC:=fun w1 (h:cK w1 v L)=>AZ 53 wX L qJ (fun hX pb w h=>uO pb L hX 0 w (Nat.zero_le _) h) (fun h t e=>by have:=Ig (lk L) (Eo (lk L) 0) e;omega) hs v w1 h hl
 have b1:=aC w (.cells zT 24);have t1:=TV.new w (.int .i64 0) (.int .i64 0) (.int .i64 0) (.string ⟨#[]⟩) (.slice none 0 0);go_enter Tryz.func21,Tryz.ntmps21;go_upto_region 1 with fail;unfold zT at b1;generalize World.alloc w _=w1 at b1 t1 ⊢;have h1:=hC w1 (hT.below b1 (Nat.le_refl _));obtain⟨r,hr⟩:∃ r,jS qJ (lk L)=r:=⟨_,rfl⟩
 rw[hr]at h1;have HR:=hdq hr;clear hr hC hT;obtain⟨rt,rx,ry⟩:=r;go_upto_block 1 with fail;refine h1.mono ?_;rintro e w2 ⟨b2,k,n,a,s,ao,m,c,rfl,htr⟩;have t2:=t1.below b2;have B2:=b1.trans (b2.mono b1.size);have hw1:=b1.size;have hlt1:=t1.lt;clear h1 t1 b2 b1;have:=TV.facts t2;go_wp2_with fail;refine dL (.tuple #[tg k n a s ao m c,.int .i64 rx,.int .i64 ry]) (t2.set _ _ _ _ _) (fun q0 q1 q2 q3 q4=>by simp[results,Tryz.results21,go_sem,q0,q1,q2,q3,q4]) rfl ?_;refine TQ.mk HR.out (bO B2 (Nat.le_refl _) _ _ _ _ _) ?_;exact(htr.xO _ (fun b hb=>by unfold Fr at hb;omega) _ _ _ _ _).kept (fun b hb _=>by unfold Fr at hb ⊢; omega) (Nat.le_refl _) (fun _ _ _=>rfl)
theorem Fc(L:List T3)(hs:∀ t,t∈L→t.text.size≤140737488351232)(v:Value)(w:World)(hT:cK w v L)(hl:L.length≤9223372036854775807):Calls Tryz.prog 22 #[v] w (TQ w (jS gH (lk L))):=by
 have hlen:(lk L).length=L.length:=List.length_map _;have hC:=fun w1 (h:cK w1 v L)=>AZ 59 Iu L gH (fun hX pb w h=>DA pb L hX 0 w (Nat.zero_le _) h) (fun h t e=>by have:=Ig (lk L) (De (lk L) 0) e;omega) hs v w1 h hl
 have b1:=aC w (.cells zT 24);have t1:=TV.new w (.int .i64 0) (.int .i64 0) (.int .i64 0) (.string ⟨#[]⟩) (.slice none 0 0);go_enter Tryz.func22,Tryz.ntmps22;go_upto_region 1 with fail;unfold zT at b1;generalize World.alloc w _=w1 at b1 t1 ⊢;have h1:=hC w1 (hT.below b1 (Nat.le_refl _));obtain⟨r,hr⟩:∃ r,jS gH (lk L)=r:=⟨_,rfl⟩
 rw[hr]at h1;have HR:=hdq hr;clear hr hC hT;obtain⟨rt,rx,ry⟩:=r;go_upto_block 1 with fail;refine h1.mono ?_;rintro e w2 ⟨b2,k,n,a,s,ao,m,c,rfl,htr⟩;have t2:=t1.below b2;have B2:=b1.trans (b2.mono b1.size);have hw1:=b1.size;have hlt1:=t1.lt;clear h1 t1 b2 b1;have:=TV.facts t2;go_wp2_with fail;refine dL (.tuple #[tg k n a s ao m c,.int .i64 rx,.int .i64 ry]) (t2.set _ _ _ _ _) (fun q0 q1 q2 q3 q4=>by simp[results,Tryz.results22,go_sem,q0,q1,q2,q3,q4]) rfl ?_;refine TQ.mk HR.out (bO B2 (Nat.le_refl _) _ _ _ _ _) ?_;exact(htr.xO _ (fun b hb=>by unfold Fr at hb;omega) _ _ _ _ _).kept (fun b hb _=>by unfold Fr at hb ⊢; omega) (Nat.le_refl _) (fun _ _ _=>rfl)
def PQ(w:World)(r:List Tk×Int)(e:Ending)(w':World):Prop:=Below w.heap.size w w'∧∃ v,e=.returned (.tuple #[v,.int .i64 r.2])∧w'.ownsRow w.heap.size 43 3 v r.1.length (kI r.1)
theorem PQ.mk{w:World}{r:List Tk×Int}{w':World}{l:List Tk}{x:Int}{v:Value}(h:r=(l,x))(b:Below w.heap.size w w')(hv:w'.ownsRow w.heap.size 43 3 v l.length (kI l)):PQ w r (.returned (.tuple #[v,.int .i64 x])) w':=by
 subst h;exact⟨b,v,rfl,hv⟩
theorem tE{w':World}{e:TypeId}{n:Nat}{v:Value}{len:Nat}{cs:List Value}{B B':Nat}(h:w'.ownsRow B e n v len cs)(hb:B'≤B):w'.ownsRow B' e n v len cs:=by
 unfold World.ownsRow at h ⊢;obtain⟨h1,h2⟩:=h;refine⟨h1,h2.imp id ?_⟩;rintro⟨g,cap,cur,k1,k2,k3⟩;exact⟨g,cap,cur,k1,Nat.le_trans hb k2,k3⟩
theorem Fw(w:World)(hTab:eJ w)(t:T)(ho:okT t)(hwd:wdT t)(k n a:Int)(s:ByteArray)(ao:Option Addr)(m c:Nat)(ht:Tr w t (vT k n a s ao m c)):Calls Tryz.prog 25 #[tg k n a s ao m c] w (PQ w (Px.cL t)):=by
 have b1:=aC w (.cells (tg k n a s ao m c) 24);have t1:=TV.new w k n a s (.slice ao m c);go_enter Tryz.func25,Tryz.ntmps25;go_upto_region 1 with fail;generalize World.alloc w _=w1 at b1 t1 ⊢;have hC:=jG w1 (hTab.below b1) t ho hwd k n a s ao m c (ht.low b1);unfold Db at hC;have:=TV.facts t1
 cases hc:chk t with
 | false=>
  have HU:=hdq (show Px.cL t=([],71)by unfold Px.cL;rw[hc];rfl);rw[hc]at hC;clear ht ho hwd hc;go_wp2_with (go_at_call 14;refine hC.mono ?_;rintro e w2 ⟨rfl,b2⟩)
  go_ret2
  exact PQ.mk HU.out (b1.trans (b2.mono b1.size)) (xB _ _ _)
 | true=>
  rw[hc]at hC;have hsz:nodes t≤4000:=by have:=qY hc;unfold lH at this;rw[Bool.and_eq_true,decide_eq_true_eq]at this;exact this.1
  have hlen:(prO false t).length≤192000:=by have:=MF false t;omega
  have hUU:Px.cL t=if 5000<(prO false t).length then([],2)else(prO false t,0):=by unfold Px.cL;rw[if_pos hc];rfl
  have HUU:=hdq hUU;clear hUU;go_upto_region 4 with (go_at_call 14;refine hC.mono ?_;rintro e w2 ⟨rfl,b2⟩);have t2:=t1.below b2;have B2:=b1.trans (b2.mono b1.size);have hTk:=yJ w2 (hTab.below B2) t ho k n a s ao m c (ht.low B2) (by unfold dK;omega);have hB2:=B2.size;clear b1 b2 t1 hC hc ht ho hwd;have:=TV.facts t2;go_upto_block 4 with fail;refine hTk.mono ?_;rintro e w3 ⟨v,rfl,hown,b3⟩;have hown2:=tE hown hB2;have B3:=B2.trans (b3.mono B2.size);obtain⟨ao2,cap2,hv,-⟩:cK w3 v (K3 (prO false t)):=Ir hown;rw[Cl]at hv;subst hv;clear hTk hown B2 t2 b3
  by_cases h5:5000<(prO false t).length
  ·have h5':(5000:Int)<((prO false t).length:Int):=by omega
   have HU:=hdq (HUU.out.trans (if_pos h5));clear HUU;go_wp2_with fail
   go_ret2
   exact PQ.mk HU.out B3 (xB _ _ _)
  ·have h5':¬ (5000:Int)<((prO false t).length:Int):=by omega
   have HU:=hdq (HUU.out.trans (if_neg h5));clear HUU;go_wp2_with fail
   go_ret2
   exact PQ.mk HU.out B3 hown2
def MU(t:T):ByteArray×Int:=if (Px.cL t).2=0 then Lx.cL ((K3 (Px.cL t).1).map kt3)else(⟨#[]⟩,(Px.cL t).2)
def XQ(w:World)(r:ByteArray×Int)(e:Ending)(w':World):Prop:=e=.returned (.tuple #[.string r.1,.int .i64 r.2])∧Below w.heap.size w w'
theorem Ko{L:List Tk}(h:Tx L):∀ t,t∈K3 L→t.text.size≤2147483647:=fun t ht=>by
 obtain⟨x,hx,rfl⟩:=List.mem_map.1 ht;exact h x hx
theorem GW(w:World)(hTab:eJ w)(hml:ML w)(t:T)(ho:okT t)(hwd:wdT t)(k n a:Int)(s:ByteArray)(ao:Option Addr)(m c:Nat)(ht:Tr w t (vT k n a s ao m c)):Calls Tryz.prog 17 #[tg k n a s ao m c] w (XQ w (MU t)):=by
 have b1:=aC w (.cells (tg k n a s ao m c) 24);have t1:=TV.new w k n a s (.slice ao m c);go_enter Tryz.func17,Tryz.ntmps17;go_upto_region 1 with fail;generalize World.alloc w _=w1 at b1 t1 ⊢;have hC:=Fw w1 (hTab.below b1) t ho hwd k n a s ao m c (ht.low b1);have htx:Tx (Px.cL t).1:=by
  unfold Px.cL
  by_cases hc:chk t=true
  ·rw[if_pos hc]
   by_cases h5:5000<(prT t).length
   ·rw[if_pos h5];exact .nil
   ·rw[if_neg h5];exact MB false hwd
  ·rw[if_neg hc];exact .nil
 have hpl:(Px.cL t).1.length≤5000:=by
  unfold Px.cL
  by_cases hc:chk t=true
  ·rw[if_pos hc]
   by_cases h5:5000<(prT t).length
   ·rw[if_pos h5];exact Nat.zero_le _
   ·rw[if_neg h5];exact Nat.le_of_not_lt h5
  ·rw[if_neg hc];exact Nat.zero_le _
 have hUU:MU t=if (Px.cL t).2=0 then Lx.cL ((K3 (Px.cL t).1).map kt3)else(⟨#[]⟩,(Px.cL t).2):=rfl
 generalize Px.cL t=pr at hC htx hpl hUU;obtain⟨l,x⟩:=pr;have:=TV.facts t1
 by_cases hx:x=0
 ·subst hx;have HU:=hdq (hUU.trans (if_pos rfl));clear hUU ht ho hwd;go_upto_block 1 with fail;refine hC.mono ?_;rintro e w2 ⟨b2,v,rfl,hown⟩;have B2:=b1.trans (b2.mono b1.size);have hrow:=Ir hown;have hP:=IK v (K3 l) (Ko htx) (by rw[Cl];have:l.length≤5000:=hpl;omega) w2 (hml.below B2) hrow;obtain⟨ao2,cap2,hv,-⟩:=hrow;subst hv;clear hown hC;go_wp2_with (go_at_call 56;refine hP.mono ?_;rintro e w3 ⟨rfl,b3⟩)
  go_ret2
  exact⟨by rw[HU.out];rfl,B2.trans (b3.mono B2.size)⟩
 ·have HU:=hdq (hUU.trans (if_neg hx));clear hUU ht ho hwd;go_upto_block 1 with fail;refine hC.mono ?_;rintro e w2 ⟨b2,v,rfl,hown⟩;have B2:=b1.trans (b2.mono b1.size);clear hown;go_wp2_with fail
  go_ret2
  exact⟨by rw[HU.out];rfl,B2⟩
end
end Go.Proofs.YtfdlmcgcckkkdaaGreatDoor
