/- ParseWhole, part 38: what it stands on. -/
import Derived.Test.YtfdlmcgcckkkdaaGreatDoorV35
import Derived.Test.YtfdlmcgcckkkdaaGreatDoorV37
set_option linter.all false
set_option maxHeartbeats 40000000
set_option maxRecDepth 100000
namespace Go.Proofs.YtfdlmcgcckkkdaaGreatDoor
section
open Go.RowKit Lx Px
theorem Ix: ∀ args w,(callFunc 237 args).run Tryz.prog w=.ok (.enter 237 args) w:=
 enters_of Tryz.func237 (by decide) rfl
theorem rN{L:List Tk}{i j:Nat}{s0 s:ByteArray}(h:fN L i=.ok (s0,j))(hs:Ay s0=s):bT L i =
 if s=dF then(if (tok L j).kind=4 then aB (bH L j) fun x j'=>.ok (.mk 50 0 i s [x],j')else .error j)
 else if s=pZ then aB (iN L (bM L) j) fun x j'=>.ok (.mk 50 0 i s [x],j')
 else if sgn L j [sLP]then
  (if sgn L (j + 1) [sRP] then .ok (.mk 50 1 i s [], j + 2)
   else aB (eD L 60 (bK L) (j + 1)) fun l j' => aB (aM L j' sRP) fun _ j2 => .ok (.mk 50 1 i s l, j2))
 else .ok (.mk 50 0 i s [],j):=by subst hs;unfold bT;rw[h];rfl
theorem zQ{s:ByteArray}{l:List UInt8}(h:¬ s=⟨l.toArray⟩):(s.toList==l)=false∧decide (s=⟨l.toArray⟩)=false:=by
 refine⟨beq_eq_false_iff_ne.2 fun e=>h ?_,decide_eq_false h⟩;rw[← kK,e,ByteArray.toList_eq]
theorem xQ(pb:Nat)(L:List T3)(hX:iC L)(i:Nat)(w:World)(h:PS w pb L i)(s0 s:ByteArray)(j2:Nat)(hn:fN (lk L) i=.ok (s0,j2))(hl:Ay s0=s)(hf:(cY s0 oJ).getD (.string ⟨#[]⟩)=.string s)(hne:¬ s=⟨#[]⟩):Calls Tryz.prog 215 #[pq pb] w (aD pb L w (bT (lk L) i)):=by
 have HU:=hdq (rN hn hl);have hmm:=@run_makeMap Tryz.prog;have hf0:=pG;have HF:=hdq hf;have HN:=hdq hn;clear hf hn;have hs3:(s.toList == [])=false:=(zQ (l:=[]) hne).1;have hs4:decide (s=⟨#[]⟩)=false:=(zQ (l:=[]) hne).2;go_enter Tryz.func215,Tryz.ntmps215;go_upto_region 1 with fail;have S1:=SV.new h;generalize World.alloc w _=w1 at S1 ⊢;obtain⟨k1,_⟩:=S1.ps.cells;go_upto_block 2 with fail;refine(S1.pB (fT pb L i w1 S1.ps)).mono ?_;rintro e w2 (⟨x,hr,rfl,hg⟩|⟨s2,j',hr,rfl,S2⟩)
 ·rw[HN.out]at hr;cases hr
 obtain⟨rfl,rfl⟩:s0=s2∧j2=j':=by rw[HN.out]at hr;cases hr;exact⟨rfl,rfl⟩
 clear hr k1;go_upto_region 3 with fail;have S3:=S2.yV (tg 50 0 i s0 none 0 0);generalize World.alloc w2 _=w3 at S3 ⊢;generalize w2.heap.size=B3 at S3 ⊢;have h0:JN w3 (w3.alloc (.map #[] 0)) w3.heap.size []:=⟨EP.new w3,(Below.refl _ _).alloc (Nat.le_refl _) _⟩
 go_upto_region 4 with (refine jN w3 _ rfl _ _ _ _ rfl _ _ uN zP w3.heap.size _ rfl (by assumption) _ _ rfl rfl (by kernel_rfl) ?_;clear h0;intro w4 h0);have S4:=S3.below h0.2;have h0m:EP w4 w3.heap.size oJ:=(fun ks (e:ks=oJ) (h:EP w4 w3.heap.size ks)=>e ▸ h) _ (by kernel_rfl) h0.1;have hL:=nH (P:=Tryz.prog) w4 145 9 9 uN zP (.string ⟨#[]⟩) Jd w3.heap.size oJ h0m s0;rw[HF.out]at hL;clear h0m;clear h0;have:=TV.facts (S4.facts 0 rfl);go_upto_region 7 with fail;have S5:=S4.put 0 rfl 3 (.string s) (by simp);generalize World.setCell w4 ⟨B3,3,none⟩ _=w5 at S5 ⊢;have h5:True:=trivial;have:=TV.facts (S5.facts 0 rfl)
 by_cases hp:s=⟨#[80,73,67,84,85,82,69]⟩
 ·subst hp;have hT:=aX pb L j2 0 (by decide) w5 S5.ps
  by_cases hk4:(tok (lk L) j2).kind=4
  ·rw[show (tok (L.map T3.tk) (j2+0)).kind=4 from hk4]at hT;have HP:=hdq (show (⟨#[80,73,67,84,85,82,69]⟩:ByteArray)=dF from rfl);have HK4:=hdq hk4;clear hk4;go_upto_block 10 with (go_at_call 125;refine(S5.aQ (E:=fun e=>∃ p:Int,e=_) hT).mono ?_;rintro e w6 ⟨⟨p,rfl⟩,S6⟩);refine(S6.aN (eC pb L j2 w6 S6.ps)).mono ?_;rintro e w7 (⟨x,hr,rfl,hg⟩|⟨t7,j7,k7,n7,a7,s7,o7,m7,c7,hr,rfl,S7⟩)
   ·unfold pan;go_wp2_with fail;exact⟨rfl,aD.err x (by simp[HU.out,aB,HP.out,HK4.out,hr]) hg⟩
   have H7:=hdq hr;clear hr;have S8:=S7.lit (aW.one (S7.tr _ (.head _))) (tg k7 n7 a7 s7 o7 m7 c7) rfl 50 0 i dF 1 1 rfl;have:=TV.facts (S8.facts 0 rfl);have S9:=S8.put 0 rfl 4 (.slice (some ⟨w7.heap.size,0,none⟩) 1 1) (by simp);go_upto_region 18 with fail;generalize World.setCell _ ⟨B3,4,none⟩ _=w9 at S9 ⊢;have:=TV.facts (S9.facts 0 rfl);have:=TV.facts (S9.facts 1 rfl);go_wp2_with fail;have S10:=S9.bN 1 rfl (.int .i64 50) (.int .i64 0) i dF (.slice (some ⟨w7.heap.size,0,none⟩) 1 1);refine rtv (S10.facts 1 rfl) Tryz.results215 ?_;exact S10.res (.head _) (by simp[HU.out,aB,HP.out,HK4.out,H7.out]<;>rfl) rfl
  ·generalize hkk:(tok (lk L) j2).kind=tk4 at hk4;rw[show (tok (L.map T3.tk) (j2+0)).kind=tk4 from hkk]at hT;have HP:=hdq (show (⟨#[80,73,67,84,85,82,69]⟩:ByteArray)=dF from rfl);have HK4:=hdq (show ¬ (tok (lk L) j2).kind=4 by rw[hkk];exact hk4);clear hkk;go_upto_block 9 with (go_at_call 125;refine(S5.aQ (E:=fun e=>∃ p:Int,e=_) hT).mono ?_;rintro e w6 ⟨⟨p,rfl⟩,S6⟩);refine S6.sX.mono ?_;rintro e wf ⟨rfl,hg⟩;unfold pan;go_wp2_with fail;exact⟨rfl,aD.err _ (by simp[HU.out,aB,HP.out,HK4.out]) hg⟩
 obtain⟨n1,n2⟩:=zQ (l:=[80,73,67,84,85,82,69]) hp;have HP:=hdq (show ¬ s=dF from hp);clear hp
 by_cases hq:s=⟨#[76,73,75,69]⟩
 ·subst hq;have HQ:=hdq (show (⟨#[76,73,75,69]⟩:ByteArray)=pZ from rfl);have HPL:=hdq (show ¬ pZ=dF by decide +kernel);go_upto_block 12 with fail;refine(S5.aN (wU pb L 0 (bM (lk L)) (bD (lk L)) (fun i w _ h=>aV pb L i w (Nat.zero_le _) h) j2 w5 (Nat.zero_le _) S5.ps)).mono ?_;rintro e w7 (⟨x,hr,rfl,hg⟩|⟨t7,j7,k7,n7,a7,s7,o7,m7,c7,hr,rfl,S7⟩)
  ·unfold pan;go_wp2_with fail;exact⟨rfl,aD.err x (by simp[HU.out,aB,HP.out,HQ.out,HPL.out,hr]) hg⟩
  have H7:=hdq hr;clear hr;have S8:=S7.lit (aW.one (S7.tr _ (.head _))) (tg k7 n7 a7 s7 o7 m7 c7) rfl 50 0 i pZ 1 1 rfl;have:=TV.facts (S8.facts 0 rfl);have S9:=S8.put 0 rfl 4 (.slice (some ⟨w7.heap.size,0,none⟩) 1 1) (by simp);go_upto_region 18 with fail;generalize World.setCell _ ⟨B3,4,none⟩ _=w9 at S9 ⊢;have:=TV.facts (S9.facts 0 rfl);have:=TV.facts (S9.facts 1 rfl);go_wp2_with fail;have S10:=S9.bN 1 rfl (.int .i64 50) (.int .i64 0) i pZ (.slice (some ⟨w7.heap.size,0,none⟩) 1 1);refine rtv (S10.facts 1 rfl) Tryz.results215 ?_;exact S10.res (.head _) (by simp[HU.out,aB,HP.out,HQ.out,HPL.out,H7.out]<;>rfl) rfl
 obtain⟨n3,n4⟩:=zQ (l:=[76,73,75,69]) hq;have HQ:=hdq (show ¬ s=pZ from hq);clear hq
 cases hs:sgn (lk L) j2 [sLP] with
 | true=>
  have hC:=S5.AM sLP hs;have HS:=hdq hs;clear hs;go_upto_region 15 with (go_at_call 135;refine hC.mono ?_;rintro e w6 ⟨rfl,S6⟩;have:=TV.facts (S6.facts 0 rfl));have S7:=S6.put 0 rfl 1 (.int .i64 1) (by simp);generalize World.setCell w6 ⟨B3,1,none⟩ _=w7 at S7 ⊢
  cases ht:sgn (lk L) (j2+1) [sRP] with
  | true=>
   have hC:=S7.AM sRP ht;have HT:=hdq ht;clear ht;go_upto_region 18 with (go_at_call 135;refine hC.mono ?_;rintro e w8 ⟨rfl,S8⟩);have:=TV.facts (S8.facts 0 rfl);have:=TV.facts (S8.facts 1 rfl);go_wp2_with fail;have S9:=(S8.bN 1 rfl (.int .i64 50) (.int .i64 1) i s (.slice none 0 0)).leaf 50 1 i s;refine rtv (S9.facts 1 rfl) Tryz.results215 ?_;exact S9.res (.head _) (by simp[HU.out,aB,HP.out,HQ.out,HS.out,HT.out]<;>rfl) rfl
  | false=>
   have hC:=S7.Af sRP ht;have HT:=hdq ht;clear ht;go_upto_block 16 with (go_at_call 135;refine hC.mono ?_;rintro e w8 ⟨rfl,S8⟩);refine(S8.pL (eI _ Ix pb L 0 (bK (lk L)) (fun i w _ h=>Cm pb L hX i w h) (wI (lk L)) 60 (by decide) (by decide) (j2+1) (Nat.zero_le _) w8 S8.ps)).mono ?_;rintro e w9 (⟨x,hr,rfl,hg⟩|⟨l9,j9,o9,c9,hr,rfl,S9⟩)
   ·unfold pan;go_wp2_with fail;exact⟨rfl,aD.err x (by simp[HU.out,aB,HP.out,HQ.out,HS.out,HT.out,hr]) hg⟩
   have H9:=hdq hr;clear hr;have:=TV.facts (S9.facts 0 rfl);have S10:=(S9.put 0 rfl 4 (.slice o9 l9.length c9) (by simp)).Cc 50 1 i s;go_upto_region 17 with fail;generalize World.setCell _ ⟨B3,4,none⟩ _=w10 at S10 ⊢;go_upto_block 17 with fail;refine(S10.dR sRP).mono ?_;rintro e w11 (⟨x,hr,rfl,hg⟩|⟨j11,hr,rfl,S11⟩)
   ·unfold pan;go_wp2_with fail;exact⟨rfl,aD.err x (by simp[HU.out,aB,HP.out,HQ.out,HS.out,HT.out,H9.out,hr]) hg⟩
   have H11:=hdq hr;clear hr;have:=TV.facts (S11.facts 0 rfl);have:=TV.facts (S11.facts 1 rfl);go_wp2_with fail;have S12:=S11.bN 1 rfl (.int .i64 50) (.int .i64 1) i s (.slice o9 l9.length c9);refine rtv (S12.facts 1 rfl) Tryz.results215 ?_;exact S12.res (.head _) (by simp[HU.out,aB,HP.out,HQ.out,HS.out,HT.out,H9.out,H11.out]<;>rfl) rfl
 | false=>
  have hC:=S5.Af sLP hs;have HS:=hdq hs;clear hs;go_upto_region 18 with (go_at_call 135;refine hC.mono ?_;rintro e w6 ⟨rfl,S6⟩);have:=TV.facts (S6.facts 0 rfl);have:=TV.facts (S6.facts 1 rfl);go_wp2_with fail;have S9:=(S6.bN 1 rfl (.int .i64 50) (.int .i64 0) i s (.slice none 0 0)).leaf 50 0 i s;refine rtv (S9.facts 1 rfl) Tryz.results215 ?_;exact S9.res (.head _) (by simp[HU.out,aB,HP.out,HQ.out,HS.out]<;>rfl) rfl
theorem xS(pb:Nat)(L:List T3)(hX:iC L)(i:Nat)(w:World)(h:PS w pb L i)(s0:ByteArray)(j2:Nat)(hn:fN (lk L) i=.ok (s0,j2))(hl:Ay s0=s0)(hf:(cY s0 oJ).getD (.string ⟨#[]⟩)=.string ⟨#[]⟩):Calls Tryz.prog 215 #[pq pb] w (aD pb L w (bT (lk L) i)):=by
 have HU:=hdq (rN hn hl);have hmm:=@run_makeMap Tryz.prog;have hf0:=pG;have HF:=hdq hf;have HN:=hdq hn;clear hf hn;go_enter Tryz.func215,Tryz.ntmps215;go_upto_region 1 with fail;have S1:=SV.new h;generalize World.alloc w _=w1 at S1 ⊢;obtain⟨k1,_⟩:=S1.ps.cells;go_upto_block 2 with fail;refine(S1.pB (fT pb L i w1 S1.ps)).mono ?_;rintro e w2 (⟨x,hr,rfl,hg⟩|⟨s2,j',hr,rfl,S2⟩)
 ·rw[HN.out]at hr;cases hr
 obtain⟨rfl,rfl⟩:s0=s2∧j2=j':=by rw[HN.out]at hr;cases hr;exact⟨rfl,rfl⟩
 clear hr k1;go_upto_region 3 with fail;have S3:=S2.yV (tg 50 0 i s0 none 0 0);generalize World.alloc w2 _=w3 at S3 ⊢;generalize w2.heap.size=B3 at S3 ⊢;have h0:JN w3 (w3.alloc (.map #[] 0)) w3.heap.size []:=⟨EP.new w3,(Below.refl _ _).alloc (Nat.le_refl _) _⟩
 go_upto_region 4 with (refine jN w3 _ rfl _ _ _ _ rfl _ _ uN zP w3.heap.size _ rfl (by assumption) _ _ rfl rfl (by kernel_rfl) ?_;clear h0;intro w4 h0);have S4:=S3.below h0.2;have h0m:EP w4 w3.heap.size oJ:=(fun ks (e:ks=oJ) (h:EP w4 w3.heap.size ks)=>e ▸ h) _ (by kernel_rfl) h0.1;have hL:=nH (P:=Tryz.prog) w4 145 9 9 uN zP (.string ⟨#[]⟩) Jd w3.heap.size oJ h0m s0;rw[HF.out]at hL;clear h0m;clear h0;have:=TV.facts (S4.facts 0 rfl);go_upto_region 7 with fail;have S5:=S4;have:=TV.facts (S5.facts 0 rfl)
 by_cases hp:s0=⟨#[80,73,67,84,85,82,69]⟩
 ·subst hp;have hT:=aX pb L j2 0 (by decide) w4 S5.ps
  by_cases hk4:(tok (lk L) j2).kind=4
  ·rw[show (tok (L.map T3.tk) (j2+0)).kind=4 from hk4]at hT;have HP:=hdq (show (⟨#[80,73,67,84,85,82,69]⟩:ByteArray)=dF from rfl);have HK4:=hdq hk4;clear hk4;go_upto_block 10 with (go_at_call 125;refine(S5.aQ (E:=fun e=>∃ p:Int,e=_) hT).mono ?_;rintro e w6 ⟨⟨p,rfl⟩,S6⟩);refine(S6.aN (eC pb L j2 w6 S6.ps)).mono ?_;rintro e w7 (⟨x,hr,rfl,hg⟩|⟨t7,j7,k7,n7,a7,s7,o7,m7,c7,hr,rfl,S7⟩)
   ·unfold pan;go_wp2_with fail;exact⟨rfl,aD.err x (by simp[HU.out,aB,HP.out,HK4.out,hr]) hg⟩
   have H7:=hdq hr;clear hr;have S8:=S7.lit (aW.one (S7.tr _ (.head _))) (tg k7 n7 a7 s7 o7 m7 c7) rfl 50 0 i dF 1 1 rfl;have:=TV.facts (S8.facts 0 rfl);have S9:=S8.put 0 rfl 4 (.slice (some ⟨w7.heap.size,0,none⟩) 1 1) (by simp);go_upto_region 18 with fail;generalize World.setCell _ ⟨B3,4,none⟩ _=w9 at S9 ⊢;have:=TV.facts (S9.facts 0 rfl);have:=TV.facts (S9.facts 1 rfl);go_wp2_with fail;have S10:=S9.bN 1 rfl (.int .i64 50) (.int .i64 0) i dF (.slice (some ⟨w7.heap.size,0,none⟩) 1 1);refine rtv (S10.facts 1 rfl) Tryz.results215 ?_;exact S10.res (.head _) (by simp[HU.out,aB,HP.out,HK4.out,H7.out]<;>rfl) rfl
  ·generalize hkk:(tok (lk L) j2).kind=tk4 at hk4;rw[show (tok (L.map T3.tk) (j2+0)).kind=tk4 from hkk]at hT;have HP:=hdq (show (⟨#[80,73,67,84,85,82,69]⟩:ByteArray)=dF from rfl);have HK4:=hdq (show ¬ (tok (lk L) j2).kind=4 by rw[hkk];exact hk4);clear hkk;go_upto_block 9 with (go_at_call 125;refine(S5.aQ (E:=fun e=>∃ p:Int,e=_) hT).mono ?_;rintro e w6 ⟨⟨p,rfl⟩,S6⟩);refine S6.sX.mono ?_;rintro e wf ⟨rfl,hg⟩;unfold pan;go_wp2_with fail;exact⟨rfl,aD.err _ (by simp[HU.out,aB,HP.out,HK4.out]) hg⟩
 obtain⟨n1,n2⟩:=zQ (l:=[80,73,67,84,85,82,69]) hp;have HP:=hdq (show ¬ s0=dF from hp);clear hp
 by_cases hq:s0=⟨#[76,73,75,69]⟩
 ·subst hq;have HQ:=hdq (show (⟨#[76,73,75,69]⟩:ByteArray)=pZ from rfl);have HPL:=hdq (show ¬ pZ=dF by decide +kernel);go_upto_block 12 with fail;refine(S5.aN (wU pb L 0 (bM (lk L)) (bD (lk L)) (fun i w _ h=>aV pb L i w (Nat.zero_le _) h) j2 w4 (Nat.zero_le _) S5.ps)).mono ?_;rintro e w7 (⟨x,hr,rfl,hg⟩|⟨t7,j7,k7,n7,a7,s7,o7,m7,c7,hr,rfl,S7⟩)
  ·unfold pan;go_wp2_with fail;exact⟨rfl,aD.err x (by simp[HU.out,aB,HP.out,HQ.out,HPL.out,hr]) hg⟩
  have H7:=hdq hr;clear hr;have S8:=S7.lit (aW.one (S7.tr _ (.head _))) (tg k7 n7 a7 s7 o7 m7 c7) rfl 50 0 i pZ 1 1 rfl;have:=TV.facts (S8.facts 0 rfl);have S9:=S8.put 0 rfl 4 (.slice (some ⟨w7.heap.size,0,none⟩) 1 1) (by simp);go_upto_region 18 with fail;generalize World.setCell _ ⟨B3,4,none⟩ _=w9 at S9 ⊢;have:=TV.facts (S9.facts 0 rfl);have:=TV.facts (S9.facts 1 rfl);go_wp2_with fail;have S10:=S9.bN 1 rfl (.int .i64 50) (.int .i64 0) i pZ (.slice (some ⟨w7.heap.size,0,none⟩) 1 1);refine rtv (S10.facts 1 rfl) Tryz.results215 ?_;exact S10.res (.head _) (by simp[HU.out,aB,HP.out,HQ.out,HPL.out,H7.out]<;>rfl) rfl
 obtain⟨n3,n4⟩:=zQ (l:=[76,73,75,69]) hq;have HQ:=hdq (show ¬ s0=pZ from hq);clear hq
 cases hs:sgn (lk L) j2 [sLP] with
 | true=>
  have hC:=S5.AM sLP hs;have HS:=hdq hs;clear hs;go_upto_region 15 with (go_at_call 135;refine hC.mono ?_;rintro e w6 ⟨rfl,S6⟩;have:=TV.facts (S6.facts 0 rfl));have S7:=S6.put 0 rfl 1 (.int .i64 1) (by simp);generalize World.setCell w6 ⟨B3,1,none⟩ _=w7 at S7 ⊢
  cases ht:sgn (lk L) (j2+1) [sRP] with
  | true=>
   have hC:=S7.AM sRP ht;have HT:=hdq ht;clear ht;go_upto_region 18 with (go_at_call 135;refine hC.mono ?_;rintro e w8 ⟨rfl,S8⟩);have:=TV.facts (S8.facts 0 rfl);have:=TV.facts (S8.facts 1 rfl);go_wp2_with fail;have S9:=(S8.bN 1 rfl (.int .i64 50) (.int .i64 1) i s0 (.slice none 0 0)).leaf 50 1 i s0;refine rtv (S9.facts 1 rfl) Tryz.results215 ?_;exact S9.res (.head _) (by simp[HU.out,aB,HP.out,HQ.out,HS.out,HT.out]<;>rfl) rfl
  | false=>
   have hC:=S7.Af sRP ht;have HT:=hdq ht;clear ht;go_upto_block 16 with (go_at_call 135;refine hC.mono ?_;rintro e w8 ⟨rfl,S8⟩);refine(S8.pL (eI _ Ix pb L 0 (bK (lk L)) (fun i w _ h=>Cm pb L hX i w h) (wI (lk L)) 60 (by decide) (by decide) (j2+1) (Nat.zero_le _) w8 S8.ps)).mono ?_;rintro e w9 (⟨x,hr,rfl,hg⟩|⟨l9,j9,o9,c9,hr,rfl,S9⟩)
   ·unfold pan;go_wp2_with fail;exact⟨rfl,aD.err x (by simp[HU.out,aB,HP.out,HQ.out,HS.out,HT.out,hr]) hg⟩
   have H9:=hdq hr;clear hr;have:=TV.facts (S9.facts 0 rfl);have S10:=(S9.put 0 rfl 4 (.slice o9 l9.length c9) (by simp)).Cc 50 1 i s0;go_upto_region 17 with fail;generalize World.setCell _ ⟨B3,4,none⟩ _=w10 at S10 ⊢;go_upto_block 17 with fail;refine(S10.dR sRP).mono ?_;rintro e w11 (⟨x,hr,rfl,hg⟩|⟨j11,hr,rfl,S11⟩)
   ·unfold pan;go_wp2_with fail;exact⟨rfl,aD.err x (by simp[HU.out,aB,HP.out,HQ.out,HS.out,HT.out,H9.out,hr]) hg⟩
   have H11:=hdq hr;clear hr;have:=TV.facts (S11.facts 0 rfl);have:=TV.facts (S11.facts 1 rfl);go_wp2_with fail;have S12:=S11.bN 1 rfl (.int .i64 50) (.int .i64 1) i s0 (.slice o9 l9.length c9);refine rtv (S12.facts 1 rfl) Tryz.results215 ?_;exact S12.res (.head _) (by simp[HU.out,aB,HP.out,HQ.out,HS.out,HT.out,H9.out,H11.out]<;>rfl) rfl
 | false=>
  have hC:=S5.Af sLP hs;have HS:=hdq hs;clear hs;go_upto_region 18 with (go_at_call 135;refine hC.mono ?_;rintro e w6 ⟨rfl,S6⟩);have:=TV.facts (S6.facts 0 rfl);have:=TV.facts (S6.facts 1 rfl);go_wp2_with fail;have S9:=(S6.bN 1 rfl (.int .i64 50) (.int .i64 0) i s0 (.slice none 0 0)).leaf 50 0 i s0;refine rtv (S9.facts 1 rfl) Tryz.results215 ?_;exact S9.res (.head _) (by simp[HU.out,aB,HP.out,HQ.out,HS.out]<;>rfl) rfl
theorem xT(pb:Nat)(L:List T3)(i:Nat)(w:World)(h:PS w pb L i)(x:Nat)(hn:fN (lk L) i=.error x):Calls Tryz.prog 215 #[pq pb] w (aD pb L w (bT (lk L) i)):=by
 have HU:=hdq (show bT (lk L) i=.error x by unfold bT;rw[hn];rfl);have HN:=hdq hn;clear hn;go_enter Tryz.func215,Tryz.ntmps215;go_upto_region 1 with fail;have S1:=SV.new h;generalize World.alloc w _=w1 at S1 ⊢;obtain⟨k1,_⟩:=S1.ps.cells;go_upto_block 2 with fail;refine(S1.pB (fT pb L i w1 S1.ps)).mono ?_;rintro e w2 (⟨y,hr,rfl,hg⟩|⟨s2,j',hr,rfl,S2⟩)
 ·rw[HN.out]at hr
  cases hr
  unfold pan;go_wp2_with fail;exact⟨rfl,aD.err x HU.out hg⟩
 ·rw[HN.out]at hr;cases hr
theorem qS(pb:Nat)(L:List T3)(hX:iC L)(i:Nat)(w:World)(h:PS w pb L i):Calls Tryz.prog 215 #[pq pb] w (aD pb L w (bT (lk L) i)):=by
 cases hn:fN (lk L) i with
 | error x=>exact xT pb L i w h x hn
 | ok sj=>
  obtain⟨s0,j⟩:=sj
  rcases Jj s0 with ⟨r,h1,h2,h3⟩|⟨h1,h2⟩
  ·exact xQ pb L hX i w h s0 r j hn h3 h1 h2
  ·exact xS pb L hX i w h s0 j hn h2 h1
theorem nK(L:List Tk)(n:Nat)(acc:List T)(j:Nat):fD L (n+1) acc j=if isName L j then aB (bT L j) fun x j'=>fD L n (acc++[x]) j' else .ok (acc,j):=by conv=>lhs;unfold fD
theorem dP(pb:Nat)(L:List T3)(hX:iC L)(most:Nat)(hm:most≤1000)(i:Nat)(w:World)(h:PS w pb L i):Calls Tryz.prog 216 #[pq pb,most] w (kS pb L w (lG (lk L) most i)):=by
 have HU:=hdq (show lG (lk L) most i=fD (lk L) most [] i from rfl);have hpl:=h.lt;have hbd:=h.bd;have hle:=h.le;have hf0:=pG;go_enter Tryz.func216,Tryz.ntmps216;go_upto_region 2 with fail
 go_loopg [5] most (fun g v wr=>∃ (l:List T) (jj:Nat),Lst w wr v l∧Ok pb L jj w wr∧i≤jj∧g=most - l.length∧l.length≤most∧lG (lk L) most i=fD (lk L) (most - l.length) l jj)
 case atStart=>exact⟨[],i,Lst.nil w w,⟨aF _ (Below.refl _ _),h⟩,Nat.le_refl _,rfl,Nat.zero_le _,HU.out⟩
 case round=>
  obtain⟨l,jj,hL,hO,hij,hg,hlm,hq⟩:=hrel;have HQ:=hdq hq;have HG:=hdq hg;clear hq hg HU;obtain⟨bo,cap,rfl⟩:=hL.form;have hjL:=hO.2.le;have S0:=SV.begin hO.2
  by_cases hlt:l.length<most
  ·have hlt':(l.length:Int)<(most:Int):=by omega
   obtain⟨q,hq⟩:∃ q,most - l.length=q+1:=⟨most - l.length - 1,by omega⟩
   have hT:=aX pb L jj 0 (by decide) wr hO.2
   by_cases hk:(tok (lk L) jj).kind=1
   ·have HQ2:=hdq (show lG (lk L) most i=aB (bT (lk L) jj) fun x j'=>fD (lk L) q (l++[x]) j' by rw[HQ.out,hq,nK,if_pos (by unfold isName;rw[hk];rfl)]);rw[show (tok (L.map T3.tk) (jj+0)).kind=1 from hk]at hT;have HQQ:=hdq hq;clear HQ hk hq;go_upto_block 3 with (go_at_call 125;refine(S0.aQ (E:=fun e=>∃ p:Int,e=_) hT).mono ?_;rintro e w3 ⟨⟨p,rfl⟩,S3⟩);have hO3:=hO.trans S3.ok;have hL3:=hL.step hpl S3.ok.1;refine(qS pb L hX jj w3 S3.ps).mono ?_;intro e w4 hp
    rcases hp.split with ⟨t',j',k',n',a',s',ao',m',c',hr1,rfl,ht,hok⟩|⟨a',hr1,rfl,hg4⟩
    ·have hL4:=hL3.step hpl hok.1;have ht4:=TrC.beside hL3 hO3.1.size ht;have hO4:=hO3.trans hok;have hj':jj+1≤j':=jF (lk L) jj t' j' hr1;have hjl':=hok.2.le;have HQ3:=hdq (show lG (lk L) most i=fD (lk L) q (l++[t']) j' by rw[HQ2.out,hr1];rfl);clear HQ2 hr1 hp hL3 hO3 hok ht S3 hT;go_wp2_with (at_builtin;go_loud (refine fL rfl _ _ rfl w w4 (.slice bo l.length cap) l rfl hL4 t' (vT k' n' a' s' ao' m' c') ht4 rfl ?dd1 ?dd2 ?_))
     case dd1=>exact hO4.1.size
     case dd2=>omega
     intro v5 w5 hL5 hb5;have hO5:=hO4.new hpl hb5;clear hL4 ht4 hO4;go_wp2_with fail
     go_roundg q
     case measure=>rw[HG.out];have:=HQQ.out;omega
     case rel=>exact⟨l++[t'],j',hL5,hO5,by omega,by rw[List.length_append];have:=HQQ.out;simp;omega,by rw[List.length_append];simp;omega,by rw[HQ3.out,List.length_append];congr 1;have:=HQQ.out;simp;omega⟩
    ·unfold pan;go_wp2_with fail;exact⟨rfl,kS.err a' (by rw[HQ2.out,hr1];rfl) (hO3.1.trans hg4)⟩
   ·have HQ2:=hdq (show lG (lk L) most i=.ok (l,jj)by rw[HQ.out,hq,nK,if_neg (by unfold isName;simpa using hk)]);generalize hkk:(tok (lk L) jj).kind=tk at hk;rw[show (tok (L.map T3.tk) (jj+0)).kind=tk from hkk]at hT;clear hkk HQ hq;go_wp2_with (go_at_call 125;refine(S0.aQ (E:=fun e=>∃ p:Int,e=_) hT).mono ?_;rintro e w3 ⟨⟨p,rfl⟩,S3⟩);go_ret;exact kS.ok HQ2.out (hL.step hpl S3.ok.1) (hO.trans S3.ok)
  ·have hlt':¬ (l.length:Int)<(most:Int):=by omega
   have HQ2:=hdq (show lG (lk L) most i=.ok (l,jj)by rw[HQ.out,show most - l.length=0 from by omega];unfold fD;rfl);clear HQ;go_wp2_with fail;go_ret;exact kS.ok HQ2.out hL hO
theorem Jq(pb:Nat)(L:List T3)(i:Nat)(w:World)(h:PS w pb L i):Calls Tryz.prog 240 #[pq pb] w (aD pb L w (qV (lk L) i)):=by
 have HU:=hdq (show qV (lk L) i=aB (bM (lk L) i) fun x j=>if sgn (lk L) j [bY]then aB (bM (lk L) (j+1)) fun y j'=>.ok (node 49 i [x,y],j')else .ok (node 49 i [none_,x],j)from rfl);go_enter Tryz.func240,Tryz.ntmps240;go_upto_region 1 with fail;have S1:=SV.new h;generalize World.alloc w _=w1 at S1 ⊢;obtain⟨c1,_⟩:=S1.ps.cells;go_upto_region 2 with fail;clear c1;go_upto_block 2 with fail;refine(S1.aN (aV pb L i w1 (Nat.zero_le _) S1.ps)).mono ?_;rintro e w2 (⟨x,hr,rfl,hg⟩|⟨t2,j2,k2,n2,a2,s2,o2,m2,c2,hr,rfl,S2⟩)
 ·unfold pan;go_wp2_with fail;exact⟨rfl,aD.err x (by simp[HU.out,aB,hr]) hg⟩
 have H2:=hdq hr;clear hr;go_upto_region 3 with fail;have S3:=S2.yV (tg k2 n2 a2 s2 o2 m2 c2);generalize World.alloc w2 _=w3 at S3 ⊢;generalize w2.heap.size=B3 at S3 ⊢
 cases hs:sgn (lk L) j2 [bY] with
 | true=>
  have hC:=S3.AM bY hs;have HS:=hdq hs;clear hs;go_upto_region 4 with (go_at_call 135;refine hC.mono ?_;rintro e w4 ⟨rfl,S4⟩);refine wp_region_any (by kernel_rfl) ?_;change wpAny _ _ _ _ _ _ _ (World.drew _);have S5:=S4.drew;generalize World.drew w4=w5 at S5 ⊢;have:=TV.facts (S5.facts 0 rfl);refine tkA 0 ?_;refine tkA 2 ?_;refine rdA [1,3] ?_;refine cnA (fun Kx RZ=>?_) ?_
  ·go_simp;refine RZ _ _ ?_;clear RZ Kx;refine dG 3 fun Kx RZ=>?_;go_simp;refine(S5.aN (aV pb L (j2+1) _ (Nat.zero_le _) S5.ps)).mono ?_;rintro e w7 (⟨x,hr,rfl,hg⟩|⟨t7,j7,k7,n7,a7,s7,o7,m7,c7,hr,rfl,S7⟩)
   ·unfold pan;exact⟨rfl,aD.err x (by simp[HU.out,aB,H2.out,HS.out,hr]) hg⟩
   have H7:=hdq hr;clear hr;have:=TV.facts (S7.facts 0 rfl);refine RZ _ _ ?_;clear RZ Kx;refine dG 4 fun Kx RZ=>?_;have S8:=S7.lit (aW.two (S7.tr _ (.tail _ (.head _))) (S7.tr _ (.head _))) #[.int .i64 k2,.int .i64 n2,.int .i64 a2,.string s2,.slice o2 m2 c2,.int .i64 k7,.int .i64 n7,.int .i64 a7,.string s7,.slice o7 m7 c7] rfl 49 0 i e0 2 2 rfl;go_simp;refine RZ _ _ ?_;clear RZ Kx;refine dG 5 fun Kx RZ=>?_;go_simp;refine m2q (S8.dI 49 i) fun w9 S9=>?_;refine RZ _ _ ?_;clear RZ Kx;refine dG 6 fun Kx RZ=>?_;have:=TV.facts (S9.facts 1 rfl);go_simp;refine RZ _ _ ?_;clear RZ Kx;refine fX ?_;go_wp2_with fail;have S10:=S9.bN 1 rfl (.int .i64 49) (.int .i64 0) i (.string ⟨#[]⟩) (.slice (some ⟨w7.heap.size,0,none⟩) 2 2);refine rtv (S10.facts 1 rfl) Tryz.results240 ?_;exact S10.res (.head _) (by simp[HU.out,aB,H2.out,HS.out,H7.out]<;>rfl) rfl
  refine cnA (fun Kx RZ=>?_) AllReady.nil;go_simp;refine(S5.aN (aV pb L (j2+1) _ (Nat.zero_le _) S5.ps)).mono ?_;rintro e w7 (⟨x,hr,rfl,hg⟩|⟨t7,j7,k7,n7,a7,s7,o7,m7,c7,hr,rfl,S7⟩)
  ·unfold pan;exact⟨rfl,aD.err x (by simp[HU.out,aB,H2.out,HS.out,hr]) hg⟩
  have H7:=hdq hr;clear hr;have:=TV.facts (S7.facts 0 rfl);refine RZ _ _ ?_;clear RZ Kx;refine dG 1 fun Kx RZ=>?_;go_simp;refine RZ _ _ ?_;clear RZ Kx;refine dG 4 fun Kx RZ=>?_;have S8:=S7.lit (aW.two (S7.tr _ (.tail _ (.head _))) (S7.tr _ (.head _))) #[.int .i64 k2,.int .i64 n2,.int .i64 a2,.string s2,.slice o2 m2 c2,.int .i64 k7,.int .i64 n7,.int .i64 a7,.string s7,.slice o7 m7 c7] rfl 49 0 i e0 2 2 rfl;go_simp;refine RZ _ _ ?_;clear RZ Kx;refine dG 5 fun Kx RZ=>?_;go_simp;refine m2q (S8.dI 49 i) fun w9 S9=>?_;refine RZ _ _ ?_;clear RZ Kx;refine dG 6 fun Kx RZ=>?_;have:=TV.facts (S9.facts 1 rfl);go_simp;refine RZ _ _ ?_;clear RZ Kx;refine fX ?_;go_wp2_with fail;have S10:=S9.bN 1 rfl (.int .i64 49) (.int .i64 0) i (.string ⟨#[]⟩) (.slice (some ⟨w7.heap.size,0,none⟩) 2 2);refine rtv (S10.facts 1 rfl) Tryz.results240 ?_;exact S10.res (.head _) (by simp[HU.out,aB,H2.out,HS.out,H7.out]<;>rfl) rfl
 | false=>
  have hC:=S3.Af bY hs;have HS:=hdq hs;clear hs;go_upto_region 5 with (go_at_call 135;refine hC.mono ?_;rintro e w4 ⟨rfl,S4⟩);refine wp_region_any (by kernel_rfl) ?_;change wpAny _ _ _ _ _ _ _ (World.drew _);have S5:=S4.drew;generalize World.drew w4=w5 at S5 ⊢;have:=TV.facts (S5.facts 0 rfl);refine tkA 0 ?_;refine rdA [1,2] ?_;refine cnA (fun Kx RZ=>?_) ?_
  ·go_simp;refine m2q (S5.uG) fun w7 S7=>?_;have:=TV.facts (S7.facts 0 rfl);refine RZ _ _ ?_;clear RZ Kx;refine dG 2 fun Kx RZ=>?_;go_simp;refine RZ _ _ ?_;clear RZ Kx;refine dG 3 fun Kx RZ=>?_;have S8:=S7.lit (aW.two (S7.tr _ (.head _)) (S7.tr _ (.tail _ (.head _)))) #[.int .i64 10,.int .i64 0,.int .i64 0,.string ⟨#[]⟩,.slice none 0 0,.int .i64 k2,.int .i64 n2,.int .i64 a2,.string s2,.slice o2 m2 c2] rfl 49 0 i e0 2 2 rfl;go_simp;refine RZ _ _ ?_;clear RZ Kx;refine dG 4 fun Kx RZ=>?_;go_simp;refine m2q (S8.dI 49 i) fun w9 S9=>?_;refine RZ _ _ ?_;clear RZ Kx;refine dG 5 fun Kx RZ=>?_;have:=TV.facts (S9.facts 1 rfl);go_simp;refine RZ _ _ ?_;clear RZ Kx;refine fX ?_;go_wp2_with fail;have S10:=S9.bN 1 rfl (.int .i64 49) (.int .i64 0) i (.string ⟨#[]⟩) (.slice (some ⟨w7.heap.size,0,none⟩) 2 2);refine rtv (S10.facts 1 rfl) Tryz.results240 ?_;exact S10.res (.head _) (by simp[HU.out,aB,H2.out,HS.out]<;>rfl) rfl
  refine cnA (fun Kx RZ=>?_) AllReady.nil;go_simp;refine RZ _ _ ?_;clear RZ Kx;refine dG 1 fun Kx RZ=>?_;go_simp;refine m2q (S5.uG) fun w7 S7=>?_;have:=TV.facts (S7.facts 0 rfl);refine RZ _ _ ?_;clear RZ Kx;refine dG 3 fun Kx RZ=>?_;have S8:=S7.lit (aW.two (S7.tr _ (.head _)) (S7.tr _ (.tail _ (.head _)))) #[.int .i64 10,.int .i64 0,.int .i64 0,.string ⟨#[]⟩,.slice none 0 0,.int .i64 k2,.int .i64 n2,.int .i64 a2,.string s2,.slice o2 m2 c2] rfl 49 0 i e0 2 2 rfl;go_simp;refine RZ _ _ ?_;clear RZ Kx;refine dG 4 fun Kx RZ=>?_;go_simp;refine m2q (S8.dI 49 i) fun w9 S9=>?_;refine RZ _ _ ?_;clear RZ Kx;refine dG 5 fun Kx RZ=>?_;have:=TV.facts (S9.facts 1 rfl);go_simp;refine RZ _ _ ?_;clear RZ Kx;refine fX ?_;go_wp2_with fail;have S10:=S9.bN 1 rfl (.int .i64 49) (.int .i64 0) i (.string ⟨#[]⟩) (.slice (some ⟨w7.heap.size,0,none⟩) 2 2);refine rtv (S10.facts 1 rfl) Tryz.results240 ?_;exact S10.res (.head _) (by simp[HU.out,aB,H2.out,HS.out]<;>rfl) rfl
end
end Go.Proofs.YtfdlmcgcckkkdaaGreatDoor
