/- ParseWhole, part 19: what it stands on. -/
import Derived.Test.YtfdlmcgcckkkdaaGreatDoorV18
set_option linter.all false
set_option maxHeartbeats 40000000
set_option maxRecDepth 100000
namespace Go.Proofs.YtfdlmcgcckkkdaaGreatDoor
section
open Go.RowKit Lx Px
theorem Em(pb:Nat)(L:List T3)(a:Nat)(lab:ByteArray)(i:Nat)(w:World)(h:PS w pb L i):Calls Tryz.prog 187 #[pq pb,a,lab] w (aD pb L w (wQ (lk L) a i)):=by
 have HU:=hdq (show (wQ (lk L) a i)=(aB (fN (lk L) i) fun s j=>aG (lk L) (.mk 27 0 a s []) j)from rfl);go_enter Tryz.func187,Tryz.ntmps187;go_upto_region 1 with fail;have S1:=SV.new h;generalize World.alloc w _=w1 at S1 ⊢;go_upto_block 1 with fail;refine(S1.pB (fT pb L i w1 S1.ps)).mono ?_;rintro e w2 (⟨x,hr,rfl,hg⟩|⟨s2,j2,hr,rfl,S2⟩)
 ·unfold pan;go_wp2_with fail;exact⟨rfl,aD.err x (by simp[HU.out,aB,aG,hr]) hg⟩
 have H1:=hdq hr;clear hr;have S3:=S2.leaf 27 0 a s2;go_upto_block 1 with fail;refine(S3.gX 27 0 a s2 none 0 0).mono ?_;rintro e wz (⟨x,hr,rfl,hg⟩|⟨jz,hr,rfl,Sz⟩)
 ·unfold pan;go_wp2_with fail;exact⟨rfl,aD.err x (by simp[HU.out,aB,aG,H1.out,hr]) hg⟩
 have Hz:=hdq hr;clear hr;have:=TV.facts (Sz.facts 0 rfl);go_wp2_with fail;have Sy:=Sz.bN 0 rfl (.int .i64 27) (.int .i64 0) a s2 (.slice none 0 0);refine rtv (Sy.facts 0 rfl) Tryz.results187 ?_;exact Sy.res (.head _) (by simp[HU.out,aB,aG,H1.out,Hz.out]<;>rfl) rfl
theorem Ll(pb:Nat)(L:List T3)(a:Nat)(lab:ByteArray)(i:Nat)(w:World)(h:PS w pb L i):Calls Tryz.prog 186 #[pq pb,a,lab] w (aD pb L w (aB (gU (lk L) i [wTO]) fun _ j=>wQ (lk L) a j)):=by
 have HU:=hdq (show (aB (gU (lk L) i [wTO]) fun _ j=>wQ (lk L) a j)=(aB (gU (lk L) i [wTO]) fun _ j=>wQ (lk L) a j)from rfl);go_enter Tryz.func186,Tryz.ntmps186;go_upto_region 1 with fail;have S1:=SV.new h;generalize World.alloc w _=w1 at S1 ⊢;go_upto_block 1 with fail;refine(S1.pI [wTO] (by simp) _ rfl 1 rfl).mono ?_;rintro e w2 (⟨x,hr,rfl,hg⟩|⟨j2,hr,rfl,S2⟩)
 ·unfold pan;go_wp2_with fail;exact⟨rfl,aD.err x (by simp[HU.out,aB,aG,hr]) hg⟩
 have H1:=hdq hr;clear hr;go_upto_block 2 with fail;refine(S2.aN (Em pb L a lab j2 w2 S2.ps)).mono ?_;rintro e w3 (⟨x,hr,rfl,hg⟩|⟨t3,j3,k3,n3,a3,s3,o3,m3,c3,hr,rfl,S3⟩)
 ·unfold pan;go_wp2_with fail;exact⟨rfl,aD.err x (by simp[HU.out,aB,aG,H1.out,hr]) hg⟩
 have H2:=hdq hr;clear hr;have:=TV.facts (S3.facts 0 rfl);go_wp2_with fail;have S4:=S3.bN 0 rfl k3 n3 a3 s3 (.slice o3 m3 c3);refine rtv (S4.facts 0 rfl) Tryz.results186 ?_;exact S4.res (.head _) (by simp[HU.out,aB,aG,H1.out,H2.out]<;>rfl) rfl
theorem Lb(pb:Nat)(L:List T3)(a:Nat)(lab:ByteArray)(i:Nat)(w:World)(h:PS w pb L i):Calls Tryz.prog 190 #[pq pb,a,lab] w (aD pb L w (aG (lk L) (node 30 a []) i)):=by
 have HU:=hdq (show (aG (lk L) (node 30 a []) i)=(aB (aM (lk L) i aS) fun _ j=>.ok (node 30 a [],j))from rfl);go_enter Tryz.func190,Tryz.ntmps190;go_upto_region 1 with fail;have S1:=SV.new h;generalize World.alloc w _=w1 at S1 ⊢;go_upto_region 1 with fail;have S2:=S1.leaf 30 0 a e0;go_upto_block 1 with fail;refine m2q (S2.dI 30 a) fun w3 S3=>?_;go_upto_block 1 with fail;refine(S3.gX 30 0 a ⟨#[]⟩ none 0 0).mono ?_;rintro e wz (⟨x,hr,rfl,hg⟩|⟨jz,hr,rfl,Sz⟩)
 ·unfold pan;go_wp2_with fail;exact⟨rfl,aD.err x (by simp[HU.out,aB,aG,hr]) hg⟩
 have Hz:=hdq hr;clear hr;have:=TV.facts (Sz.facts 0 rfl);go_wp2_with fail;have Sy:=Sz.bN 0 rfl (.int .i64 30) (.int .i64 0) a (.string ⟨#[]⟩) (.slice none 0 0);refine rtv (Sy.facts 0 rfl) Tryz.results190 ?_;exact Sy.res (.head _) (by simp[HU.out,aB,aG,Hz.out]<;>rfl) rfl
theorem GL(pb:Nat)(L:List T3)(a:Nat)(lab:ByteArray)(i:Nat)(w:World)(h:PS w pb L i):Calls Tryz.prog 192 #[pq pb,a,lab] w (aD pb L w (aB (pD (lk L) true i) fun c j=>aG (lk L) (node 34 a [c]) j)):=by
 have HU:=hdq (show (aB (pD (lk L) true i) fun c j=>aG (lk L) (node 34 a [c]) j)=(aB (pD (lk L) true i) fun c j=>aG (lk L) (node 34 a [c]) j)from rfl);go_enter Tryz.func192,Tryz.ntmps192;go_upto_region 1 with fail;have S1:=SV.new h;generalize World.alloc w _=w1 at S1 ⊢;go_upto_block 1 with fail;refine(S1.aN (lR pb L true i w1 S1.ps)).mono ?_;rintro e w2 (⟨x,hr,rfl,hg⟩|⟨t2,j2,k2,n2,a2,s2,o2,m2,c2,hr,rfl,S2⟩)
 ·unfold pan;go_wp2_with fail;exact⟨rfl,aD.err x (by simp[HU.out,aB,aG,hr]) hg⟩
 have H1:=hdq hr;clear hr;have S3:=S2.lit (aW.one (S2.tr _ (.head _))) (tg k2 n2 a2 s2 o2 m2 c2) rfl 34 0 a e0 1 1 rfl;go_upto_block 1 with fail;refine m2q (S3.dI 34 a) fun w4 S4=>?_;go_upto_block 1 with fail;refine(S4.gX 34 0 a ⟨#[]⟩ (some ⟨w2.heap.size,0,none⟩) 1 1).mono ?_;rintro e wz (⟨x,hr,rfl,hg⟩|⟨jz,hr,rfl,Sz⟩)
 ·unfold pan;go_wp2_with fail;exact⟨rfl,aD.err x (by simp[HU.out,aB,aG,H1.out,hr]) hg⟩
 have Hz:=hdq hr;clear hr;have:=TV.facts (Sz.facts 0 rfl);go_wp2_with fail;have Sy:=Sz.bN 0 rfl (.int .i64 34) (.int .i64 0) a (.string ⟨#[]⟩) (.slice (some ⟨w2.heap.size,0,none⟩) 1 1);refine rtv (Sy.facts 0 rfl) Tryz.results192 ?_;exact Sy.res (.head _) (by simp[HU.out,aB,aG,H1.out,Hz.out]<;>rfl) rfl
theorem Gw(pb:Nat)(L:List T3)(a:Nat)(lab:ByteArray)(i:Nat)(w:World)(h:PS w pb L i):Calls Tryz.prog 193 #[pq pb,a,lab] w (aD pb L w (aB (pD (lk L) true i) fun c j=>aG (lk L) (node 35 a [c]) j)):=by
 have HU:=hdq (show (aB (pD (lk L) true i) fun c j=>aG (lk L) (node 35 a [c]) j)=(aB (pD (lk L) true i) fun c j=>aG (lk L) (node 35 a [c]) j)from rfl);go_enter Tryz.func193,Tryz.ntmps193;go_upto_region 1 with fail;have S1:=SV.new h;generalize World.alloc w _=w1 at S1 ⊢;go_upto_block 1 with fail;refine(S1.aN (lR pb L true i w1 S1.ps)).mono ?_;rintro e w2 (⟨x,hr,rfl,hg⟩|⟨t2,j2,k2,n2,a2,s2,o2,m2,c2,hr,rfl,S2⟩)
 ·unfold pan;go_wp2_with fail;exact⟨rfl,aD.err x (by simp[HU.out,aB,aG,hr]) hg⟩
 have H1:=hdq hr;clear hr;have S3:=S2.lit (aW.one (S2.tr _ (.head _))) (tg k2 n2 a2 s2 o2 m2 c2) rfl 35 0 a e0 1 1 rfl;go_upto_block 1 with fail;refine m2q (S3.dI 35 a) fun w4 S4=>?_;go_upto_block 1 with fail;refine(S4.gX 35 0 a ⟨#[]⟩ (some ⟨w2.heap.size,0,none⟩) 1 1).mono ?_;rintro e wz (⟨x,hr,rfl,hg⟩|⟨jz,hr,rfl,Sz⟩)
 ·unfold pan;go_wp2_with fail;exact⟨rfl,aD.err x (by simp[HU.out,aB,aG,H1.out,hr]) hg⟩
 have Hz:=hdq hr;clear hr;have:=TV.facts (Sz.facts 0 rfl);go_wp2_with fail;have Sy:=Sz.bN 0 rfl (.int .i64 35) (.int .i64 0) a (.string ⟨#[]⟩) (.slice (some ⟨w2.heap.size,0,none⟩) 1 1);refine rtv (Sy.facts 0 rfl) Tryz.results193 ?_;exact Sy.res (.head _) (by simp[HU.out,aB,aG,H1.out,Hz.out]<;>rfl) rfl
theorem LD(pb:Nat)(L:List T3)(a:Nat)(lab:ByteArray)(i:Nat)(w:World)(h:PS w pb L i):Calls Tryz.prog 184 #[pq pb,a,lab] w (aD pb L w (Dw (lk L) a i)):=by
 have HU:=hdq (show (Dw (lk L) a i)=(aB (nY (lk L) (bM (lk L)) i) fun x j=>aG (lk L) (node 25 a [node 2 i [x]]) j)from rfl);obtain⟨k0,_⟩:=h.cells;go_enter Tryz.func184,Tryz.ntmps184;go_upto_region 1 with fail;have S1:=SV.new h;generalize World.alloc w _=w1 at S1 ⊢;obtain⟨k1,_⟩:=S1.ps.cells;go_upto_block 2 with fail;refine(S1.aN (BJ pb L 0 (bM (lk L)) (bD (lk L)) (fun i w _ h=>aV pb L i w (Nat.zero_le _) h) i w1 (Nat.zero_le _) S1.ps)).mono ?_;rintro e w2 (⟨x,hr,rfl,hg⟩|⟨t2,j2,k2,n2,a2,s2,o2,m2,c2,hr,rfl,S2⟩)
 ·unfold pan;go_wp2_with fail;exact⟨rfl,aD.err x (by simp[HU.out,aB,aG,hr]) hg⟩
 have H1:=hdq hr;clear hr;have S3:=S2.lit (aW.one (S2.tr _ (.head _))) (tg k2 n2 a2 s2 o2 m2 c2) rfl 2 0 i e0 1 1 rfl;go_upto_block 2 with fail;refine m2q (S3.dI 2 i) fun w4 S4=>?_;have S5:=S4.lit (aW.one (S4.tr _ (.head _))) (tg 2 0 i ⟨#[]⟩ (some ⟨w2.heap.size,0,none⟩) 1 1) rfl 25 0 a e0 1 1 rfl;go_upto_block 2 with fail;refine m2q (S5.dI 25 a) fun w6 S6=>?_;go_upto_block 2 with fail;refine(S6.gX 25 0 a ⟨#[]⟩ (some ⟨w4.heap.size,0,none⟩) 1 1).mono ?_;rintro e wz (⟨x,hr,rfl,hg⟩|⟨jz,hr,rfl,Sz⟩)
 ·unfold pan;go_wp2_with fail;exact⟨rfl,aD.err x (by simp[HU.out,aB,aG,H1.out,hr]) hg⟩
 have Hz:=hdq hr;clear hr;have:=TV.facts (Sz.facts 0 rfl);go_wp2_with fail;have Sy:=Sz.bN 0 rfl (.int .i64 25) (.int .i64 0) a (.string ⟨#[]⟩) (.slice (some ⟨w4.heap.size,0,none⟩) 1 1);refine rtv (Sy.facts 0 rfl) Tryz.results184 ?_;exact Sy.res (.head _) (by simp[HU.out,aB,aG,H1.out,Hz.out]<;>rfl) rfl
theorem tV(pb:Nat)(L:List T3)(a:Nat)(lab:ByteArray)(i:Nat)(w:World)(h:PS w pb L i):Calls Tryz.prog 194 #[pq pb,a,lab] w (aD pb L w (jP (lk L) a i)):=by
 have HU:=hdq (show (jP (lk L) a i)=(aB (fN (lk L) i) fun s j=>aB (kL (lk L) Jw j) fun x j1=>aB (kL (lk L) wIN j1) fun y j2=>aG (lk L) (.mk 36 0 a s [x,y]) j2)from rfl);go_enter Tryz.func194,Tryz.ntmps194;go_upto_region 1 with fail;have S1:=SV.new h;generalize World.alloc w _=w1 at S1 ⊢;go_upto_block 1 with fail;refine(S1.pB (fT pb L i w1 S1.ps)).mono ?_;rintro e w2 (⟨x,hr,rfl,hg⟩|⟨s2,j2,hr,rfl,S2⟩)
 ·unfold pan;go_wp2_with fail;exact⟨rfl,aD.err x (by simp[HU.out,aB,aG,hr]) hg⟩
 have H2:=hdq hr;clear hr;go_upto_block 2 with fail;refine(S2.aN (rW pb L Jw j2 w2 S2.ps)).mono ?_;rintro e w3 (⟨x,hr,rfl,hg⟩|⟨t3,j3,k3,n3,a3,s3,o3,m3,c3,hr,rfl,S3⟩)
 ·unfold pan;go_wp2_with fail;exact⟨rfl,aD.err x (by simp[HU.out,aB,aG,H2.out,hr]) hg⟩
 have H3:=hdq hr;clear hr;go_upto_block 2 with fail;refine(S3.aN (rW pb L wIN j3 w3 S3.ps)).mono ?_;rintro e w4 (⟨x,hr,rfl,hg⟩|⟨t4,j4,k4,n4,a4,s4,o4,m4,c4,hr,rfl,S4⟩)
 ·unfold pan;go_wp2_with fail;exact⟨rfl,aD.err x (by simp[HU.out,aB,aG,H2.out,H3.out,hr]) hg⟩
 have H4:=hdq hr;clear hr;have S5:=S4.lit (aW.two (S4.tr _ (.tail _ (.head _))) (S4.tr _ (.head _))) #[.int .i64 k3,.int .i64 n3,.int .i64 a3,.string s3,.slice o3 m3 c3,.int .i64 k4,.int .i64 n4,.int .i64 a4,.string s4,.slice o4 m4 c4] rfl 36 0 a s2 2 2 rfl;go_upto_block 2 with fail;refine(S5.gX 36 0 a s2 (some ⟨w4.heap.size,0,none⟩) 2 2).mono ?_;rintro e wz (⟨x,hr,rfl,hg⟩|⟨jz,hr,rfl,Sz⟩)
 ·unfold pan;go_wp2_with fail;exact⟨rfl,aD.err x (by simp[HU.out,aB,aG,H2.out,H3.out,H4.out,hr]) hg⟩
 have Hz:=hdq hr;clear hr;have:=TV.facts (Sz.facts 0 rfl);go_wp2_with fail;have Sy:=Sz.bN 0 rfl (.int .i64 36) (.int .i64 0) a s2 (.slice (some ⟨w4.heap.size,0,none⟩) 2 2);refine rtv (Sy.facts 0 rfl) Tryz.results194 ?_;exact Sy.res (.head _) (by simp[HU.out,aB,aG,H2.out,H3.out,H4.out,Hz.out]<;>rfl) rfl
theorem Lw(pb:Nat)(L:List T3)(a:Nat)(lab:ByteArray)(i:Nat)(w:World)(h:PS w pb L i):Calls Tryz.prog 198 #[pq pb,a,lab] w (aD pb L w (DS (lk L) a i)):=by
 have HU:=hdq (show (DS (lk L) a i)=(aB (pA (lk L) i) fun s j=>aB (dX (lk L) wW j) fun r j1=>aB (fC (lk L) pM j1) fun x j2=>aG (lk L) (.mk 43 0 a s [r,x]) j2)from rfl);go_enter Tryz.func198,Tryz.ntmps198;go_upto_region 1 with fail;have S1:=SV.new h;generalize World.alloc w _=w1 at S1 ⊢;go_upto_block 1 with fail;refine(S1.pB (iO pb L i w1 S1.ps)).mono ?_;rintro e w2 (⟨x,hr,rfl,hg⟩|⟨s2,j2,hr,rfl,S2⟩)
 ·unfold pan;go_wp2_with fail;exact⟨rfl,aD.err x (by simp[HU.out,aB,aG,hr]) hg⟩
 have H2:=hdq hr;clear hr;go_upto_block 2 with fail;refine(S2.aN (lU pb L wW j2 w2 S2.ps)).mono ?_;rintro e w3 (⟨x,hr,rfl,hg⟩|⟨t3,j3,k3,n3,a3,s3,o3,m3,c3,hr,rfl,S3⟩)
 ·unfold pan;go_wp2_with fail;exact⟨rfl,aD.err x (by simp[HU.out,aB,aG,H2.out,hr]) hg⟩
 have H3:=hdq hr;clear hr;go_upto_block 2 with fail;refine(S3.aN (jJ pb L pM j3 w3 S3.ps)).mono ?_;rintro e w4 (⟨x,hr,rfl,hg⟩|⟨t4,j4,k4,n4,a4,s4,o4,m4,c4,hr,rfl,S4⟩)
 ·unfold pan;go_wp2_with fail;exact⟨rfl,aD.err x (by simp[HU.out,aB,aG,H2.out,H3.out,hr]) hg⟩
 have H4:=hdq hr;clear hr;have S5:=S4.lit (aW.two (S4.tr _ (.tail _ (.head _))) (S4.tr _ (.head _))) #[.int .i64 k3,.int .i64 n3,.int .i64 a3,.string s3,.slice o3 m3 c3,.int .i64 k4,.int .i64 n4,.int .i64 a4,.string s4,.slice o4 m4 c4] rfl 43 0 a s2 2 2 rfl;go_upto_block 2 with fail;refine(S5.gX 43 0 a s2 (some ⟨w4.heap.size,0,none⟩) 2 2).mono ?_;rintro e wz (⟨x,hr,rfl,hg⟩|⟨jz,hr,rfl,Sz⟩)
 ·unfold pan;go_wp2_with fail;exact⟨rfl,aD.err x (by simp[HU.out,aB,aG,H2.out,H3.out,H4.out,hr]) hg⟩
 have Hz:=hdq hr;clear hr;have:=TV.facts (Sz.facts 0 rfl);go_wp2_with fail;have Sy:=Sz.bN 0 rfl (.int .i64 43) (.int .i64 0) a s2 (.slice (some ⟨w4.heap.size,0,none⟩) 2 2);refine rtv (Sy.facts 0 rfl) Tryz.results198 ?_;exact Sy.res (.head _) (by simp[HU.out,aB,aG,H2.out,H3.out,H4.out,Hz.out]<;>rfl) rfl
theorem CU(pb:Nat)(L:List T3)(a:Nat)(lab:ByteArray)(i:Nat)(w:World)(h:PS w pb L i):Calls Tryz.prog 200 #[pq pb,a,lab] w (aD pb L w (mJ (lk L) a i)):=by
 have HU:=hdq (show (mJ (lk L) a i)=(aB (pA (lk L) i) fun s j=>aB (dX (lk L) kP j) fun r j1=>aB (fC (lk L) pM j1) fun x j2=>aG (lk L) (.mk 45 0 a s [r,x]) j2)from rfl);go_enter Tryz.func200,Tryz.ntmps200;go_upto_region 1 with fail;have S1:=SV.new h;generalize World.alloc w _=w1 at S1 ⊢;go_upto_block 1 with fail;refine(S1.pB (iO pb L i w1 S1.ps)).mono ?_;rintro e w2 (⟨x,hr,rfl,hg⟩|⟨s2,j2,hr,rfl,S2⟩)
 ·unfold pan;go_wp2_with fail;exact⟨rfl,aD.err x (by simp[HU.out,aB,aG,hr]) hg⟩
 have H2:=hdq hr;clear hr;go_upto_block 2 with fail;refine(S2.aN (lU pb L kP j2 w2 S2.ps)).mono ?_;rintro e w3 (⟨x,hr,rfl,hg⟩|⟨t3,j3,k3,n3,a3,s3,o3,m3,c3,hr,rfl,S3⟩)
 ·unfold pan;go_wp2_with fail;exact⟨rfl,aD.err x (by simp[HU.out,aB,aG,H2.out,hr]) hg⟩
 have H3:=hdq hr;clear hr;go_upto_block 2 with fail;refine(S3.aN (jJ pb L pM j3 w3 S3.ps)).mono ?_;rintro e w4 (⟨x,hr,rfl,hg⟩|⟨t4,j4,k4,n4,a4,s4,o4,m4,c4,hr,rfl,S4⟩)
 ·unfold pan;go_wp2_with fail;exact⟨rfl,aD.err x (by simp[HU.out,aB,aG,H2.out,H3.out,hr]) hg⟩
 have H4:=hdq hr;clear hr;have S5:=S4.lit (aW.two (S4.tr _ (.tail _ (.head _))) (S4.tr _ (.head _))) #[.int .i64 k3,.int .i64 n3,.int .i64 a3,.string s3,.slice o3 m3 c3,.int .i64 k4,.int .i64 n4,.int .i64 a4,.string s4,.slice o4 m4 c4] rfl 45 0 a s2 2 2 rfl;go_upto_block 2 with fail;refine(S5.gX 45 0 a s2 (some ⟨w4.heap.size,0,none⟩) 2 2).mono ?_;rintro e wz (⟨x,hr,rfl,hg⟩|⟨jz,hr,rfl,Sz⟩)
 ·unfold pan;go_wp2_with fail;exact⟨rfl,aD.err x (by simp[HU.out,aB,aG,H2.out,H3.out,H4.out,hr]) hg⟩
 have Hz:=hdq hr;clear hr;have:=TV.facts (Sz.facts 0 rfl);go_wp2_with fail;have Sy:=Sz.bN 0 rfl (.int .i64 45) (.int .i64 0) a s2 (.slice (some ⟨w4.heap.size,0,none⟩) 2 2);refine rtv (Sy.facts 0 rfl) Tryz.results200 ?_;exact Sy.res (.head _) (by simp[HU.out,aB,aG,H2.out,H3.out,H4.out,Hz.out]<;>rfl) rfl
theorem La(pb:Nat)(L:List T3)(a:Nat)(lab:ByteArray)(i:Nat)(w:World)(h:PS w pb L i):Calls Tryz.prog 195 #[pq pb,a,lab] w (aD pb L w (DE (lk L) a i)):=by
 have HU:=hdq (show (DE (lk L) a i)=(aB (Cr (lk L) i) fun r j=>aB (kL (lk L) wIN j) fun x j1=>aG (lk L) (node 37 a [r,x]) j1)from rfl);go_enter Tryz.func195,Tryz.ntmps195;go_upto_region 1 with fail;have S1:=SV.new h;generalize World.alloc w _=w1 at S1 ⊢;go_upto_block 1 with fail;refine(S1.aN (qO pb L i w1 (Nat.zero_le _) S1.ps)).mono ?_;rintro e w3 (⟨x,hr,rfl,hg⟩|⟨t3,j3,k3,n3,a3,s3,o3,m3,c3,hr,rfl,S3⟩)
 ·unfold pan;go_wp2_with fail;exact⟨rfl,aD.err x (by simp[HU.out,aB,aG,hr]) hg⟩
 have H3:=hdq hr;clear hr;go_upto_block 1 with fail;refine(S3.aN (rW pb L wIN j3 w3 S3.ps)).mono ?_;rintro e w4 (⟨x,hr,rfl,hg⟩|⟨t4,j4,k4,n4,a4,s4,o4,m4,c4,hr,rfl,S4⟩)
 ·unfold pan;go_wp2_with fail;exact⟨rfl,aD.err x (by simp[HU.out,aB,aG,H3.out,hr]) hg⟩
 have H4:=hdq hr;clear hr;have S5:=S4.lit (aW.two (S4.tr _ (.tail _ (.head _))) (S4.tr _ (.head _))) #[.int .i64 k3,.int .i64 n3,.int .i64 a3,.string s3,.slice o3 m3 c3,.int .i64 k4,.int .i64 n4,.int .i64 a4,.string s4,.slice o4 m4 c4] rfl 37 0 a e0 2 2 rfl;go_upto_block 1 with fail;refine m2q (S5.dI 37 a) fun w6 S6=>?_;go_upto_block 1 with fail;refine(S6.gX 37 0 a ⟨#[]⟩ (some ⟨w4.heap.size,0,none⟩) 2 2).mono ?_;rintro e wz (⟨x,hr,rfl,hg⟩|⟨jz,hr,rfl,Sz⟩)
 ·unfold pan;go_wp2_with fail;exact⟨rfl,aD.err x (by simp[HU.out,aB,aG,H3.out,H4.out,hr]) hg⟩
 have Hz:=hdq hr;clear hr;have:=TV.facts (Sz.facts 0 rfl);go_wp2_with fail;have Sy:=Sz.bN 0 rfl (.int .i64 37) (.int .i64 0) a (.string ⟨#[]⟩) (.slice (some ⟨w4.heap.size,0,none⟩) 2 2);refine rtv (Sy.facts 0 rfl) Tryz.results195 ?_;exact Sy.res (.head _) (by simp[HU.out,aB,aG,H3.out,H4.out,Hz.out]<;>rfl) rfl
theorem Gf(pb:Nat)(L:List T3)(a:Nat)(lab:ByteArray)(i:Nat)(w:World)(h:PS w pb L i):Calls Tryz.prog 201 #[pq pb,a,lab] w (aD pb L w (qH (lk L) a i)):=by
 have HU:=hdq (show (qH (lk L) a i)=(aB (pA (lk L) i) fun s j=>aB (gU (lk L) j [pM]) fun _ j1=>aB (cQ (lk L) j1) fun x j2=>aG (lk L) (.mk 46 0 a s [x]) j2)from rfl);go_enter Tryz.func201,Tryz.ntmps201;go_upto_region 1 with fail;have S1:=SV.new h;generalize World.alloc w _=w1 at S1 ⊢;go_upto_block 1 with fail;refine(S1.pB (iO pb L i w1 S1.ps)).mono ?_;rintro e w2 (⟨x,hr,rfl,hg⟩|⟨s2,j2,hr,rfl,S2⟩)
 ·unfold pan;go_wp2_with fail;exact⟨rfl,aD.err x (by simp[HU.out,aB,aG,hr]) hg⟩
 have H2:=hdq hr;clear hr;go_upto_block 2 with fail;refine(S2.pI [pM] (by simp) _ rfl 1 rfl).mono ?_;rintro e w3 (⟨x,hr,rfl,hg⟩|⟨j3,hr,rfl,S3⟩)
 ·unfold pan;go_wp2_with fail;exact⟨rfl,aD.err x (by simp[HU.out,aB,aG,H2.out,hr]) hg⟩
 have H3:=hdq hr;clear hr;go_upto_block 3 with fail;refine(S3.aN (fV pb L j3 w3 S3.ps)).mono ?_;rintro e w4 (⟨x,hr,rfl,hg⟩|⟨t4,j4,k4,n4,a4,s4,o4,m4,c4,hr,rfl,S4⟩)
 ·unfold pan;go_wp2_with fail;exact⟨rfl,aD.err x (by simp[HU.out,aB,aG,H2.out,H3.out,hr]) hg⟩
 have H4:=hdq hr;clear hr;have S5:=S4.lit (aW.one (S4.tr _ (.head _))) (tg k4 n4 a4 s4 o4 m4 c4) rfl 46 0 a s2 1 1 rfl;go_upto_block 3 with fail;refine(S5.gX 46 0 a s2 (some ⟨w4.heap.size,0,none⟩) 1 1).mono ?_;rintro e wz (⟨x,hr,rfl,hg⟩|⟨jz,hr,rfl,Sz⟩)
 ·unfold pan;go_wp2_with fail;exact⟨rfl,aD.err x (by simp[HU.out,aB,aG,H2.out,H3.out,H4.out,hr]) hg⟩
 have Hz:=hdq hr;clear hr;have:=TV.facts (Sz.facts 0 rfl);go_wp2_with fail;have Sy:=Sz.bN 0 rfl (.int .i64 46) (.int .i64 0) a s2 (.slice (some ⟨w4.heap.size,0,none⟩) 1 1);refine rtv (Sy.facts 0 rfl) Tryz.results201 ?_;exact Sy.res (.head _) (by simp[HU.out,aB,aG,H2.out,H3.out,H4.out,Hz.out]<;>rfl) rfl
theorem LR(pb:Nat)(L:List T3)(a:Nat)(lab:ByteArray)(i:Nat)(w:World)(h:PS w pb L i):Calls Tryz.prog 185 #[pq pb,a,lab] w (aD pb L w (Dg (lk L) a i)):=by
 have HU:=hdq (show (Dg (lk L) a i)=(if sgn (lk L) i [sLP]then aB (cQ (lk L) i) fun x j=>aG (lk L) (node 26 a [x]) j else aG (lk L) (node 26 a []) i)from rfl);go_enter Tryz.func185,Tryz.ntmps185;go_upto_region 1 with fail;have S1:=SV.new h;generalize World.alloc w _=w1 at S1 ⊢;have S2:=S1.leaf 26 0 a e0;go_upto_region 2 with (go_at_call 97;refine(S2.dI 26 a).mono ?_;rintro e w3 ⟨rfl,S3⟩);have S4:=S3.yV (tg 26 0 a ⟨#[]⟩ none 0 0);generalize World.alloc w3 _=w4 at S4 ⊢;generalize w3.heap.size=B4 at S4 ⊢
 cases hs:sgn (lk L) i [sLP] with
 | true=>
  have hC:=S4.dT 0 (by decide) [sLP] (by simp) #[.string ⟨#[40]⟩] rfl 1 rfl true hs;have HS:=hdq hs;clear hs;go_upto_block 3 with (go_at_call 124;refine hC.mono ?_;rintro e w5 ⟨rfl,S5⟩);refine(S5.aN (fV pb L i w5 S5.ps)).mono ?_;rintro e w6 (⟨x,hr,rfl,hg⟩|⟨t6,j6,k6,n6,a6,s6,o6,m6,c6,hr,rfl,S6⟩)
  ·unfold pan;go_wp2_with fail;exact⟨rfl,aD.err x (by simp[HU.out,aB,aG,HS.out,hr]) hg⟩
  have H6:=hdq hr;clear hr;have S7:=S6.lit (aW.one (S6.tr _ (.head _))) (tg k6 n6 a6 s6 o6 m6 c6) rfl 26 0 a e0 1 1 rfl;have:=TV.facts (S7.facts 0 rfl);have S8:=S7.put 0 rfl 4 (.slice (some ⟨w6.heap.size,0,none⟩) 1 1) (by simp);go_upto_region 4 with fail;generalize World.setCell _ ⟨B4,4,none⟩ _=w8 at S8 ⊢;have:=TV.facts (S8.facts 0 rfl);go_upto_block 4 with fail;refine(S8.gX 26 0 a ⟨#[]⟩ (some ⟨w6.heap.size,0,none⟩) 1 1).mono ?_;rintro e wz (⟨x,hr,rfl,hg⟩|⟨jz,hr,rfl,Sz⟩)
  ·unfold pan;go_wp2_with fail;exact⟨rfl,aD.err x (by simp[HU.out,aB,aG,HS.out,H6.out,hr]) hg⟩
  have Hz:=hdq hr;clear hr;have:=TV.facts (Sz.facts 1 rfl);go_wp2_with fail;have Sy:=Sz.bN 1 rfl (.int .i64 26) (.int .i64 0) a (.string ⟨#[]⟩) (.slice (some ⟨w6.heap.size,0,none⟩) 1 1);refine rtv (Sy.facts 1 rfl) Tryz.results185 ?_;exact Sy.res (.head _) (by simp[HU.out,aB,aG,HS.out,H6.out,Hz.out]<;>rfl) rfl
 | false=>
  have hC:=S4.dT 0 (by decide) [sLP] (by simp) #[.string ⟨#[40]⟩] rfl 1 rfl false hs;have HS:=hdq hs;clear hs;go_upto_region 4 with (go_at_call 124;refine hC.mono ?_;rintro e w5 ⟨rfl,S5⟩);have:=TV.facts (S5.facts 0 rfl);go_upto_block 4 with fail;refine(S5.gX 26 0 a ⟨#[]⟩ none 0 0).mono ?_;rintro e wz (⟨x,hr,rfl,hg⟩|⟨jz,hr,rfl,Sz⟩)
  ·unfold pan;go_wp2_with fail;exact⟨rfl,aD.err x (by simp[HU.out,aB,aG,HS.out,hr]) hg⟩
  have Hz:=hdq hr;clear hr;have:=TV.facts (Sz.facts 1 rfl);go_wp2_with fail;have Sy:=Sz.bN 1 rfl (.int .i64 26) (.int .i64 0) a (.string ⟨#[]⟩) (.slice none 0 0);refine rtv (Sy.facts 1 rfl) Tryz.results185 ?_;exact Sy.res (.head _) (by simp[HU.out,aB,aG,HS.out,Hz.out]<;>rfl) rfl
theorem wH(pb:Nat)(L:List T3)(k:Int)(a:Nat)(i:Nat)(w:World)(h:PS w pb L i):Calls Tryz.prog 222 #[pq pb,k,a] w (aD pb L w (fH (lk L) k a i)):=by
 have HU:=hdq (show (fH (lk L) k a i)=(if isName (lk L) i then aB (fN (lk L) i) fun s j=>aG (lk L) (.mk k 0 a s []) j else aG (lk L) (node k a []) i)from rfl);go_enter Tryz.func222,Tryz.ntmps222;go_upto_region 1 with fail;have S1:=SV.new h;generalize World.alloc w _=w1 at S1 ⊢;have S2:=S1.leaf k 0 a e0;have hf0:=pG;go_upto_region 2 with (go_at_call 97;refine(S2.dI k a).mono ?_;rintro e w3 ⟨rfl,S3⟩);have S4:=S3.yV (tg k 0 a ⟨#[]⟩ none 0 0);generalize World.alloc w3 _=w4 at S4 ⊢;generalize w3.heap.size=B4 at S4 ⊢;have hT:=aX pb L i 0 (by decide) w4 S4.ps
 cases hs:isName (lk L) i with
 | true=>
  have hk:(tok (L.map T3.tk) (i+0)).kind=1:=by unfold isName at hs;simpa using hs
  rw[hk]at hT;have HS:=hdq hs;clear hs hk;go_upto_block 3 with (go_at_call 125;refine(S4.aQ (E:=fun e=>∃ p:Int,e=_) hT).mono ?_;rintro e w5 ⟨⟨p,rfl⟩,S5⟩);refine(S5.pB (fT pb L i w5 S5.ps)).mono ?_;rintro e w6 (⟨x,hr,rfl,hg⟩|⟨s6,j6,hr,rfl,S6⟩)
  ·unfold pan;go_wp2_with fail;exact⟨rfl,aD.err x (by simp[HU.out,aB,aG,HS.out,hr]) hg⟩
  have H6:=hdq hr;clear hr;have:=TV.facts (S6.facts 0 rfl);have S7:=(S6.put 0 rfl 3 (.string s6) (by simp)).leaf k 0 a s6;go_upto_region 4 with fail;generalize World.setCell _ ⟨B4,3,none⟩ _=w8 at S7 ⊢;have:=TV.facts (S7.facts 0 rfl);go_upto_block 4 with fail;refine(S7.gX k 0 a s6 none 0 0).mono ?_;rintro e wz (⟨x,hr,rfl,hg⟩|⟨jz,hr,rfl,Sz⟩)
  ·unfold pan;go_wp2_with fail;exact⟨rfl,aD.err x (by simp[HU.out,aB,aG,HS.out,H6.out,hr]) hg⟩
  have Hz:=hdq hr;clear hr;have:=TV.facts (Sz.facts 1 rfl);go_wp2_with fail;have Sy:=Sz.bN 1 rfl k (.int .i64 0) a s6 (.slice none 0 0);refine rtv (Sy.facts 1 rfl) Tryz.results222 ?_;exact Sy.res (.head _) (by simp[HU.out,aB,aG,HS.out,H6.out,Hz.out]<;>rfl) rfl
 | false=>
  have hk:¬ (tok (L.map T3.tk) (i+0)).kind=1:=by unfold isName at hs;simpa using hs
  generalize (tok (L.map T3.tk) (i+0)).kind=tk at hT hk;have HS:=hdq hs;clear hs;go_upto_region 4 with (go_at_call 125;refine(S4.aQ (E:=fun e=>∃ p:Int,e=_) hT).mono ?_;rintro e w5 ⟨⟨p,rfl⟩,S5⟩);have:=TV.facts (S5.facts 0 rfl);go_upto_block 4 with fail;refine(S5.gX k 0 a ⟨#[]⟩ none 0 0).mono ?_;rintro e wz (⟨x,hr,rfl,hg⟩|⟨jz,hr,rfl,Sz⟩)
  ·unfold pan;go_wp2_with fail;exact⟨rfl,aD.err x (by simp[HU.out,aB,aG,HS.out,hr]) hg⟩
  have Hz:=hdq hr;clear hr;have:=TV.facts (Sz.facts 1 rfl);go_wp2_with fail;have Sy:=Sz.bN 1 rfl k (.int .i64 0) a (.string ⟨#[]⟩) (.slice none 0 0);refine rtv (Sy.facts 1 rfl) Tryz.results222 ?_;exact Sy.res (.head _) (by simp[HU.out,aB,aG,HS.out,Hz.out]<;>rfl) rfl
theorem JB(pb:Nat)(L:List T3)(a:Nat)(lab:ByteArray)(i:Nat)(w:World)(h:PS w pb L i):Calls Tryz.prog 188 #[pq pb,a,lab] w (aD pb L w (fH (lk L) 28 a i)):=by
 have HU:=hdq (show (fH (lk L) 28 a i)=(fH (lk L) 28 a i)from rfl);go_enter Tryz.func188,Tryz.ntmps188;go_upto_region 1 with fail;have S1:=SV.new h;generalize World.alloc w _=w1 at S1 ⊢;go_upto_block 1 with fail;refine(S1.aN (wH pb L 28 a i w1 S1.ps)).mono ?_;rintro e w3 (⟨x,hr,rfl,hg⟩|⟨t3,j3,k3,n3,a3,s3,o3,m3,c3,hr,rfl,S3⟩)
 ·unfold pan;go_wp2_with fail;exact⟨rfl,aD.err x (by simp[HU.out,aB,aG,hr]) hg⟩
 have H3:=hdq hr;clear hr;have:=TV.facts (S3.facts 0 rfl);go_wp2_with fail;have S4:=S3.bN 0 rfl k3 n3 a3 s3 (.slice o3 m3 c3);refine rtv (S4.facts 0 rfl) Tryz.results188 ?_;exact S4.res (.head _) (by simp[HU.out,aB,aG,H3.out]<;>rfl) rfl
theorem Cu(pb:Nat)(L:List T3)(a:Nat)(lab:ByteArray)(i:Nat)(w:World)(h:PS w pb L i):Calls Tryz.prog 189 #[pq pb,a,lab] w (aD pb L w (fH (lk L) 29 a i)):=by
 have HU:=hdq (show (fH (lk L) 29 a i)=(fH (lk L) 29 a i)from rfl);go_enter Tryz.func189,Tryz.ntmps189;go_upto_region 1 with fail;have S1:=SV.new h;generalize World.alloc w _=w1 at S1 ⊢;go_upto_block 1 with fail;refine(S1.aN (wH pb L 29 a i w1 S1.ps)).mono ?_;rintro e w3 (⟨x,hr,rfl,hg⟩|⟨t3,j3,k3,n3,a3,s3,o3,m3,c3,hr,rfl,S3⟩)
 ·unfold pan;go_wp2_with fail;exact⟨rfl,aD.err x (by simp[HU.out,aB,aG,hr]) hg⟩
 have H3:=hdq hr;clear hr;have:=TV.facts (S3.facts 0 rfl);go_wp2_with fail;have S4:=S3.bN 0 rfl k3 n3 a3 s3 (.slice o3 m3 c3);refine rtv (S4.facts 0 rfl) Tryz.results189 ?_;exact S4.res (.head _) (by simp[HU.out,aB,aG,H3.out]<;>rfl) rfl
theorem JP(pb:Nat)(L:List T3)(a:Nat)(lab:ByteArray)(i:Nat)(w:World)(h:PS w pb L i):Calls Tryz.prog 199 #[pq pb,a,lab] w (aD pb L w (vQ (lk L) a i)):=by
 have HU:=hdq (show vQ (lk L) a i=(aB (pA (lk L) i) fun s j=>aB (dX (lk L) kP j) fun r j1=>aB (gU (lk L) j1 [hZ]) fun _ j2=>aB (cQ (lk L) j2) fun x j3=>aG (lk L) (.mk 44 0 a s [r,x]) j3)from rfl);go_enter Tryz.func199,Tryz.ntmps199;go_upto_region 1 with fail;have S1:=SV.new h;generalize World.alloc w _=w1 at S1 ⊢;go_upto_block 1 with fail;refine(S1.pB (iO pb L i w1 S1.ps)).mono ?_;rintro e w2 (⟨x,hr,rfl,hg⟩|⟨s2,j2,hr,rfl,S2⟩)
 ·unfold pan;go_wp2_with fail;exact⟨rfl,aD.err x (by simp[HU.out,aB,aG,hr]) hg⟩
 have H2:=hdq hr;clear hr;go_upto_block 2 with fail;refine(S2.aN (lU pb L kP j2 w2 S2.ps)).mono ?_;rintro e w3 (⟨x,hr,rfl,hg⟩|⟨t3,j3,k3,n3,a3,s3,o3,m3,c3,hr,rfl,S3⟩)
 ·unfold pan;go_wp2_with fail;exact⟨rfl,aD.err x (by simp[HU.out,aB,aG,H2.out,hr]) hg⟩
 have H3:=hdq hr;clear hr;go_upto_region 3 with fail;have S4:=S3.yV (tg k3 n3 a3 s3 o3 m3 c3);generalize World.alloc w3 _=w4 at S4 ⊢;generalize w3.heap.size=B4 at S4 ⊢;go_upto_block 3 with fail;refine(S4.pI [hZ] (by simp) _ rfl 1 rfl).mono ?_;rintro e w5 (⟨x,hr,rfl,hg⟩|⟨j5,hr,rfl,S5⟩)
 ·unfold pan;go_wp2_with fail;exact⟨rfl,aD.err x (by simp[HU.out,aB,aG,H2.out,H3.out,hr]) hg⟩
 have H5:=hdq hr;clear hr;go_upto_region 4 with fail;refine wp_region_any (by kernel_rfl) ?_;change wpAny _ _ _ _ _ _ _ (World.drew _);have Sq:=S5.drew;generalize World.drew w5=w6 at Sq ⊢;have:=TV.facts (Sq.facts 0 rfl)
 repeat' first
  | ((with_reducible refine isA ?_)
     first
       | (refine Uo ?_
          go_wp2_with fail
          have S10 := Sq.bN 1 rfl (.int .i64 44) (.int .i64 0) a s2 (.slice (some ⟨w7.heap.size, 0, none⟩) 2 2)
          refine rtv (S10.facts 1 rfl) Tryz.results199 ?_
          exact S10.res (.head _) (by simp [HU.out, aB, aG, H2.out, H3.out, H5.out, H7.out, H9.out] <;> rfl) rfl)
       | refine Uu 0 ?_
       | refine Uu 1 ?_
       | refine Uu 2 ?_
       | refine Uu 4 ?_
       | refine Uu 7 ?_
       | refine SN [3, 5] ?_
       | refine SN [5] ?_
       | refine SN [6] ?_
       | refine SN [8] ?_
       | refine SN [9] ?_
       | refine SN [3] ?_)
  | ((with_reducible refine arA ?_);first|exact AllReady.nil|refine cnA (fun Kx RZ=>?_) ?_)
  | (try have := TV.facts (Sq.facts 1 rfl)
     go_simp
     first
       | (go_at_call 219
          refine (Sq.aN (fV pb L j5 _ Sq.ps)).mono ?_
          rintro e w7 (⟨x, hr, rfl, hg⟩ | ⟨t7, j7, k7, n7, a7, s7, o7, m7, c7, hr, rfl, Sq⟩)
          · unfold pan
            exact ⟨rfl, aD.err x (by simp [HU.out, aB, aG, H2.out, H3.out, H5.out, hr]) hg⟩
          have H7 := hdq hr
          clear hr
          have := TV.facts (Sq.facts 0 rfl)
          refine goA RZ Sq ?_
          clear RZ Kx)
       | (have Sq := Sq.lit (aW.two (Sq.tr _ (.tail _ (.head _))) (Sq.tr _ (.head _))) #[.int .i64 k3, .int .i64 n3, .int .i64 a3, .string s3, .slice o3 m3 c3, .int .i64 k7, .int .i64 n7, .int .i64 a7, .string s7, .slice o7 m7 c7] rfl 44 0 a s2 2 2 rfl
          refine goA RZ Sq ?_
          clear RZ Kx)
       | (go_at_call 221
          refine (Sq.gX 44 0 a s2 (some ⟨w7.heap.size, 0, none⟩) 2 2).mono ?_
          rintro e w9 (⟨x, hr, rfl, hg⟩ | ⟨j9, hr, rfl, Sq⟩)
          · unfold pan
            exact ⟨rfl, aD.err x (by simp [HU.out, aB, aG, H2.out, H3.out, H5.out, H7.out, hr]) hg⟩
          have H9 := hdq hr
          clear hr
          refine goA RZ Sq ?_
          clear RZ Kx)
       | (refine goA RZ Sq ?_
          clear RZ Kx)
       | (refine RZ _ _ ?_
          clear RZ Kx))
theorem TrC.at0{av:Nat→Prop}{w:World}{k n a:Int}{s:ByteArray}{x:T}{r:List T}{us:List Value}(h:TrC av w (.mk k n a s (x::r)) us):∃ b off c,us=[.int .i64 k,.int .i64 n,.int .i64 a,.string s,.slice (some ⟨b,off,none⟩) (r.length+1) c]∧w.cell? ⟨b,off+2,none⟩=some (.int .i64 x.at_):=by
 unfold TrC at h;obtain⟨ao,c,rfl,h,-⟩:=h;obtain⟨b,off,vs,rfl,_,_,hc,hu⟩:=h (by simp);refine⟨b,off,c,by simp,hu 2 _ ?_⟩;unfold aW at hc;obtain⟨u1,u2,rfl,h1,_⟩:=hc;obtain⟨k',n',a',s',l'⟩:=x;unfold TrC at h1;obtain⟨_,_,rfl,_⟩:=h1;rfl
theorem KI(l:List T)(av:Nat→Prop)(ao:Option Addr)(m c:Nat)(w:World)(h:TrC av w (.mk 40 0 0 e0 l) (vT 40 0 0 e0 ao m c))(hl:l.length≤1000000):Calls Tryz.prog 214 #[.slice ao m c] w fun e w'=>(∃ a,e=.returned (tg 40 0 a ⟨#[]⟩ ao m c)∧gC l=.mk 40 0 a e0 l)∧Below w.heap.size w w':=by
 cases l with
 | nil=>
  have hm:m=0∧ao=ao:=by
   unfold TrC vT at h;obtain⟨_,_,e,_⟩:=h
   simp at e
   exact⟨e.2.1,rfl⟩
  obtain⟨rfl,-⟩:=hm;go_enter Tryz.func214,Tryz.ntmps214;go_upto_region 1 with fail;obtain⟨t0,b0⟩:=tv0 w;generalize World.alloc w _=w0 at t0 b0 ⊢;go_wp2_with (go_at_call 97;refine(iZ _ _ _ _ _ _).mono ?_;rintro e w1 ⟨rfl,hb⟩;have t1:=t0.below hb;have:=TV.facts t1);refine rtv (t1.set _ _ _ _ _) Tryz.results214 ?_;exact⟨⟨0,rfl,rfl⟩,bO (b0.trans (hb.mono b0.size)) (Nat.le_refl _) _ _ _ _ _⟩
 | cons x r=>
  obtain⟨b,off,c',e,hc⟩:=h.at0;unfold vT at e
  simp at e
  obtain⟨rfl,rfl,rfl⟩:=e;have hlt:=(show b<w.heap.size from block_lt_of_cell hc)
  have hl':(0:Int)<((r.length:Nat):Int)+1:=by omega
  go_enter Tryz.func214,Tryz.ntmps214;go_upto_region 1 with fail;obtain⟨t0,b0⟩:=tv0 w;generalize World.alloc w _=w0 at t0 b0 ⊢;replace hc:w0.cell? ⟨b,off+2,none⟩=some (.int .i64 x.at_):=(b0.cell (p:=⟨b,off+2,none⟩) hlt).trans hc;go_wp2_with (go_at_call 97;refine(iZ _ _ _ _ _ _).mono ?_;rintro e w1 ⟨rfl,hb⟩;have t1:=t0.below hb;have:=TV.facts t1);refine rtv (t1.set _ _ _ _ _) Tryz.results214 ?_;exact⟨⟨x.at_,rfl,rfl⟩,bO (b0.trans (hb.mono b0.size)) (Nat.le_refl _) _ _ _ _ _⟩
end
end Go.Proofs.YtfdlmcgcckkkdaaGreatDoor
