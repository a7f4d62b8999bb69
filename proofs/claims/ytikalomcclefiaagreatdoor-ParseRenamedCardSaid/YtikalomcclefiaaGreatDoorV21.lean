/- Part 21. -/
import Derived.Test.YtikalomcclefiaaGreatDoorV20
set_option linter.all false
set_option maxHeartbeats 0
set_option maxRecDepth 100000
namespace Go.Proofs.YtikalomcclefiaaGreatDoor
section
open Go.RowKit Lx Px
section
variable(pb:Nat)(L:List T3)(a:Nat)(lab:dL)(i:Nat)(w:World)(h:PS w pb L i)
include pb L a lab i w h
theorem agF:AAA 175 #[pq pb,a,lab] w (aU pb L w (yS (lk L) a i)):=by
 have HU:=aN (show (yS (lk L) a i)=(aH (iN (lk L) i) λs j=>bK (lk L) (.mk 27 0 a s []) j)from rfl);go_in;go_upto_region 1 with fail;have S1:=SV.new h;generalize World.alloc w _=w1 at S1 ⊢;go_upto_block 1 with fail;refine(S1.Bn (rM pb L i w1 S1.ps)).mono ?_;rintro e w2 (⟨x,hr,rfl,hg⟩|⟨s2,j2,hr,rfl,S2⟩)
 ·exact iU
 have H1:=aN hr;clear hr;have S3:=S2.leaf 27 0 a s2;go_upto_block 1 with fail;refine(S3.sR 27 0 a s2 none 0 0).mono ?_;rintro e wz (⟨x,hr,rfl,hg⟩|⟨jz,hr,rfl,Sz⟩)
 ·exact AB
 have Hz:=aN hr;clear hr;have:=AAD (Sz.facts 0 rfl);go_wp2_with fail;have Sy:=Sz.fY 0 rfl (iq 27) (iq 0) a s2 (.slice none 0 0);refine nX (Sy.facts 0 rfl) Tryz.results175 ?_;exact Dx
theorem aCp:AAA 174 #[pq pb,a,lab] w (aU pb L w (aH (fV (lk L) i [Fj]) λ_ j=>yS (lk L) a j)):=by
 have HU:=aN (show (aH (fV (lk L) i [Fj]) λ_ j=>yS (lk L) a j)=(aH (fV (lk L) i [Fj]) λ_ j=>yS (lk L) a j)from rfl);go_in;go_upto_region 1 with fail;have S1:=SV.new h;generalize World.alloc w _=w1 at S1 ⊢;go_upto_block 1 with fail;refine(S1.El [Fj] aI _ rfl 1 rfl).mono ?_;rintro e w2 (⟨x,hr,rfl,hg⟩|⟨j2,hr,rfl,S2⟩)
 ·exact iU
 have H1:=aN hr;clear hr;go_upto_block 2 with fail;refine(S2.eK (agF pb L a lab j2 w2 S2.ps)).mono ?_;rintro e w3 (⟨x,hr,rfl,hg⟩|⟨t3,j3,k3,n3,a3,s3,o3,m3,c3,hr,rfl,S3⟩)
 ·exact AB
 have H2:=aN hr;clear hr;have:=AAD (S3.facts 0 rfl);go_wp2_with fail;have S4:=S3.fY 0 rfl k3 n3 a3 s3 (.slice o3 m3 c3);refine nX (S4.facts 0 rfl) Tryz.results174 ?_;exact S4.res (.head _) (by simp[HU.out,aH,bK,H1.out,H2.out]<;>rfl) rfl
theorem aAH:AAA 178 #[pq pb,a,lab] w (aU pb L w (bK (lk L) (node 30 a []) i)):=by
 have HU:=aN (show (bK (lk L) (node 30 a []) i)=(aH (aW (lk L) i aT) λ_ j=>.ok (node 30 a [],j))from rfl);go_in;go_upto_region 1 with fail;have S1:=SV.new h;generalize World.alloc w _=w1 at S1 ⊢;go_upto_region 1 with fail;have S2:=S1.leaf 30 0 a e0;go_upto_block 1 with fail;refine gU (S2.pG 30 a) λw3 S3=>?_;go_upto_block 1 with fail;refine(S3.sR 30 0 a ⟨#[]⟩ none 0 0).mono ?_;rintro e wz (⟨x,hr,rfl,hg⟩|⟨jz,hr,rfl,Sz⟩)
 ·exact iU
 have Hz:=aN hr;clear hr;have:=AAD (Sz.facts 0 rfl);go_wp2_with fail;have Sy:=Sz.fY 0 rfl (iq 30) (iq 0) a (.string ⟨#[]⟩) (.slice none 0 0);refine nX (Sy.facts 0 rfl) Tryz.results178 ?_;exact Sy.res (.head _) Sk rfl
theorem akZ:AAA 180 #[pq pb,a,lab] w (aU pb L w (aH (qL (lk L) true i) λc j=>bK (lk L) (node 34 a [c]) j)):=by
 have HU:=aN (show (aH (qL (lk L) true i) λc j=>bK (lk L) (node 34 a [c]) j)=(aH (qL (lk L) true i) λc j=>bK (lk L) (node 34 a [c]) j)from rfl);go_in;go_upto_region 1 with fail;have S1:=SV.new h;generalize World.alloc w _=w1 at S1 ⊢;go_upto_block 1 with fail;refine(S1.eK (Ep pb L true i w1 S1.ps)).mono ?_;rintro e w2 (⟨x,hr,rfl,hg⟩|⟨t2,j2,k2,n2,a2,s2,o2,m2,c2,hr,rfl,S2⟩)
 ·exact iU
 have H1:=aN hr;clear hr;have S3:=S2.lit (dO.one (S2.tr _ (.head _))) (tg k2 n2 a2 s2 o2 m2 c2) rfl 34 0 a e0 1 1 rfl;go_upto_block 1 with fail;refine gU (S3.pG 34 a) λw4 S4=>?_;go_upto_block 1 with fail;refine(S4.sR 34 0 a ⟨#[]⟩ (some (AAF w2.heap.size 0)) 1 1).mono ?_;rintro e wz (⟨x,hr,rfl,hg⟩|⟨jz,hr,rfl,Sz⟩)
 ·exact AB
 have Hz:=aN hr;clear hr;have:=AAD (Sz.facts 0 rfl);go_wp2_with fail;have Sy:=Sz.fY 0 rfl (iq 34) (iq 0) a (.string ⟨#[]⟩) (.slice (some (AAF w2.heap.size 0)) 1 1);refine nX (Sy.facts 0 rfl) Tryz.results180 ?_;exact Dx
theorem ajB:AAA 181 #[pq pb,a,lab] w (aU pb L w (aH (qL (lk L) true i) λc j=>bK (lk L) (node 35 a [c]) j)):=by
 have HU:=aN (show (aH (qL (lk L) true i) λc j=>bK (lk L) (node 35 a [c]) j)=(aH (qL (lk L) true i) λc j=>bK (lk L) (node 35 a [c]) j)from rfl);go_in;go_upto_region 1 with fail;have S1:=SV.new h;generalize World.alloc w _=w1 at S1 ⊢;go_upto_block 1 with fail;refine(S1.eK (Ep pb L true i w1 S1.ps)).mono ?_;rintro e w2 (⟨x,hr,rfl,hg⟩|⟨t2,j2,k2,n2,a2,s2,o2,m2,c2,hr,rfl,S2⟩)
 ·exact iU
 have H1:=aN hr;clear hr;have S3:=S2.lit (dO.one (S2.tr _ (.head _))) (tg k2 n2 a2 s2 o2 m2 c2) rfl 35 0 a e0 1 1 rfl;go_upto_block 1 with fail;refine gU (S3.pG 35 a) λw4 S4=>?_;go_upto_block 1 with fail;refine(S4.sR 35 0 a ⟨#[]⟩ (some (AAF w2.heap.size 0)) 1 1).mono ?_;rintro e wz (⟨x,hr,rfl,hg⟩|⟨jz,hr,rfl,Sz⟩)
 ·exact AB
 have Hz:=aN hr;clear hr;have:=AAD (Sz.facts 0 rfl);go_wp2_with fail;have Sy:=Sz.fY 0 rfl (iq 35) (iq 0) a (.string ⟨#[]⟩) (.slice (some (AAF w2.heap.size 0)) 1 1);refine nX (Sy.facts 0 rfl) Tryz.results181 ?_;exact Dx
theorem aCi:AAA 172 #[pq pb,a,lab] w (aU pb L w (GL (lk L) a i)):=by
 have HU:=aN (show (GL (lk L) a i)=(aH (qY (lk L) (dB (lk L)) i) λx j=>bK (lk L) (node 25 a [node 2 i [x]]) j)from rfl);obtain⟨k0,_⟩:=h.cells;go_in;go_upto_region 1 with fail;have S1:=SV.new h;generalize World.alloc w _=w1 at S1 ⊢;obtain⟨k1,_⟩:=S1.ps.cells;go_upto_block 2 with fail;refine(S1.eK (Zx pb L 0 (dB (lk L)) (fI (lk L)) (λi w _ h=>fA pb L i w (aS _) h) i w1 (aS _) S1.ps)).mono ?_;rintro e w2 (⟨x,hr,rfl,hg⟩|⟨t2,j2,k2,n2,a2,s2,o2,m2,c2,hr,rfl,S2⟩)
 ·exact iU
 have H1:=aN hr;clear hr;have S3:=S2.lit (dO.one (S2.tr _ (.head _))) (tg k2 n2 a2 s2 o2 m2 c2) rfl 2 0 i e0 1 1 rfl;go_upto_block 2 with fail;refine gU (S3.pG 2 i) λw4 S4=>?_;have S5:=S4.lit (dO.one (S4.tr _ (.head _))) (tg 2 0 i ⟨#[]⟩ (some (AAF w2.heap.size 0)) 1 1) rfl 25 0 a e0 1 1 rfl;go_upto_block 2 with fail;refine gU (S5.pG 25 a) λw6 S6=>?_;go_upto_block 2 with fail;refine(S6.sR 25 0 a ⟨#[]⟩ (some (AAF w4.heap.size 0)) 1 1).mono ?_;rintro e wz (⟨x,hr,rfl,hg⟩|⟨jz,hr,rfl,Sz⟩)
 ·exact AB
 have Hz:=aN hr;clear hr;have:=AAD (Sz.facts 0 rfl);go_wp2_with fail;have Sy:=Sz.fY 0 rfl (iq 25) (iq 0) a (.string ⟨#[]⟩) (.slice (some (AAF w4.heap.size 0)) 1 1);refine nX (Sy.facts 0 rfl) Tryz.results172 ?_;exact Dx
theorem aaK:AAA 182 #[pq pb,a,lab] w (aU pb L w (pU (lk L) a i)):=by
 have HU:=aN (show (pU (lk L) a i)=(aH (iN (lk L) i) λs j=>aH (nP (lk L) GN j) λx j1=>aH (nP (lk L) JJ j1) λy j2=>bK (lk L) (.mk 36 0 a s [x,y]) j2)from rfl);go_in;go_upto_region 1 with fail;have S1:=SV.new h;generalize World.alloc w _=w1 at S1 ⊢;go_upto_block 1 with fail;refine(S1.Bn (rM pb L i w1 S1.ps)).mono ?_;rintro e w2 (⟨x,hr,rfl,hg⟩|⟨s2,j2,hr,rfl,S2⟩)
 ·exact iU
 have H2:=aN hr;clear hr;go_upto_block 2 with fail;refine(S2.eK (JK pb L GN j2 w2 S2.ps)).mono ?_;rintro e w3 (⟨x,hr,rfl,hg⟩|⟨t3,j3,k3,n3,a3,s3,o3,m3,c3,hr,rfl,S3⟩)
 ·exact xD
 have H3:=aN hr;clear hr;go_upto_block 2 with fail;refine(S3.eK (JK pb L JJ j3 w3 S3.ps)).mono ?_;rintro e w4 (⟨x,hr,rfl,hg⟩|⟨t4,j4,k4,n4,a4,s4,o4,m4,c4,hr,rfl,S4⟩)
 ·exact AL
 have H4:=aN hr;clear hr;have S5:=S4.lit (dO.two (S4.tr _ (.tail _ (.head _))) (S4.tr _ (.head _))) #[.int .i64 k3,.int .i64 n3,.int .i64 a3,.string s3,.slice o3 m3 c3,.int .i64 k4,.int .i64 n4,.int .i64 a4,.string s4,.slice o4 m4 c4] rfl 36 0 a s2 2 2 rfl;go_upto_block 2 with fail;refine(S5.sR 36 0 a s2 (some (AAF w4.heap.size 0)) 2 2).mono ?_;rintro e wz (⟨x,hr,rfl,hg⟩|⟨jz,hr,rfl,Sz⟩)
 ·exact DX
 have Hz:=aN hr;clear hr;have:=AAD (Sz.facts 0 rfl);go_wp2_with fail;have Sy:=Sz.fY 0 rfl (iq 36) (iq 0) a s2 (.slice (some (AAF w4.heap.size 0)) 2 2);refine nX (Sy.facts 0 rfl) Tryz.results182 ?_;exact Dj
theorem aCQ:AAA 186 #[pq pb,a,lab] w (aU pb L w (GF (lk L) a i)):=by
 have HU:=aN (show (GF (lk L) a i)=(aH (rT (lk L) i) λs j=>aH (fH (lk L) yV j) λr j1=>aH (gL (lk L) oW j1) λx j2=>bK (lk L) (.mk 43 0 a s [r,x]) j2)from rfl);go_in;go_upto_region 1 with fail;have S1:=SV.new h;generalize World.alloc w _=w1 at S1 ⊢;go_upto_block 1 with fail;refine(S1.Bn (xM pb L i w1 S1.ps)).mono ?_;rintro e w2 (⟨x,hr,rfl,hg⟩|⟨s2,j2,hr,rfl,S2⟩)
 ·exact iU
 have H2:=aN hr;clear hr;go_upto_block 2 with fail;refine(S2.eK (Ee pb L yV j2 w2 S2.ps)).mono ?_;rintro e w3 (⟨x,hr,rfl,hg⟩|⟨t3,j3,k3,n3,a3,s3,o3,m3,c3,hr,rfl,S3⟩)
 ·exact xD
 have H3:=aN hr;clear hr;go_upto_block 2 with fail;refine(S3.eK (zZ pb L oW j3 w3 S3.ps)).mono ?_;rintro e w4 (⟨x,hr,rfl,hg⟩|⟨t4,j4,k4,n4,a4,s4,o4,m4,c4,hr,rfl,S4⟩)
 ·exact AL
 have H4:=aN hr;clear hr;have S5:=S4.lit (dO.two (S4.tr _ (.tail _ (.head _))) (S4.tr _ (.head _))) #[.int .i64 k3,.int .i64 n3,.int .i64 a3,.string s3,.slice o3 m3 c3,.int .i64 k4,.int .i64 n4,.int .i64 a4,.string s4,.slice o4 m4 c4] rfl 43 0 a s2 2 2 rfl;go_upto_block 2 with fail;refine(S5.sR 43 0 a s2 (some (AAF w4.heap.size 0)) 2 2).mono ?_;rintro e wz (⟨x,hr,rfl,hg⟩|⟨jz,hr,rfl,Sz⟩)
 ·exact DX
 have Hz:=aN hr;clear hr;have:=AAD (Sz.facts 0 rfl);go_wp2_with fail;have Sy:=Sz.fY 0 rfl (iq 43) (iq 0) a s2 (.slice (some (AAF w4.heap.size 0)) 2 2);refine nX (Sy.facts 0 rfl) Tryz.results186 ?_;exact Dj
theorem aeJ:AAA 188 #[pq pb,a,lab] w (aU pb L w (sK (lk L) a i)):=by
 have HU:=aN (show (sK (lk L) a i)=(aH (rT (lk L) i) λs j=>aH (fH (lk L) oE j) λr j1=>aH (gL (lk L) oW j1) λx j2=>bK (lk L) (.mk 45 0 a s [r,x]) j2)from rfl);go_in;go_upto_region 1 with fail;have S1:=SV.new h;generalize World.alloc w _=w1 at S1 ⊢;go_upto_block 1 with fail;refine(S1.Bn (xM pb L i w1 S1.ps)).mono ?_;rintro e w2 (⟨x,hr,rfl,hg⟩|⟨s2,j2,hr,rfl,S2⟩)
 ·exact iU
 have H2:=aN hr;clear hr;go_upto_block 2 with fail;refine(S2.eK (Ee pb L oE j2 w2 S2.ps)).mono ?_;rintro e w3 (⟨x,hr,rfl,hg⟩|⟨t3,j3,k3,n3,a3,s3,o3,m3,c3,hr,rfl,S3⟩)
 ·exact xD
 have H3:=aN hr;clear hr;go_upto_block 2 with fail;refine(S3.eK (zZ pb L oW j3 w3 S3.ps)).mono ?_;rintro e w4 (⟨x,hr,rfl,hg⟩|⟨t4,j4,k4,n4,a4,s4,o4,m4,c4,hr,rfl,S4⟩)
 ·exact AL
 have H4:=aN hr;clear hr;have S5:=S4.lit (dO.two (S4.tr _ (.tail _ (.head _))) (S4.tr _ (.head _))) #[.int .i64 k3,.int .i64 n3,.int .i64 a3,.string s3,.slice o3 m3 c3,.int .i64 k4,.int .i64 n4,.int .i64 a4,.string s4,.slice o4 m4 c4] rfl 45 0 a s2 2 2 rfl;go_upto_block 2 with fail;refine(S5.sR 45 0 a s2 (some (AAF w4.heap.size 0)) 2 2).mono ?_;rintro e wz (⟨x,hr,rfl,hg⟩|⟨jz,hr,rfl,Sz⟩)
 ·exact DX
 have Hz:=aN hr;clear hr;have:=AAD (Sz.facts 0 rfl);go_wp2_with fail;have Sy:=Sz.fY 0 rfl (iq 45) (iq 0) a s2 (.slice (some (AAF w4.heap.size 0)) 2 2);refine nX (Sy.facts 0 rfl) Tryz.results188 ?_;exact Dj
theorem azH:AAA 183 #[pq pb,a,lab] w (aU pb L w (GD (lk L) a i)):=by
 have HU:=aN (show (GD (lk L) a i)=(aH (yZ (lk L) i) λr j=>aH (nP (lk L) JJ j) λx j1=>bK (lk L) (node 37 a [r,x]) j1)from rfl);go_in;go_upto_region 1 with fail;have S1:=SV.new h;generalize World.alloc w _=w1 at S1 ⊢;go_upto_block 1 with fail;refine(S1.eK (Jj pb L i w1 (aS _) S1.ps)).mono ?_;rintro e w3 (⟨x,hr,rfl,hg⟩|⟨t3,j3,k3,n3,a3,s3,o3,m3,c3,hr,rfl,S3⟩)
 ·exact iU
 have H3:=aN hr;clear hr;go_upto_block 1 with fail;refine(S3.eK (JK pb L JJ j3 w3 S3.ps)).mono ?_;rintro e w4 (⟨x,hr,rfl,hg⟩|⟨t4,j4,k4,n4,a4,s4,o4,m4,c4,hr,rfl,S4⟩)
 ·unfold gM;go_wp2_with fail;exact⟨rfl,aU.err x (by simp[HU.out,aH,bK,H3.out,hr]) hg⟩
 have H4:=aN hr;clear hr;have S5:=S4.lit (dO.two (S4.tr _ (.tail _ (.head _))) (S4.tr _ (.head _))) #[.int .i64 k3,.int .i64 n3,.int .i64 a3,.string s3,.slice o3 m3 c3,.int .i64 k4,.int .i64 n4,.int .i64 a4,.string s4,.slice o4 m4 c4] rfl 37 0 a e0 2 2 rfl;go_upto_block 1 with fail;refine gU (S5.pG 37 a) λw6 S6=>?_;go_upto_block 1 with fail;refine(S6.sR 37 0 a ⟨#[]⟩ (some (AAF w4.heap.size 0)) 2 2).mono ?_;rintro e wz (⟨x,hr,rfl,hg⟩|⟨jz,hr,rfl,Sz⟩)
 ·unfold gM;go_wp2_with fail;exact⟨rfl,aU.err x (by simp[HU.out,aH,bK,H3.out,H4.out,hr]) hg⟩
 have Hz:=aN hr;clear hr;have:=AAD (Sz.facts 0 rfl);go_wp2_with fail;have Sy:=Sz.fY 0 rfl (iq 37) (iq 0) a (.string ⟨#[]⟩) (.slice (some (AAF w4.heap.size 0)) 2 2);refine nX (Sy.facts 0 rfl) Tryz.results183 ?_;exact Sy.res (.head _) (by simp[HU.out,aH,bK,H3.out,H4.out,Hz.out]<;>rfl) rfl
theorem alB:AAA 189 #[pq pb,a,lab] w (aU pb L w (uB (lk L) a i)):=by
 have HU:=aN (show (uB (lk L) a i)=(aH (rT (lk L) i) λs j=>aH (fV (lk L) j [oW]) λ_ j1=>aH (fB (lk L) j1) λx j2=>bK (lk L) (.mk 46 0 a s [x]) j2)from rfl);go_in;go_upto_region 1 with fail;have S1:=SV.new h;generalize World.alloc w _=w1 at S1 ⊢;go_upto_block 1 with fail;refine(S1.Bn (xM pb L i w1 S1.ps)).mono ?_;rintro e w2 (⟨x,hr,rfl,hg⟩|⟨s2,j2,hr,rfl,S2⟩)
 ·exact iU
 have H2:=aN hr;clear hr;go_upto_block 2 with fail;refine(S2.El [oW] aI _ rfl 1 rfl).mono ?_;rintro e w3 (⟨x,hr,rfl,hg⟩|⟨j3,hr,rfl,S3⟩)
 ·exact xD
 have H3:=aN hr;clear hr;go_upto_block 3 with fail;refine(S3.eK (uU pb L j3 w3 S3.ps)).mono ?_;rintro e w4 (⟨x,hr,rfl,hg⟩|⟨t4,j4,k4,n4,a4,s4,o4,m4,c4,hr,rfl,S4⟩)
 ·exact AL
 have H4:=aN hr;clear hr;have S5:=S4.lit (dO.one (S4.tr _ (.head _))) (tg k4 n4 a4 s4 o4 m4 c4) rfl 46 0 a s2 1 1 rfl;go_upto_block 3 with fail;refine(S5.sR 46 0 a s2 (some (AAF w4.heap.size 0)) 1 1).mono ?_;rintro e wz (⟨x,hr,rfl,hg⟩|⟨jz,hr,rfl,Sz⟩)
 ·exact DX
 have Hz:=aN hr;clear hr;have:=AAD (Sz.facts 0 rfl);go_wp2_with fail;have Sy:=Sz.fY 0 rfl (iq 46) (iq 0) a s2 (.slice (some (AAF w4.heap.size 0)) 1 1);refine nX (Sy.facts 0 rfl) Tryz.results189 ?_;exact Dj
theorem aCz:AAA 173 #[pq pb,a,lab] w (aU pb L w (Dm (lk L) a i)):=by
 have HU:=aN (show (Dm (lk L) a i)=(if cD (lk L) i [cJ]then aH (fB (lk L) i) λx j=>bK (lk L) (node 26 a [x]) j else bK (lk L) (node 26 a []) i)from rfl);go_in;go_upto_region 1 with fail;have S1:=SV.new h;generalize World.alloc w _=w1 at S1 ⊢;have S2:=S1.leaf 26 0 a e0;go_upto_region 2 with (go_at_call 87;refine(S2.pG 26 a).mono ?_;rintro e w3 ⟨rfl,S3⟩);have S4:=S3.EU (tg 26 0 a ⟨#[]⟩ none 0 0);generalize World.alloc w3 _=w4 at S4 ⊢;generalize w3.heap.size=B4 at S4 ⊢
 cases hs:cD (lk L) i [cJ] with
 | true=>
  have hC:=S4.oN 0 aD [cJ] aI #[.string ⟨#[40]⟩] rfl 1 rfl true hs;have HS:=aN hs;clear hs;go_upto_block 3 with (go_at_call 112;refine hC.mono ?_;rintro e w5 ⟨rfl,S5⟩);refine(S5.eK (uU pb L i w5 S5.ps)).mono ?_;rintro e w6 (⟨x,hr,rfl,hg⟩|⟨t6,j6,k6,n6,a6,s6,o6,m6,c6,hr,rfl,S6⟩)
  ·exact DY
  have H6:=aN hr;clear hr;have S7:=S6.lit (dO.one (S6.tr _ (.head _))) (tg k6 n6 a6 s6 o6 m6 c6) rfl 26 0 a e0 1 1 rfl;have:=AAD (S7.facts 0 rfl);have S8:=S7.put 0 rfl 4 (.slice (some (AAF w6.heap.size 0)) 1 1) aI;go_upto_region 4 with fail;generalize World.setCell _ (AAF B4 4) _=w8 at S8 ⊢;have:=AAD (S8.facts 0 rfl);go_upto_block 4 with fail;refine(S8.sR 26 0 a ⟨#[]⟩ (some (AAF w6.heap.size 0)) 1 1).mono ?_;rintro e wz (⟨x,hr,rfl,hg⟩|⟨jz,hr,rfl,Sz⟩)
  ·exact QI
  have Hz:=aN hr;clear hr;have:=AAD (Sz.facts 1 rfl);go_wp2_with fail;have Sy:=Sz.fY 1 rfl (iq 26) (iq 0) a (.string ⟨#[]⟩) (.slice (some (AAF w6.heap.size 0)) 1 1);refine nX (Sy.facts 1 rfl) Tryz.results173 ?_;exact PM
 | false=>
  have hC:=S4.oN 0 aD [cJ] aI #[.string ⟨#[40]⟩] rfl 1 rfl false hs;have HS:=aN hs;clear hs;go_upto_region 4 with (go_at_call 112;refine hC.mono ?_;rintro e w5 ⟨rfl,S5⟩);have:=AAD (S5.facts 0 rfl);go_upto_block 4 with fail;refine(S5.sR 26 0 a ⟨#[]⟩ none 0 0).mono ?_;rintro e wz (⟨x,hr,rfl,hg⟩|⟨jz,hr,rfl,Sz⟩)
  ·exact DY
  have Hz:=aN hr;clear hr;have:=AAD (Sz.facts 1 rfl);go_wp2_with fail;have Sy:=Sz.fY 1 rfl (iq 26) (iq 0) a (.string ⟨#[]⟩) (.slice none 0 0);refine nX (Sy.facts 1 rfl) Tryz.results173 ?_;exact RP
end
def Sn(pb:Nat)(L:List T3)(k:Int)(a:Nat)(i:Nat)(w:World)(h:PS w pb L i):AAA 210 #[pq pb,k,a] w (aU pb L w (iQ (lk L) k a i)):=by
 have HU:=aN (show (iQ (lk L) k a i)=(if isName (lk L) i then aH (iN (lk L) i) λs j=>bK (lk L) (.mk k 0 a s []) j else bK (lk L) (node k a []) i)from rfl);go_in;go_upto_region 1 with fail;have S1:=SV.new h;generalize World.alloc w _=w1 at S1 ⊢;have S2:=S1.leaf k 0 a e0;have hf0:=Eo;go_upto_region 2 with (go_at_call 87;refine(S2.pG k a).mono ?_;rintro e w3 ⟨rfl,S3⟩);have S4:=S3.EU (tg k 0 a ⟨#[]⟩ none 0 0);generalize World.alloc w3 _=w4 at S4 ⊢;generalize w3.heap.size=B4 at S4 ⊢;have hT:=fS pb L i 0 aD w4 S4.ps
 cases hs:isName (lk L) i with
 | true=>
  have hk:(tok (L.map T3.tk) (i+0)).kind=1:=by unfold isName at hs;simpa using hs
  rw[hk]at hT;have HS:=aN hs;clear hs hk;go_upto_block 3 with (go_at_call 113;refine(S4.eT (E:=λe=>∃ p:Int,e=_) hT).mono ?_;rintro e w5 ⟨⟨p,rfl⟩,S5⟩);refine(S5.Bn (rM pb L i w5 S5.ps)).mono ?_;rintro e w6 (⟨x,hr,rfl,hg⟩|⟨s6,j6,hr,rfl,S6⟩)
  ·exact DY
  have H6:=aN hr;clear hr;have:=AAD (S6.facts 0 rfl);have S7:=(S6.put 0 rfl 3 (.string s6) aI).leaf k 0 a s6;go_upto_region 4 with fail;generalize World.setCell _ (AAF B4 3) _=w8 at S7 ⊢;have:=AAD (S7.facts 0 rfl);go_upto_block 4 with fail;refine(S7.sR k 0 a s6 none 0 0).mono ?_;rintro e wz (⟨x,hr,rfl,hg⟩|⟨jz,hr,rfl,Sz⟩)
  ·exact QI
  have Hz:=aN hr;clear hr;have:=AAD (Sz.facts 1 rfl);go_wp2_with fail;have Sy:=Sz.fY 1 rfl k (iq 0) a s6 (.slice none 0 0);refine nX (Sy.facts 1 rfl) Tryz.results210 ?_;exact PM
 | false=>
  have hk:¬ (tok (L.map T3.tk) (i+0)).kind=1:=by unfold isName at hs;simpa using hs
  generalize (tok (L.map T3.tk) (i+0)).kind=tk at hT hk;have HS:=aN hs;clear hs;go_upto_region 4 with (go_at_call 113;refine(S4.eT (E:=λe=>∃ p:Int,e=_) hT).mono ?_;rintro e w5 ⟨⟨p,rfl⟩,S5⟩);have:=AAD (S5.facts 0 rfl);go_upto_block 4 with fail;refine(S5.sR k 0 a ⟨#[]⟩ none 0 0).mono ?_;rintro e wz (⟨x,hr,rfl,hg⟩|⟨jz,hr,rfl,Sz⟩)
  ·exact DY
  have Hz:=aN hr;clear hr;have:=AAD (Sz.facts 1 rfl);go_wp2_with fail;have Sy:=Sz.fY 1 rfl k (iq 0) a (.string ⟨#[]⟩) (.slice none 0 0);refine nX (Sy.facts 1 rfl) Tryz.results210 ?_;exact RP
section
variable(pb:Nat)(L:List T3)(a:Nat)(lab:dL)(i:Nat)(w:World)(h:PS w pb L i)
include pb L a lab i w h
theorem axL:AAA 176 #[pq pb,a,lab] w (aU pb L w (iQ (lk L) 28 a i)):=by
 have HU:=aN (show (iQ (lk L) 28 a i)=(iQ (lk L) 28 a i)from rfl);go_in;go_upto_region 1 with fail;have S1:=SV.new h;generalize World.alloc w _=w1 at S1 ⊢;go_upto_block 1 with fail;refine(S1.eK (Sn pb L 28 a i w1 S1.ps)).mono ?_;rintro e w3 (⟨x,hr,rfl,hg⟩|⟨t3,j3,k3,n3,a3,s3,o3,m3,c3,hr,rfl,S3⟩)
 ·exact iU
 have H3:=aN hr;clear hr;have:=AAD (S3.facts 0 rfl);go_wp2_with fail;have S4:=S3.fY 0 rfl k3 n3 a3 s3 (.slice o3 m3 c3);refine nX (S4.facts 0 rfl) Tryz.results176 ?_;exact RF
theorem adB:AAA 177 #[pq pb,a,lab] w (aU pb L w (iQ (lk L) 29 a i)):=by
 have HU:=aN (show (iQ (lk L) 29 a i)=(iQ (lk L) 29 a i)from rfl);go_in;go_upto_region 1 with fail;have S1:=SV.new h;generalize World.alloc w _=w1 at S1 ⊢;go_upto_block 1 with fail;refine(S1.eK (Sn pb L 29 a i w1 S1.ps)).mono ?_;rintro e w3 (⟨x,hr,rfl,hg⟩|⟨t3,j3,k3,n3,a3,s3,o3,m3,c3,hr,rfl,S3⟩)
 ·exact iU
 have H3:=aN hr;clear hr;have:=AAD (S3.facts 0 rfl);go_wp2_with fail;have S4:=S3.fY 0 rfl k3 n3 a3 s3 (.slice o3 m3 c3);refine nX (S4.facts 0 rfl) Tryz.results177 ?_;exact RF
end
def Zk{p:Prop}(h:p:=by
 try have:=AAD (Sq.facts 1 rfl)
 go_simp;refine GR aMB Sq ?_;clear aMB Kx;exact xO):p:=h
def Zz{p:Prop}(h:p:=by
 try have:=AAD (Sq.facts 1 rfl)
 go_simp;refine(Sq.eK (uU pb L j5 _ Sq.ps)).mono ?_;rintro e w7 (⟨x,hr,rfl,hg⟩|⟨t7,j7,k7,n7,a7,s7,o7,m7,c7,hr,rfl,Sq⟩)
 ·unfold gM;exact⟨rfl,aU.err x (by simp[HU.out,aH,bK,H2.out,H3.out,H5.out,hr]) hg⟩
 have H7:=aN hr;clear hr;have:=AAD (Sq.facts 0 rfl);refine GR aMB Sq ?_;clear aMB Kx;exact xO):p:=h
def atK{p:Prop}(h:p:=by
 try have:=AAD (Sq.facts 1 rfl)
 go_simp;have Sq:=Sq.lit (dO.two (Sq.tr _ (.tail _ (.head _))) (Sq.tr _ (.head _))) #[.int .i64 k3,.int .i64 n3,.int .i64 a3,.string s3,.slice o3 m3 c3,.int .i64 k7,.int .i64 n7,.int .i64 a7,.string s7,.slice o7 m7 c7] rfl 44 0 a s2 2 2 rfl;refine GR aMB Sq ?_;clear aMB Kx;exact xO):p:=h
def axF{p:Prop}(h:p:=by
 try have:=AAD (Sq.facts 1 rfl)
 go_simp;refine(Sq.sR 44 0 a s2 (some (AAF w7.heap.size 0)) 2 2).mono ?_;rintro e w9 (⟨x,hr,rfl,hg⟩|⟨j9,hr,rfl,Sq⟩)
 ·unfold gM;exact⟨rfl,aU.err x (by simp[HU.out,aH,bK,H2.out,H3.out,H5.out,H7.out,hr]) hg⟩
 have H9:=aN hr;clear hr;refine GR aMB Sq ?_;clear aMB Kx;exact xO):p:=h
def ayB{p:Prop}(h:p:=by
 try have:=AAD (Sq.facts 1 rfl)
 go_simp;refine aMB _ _ ?_;clear aMB Kx;exact xO):p:=h
def aDf{p:Prop}(h:p:=by
 go_wp2_with fail;have S10:=Sq.fY 1 rfl (iq 44) (iq 0) a s2 (.slice (some (AAF w7.heap.size 0)) 2 2);refine nX (S10.facts 1 rfl) Tryz.results187 ?_;exact S10.res (.head _) (by simp[HU.out,aH,bK,H2.out,H3.out,H5.out,H7.out,H9.out]<;>rfl) rfl):p:=h
theorem xO{p:Prop}(h:p:=by
 first
 | (refine Gk ?_;exact aDf)
 | (refine tZ 0 ?_;exact xO)
 | (refine tZ 1 ?_;exact xO)
 | (refine tZ 2 ?_;exact xO)
 | (refine tZ 4 ?_;exact xO)
 | (refine tZ 7 ?_;exact xO)
 | (refine kL [3,5] ?_;refine qP (λKx aMB=>?_) (qP (λKx aMB=>?_) .nil);exact Zk;exact Zz)
 | (refine kL [5] ?_;refine qP (λKx aMB=>?_) .nil;exact Zz)
 | (refine kL [6] ?_;refine qP (λKx aMB=>?_) .nil;exact atK)
 | (refine kL [8] ?_;refine qP (λKx aMB=>?_) .nil;exact axF)
 | (refine kL [9] ?_;refine qP (λKx aMB=>?_) .nil;exact ayB)
 | (refine kL [3] ?_;refine qP (λKx aMB=>?_) .nil;exact Zk)):p:=h
def auF(pb:Nat)(L:List T3)(a:Nat)(lab:dL)(i:Nat)(w:World)(h:PS w pb L i):AAA 187 #[pq pb,a,lab] w (aU pb L w (Ab (lk L) a i)):=by
 have HU:=aN (show Ab (lk L) a i=(aH (rT (lk L) i) λs j=>aH (fH (lk L) oE j) λr j1=>aH (fV (lk L) j1 [nJ]) λ_ j2=>aH (fB (lk L) j2) λx j3=>bK (lk L) (.mk 44 0 a s [r,x]) j3)from rfl);go_in;go_upto_region 1 with fail;have S1:=SV.new h;generalize World.alloc w _=w1 at S1 ⊢;go_upto_block 1 with fail;refine(S1.Bn (xM pb L i w1 S1.ps)).mono ?_;rintro e w2 (⟨x,hr,rfl,hg⟩|⟨s2,j2,hr,rfl,S2⟩)
 ·exact iU
 have H2:=aN hr;clear hr;go_upto_block 2 with fail;refine(S2.eK (Ee pb L oE j2 w2 S2.ps)).mono ?_;rintro e w3 (⟨x,hr,rfl,hg⟩|⟨t3,j3,k3,n3,a3,s3,o3,m3,c3,hr,rfl,S3⟩)
 ·exact xD
 have H3:=aN hr;clear hr;go_upto_region 3 with fail;have S4:=S3.EU (tg k3 n3 a3 s3 o3 m3 c3);generalize World.alloc w3 _=w4 at S4 ⊢;generalize w3.heap.size=B4 at S4 ⊢;go_upto_block 3 with fail;refine(S4.El [nJ] aI _ rfl 1 rfl).mono ?_;rintro e w5 (⟨x,hr,rfl,hg⟩|⟨j5,hr,rfl,S5⟩)
 ·exact AL
 have H5:=aN hr;clear hr;go_upto_region 4 with fail;refine qW aQ ?_;change wpAny _ _ _ _ _ _ _ (World.drew _);have Sq:=S5.drew;generalize World.drew w5=w6 at Sq ⊢;have:=AAD (Sq.facts 0 rfl);exact xO
def iB.at0{av:Nat->Prop}{w:World}{k n a:Int}{s:dL}{x:T}{r:List T}{us:List Value}(h:iB av w (.mk k n a s (x::r)) us):∃ b off c,us=[.int .i64 k,.int .i64 n,.int .i64 a,.string s,.slice (some (AAF b off)) (r.length+1) c]/\w.cell? (AAF b (off+2))=some (.int .i64 x.at_):=by
 unfold iB at h;obtain⟨ao,c,rfl,h,-⟩:=h;obtain⟨b,off,vs,rfl,_,_,hc,hu⟩:=h aI;refine⟨b,off,c,by simp,hu 2 _ ?_⟩;unfold dO at hc;obtain⟨u1,u2,rfl,h1,_⟩:=hc;obtain⟨k',n',a',s',l'⟩:=x;unfold iB at h1;obtain⟨_,_,rfl,_⟩:=h1;rfl
def aCt(l:List T)(av:Nat->Prop)(ao:iD)(m c:Nat)(w:World)(h:iB av w (.mk 40 0 0 e0 l) (vT 40 0 0 e0 ao m c))(hl:l.length<=1000000):AAA 202 #[.slice ao m c] w λe w'=>(∃ a,e=.returned (tg 40 0 a ⟨#[]⟩ ao m c)/\gQ l=.mk 40 0 a e0 l)/\iY w w':=by
 cases l with
 | nil=>
  have hm:m=0/\ao=ao:=by
   unfold iB vT at h;obtain⟨_,_,e,_⟩:=h
   simp at e
   exact⟨e.2.1,rfl⟩
  obtain⟨rfl,-⟩:=hm;go_in;go_upto_region 1 with fail;obtain⟨t0,b0⟩:=tv0 w;generalize World.alloc w _=w0 at t0 b0 ⊢;go_wp2_with (go_at_call 87;refine(yM _ _ _ _ _ _).mono ?_;rintro e w1 ⟨rfl,hb⟩;have t1:=t0.below hb;have:=AAD t1);refine nX (t1.set _ _ _ _ _) Tryz.results202 ?_;exact⟨⟨0,rfl,rfl⟩,jH (b0.trans (hb.mono b0.size)) (aG _) _ _ _ _ _⟩
 | cons x r=>
  obtain⟨b,off,c',e,hc⟩:=h.at0;unfold vT at e
  simp at e
  obtain⟨rfl,rfl,rfl⟩:=e;have hlt:=(show b<w.heap.size from block_lt_of_cell hc)
  have hl':(0:Int)<((r.length:Nat):Int)+1:=by omega
  go_in;go_upto_region 1 with fail;obtain⟨t0,b0⟩:=tv0 w;generalize World.alloc w _=w0 at t0 b0 ⊢;replace hc:w0.cell? (AAF b (off+2))=some (.int .i64 x.at_):=(b0.cell (p:=(AAF b (off+2))) hlt).trans hc;go_wp2_with (go_at_call 87;refine(yM _ _ _ _ _ _).mono ?_;rintro e w1 ⟨rfl,hb⟩;have t1:=t0.below hb;have:=AAD t1);refine nX (t1.set _ _ _ _ _) Tryz.results202 ?_;exact⟨⟨x.at_,rfl,rfl⟩,jH (b0.trans (hb.mono b0.size)) (aG _) _ _ _ _ _⟩
end
