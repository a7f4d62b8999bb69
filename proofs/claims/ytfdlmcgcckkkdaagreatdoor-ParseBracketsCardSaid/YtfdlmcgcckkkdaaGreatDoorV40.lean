/- ParseWhole, part 40: what it stands on. -/
import Derived.Test.YtfdlmcgcckkkdaaGreatDoorV39
import Derived.Test.YtfdlmcgcckkkdaaGreatDoorV33
import Derived.Deep.RegionHeld
set_option linter.all false
set_option maxHeartbeats 40000000
set_option maxRecDepth 100000
namespace Go.Proofs.YtfdlmcgcckkkdaaGreatDoor
section
open Go.RowKit Lx Px
theorem Ip: ∀ args w,(callFunc 128 args).run Tryz.prog w=.ok (.enter 128 args) w:=
 enters_of Tryz.func128 (by decide) rfl
theorem Mf(pb:Nat)(L:List T3)(hX:iC L):Reads 228 pb L 0 (Gh (lk L)):=by
 have:∀ f lo,L.length+1≤f+lo→Reads 228 pb L lo (mI (lk L) f):=by
  intro f
  induction f with
  | zero=>intro lo hlo i w hi h;exact absurd h.le (by omega)
  | succ f ih=>intro lo hlo;exact JT pb L hX lo f (ih (lo+1) (by omega))
 exact this ((lk L).length+1) 0 (by rw[List.length_map];omega)
theorem xC(pb:Nat)(L:List T3)(hX:iC L)(a:Nat)(lab:ByteArray)(i:Nat)(w:World)(h:PS w pb L i):Calls Tryz.prog 202 #[pq pb,a,lab] w (aD pb L w (mH (lk L) a i)):=by
 have HU:=hdq (show mH (lk L) a i=aB (eD (lk L) 60 (Gh (lk L)) i) fun l j=>aG (lk L) (node 47 a l) j from rfl);go_enter Tryz.func202,Tryz.ntmps202;go_upto_region 1 with fail;have S1:=SV.new h;generalize World.alloc w _=w1 at S1 ⊢;have hM:=eI _ Mw pb L 0 (Gh (lk L)) (Mf pb L hX) (Et (lk L)) 60 (by decide) (by decide) i (Nat.zero_le _) w1 S1.ps;go_upto_block 1 with fail;refine(S1.pL hM).mono ?_;rintro e w2 (⟨x,hr,rfl,hg⟩|⟨l2,j2,o2,c2,hr,rfl,S2⟩)
 ·unfold pan;go_wp2_with fail;exact⟨rfl,aD.err x (by simp[HU.out,aB,aG,hr]) hg⟩
 have H2:=hdq hr;clear hr;go_upto_block 1 with fail;refine m2q (S2.dI 47 a) fun w3 S3=>?_;go_upto_block 1 with fail;refine(S3.gX 47 0 a ⟨#[]⟩ o2 l2.length c2).mono ?_;rintro e w4 (⟨x,hr,rfl,hg⟩|⟨j4,hr,rfl,S4⟩)
 ·unfold pan;go_wp2_with fail;exact⟨rfl,aD.err x (by simp[HU.out,aB,aG,H2.out,hr]) hg⟩
 have H4:=hdq hr;clear hr;have:=TV.facts (S4.facts 0 rfl);go_wp2_with fail;have S5:=S4.bN 0 rfl (.int .i64 47) (.int .i64 0) a (.string ⟨#[]⟩) (.slice o2 l2.length c2);refine rtv (S5.facts 0 rfl) Tryz.results202 ?_;exact S5.res (.head _) (by simp[HU.out,aB,aG,H2.out,H4.out]<;>rfl) rfl
def rF(L:List Tk)(stmt:Nat→R T)(a:Nat)(label:ByteArray)(params:T)(n:Int)(ret:T)(j2:Nat):R T:=
 aB (aM L j2 aS) fun _ j3=>aB (fF L stmt label j3) fun g j4=>.ok (.mk 15 n a e0 (params::ret::g),j4)
def tJ(L:List Tk)(stmt:Nat→R T)(a:Nat)(label:ByteArray)(params:T)(n:Int)(j1:Nat):R T:=
 aB (if wrd L j1 [bI] then aB (aM L (j1 + 1) sLP) fun _ k1 => aB (bT L k1) fun x k2 => aB (lG L 3 k2) fun xs k3 => aB (aM L k3 sRP) fun _ k4 => .ok (gC (x :: xs), k4)
   else .ok (none_, j1)) fun ret j2 => rF L stmt a label params n ret j2
def tP(L:List Tk)(stmt:Nat→R T)(a:Nat)(label:ByteArray)(params:T)(j:Nat):R T:=
 aB (if wrd L j [bZ] then aB (aM L (j + 1) sLP) fun _ j1 => aB (gU L j1 [iV]) fun _ j2 => aB (aM L j2 sRP) fun _ j3 => .ok ((1 : Int), j3)
   else if wrd L j [bB] then .ok (2, j + 1) else .ok (0, j)) fun n j1 => tJ L stmt a label params n j1
theorem Lp(L:List Tk)(stmt:Nat→R T)(a:Nat)(label:ByteArray)(i:Nat):eX L stmt a label i =
 aB (if sgn L i [sLP]then aB (eD L 8 (iX L) (i+1)) fun l j=>aB (aM L j sRP) fun _ j'=>.ok (gC l,j')else .ok (node 40 0 [],i)) fun params j=>tP L stmt a label params j:=rfl
theorem qP(pb:Nat)(L:List T3)(hX:iC L)(lo:Nat)(stmt:Nat→R T)(hS:Reads 53 pb L lo stmt)(up:∀ i,Up (i+1) (stmt i))(a:Nat)(lab:ByteArray)(i:Nat)(hi:lo≤i)(w:World)(h:PS w pb L i):Calls Tryz.prog 179 #[pq pb,a,lab] w (aD pb L w (eX (lk L) stmt a lab i)):=by
 have HU:=hdq (Lp (lk L) stmt a lab i);have hbd:=h.bd;go_enter Tryz.func179,Tryz.ntmps179;go_upto_region 1 with fail;have S1:=SV.new h;generalize World.alloc w _=w1 at S1 ⊢;have S2:=S1.leaf 40 0 0 e0;go_upto_block 1 with fail;refine m2q (S2.dI 40 0) fun w2 S3=>?_;go_upto_block 1 with fail;refine m2q (S3.uG) fun w3 S4=>?_;go_upto_region 2 with fail;have S10:=(S4.less (ts':=[]) (fun _ h=>by cases h)).cX (tg 40 0 0 ⟨#[]⟩ none 0 0) (tg 40 0 0 ⟨#[]⟩ none 0 0) rfl _ rfl;have S11:=S10.cX (tg 10 0 0 ⟨#[]⟩ none 0 0) (tg 10 0 0 ⟨#[]⟩ none 0 0) rfl (w3.heap.size+1) (by simp);generalize World.alloc (World.alloc w3 _) _=w11 at S11 ⊢;generalize w3.heap.size+1=B8 at S11 ⊢;generalize w3.heap.size=B7 at S11 ⊢;clear S1 S2 S3 S4 S10;have hC:=S11.TN sLP _ rfl;go_upto_if 14 with (go_at_call 135;refine hC.mono ?_;rintro e w12 ⟨rfl,S12⟩);clear hC S11;go_cut [] (fun wx=>∃ (x:T) (j:Nat) (k1 n1 a1:Int) (s1:ByteArray) (o1:Option Addr) (m1 c1:Nat),SV pb L w wx j [(B8,tg 10 0 0 ⟨#[]⟩ none 0 0),(B7,tg k1 n1 a1 s1 o1 m1 c1),(w.heap.size,zs5)] [(x,vT k1 n1 a1 s1 o1 m1 c1)]∧i≤j∧eX (lk L) stmt a lab i=tP (lk L) stmt a lab x j)
 case first=>
  cases hs:sgn (lk L) i [sLP] with
  | true=>
   rw[hs]at S12;replace S12:SV pb L w w12 (i+1) _ _:=S12;have HS:=hdq hs;clear hs;have hM:=eI _ Ip pb L 0 (iX (lk L)) (fun i w _ h=>qQ pb L i w h) (fM (lk L)) 8 (by decide) (by decide) (i+1) (Nat.zero_le _) w12 S12.ps;go_upto_block 3 with fail;refine(S12.pL hM).mono ?_;rintro e w13 (⟨x,hr,rfl,hg⟩|⟨l13,j13,o13,c13,hr,rfl,S13⟩)
   ·unfold pan;go_wp2_with fail;exact⟨rfl,aD.err x (by simp[HU.out,aB,HS.out,hr]) hg⟩
   have H13:=hdq hr;clear hr;have hj13:=dB (lk L) (fM (lk L)) 8 (i+1) _ _ H13.out;go_upto_block 3 with fail;refine(S13.vO (Nat.le_trans (eW (by decide) H13.out) (by decide))).mono ?_;rintro e w14 ⟨a14,hl14,rfl,S14⟩;have:=TV.facts (S14.facts 1 rfl);have S15:=S14.bN 1 rfl (.int .i64 40) (.int .i64 0) a14 (.string ⟨#[]⟩) (.slice o13 l13.length c13);unfold st5 at S15;go_upto_region 4 with fail;generalize World.setCell _ ⟨B7,4,none⟩ _=w15 at S15 ⊢;go_upto_block 4 with fail;refine(S15.dR sRP).mono ?_;rintro e w16 (⟨x,hr,rfl,hg⟩|⟨j16,hr,rfl,S16⟩)
   ·unfold pan;go_wp2_with fail;exact⟨rfl,aD.err x (by simp[HU.out,aB,HS.out,H13.out,hr]) hg⟩
   have H16:=hdq hr;clear hr;have hj16:=aK (lk L) j13 sRP _ _ H16.out
   go_wp2
   go_meet
   case rel=>exact⟨gC l13,j16,_,_,_,_,_,_,_,S16,by omega,by simp[HU.out,aB,HS.out,H13.out,H16.out]⟩
  | false=>
   rw[hs]at S12;replace S12:SV pb L w w12 i _ _:=S12;have HS:=hdq hs;clear hs
   go_wp2
   go_meet
   case rel=>exact⟨node 40 0 [],i,_,_,_,_,_,_,_,S12.leaf 40 0 0 e0,Nat.le_refl _,by simp[HU.out,aB,HS.out]⟩
 case rest=>
  clear S12;obtain⟨x,j,k1,n1,a1,s1,o1,m1,c1,S12,hij,hq⟩:=hcut;have HU:=hdq hq;clear hq;have hC:=S12.wK [bZ] (by simp) #[.string ⟨#[79,80,84,73,79,78,83]⟩] rfl 1 rfl _ rfl;go_upto_if 24 with (go_at_call 136;refine hC.mono ?_;rintro e w13 ⟨rfl,S13⟩);clear hC S12;go_cut [9] (fun v9 wx=>∃ (n:Int) (j1:Nat),v9=.int .i64 n∧SV pb L w wx j1 [(B8,tg 10 0 0 ⟨#[]⟩ none 0 0),(B7,tg k1 n1 a1 s1 o1 m1 c1),(w.heap.size,zs5)] [(x,vT k1 n1 a1 s1 o1 m1 c1)]∧i≤j1∧eX (lk L) stmt a lab i=tJ (lk L) stmt a lab x n j1)
  case first=>
   cases hs:wrd (lk L) j [bZ] with
   | true=>
    rw[hs]at S13;replace S13:SV pb L w w13 (j+1) _ _:=S13;have HS:=hdq hs;clear hs;go_upto_block 7 with fail;refine(S13.dR sLP).mono ?_;rintro e w14 (⟨x,hr,rfl,hg⟩|⟨j14,hr,rfl,S14⟩)
    ·unfold pan;go_wp2_with fail;exact⟨rfl,aD.err x (by simp[HU.out,aB,tP,HS.out,hr]) hg⟩
    have H14:=hdq hr;clear hr;go_upto_block 8 with fail;refine(S14.pI [iV] (by simp) _ rfl 1 rfl).mono ?_;rintro e w15 (⟨x,hr,rfl,hg⟩|⟨j15,hr,rfl,S15⟩)
    ·unfold pan;go_wp2_with fail;exact⟨rfl,aD.err x (by simp[HU.out,aB,tP,HS.out,H14.out,hr]) hg⟩
    have H15:=hdq hr;clear hr;go_upto_block 9 with fail;refine(S15.dR sRP).mono ?_;rintro e w16 (⟨x,hr,rfl,hg⟩|⟨j16,hr,rfl,S16⟩)
    ·unfold pan;go_wp2_with fail;exact⟨rfl,aD.err x (by simp[HU.out,aB,tP,HS.out,H14.out,H15.out,hr]) hg⟩
    have H16:=hdq hr;clear hr;have h14:=aK (lk L) _ sLP _ _ H14.out;have h15:=iM (lk L) _ _ _ _ H15.out;have h16:=aK (lk L) _ sRP _ _ H16.out
    go_wp2
    go_meet
    case rel=>exact⟨1,j16,rfl,S16,by omega,by simp[HU.out,aB,tP,HS.out,H14.out,H15.out,H16.out]⟩
   | false=>
    rw[hs]at S13;replace S13:SV pb L w w13 j _ _:=S13;have HS:=hdq hs;clear hs;have hC:=S13.wK [bB] (by simp) #[.string ⟨#[82,69,67,85,82,83,73,86,69]⟩] rfl 1 rfl _ rfl;go_upto_if 34 with (go_at_call 136;refine hC.mono ?_;rintro e w14 ⟨rfl,S14⟩);clear hC S13
    cases hs2:wrd (lk L) j [bB] with
    | true=>
     rw[hs2]at S14;replace S14:SV pb L w w14 (j+1) _ _:=S14;have HS2:=hdq hs2;clear hs2
     go_wp2
     go_meet
     case rel=>exact⟨2,j+1,rfl,S14,by omega,by simp[HU.out,aB,tP,HS.out,HS2.out]⟩
    | false=>
     rw[hs2]at S14;replace S14:SV pb L w w14 j _ _:=S14;have HS2:=hdq hs2;clear hs2
     go_wp2
     go_meet
     case rel=>exact⟨0,j,rfl,S14,hij,by simp[HU.out,aB,tP,HS.out,HS2.out]⟩
  case rest=>
   clear S13;obtain⟨n,j1,rfl,S13,hij1,hq⟩:=hcut;have HU:=hdq hq;clear hq;have hC:=S13.wK [bI] (by simp) #[.string ⟨#[82,69,84,85,82,78,83]⟩] rfl 1 rfl _ rfl;go_upto_if 37 with (go_at_call 136;refine hC.mono ?_;rintro e w14 ⟨rfl,S14⟩);clear hC S13;go_cut [] (fun wx=>∃ (y:T) (j2:Nat) (k2 n2 a2:Int) (s2:ByteArray) (o2:Option Addr) (m2 c2:Nat),SV pb L w wx j2 [(B8,tg k2 n2 a2 s2 o2 m2 c2),(B7,tg k1 n1 a1 s1 o1 m1 c1),(w.heap.size,zs5)] [(y,vT k2 n2 a2 s2 o2 m2 c2),(x,vT k1 n1 a1 s1 o1 m1 c1)]∧i≤j2∧eX (lk L) stmt a lab i=rF (lk L) stmt a lab x n y j2)
   case first=>
    cases hs:wrd (lk L) j1 [bI] with
    | true=>
     rw[hs]at S14;replace S14:SV pb L w w14 (j1+1) _ _:=S14;have HS:=hdq hs;clear hs;go_upto_block 14 with fail;refine(S14.dR sLP).mono ?_;rintro e w15 (⟨x,hr,rfl,hg⟩|⟨j15,hr,rfl,S15⟩)
     ·unfold pan;go_wp2_with fail;exact⟨rfl,aD.err x (by simp[HU.out,aB,tJ,HS.out,hr]) hg⟩
     have H15:=hdq hr;clear hr;go_upto_block 15 with fail;refine(S15.aN (qS pb L hX j15 w15 S15.ps)).mono ?_;rintro e w16 (⟨x,hr,rfl,hg⟩|⟨t16,j16,k16,n16,a16,s16,o16,m16,c16,hr,rfl,S16⟩)
     ·unfold pan;go_wp2_with fail;exact⟨rfl,aD.err x (by simp[HU.out,aB,tJ,HS.out,H15.out,hr]) hg⟩
     have H16:=hdq hr;clear hr;have S17:=S16.lit (aW.one (S16.tr _ (.head _))) (tg k16 n16 a16 s16 o16 m16 c16) rfl 40 0 0 e0 1 1 rfl;go_upto_block 15 with fail;refine(S17.pL (dP pb L hX 3 (by decide) j16 _ S17.ps)).mono ?_;rintro e w18 (⟨x,hr,rfl,hg⟩|⟨l18,j18,o18,c18,hr,rfl,S18⟩)
     ·unfold pan;go_wp2_with fail;exact⟨rfl,aD.err x (by simp[HU.out,aB,tJ,HS.out,H15.out,H16.out,hr]) hg⟩
     have H18:=hdq hr;clear hr;go_upto_block 15 with (at_builtin;go_loud (refine pN rfl _ _ rfl S18 (.tail _ (.head _)) (.head _) (by decide) (Nat.le_trans (gD _ _ _ _ _ H18.out) (by decide)) 40 0 0 e0 (by decide) rfl rfl (fun ao19 c19 w19 S19=>?_)));refine(S19.vO (l:=t16::l18) (by have:=gD _ _ _ _ _ H18.out;simp at this ⊢; omega)).mono ?_;rintro e w20 ⟨a20,hl20,rfl,S20⟩;have:=TV.facts (S20.facts 0 rfl);have S21:=S20.bN 0 rfl (.int .i64 40) (.int .i64 0) a20 (.string ⟨#[]⟩) (.slice ao19 (1+l18.length) c19);unfold st5 at S21;go_upto_region 16 with fail;generalize World.setCell _ ⟨B8,4,none⟩ _=w21 at S21 ⊢;go_upto_block 16 with fail;refine(S21.dR sRP).mono ?_;rintro e w22 (⟨x,hr,rfl,hg⟩|⟨j22,hr,rfl,S22⟩)
     ·unfold pan;go_wp2_with fail;exact⟨rfl,aD.err x (by simp[HU.out,aB,tJ,HS.out,H15.out,H16.out,H18.out,hr]) hg⟩
     have H22:=hdq hr;clear hr;have h15:=aK (lk L) _ sLP _ _ H15.out;have h16:=jF (lk L) _ _ _ H16.out;have h18:=wO (lk L) 3 _ _ _ H18.out;have h22:=aK (lk L) _ sRP _ _ H22.out
     go_wp2
     go_meet
     case rel => exact ⟨gC (t16 :: l18), j22, _, _, _, _, _, _, _, S22.less (fun p hp => by
       rcases List.mem_cons.1 hp with rfl | hp
       · exact .head _
       · rw [List.mem_singleton.1 hp]; simp), by omega, by simp [HU.out, aB, tJ, HS.out, H15.out, H16.out, H18.out, H22.out]⟩
    | false=>
     rw[hs]at S14;replace S14:SV pb L w w14 j1 _ _:=S14;have HS:=hdq hs;clear hs
     go_wp2
     go_meet
     case rel=>exact⟨none_,j1,_,_,_,_,_,_,_,S14.leaf 10 0 0 e0,hij1,by simp[HU.out,aB,tJ,HS.out]⟩
   case rest=>
    clear S14;obtain⟨y,j2,k2,n2,a2,s2,o2,m2,c2,S14,hij2,hq⟩:=hcut;have HU:=hdq hq;clear hq;go_upto_block 17 with fail;refine(S14.dR aS).mono ?_;rintro e w15 (⟨x,hr,rfl,hg⟩|⟨j15,hr,rfl,S15⟩)
    ·unfold pan;go_wp2_with fail;exact⟨rfl,aD.err x (by simp[HU.out,aB,rF,hr]) hg⟩
    have H15:=hdq hr;clear hr;have h15:=aK (lk L) _ aS _ _ H15.out;go_upto_region 18 with fail;go_cut [10] (fun v10 wx=>∃ (B10:Nat) (g:List T) (j3:Nat) (ao:Option Addr) (c:Nat),v10=.pointer (some ⟨B10,0,none⟩)∧SV pb L w wx j3 [(B10,tg 15 0 a ⟨#[]⟩ ao (2+g.length) c),(B8,tg k2 n2 a2 s2 o2 m2 c2),(B7,tg k1 n1 a1 s1 o1 m1 c1),(w.heap.size,zs5)] [(.mk 15 0 a e0 (x::y::g),vT 15 0 a e0 ao (2+g.length) c)]∧fF (lk L) stmt lab j15=.ok (g,j3))
    case first=>
     have S16:=S15.drew;refine wp_region_held_drew (S:=(fun w'=>TV w' B8 k2 n2 a2 s2 (.slice o2 m2 c2)∧TV w' B7 k1 n1 a1 s1 (.slice o1 m1 c1))) (by kernel_rfl) ⟨S16.facts 0 rfl,S16.facts 1 rfl⟩ (fun RY=>?_);generalize World.drew w15=w16 at *;refine tkH 0 ?_;refine tkH 1 ?_;refine tkH 2 ?_;refine tkH 4 ?_;refine tkH 5 ?_;refine rdH [3,6,9] ?_;refine cnH (fun Kx RZ=>?_) ?_
     ·have S17:=S16.lit (aW.two (S16.tr (x,vT k1 n1 a1 s1 o1 m1 c1) (by first|exact .tail _ (.head _)|exact .tail _ (.tail _ (.head _)))) (S16.tr (y,vT k2 n2 a2 s2 o2 m2 c2) (by first|exact .head _|exact .tail _ (.head _)))) #[.int .i64 k1,.int .i64 n1,.int .i64 a1,.string s1,.slice o1 m1 c1,.int .i64 k2,.int .i64 n2,.int .i64 a2,.string s2,.slice o2 m2 c2] rfl 40 0 0 e0 2 2 rfl;go_simp;refine goH RZ ⟨S17.facts 0 rfl,S17.facts 1 rfl⟩ fun RY=>?_;clear RZ Kx;generalize World.alloc _ (.cells #[.int .i64 k1,.int .i64 n1,.int .i64 a1,.string s1,.slice o1 m1 c1,.int .i64 k2,.int .i64 n2,.int .i64 a2,.string s2,.slice o2 m2 c2] 24)=w17 at S17 RY ⊢;refine rdH [6,9] ?_;refine cnH (fun Kx RZ=>?_) ?_
      ·go_simp;refine(S17.pL (fR pb L lo stmt hS up lab j15 (by omega) _ S17.ps)).mono ?_;rintro e w18 (⟨x,hr,rfl,hg⟩|⟨l18,j18,o18,c18,hr,rfl,S18⟩)
       ·unfold pan;exact⟨rfl,aD.err x (by simp[HU.out,aB,rF,H15.out,hr]) hg⟩
       have H18:=hdq hr;clear hr;refine goH RZ ⟨S18.facts 0 rfl,S18.facts 1 rfl⟩ fun RY=>?_;clear RZ Kx;refine rdH [7,9] ?_;refine cnH (fun Kx RZ=>?_) ?_
       ·refine bV (by kernel_rfl) (.tmp 54) (.tmp 57) rfl S18 (by first|exact .head _|exact .tail _ (.head _)) (by first|exact .head _|exact .tail _ (.head _)) (by decide) (by have:=dY up H18.out;have:=S18.ps.le;omega) 15 0 a e0 (by decide) rfl rfl (fun ao19 c19 w19 S19=>?_);refine goH RZ ⟨S19.facts 0 rfl,S19.facts 1 rfl⟩ fun RY=>?_;clear RZ Kx;refine rdH [8,9] ?_;refine cnH (fun Kx RZ=>?_) ?_
        ·go_simp;refine m2q (S19.dI 15 a) fun w20 S20=>?_;refine goH RZ ⟨S20.facts 0 rfl,S20.facts 1 rfl⟩ fun RY=>?_;clear RZ Kx;refine bA 9 fun Kx RZ=>?_;go_simp;have S21:=S20.cX zs5 z5q rfl _ rfl;refine goH RZ ⟨S21.facts 1 rfl,S21.facts 2 rfl⟩ fun RY=>?_;clear RZ Kx;generalize World.alloc _ (.cells z5q 24)=w21 at S21 RY ⊢;refine bA 10 fun Kx RZ=>?_;have:=TV.facts (S21.facts 0 rfl);have S22:=S21.bN 0 rfl (.int .i64 15) (.int .i64 0) a (.string ⟨#[]⟩) (.slice ao19 (2+l18.length) c19);unfold st5 at S22;go_simp;refine goH RZ ⟨S22.facts 1 rfl,S22.facts 2 rfl⟩ fun RY=>?_;clear RZ Kx;refine cW ?_
         go_wp2
         go_meet
         case rel=>exact⟨_,l18,j18,ao19,c19,rfl,S22.less (fun p hp=>by rw[List.mem_singleton.1 hp];exact .head _),H18.out⟩
        refine cnH (fun Kx RZ=>?_) AllReadyH.nil;go_simp;have S21:=S19.cX zs5 z5q rfl _ rfl;refine goH RZ ⟨S21.facts 1 rfl,S21.facts 2 rfl⟩ fun RY=>?_;clear RZ Kx;generalize World.alloc _ (.cells z5q 24)=w21 at S21 RY ⊢;refine bA 8 fun Kx RZ=>?_;go_simp;refine m2q (S21.dI 15 a) fun w20 S20=>?_;refine goH RZ ⟨S20.facts 1 rfl,S20.facts 2 rfl⟩ fun RY=>?_;clear RZ Kx;refine bA 10 fun Kx RZ=>?_;have:=TV.facts (S20.facts 0 rfl);have S22:=S20.bN 0 rfl (.int .i64 15) (.int .i64 0) a (.string ⟨#[]⟩) (.slice ao19 (2+l18.length) c19);unfold st5 at S22;go_simp;refine goH RZ ⟨S22.facts 1 rfl,S22.facts 2 rfl⟩ fun RY=>?_;clear RZ Kx;refine cW ?_
        go_wp2
        go_meet
        case rel=>exact⟨_,l18,j18,ao19,c19,rfl,S22.less (fun p hp=>by rw[List.mem_singleton.1 hp];exact .head _),H18.out⟩
       refine cnH (fun Kx RZ=>?_) AllReadyH.nil;go_simp;have S21:=S18.cX zs5 z5q rfl _ rfl;refine goH RZ ⟨S21.facts 1 rfl,S21.facts 2 rfl⟩ fun RY=>?_;clear RZ Kx;generalize World.alloc _ (.cells z5q 24)=w21 at S21 RY ⊢;refine bA 7 fun Kx RZ=>?_;refine bV (by kernel_rfl) (.tmp 54) (.tmp 57) rfl S21 (by first|exact .head _|exact .tail _ (.head _)) (by first|exact .head _|exact .tail _ (.head _)) (by decide) (by have:=dY up H18.out;have:=S18.ps.le;omega) 15 0 a e0 (by decide) rfl rfl (fun ao19 c19 w19 S19=>?_);refine goH RZ ⟨S19.facts 1 rfl,S19.facts 2 rfl⟩ fun RY=>?_;clear RZ Kx;refine bA 8 fun Kx RZ=>?_;go_simp;refine m2q (S19.dI 15 a) fun w20 S20=>?_;refine goH RZ ⟨S20.facts 1 rfl,S20.facts 2 rfl⟩ fun RY=>?_;clear RZ Kx;refine bA 10 fun Kx RZ=>?_;have:=TV.facts (S20.facts 0 rfl);have S22:=S20.bN 0 rfl (.int .i64 15) (.int .i64 0) a (.string ⟨#[]⟩) (.slice ao19 (2+l18.length) c19);unfold st5 at S22;go_simp;refine goH RZ ⟨S22.facts 1 rfl,S22.facts 2 rfl⟩ fun RY=>?_;clear RZ Kx;refine cW ?_
       go_wp2
       go_meet
       case rel=>exact⟨_,l18,j18,ao19,c19,rfl,S22.less (fun p hp=>by rw[List.mem_singleton.1 hp];exact .head _),H18.out⟩
      refine cnH (fun Kx RZ=>?_) AllReadyH.nil;go_simp;have S21:=S17.cX zs5 z5q rfl _ rfl;refine goH RZ ⟨S21.facts 1 rfl,S21.facts 2 rfl⟩ fun RY=>?_;clear RZ Kx;generalize World.alloc _ (.cells z5q 24)=w21 at S21 RY ⊢;refine bA 6 fun Kx RZ=>?_;go_simp;refine(S21.pL (fR pb L lo stmt hS up lab j15 (by omega) _ S21.ps)).mono ?_;rintro e w18 (⟨x,hr,rfl,hg⟩|⟨l18,j18,o18,c18,hr,rfl,S18⟩)
      ·unfold pan;exact⟨rfl,aD.err x (by simp[HU.out,aB,rF,H15.out,hr]) hg⟩
      have H18:=hdq hr;clear hr;refine goH RZ ⟨S18.facts 1 rfl,S18.facts 2 rfl⟩ fun RY=>?_;clear RZ Kx;refine bA 7 fun Kx RZ=>?_;refine bV (by kernel_rfl) (.tmp 54) (.tmp 57) rfl S18 (by first|exact .head _|exact .tail _ (.head _)) (by first|exact .head _|exact .tail _ (.head _)) (by decide) (by have:=dY up H18.out;have:=S18.ps.le;omega) 15 0 a e0 (by decide) rfl rfl (fun ao19 c19 w19 S19=>?_);refine goH RZ ⟨S19.facts 1 rfl,S19.facts 2 rfl⟩ fun RY=>?_;clear RZ Kx;refine bA 8 fun Kx RZ=>?_;go_simp;refine m2q (S19.dI 15 a) fun w20 S20=>?_;refine goH RZ ⟨S20.facts 1 rfl,S20.facts 2 rfl⟩ fun RY=>?_;clear RZ Kx;refine bA 10 fun Kx RZ=>?_;have:=TV.facts (S20.facts 0 rfl);have S22:=S20.bN 0 rfl (.int .i64 15) (.int .i64 0) a (.string ⟨#[]⟩) (.slice ao19 (2+l18.length) c19);unfold st5 at S22;go_simp;refine goH RZ ⟨S22.facts 1 rfl,S22.facts 2 rfl⟩ fun RY=>?_;clear RZ Kx;refine cW ?_
      go_wp2
      go_meet
      case rel=>exact⟨_,l18,j18,ao19,c19,rfl,S22.less (fun p hp=>by rw[List.mem_singleton.1 hp];exact .head _),H18.out⟩
     refine cnH (fun Kx RZ=>?_) ?_
     ·go_simp;refine(S16.pL (fR pb L lo stmt hS up lab j15 (by omega) _ S16.ps)).mono ?_;rintro e w18 (⟨x,hr,rfl,hg⟩|⟨l18,j18,o18,c18,hr,rfl,S18⟩)
      ·unfold pan;exact⟨rfl,aD.err x (by simp[HU.out,aB,rF,H15.out,hr]) hg⟩
      have H18:=hdq hr;clear hr;refine goH RZ ⟨S18.facts 0 rfl,S18.facts 1 rfl⟩ fun RY=>?_;clear RZ Kx;refine rdH [3,9] ?_;refine cnH (fun Kx RZ=>?_) ?_
      ·have S17:=S18.lit (aW.two (S18.tr (x,vT k1 n1 a1 s1 o1 m1 c1) (by first|exact .tail _ (.head _)|exact .tail _ (.tail _ (.head _)))) (S18.tr (y,vT k2 n2 a2 s2 o2 m2 c2) (by first|exact .head _|exact .tail _ (.head _)))) #[.int .i64 k1,.int .i64 n1,.int .i64 a1,.string s1,.slice o1 m1 c1,.int .i64 k2,.int .i64 n2,.int .i64 a2,.string s2,.slice o2 m2 c2] rfl 40 0 0 e0 2 2 rfl;go_simp;refine goH RZ ⟨S17.facts 0 rfl,S17.facts 1 rfl⟩ fun RY=>?_;clear RZ Kx;generalize World.alloc _ (.cells #[.int .i64 k1,.int .i64 n1,.int .i64 a1,.string s1,.slice o1 m1 c1,.int .i64 k2,.int .i64 n2,.int .i64 a2,.string s2,.slice o2 m2 c2] 24)=w17 at S17 RY ⊢;refine rdH [7,9] ?_;refine cnH (fun Kx RZ=>?_) ?_
       ·refine bV (by kernel_rfl) (.tmp 54) (.tmp 57) rfl S17 (by first|exact .head _|exact .tail _ (.head _)) (by first|exact .head _|exact .tail _ (.head _)) (by decide) (by have:=dY up H18.out;have:=S18.ps.le;omega) 15 0 a e0 (by decide) rfl rfl (fun ao19 c19 w19 S19=>?_);refine goH RZ ⟨S19.facts 0 rfl,S19.facts 1 rfl⟩ fun RY=>?_;clear RZ Kx;refine rdH [8,9] ?_;refine cnH (fun Kx RZ=>?_) ?_
        ·go_simp;refine m2q (S19.dI 15 a) fun w20 S20=>?_;refine goH RZ ⟨S20.facts 0 rfl,S20.facts 1 rfl⟩ fun RY=>?_;clear RZ Kx;refine bA 9 fun Kx RZ=>?_;go_simp;have S21:=S20.cX zs5 z5q rfl _ rfl;refine goH RZ ⟨S21.facts 1 rfl,S21.facts 2 rfl⟩ fun RY=>?_;clear RZ Kx;generalize World.alloc _ (.cells z5q 24)=w21 at S21 RY ⊢;refine bA 10 fun Kx RZ=>?_;have:=TV.facts (S21.facts 0 rfl);have S22:=S21.bN 0 rfl (.int .i64 15) (.int .i64 0) a (.string ⟨#[]⟩) (.slice ao19 (2+l18.length) c19);unfold st5 at S22;go_simp;refine goH RZ ⟨S22.facts 1 rfl,S22.facts 2 rfl⟩ fun RY=>?_;clear RZ Kx;refine cW ?_
         go_wp2
         go_meet
         case rel=>exact⟨_,l18,j18,ao19,c19,rfl,S22.less (fun p hp=>by rw[List.mem_singleton.1 hp];exact .head _),H18.out⟩
        refine cnH (fun Kx RZ=>?_) AllReadyH.nil;go_simp;have S21:=S19.cX zs5 z5q rfl _ rfl;refine goH RZ ⟨S21.facts 1 rfl,S21.facts 2 rfl⟩ fun RY=>?_;clear RZ Kx;generalize World.alloc _ (.cells z5q 24)=w21 at S21 RY ⊢;refine bA 8 fun Kx RZ=>?_;go_simp;refine m2q (S21.dI 15 a) fun w20 S20=>?_;refine goH RZ ⟨S20.facts 1 rfl,S20.facts 2 rfl⟩ fun RY=>?_;clear RZ Kx;refine bA 10 fun Kx RZ=>?_;have:=TV.facts (S20.facts 0 rfl);have S22:=S20.bN 0 rfl (.int .i64 15) (.int .i64 0) a (.string ⟨#[]⟩) (.slice ao19 (2+l18.length) c19);unfold st5 at S22;go_simp;refine goH RZ ⟨S22.facts 1 rfl,S22.facts 2 rfl⟩ fun RY=>?_;clear RZ Kx;refine cW ?_
        go_wp2
        go_meet
        case rel=>exact⟨_,l18,j18,ao19,c19,rfl,S22.less (fun p hp=>by rw[List.mem_singleton.1 hp];exact .head _),H18.out⟩
       refine cnH (fun Kx RZ=>?_) AllReadyH.nil;go_simp;have S21:=S17.cX zs5 z5q rfl _ rfl;refine goH RZ ⟨S21.facts 1 rfl,S21.facts 2 rfl⟩ fun RY=>?_;clear RZ Kx;generalize World.alloc _ (.cells z5q 24)=w21 at S21 RY ⊢;refine bA 7 fun Kx RZ=>?_;refine bV (by kernel_rfl) (.tmp 54) (.tmp 57) rfl S21 (by first|exact .head _|exact .tail _ (.head _)) (by first|exact .head _|exact .tail _ (.head _)) (by decide) (by have:=dY up H18.out;have:=S18.ps.le;omega) 15 0 a e0 (by decide) rfl rfl (fun ao19 c19 w19 S19=>?_);refine goH RZ ⟨S19.facts 1 rfl,S19.facts 2 rfl⟩ fun RY=>?_;clear RZ Kx;refine bA 8 fun Kx RZ=>?_;go_simp;refine m2q (S19.dI 15 a) fun w20 S20=>?_;refine goH RZ ⟨S20.facts 1 rfl,S20.facts 2 rfl⟩ fun RY=>?_;clear RZ Kx;refine bA 10 fun Kx RZ=>?_;have:=TV.facts (S20.facts 0 rfl);have S22:=S20.bN 0 rfl (.int .i64 15) (.int .i64 0) a (.string ⟨#[]⟩) (.slice ao19 (2+l18.length) c19);unfold st5 at S22;go_simp;refine goH RZ ⟨S22.facts 1 rfl,S22.facts 2 rfl⟩ fun RY=>?_;clear RZ Kx;refine cW ?_
       go_wp2
       go_meet
       case rel=>exact⟨_,l18,j18,ao19,c19,rfl,S22.less (fun p hp=>by rw[List.mem_singleton.1 hp];exact .head _),H18.out⟩
      refine cnH (fun Kx RZ=>?_) AllReadyH.nil;go_simp;have S21:=S18.cX zs5 z5q rfl _ rfl;refine goH RZ ⟨S21.facts 1 rfl,S21.facts 2 rfl⟩ fun RY=>?_;clear RZ Kx;generalize World.alloc _ (.cells z5q 24)=w21 at S21 RY ⊢;refine bA 3 fun Kx RZ=>?_;have S17:=S21.lit (aW.two (S21.tr (x,vT k1 n1 a1 s1 o1 m1 c1) (by first|exact .tail _ (.head _)|exact .tail _ (.tail _ (.head _)))) (S21.tr (y,vT k2 n2 a2 s2 o2 m2 c2) (by first|exact .head _|exact .tail _ (.head _)))) #[.int .i64 k1,.int .i64 n1,.int .i64 a1,.string s1,.slice o1 m1 c1,.int .i64 k2,.int .i64 n2,.int .i64 a2,.string s2,.slice o2 m2 c2] rfl 40 0 0 e0 2 2 rfl;go_simp;refine goH RZ ⟨S17.facts 1 rfl,S17.facts 2 rfl⟩ fun RY=>?_;clear RZ Kx;generalize World.alloc _ (.cells #[.int .i64 k1,.int .i64 n1,.int .i64 a1,.string s1,.slice o1 m1 c1,.int .i64 k2,.int .i64 n2,.int .i64 a2,.string s2,.slice o2 m2 c2] 24)=w17 at S17 RY ⊢;refine bA 7 fun Kx RZ=>?_;refine bV (by kernel_rfl) (.tmp 54) (.tmp 57) rfl S17 (by first|exact .head _|exact .tail _ (.head _)) (by first|exact .head _|exact .tail _ (.head _)) (by decide) (by have:=dY up H18.out;have:=S18.ps.le;omega) 15 0 a e0 (by decide) rfl rfl (fun ao19 c19 w19 S19=>?_);refine goH RZ ⟨S19.facts 1 rfl,S19.facts 2 rfl⟩ fun RY=>?_;clear RZ Kx;refine bA 8 fun Kx RZ=>?_;go_simp;refine m2q (S19.dI 15 a) fun w20 S20=>?_;refine goH RZ ⟨S20.facts 1 rfl,S20.facts 2 rfl⟩ fun RY=>?_;clear RZ Kx;refine bA 10 fun Kx RZ=>?_;have:=TV.facts (S20.facts 0 rfl);have S22:=S20.bN 0 rfl (.int .i64 15) (.int .i64 0) a (.string ⟨#[]⟩) (.slice ao19 (2+l18.length) c19);unfold st5 at S22;go_simp;refine goH RZ ⟨S22.facts 1 rfl,S22.facts 2 rfl⟩ fun RY=>?_;clear RZ Kx;refine cW ?_
      go_wp2
      go_meet
      case rel=>exact⟨_,l18,j18,ao19,c19,rfl,S22.less (fun p hp=>by rw[List.mem_singleton.1 hp];exact .head _),H18.out⟩
     refine cnH (fun Kx RZ=>?_) AllReadyH.nil;go_simp;have S21:=S16.cX zs5 z5q rfl _ rfl;refine goH RZ ⟨S21.facts 1 rfl,S21.facts 2 rfl⟩ fun RY=>?_;clear RZ Kx;generalize World.alloc _ (.cells z5q 24)=w21 at S21 RY ⊢;refine rdH [3,6] ?_;refine cnH (fun Kx RZ=>?_) ?_
     ·have S17:=S21.lit (aW.two (S21.tr (x,vT k1 n1 a1 s1 o1 m1 c1) (by first|exact .tail _ (.head _)|exact .tail _ (.tail _ (.head _)))) (S21.tr (y,vT k2 n2 a2 s2 o2 m2 c2) (by first|exact .head _|exact .tail _ (.head _)))) #[.int .i64 k1,.int .i64 n1,.int .i64 a1,.string s1,.slice o1 m1 c1,.int .i64 k2,.int .i64 n2,.int .i64 a2,.string s2,.slice o2 m2 c2] rfl 40 0 0 e0 2 2 rfl;go_simp;refine goH RZ ⟨S17.facts 1 rfl,S17.facts 2 rfl⟩ fun RY=>?_;clear RZ Kx;generalize World.alloc _ (.cells #[.int .i64 k1,.int .i64 n1,.int .i64 a1,.string s1,.slice o1 m1 c1,.int .i64 k2,.int .i64 n2,.int .i64 a2,.string s2,.slice o2 m2 c2] 24)=w17 at S17 RY ⊢;refine bA 6 fun Kx RZ=>?_;go_simp;refine(S17.pL (fR pb L lo stmt hS up lab j15 (by omega) _ S17.ps)).mono ?_;rintro e w18 (⟨x,hr,rfl,hg⟩|⟨l18,j18,o18,c18,hr,rfl,S18⟩)
      ·unfold pan;exact⟨rfl,aD.err x (by simp[HU.out,aB,rF,H15.out,hr]) hg⟩
      have H18:=hdq hr;clear hr;refine goH RZ ⟨S18.facts 1 rfl,S18.facts 2 rfl⟩ fun RY=>?_;clear RZ Kx;refine bA 7 fun Kx RZ=>?_;refine bV (by kernel_rfl) (.tmp 54) (.tmp 57) rfl S18 (by first|exact .head _|exact .tail _ (.head _)) (by first|exact .head _|exact .tail _ (.head _)) (by decide) (by have:=dY up H18.out;have:=S18.ps.le;omega) 15 0 a e0 (by decide) rfl rfl (fun ao19 c19 w19 S19=>?_);refine goH RZ ⟨S19.facts 1 rfl,S19.facts 2 rfl⟩ fun RY=>?_;clear RZ Kx;refine bA 8 fun Kx RZ=>?_;go_simp;refine m2q (S19.dI 15 a) fun w20 S20=>?_;refine goH RZ ⟨S20.facts 1 rfl,S20.facts 2 rfl⟩ fun RY=>?_;clear RZ Kx;refine bA 10 fun Kx RZ=>?_;have:=TV.facts (S20.facts 0 rfl);have S22:=S20.bN 0 rfl (.int .i64 15) (.int .i64 0) a (.string ⟨#[]⟩) (.slice ao19 (2+l18.length) c19);unfold st5 at S22;go_simp;refine goH RZ ⟨S22.facts 1 rfl,S22.facts 2 rfl⟩ fun RY=>?_;clear RZ Kx;refine cW ?_
      go_wp2
      go_meet
      case rel=>exact⟨_,l18,j18,ao19,c19,rfl,S22.less (fun p hp=>by rw[List.mem_singleton.1 hp];exact .head _),H18.out⟩
     refine cnH (fun Kx RZ=>?_) AllReadyH.nil;go_simp;refine(S21.pL (fR pb L lo stmt hS up lab j15 (by omega) _ S21.ps)).mono ?_;rintro e w18 (⟨x,hr,rfl,hg⟩|⟨l18,j18,o18,c18,hr,rfl,S18⟩)
     ·unfold pan;exact⟨rfl,aD.err x (by simp[HU.out,aB,rF,H15.out,hr]) hg⟩
     have H18:=hdq hr;clear hr;refine goH RZ ⟨S18.facts 1 rfl,S18.facts 2 rfl⟩ fun RY=>?_;clear RZ Kx;refine bA 3 fun Kx RZ=>?_;have S17:=S18.lit (aW.two (S18.tr (x,vT k1 n1 a1 s1 o1 m1 c1) (by first|exact .tail _ (.head _)|exact .tail _ (.tail _ (.head _)))) (S18.tr (y,vT k2 n2 a2 s2 o2 m2 c2) (by first|exact .head _|exact .tail _ (.head _)))) #[.int .i64 k1,.int .i64 n1,.int .i64 a1,.string s1,.slice o1 m1 c1,.int .i64 k2,.int .i64 n2,.int .i64 a2,.string s2,.slice o2 m2 c2] rfl 40 0 0 e0 2 2 rfl;go_simp;refine goH RZ ⟨S17.facts 1 rfl,S17.facts 2 rfl⟩ fun RY=>?_;clear RZ Kx;generalize World.alloc _ (.cells #[.int .i64 k1,.int .i64 n1,.int .i64 a1,.string s1,.slice o1 m1 c1,.int .i64 k2,.int .i64 n2,.int .i64 a2,.string s2,.slice o2 m2 c2] 24)=w17 at S17 RY ⊢;refine bA 7 fun Kx RZ=>?_;refine bV (by kernel_rfl) (.tmp 54) (.tmp 57) rfl S17 (by first|exact .head _|exact .tail _ (.head _)) (by first|exact .head _|exact .tail _ (.head _)) (by decide) (by have:=dY up H18.out;have:=S18.ps.le;omega) 15 0 a e0 (by decide) rfl rfl (fun ao19 c19 w19 S19=>?_);refine goH RZ ⟨S19.facts 1 rfl,S19.facts 2 rfl⟩ fun RY=>?_;clear RZ Kx;refine bA 8 fun Kx RZ=>?_;go_simp;refine m2q (S19.dI 15 a) fun w20 S20=>?_;refine goH RZ ⟨S20.facts 1 rfl,S20.facts 2 rfl⟩ fun RY=>?_;clear RZ Kx;refine bA 10 fun Kx RZ=>?_;have:=TV.facts (S20.facts 0 rfl);have S22:=S20.bN 0 rfl (.int .i64 15) (.int .i64 0) a (.string ⟨#[]⟩) (.slice ao19 (2+l18.length) c19);unfold st5 at S22;go_simp;refine goH RZ ⟨S22.facts 1 rfl,S22.facts 2 rfl⟩ fun RY=>?_;clear RZ Kx;refine cW ?_
     go_wp2
     go_meet
     case rel=>exact⟨_,l18,j18,ao19,c19,rfl,S22.less (fun p hp=>by rw[List.mem_singleton.1 hp];exact .head _),H18.out⟩
    case rest=>
     obtain⟨B10,g,j3,ao,c,rfl,S16,hq⟩:=hcut;have H16:=hdq hq;clear hq S15 S14;have:=TV.facts (S16.facts 0 rfl);have S17:=(S16.put 0 rfl 1 (.int .i64 n) (by simp)).Cc 15 n a e0;go_upto_region 20 with fail;generalize World.setCell wc ⟨B10,1,none⟩ _=w17 at S17 ⊢;have:=TV.facts (S17.facts 0 rfl);have:=TV.facts (S17.facts 3 rfl);go_wp2_with fail;have S18:=S17.bN 3 rfl (.int .i64 15) n a (.string ⟨#[]⟩) (.slice ao (2+g.length) c);refine rtv (S18.facts 3 rfl) Tryz.results179 ?_;exact S18.res (.head _) (by simp[HU.out,aB,rF,H15.out,H16.out]<;>rfl) rfl
end
end Go.Proofs.YtfdlmcgcckkkdaaGreatDoor
