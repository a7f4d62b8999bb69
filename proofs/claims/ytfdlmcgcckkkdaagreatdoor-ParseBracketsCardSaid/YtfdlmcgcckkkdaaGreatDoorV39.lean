/- ParseWhole, part 39: what it stands on. -/
import Derived.Test.YtfdlmcgcckkkdaaGreatDoorV38
import Derived.Test.YtfdlmcgcckkkdaaGreatDoorV33
set_option linter.all false
set_option maxHeartbeats 40000000
set_option maxRecDepth 100000
namespace Go.Proofs.YtfdlmcgcckkkdaaGreatDoor
section
open Go.RowKit Lx Px
theorem Mw: ∀ args w,(callFunc 228 args).run Tryz.prog w=.ok (.enter 228 args) w:=
 enters_of Tryz.func228 (by decide) rfl
theorem Ow: ∀ args w,(callFunc 240 args).run Tryz.prog w=.ok (.enter 240 args) w:=
 enters_of Tryz.func240 (by decide) rfl
def iS(L:List Tk)(i:Nat)(n:Int)(what bounds:T)(j2:Nat):R T:=aB (lG L 12 j2) fun xs j3=>.ok (.mk 48 n i e0 (what::bounds::xs),j3)
def xZ(L:List Tk)(i:Nat)(n:Int)(what:T)(j1:Nat):R T:=
 aB (if sgn L j1 [sLP]then aB (eD L 3 (qV L) (j1+1)) fun l j'=>aB (aM L j' sRP) fun _ j2=>.ok (gC l,j2)else .ok (node 40 0 [],j1)) fun bounds j2=>iS L i n what bounds j2
def vU(L:List Tk)(rd:Nat→R T)(i:Nat)(n:Int)(j:Nat):R T:=
 aB (if sgn L j [sLP]then aB (eD L 30 rd (j+1)) fun l j'=>aB (aM L j' sRP) fun _ j2=>.ok (gC l,j2)else iX L j) fun what j1=>xZ L i n what j1
theorem Ln(L:List Tk)(f i:Nat):mI L (f+1) i=aB (if (tok L i).kind=2 then aB (fA L 1 99 i) fun n j=>.ok ((n:Int),j)else .ok (0,i)) fun n j=>vU L (mI L f) i n j:=by
 conv=>lhs;unfold mI
 rfl
theorem gD{L:List Tk}:∀ (n:Nat) (acc:List T) (j:Nat) (l:List T) (j':Nat),fD L n acc j=.ok (l,j')→l.length≤acc.length+n:=by
 intro n
 induction n with
 | zero=>intro acc j l j' h;unfold fD at h;cases h;simp
 | succ n ih=>
  intro acc j l j' h;rw[nK]at h
  split at h
  ·cases hr:bT L j with
   | error a=>rw[hr]at h;cases h
   | ok xj=>
    obtain⟨x,j1⟩:=xj;rw[hr]at h;have:=ih _ _ _ _ h;rw[List.length_append]at this
    simp at this;omega
  ·cases h;simp
theorem JT(pb:Nat)(L:List T3)(hX:iC L)(lo f:Nat)(ih:Reads 228 pb L (lo+1) (mI (lk L) f)):Reads 228 pb L lo (mI (lk L) (f+1)):=by
 intro i w hi h;have HU:=hdq (Ln (lk L) f i);have hbd:=h.bd;have hf0:=pG;go_enter Tryz.func228,Tryz.ntmps228;go_upto_region 1 with fail;have S1:=SV.new h;generalize World.alloc w _=w1 at S1 ⊢;obtain⟨c1,_⟩:=S1.ps.cells;have S2:=S1.leaf 48 0 i e0;go_upto_region 2 with (go_at_call 97;refine(S2.dI 48 i).mono ?_;rintro e w2 ⟨rfl,S3⟩);clear c1;have S4:=S3.yV (tg 48 0 i ⟨#[]⟩ none 0 0);generalize World.alloc w2 _=w4 at S4 ⊢;generalize w2.heap.size=B4 at S4 ⊢;have S5:=S4.less (ts':=[]) (fun _ h=>by cases h);clear S1 S2 S3 S4;have hT:=aX pb L i 0 (by decide) w4 S5.ps;generalize hkk:(tok (lk L) i).kind=tk;rw[show (tok (L.map T3.tk) (i+0)).kind=tk from hkk]at hT;have HK:=hdq hkk;clear hkk;go_upto_if 14 with (go_at_call 125;refine(S5.aQ (E:=fun e=>∃ p:Int,e=_) hT).mono ?_;rintro e w5 ⟨⟨p,rfl⟩,S6⟩);clear hT S5;go_cut [] (fun wx=>∃ (n:Int) (j:Nat),SV pb L w wx j [(B4,tg 48 n i ⟨#[]⟩ none 0 0),(w.heap.size,zs5)] []∧i≤j∧mI (lk L) (f+1) i=vU (lk L) (mI (lk L) f) i n j)
 case first=>
  by_cases hk:tk=2
  ·subst hk;have HK2:=hdq (show (tok (lk L) i).kind=2 from HK.out);go_upto_block 3 with fail;refine(S6.jO hX 1 99).mono ?_;rintro e w7 (⟨x,hr,rfl,hg⟩|⟨n7,j7,hr,rfl,S7⟩)
   ·unfold pan;go_wp2_with fail;exact⟨rfl,aD.err x (by simp[HU.out,aB,HK2.out,hr]) hg⟩
   have H7:=hdq hr;clear hr;have hj7:=iI (lk L) 1 99 i _ _ H7.out;have:=TV.facts (S7.facts 0 rfl)
   go_wp2
   go_meet
   case rel=>exact⟨n7,j7,S7.put 0 rfl 1 (.int .i64 n7) (by simp),by omega,by simp[HU.out,aB,HK2.out,H7.out]⟩
  ·have hd:decide (tk=2)=false:=decide_eq_false hk;have HK2:=hdq (show ¬ (tok (lk L) i).kind=2 by rw[HK.out];exact hk)
   go_wp2
   go_meet
   case rel=>exact⟨0,i,S6,Nat.le_refl _,by rw[HU.out,if_neg HK2.out];rfl⟩
 case rest=>
  clear S6;obtain⟨n,j,S7,hij,hq⟩:=hcut;have HU:=hdq hq;clear hq HK;have S8:=S7.leaf 40 0 0 e0;go_upto_region 5 with (go_at_call 97;refine(S8.dI 40 0).mono ?_;rintro e w8 ⟨rfl,S9⟩);have S10:=(S9.less (ts':=[]) (fun _ h=>by cases h)).cX zs5 z5q rfl _ rfl;have S11:=S10.cX (tg 40 0 0 ⟨#[]⟩ none 0 0) (tg 40 0 0 ⟨#[]⟩ none 0 0) rfl (w8.heap.size+1) (by simp);generalize World.alloc (World.alloc w8 _) _=w11 at S11 ⊢;generalize w8.heap.size+1=B11 at S11 ⊢;generalize w8.heap.size=B10 at S11 ⊢;clear S7 S8 S9 S10;have hC:=S11.TN sLP _ rfl;go_upto_if 21 with (go_at_call 135;refine hC.mono ?_;rintro e w12 ⟨rfl,S12⟩);clear hC S11;go_cut [] (fun wx=>∃ (x:T) (j1:Nat) (k1 n1 a1:Int) (s1:ByteArray) (o1:Option Addr) (m1 c1:Nat),SV pb L w wx j1 [(B11,tg 40 0 0 ⟨#[]⟩ none 0 0),(B10,tg k1 n1 a1 s1 o1 m1 c1),(B4,tg 48 n i ⟨#[]⟩ none 0 0),(w.heap.size,zs5)] [(x,vT k1 n1 a1 s1 o1 m1 c1)]∧mI (lk L) (f+1) i=xZ (lk L) i n x j1)
  case first=>
   cases hs:sgn (lk L) j [sLP] with
   | true=>
    rw[hs]at S12;replace S12:SV pb L w w12 (j+1) _ _:=S12;have HS:=hdq hs;clear hs;have hM:=eI _ Mw pb L (lo+1) (mI (lk L) f) ih (EA (lk L) f) 30 (by decide) (by decide) (j+1) (by omega) w12 S12.ps;go_upto_block 6 with fail;refine(S12.pL hM).mono ?_;rintro e w13 (⟨x,hr,rfl,hg⟩|⟨l13,j13,o13,c13,hr,rfl,S13⟩)
    ·unfold pan;go_wp2_with fail;exact⟨rfl,aD.err x (by simp[HU.out,aB,vU,HS.out,hr]) hg⟩
    have H13:=hdq hr;clear hr;go_upto_block 6 with fail;refine(S13.vO (Nat.le_trans (eW (by decide) H13.out) (by decide))).mono ?_;rintro e w14 ⟨a14,hl14,rfl,S14⟩;have:=TV.facts (S14.facts 1 rfl);have S15:=S14.bN 1 rfl (.int .i64 40) (.int .i64 0) a14 (.string ⟨#[]⟩) (.slice o13 l13.length c13);unfold st5 at S15;go_upto_region 7 with fail;generalize World.setCell _ ⟨B10,4,none⟩ _=w15 at S15 ⊢;go_upto_block 7 with fail;refine(S15.dR sRP).mono ?_;rintro e w16 (⟨x,hr,rfl,hg⟩|⟨j16,hr,rfl,S16⟩)
    ·unfold pan;go_wp2_with fail;exact⟨rfl,aD.err x (by simp[HU.out,aB,vU,HS.out,H13.out,hr]) hg⟩
    have H16:=hdq hr;clear hr
    go_wp2
    go_meet
    case rel=>exact⟨gC l13,j16,_,_,_,_,_,_,_,S16,by simp[HU.out,aB,vU,HS.out,H13.out,H16.out]⟩
   | false=>
    rw[hs]at S12;replace S12:SV pb L w w12 j _ _:=S12;have HS:=hdq hs;clear hs;go_upto_block 8 with fail;refine(S12.aN (qQ pb L j w12 S12.ps)).mono ?_;rintro e w13 (⟨x,hr,rfl,hg⟩|⟨t13,j13,k13,n13,a13,s13,o13,m13,c13,hr,rfl,S13⟩)
    ·unfold pan;go_wp2_with fail;exact⟨rfl,aD.err x (by simp[HU.out,aB,vU,HS.out,hr]) hg⟩
    have H13:=hdq hr;clear hr;have:=TV.facts (S13.facts 1 rfl)
    go_wp2
    go_meet
    case rel=>exact⟨t13,j13,_,_,_,_,_,_,_,S13.bN 1 rfl k13 n13 a13 s13 (.slice o13 m13 c13),by simp[HU.out,aB,vU,HS.out,H13.out]⟩
  case rest=>
   clear S12;obtain⟨x,j1,k1,n1,a1,s1,o1,m1,c1,S12,hq⟩:=hcut;have HU:=hdq hq;clear hq;have hC:=S12.TN sLP _ rfl;go_upto_if 32 with (go_at_call 135;refine hC.mono ?_;rintro e w13 ⟨rfl,S13⟩);clear hC S12;go_cut [] (fun wx=>∃ (y:T) (j2:Nat) (k2 n2 a2:Int) (s2:ByteArray) (o2:Option Addr) (m2 c2:Nat),SV pb L w wx j2 [(B11,tg k2 n2 a2 s2 o2 m2 c2),(B10,tg k1 n1 a1 s1 o1 m1 c1),(B4,tg 48 n i ⟨#[]⟩ none 0 0),(w.heap.size,zs5)] [(y,vT k2 n2 a2 s2 o2 m2 c2),(x,vT k1 n1 a1 s1 o1 m1 c1)]∧mI (lk L) (f+1) i=iS (lk L) i n x y j2)
   case first=>
    cases hs:sgn (lk L) j1 [sLP] with
    | true=>
     rw[hs]at S13;replace S13:SV pb L w w13 (j1+1) _ _:=S13;have HS:=hdq hs;clear hs;have hM:=eI _ Ow pb L 0 (qV (lk L)) (fun i w _ h=>Jq pb L i w h) (Bg (lk L)) 3 (by decide) (by decide) (j1+1) (Nat.zero_le _) w13 S13.ps;go_upto_block 10 with fail;refine(S13.pL hM).mono ?_;rintro e w14 (⟨x,hr,rfl,hg⟩|⟨l14,j14,o14,c14,hr,rfl,S14⟩)
     ·unfold pan;go_wp2_with fail;exact⟨rfl,aD.err x (by simp[HU.out,aB,xZ,HS.out,hr]) hg⟩
     have H14:=hdq hr;clear hr;go_upto_block 10 with fail;refine(S14.vO (Nat.le_trans (eW (by decide) H14.out) (by decide))).mono ?_;rintro e w15 ⟨a15,hl15,rfl,S15⟩;have:=TV.facts (S15.facts 0 rfl);have S16:=S15.bN 0 rfl (.int .i64 40) (.int .i64 0) a15 (.string ⟨#[]⟩) (.slice o14 l14.length c14);unfold st5 at S16;go_upto_region 11 with fail;generalize World.setCell _ ⟨B11,4,none⟩ _=w16 at S16 ⊢;go_upto_block 11 with fail;refine(S16.dR sRP).mono ?_;rintro e w17 (⟨x,hr,rfl,hg⟩|⟨j17,hr,rfl,S17⟩)
     ·unfold pan;go_wp2_with fail;exact⟨rfl,aD.err x (by simp[HU.out,aB,xZ,HS.out,H14.out,hr]) hg⟩
     have H17:=hdq hr;clear hr
     go_wp2
     go_meet
     case rel=>exact⟨gC l14,j17,_,_,_,_,_,_,_,S17,by simp[HU.out,aB,xZ,HS.out,H14.out,H17.out]⟩
    | false=>
     rw[hs]at S13;replace S13:SV pb L w w13 j1 _ _:=S13;have HS:=hdq hs;clear hs
     go_wp2
     go_meet
     case rel=>exact⟨node 40 0 [],j1,_,_,_,_,_,_,_,S13.leaf 40 0 0 e0,by simp[HU.out,aB,xZ,HS.out]⟩
   case rest=>
    clear S13;obtain⟨y,j2,k2,n2,a2,s2,o2,m2,c2,S13,hq⟩:=hcut;have HU:=hdq hq;clear hq;go_upto_region 12 with fail;refine wp_region_any (by kernel_rfl) ?_;change wpAny _ _ _ _ _ _ _ (World.drew _);have Sq:=S13.drew;generalize World.drew wc=w14 at Sq ⊢;have:=TV.facts (Sq.facts 0 rfl);have:=TV.facts (Sq.facts 1 rfl)
    repeat' first
     | ((with_reducible refine isA ?_)
        first
          | (refine Uo ?_
             have S19 := Sq.put 2 rfl 4 (.slice ao18 (2 + l17.length) c18) (by simp)
             generalize World.setCell _ ⟨B4, 4, none⟩ _ = w19 at S19 ⊢
             have := TV.facts (S19.facts 2 rfl)
             have := TV.facts (S19.facts 3 rfl)
             go_wp2_with fail
             have S20 := S19.bN 3 rfl (.int .i64 48) n i (.string ⟨#[]⟩) (.slice ao18 (2 + l17.length) c18)
             refine rtv (S20.facts 3 rfl) Tryz.results228 ?_
             exact S20.res (.head _) (by simp [HU.out, aB, iS, H17.out] <;> rfl) rfl)
          | refine Uu 3 ?_
          | refine Uu 6 ?_
          | refine SN [0, 1, 4] ?_
          | refine SN [1, 4] ?_
          | refine SN [2, 4] ?_
          | refine SN [4] ?_
          | refine SN [5] ?_
          | refine SN [7] ?_
          | refine SN [2] ?_
          | refine SN [1] ?_
          | refine SN [0, 4] ?_
          | refine SN [0] ?_
          | refine SN [0, 1] ?_)
     | ((with_reducible refine arA ?_);first|exact AllReady.nil|refine cnA (fun Kx RZ=>?_) ?_)
     | (refine bV (by kernel_rfl) (.tmp 42) (.tmp 44) rfl Sq (by first | exact .head _ | exact .tail _ (.head _)) (by first | exact .head _ | exact .tail _ (.head _)) (by decide) (Nat.le_trans (gD _ _ _ _ _ H17.out) (by decide)) 48 n i e0 (by decide) rfl rfl (fun ao18 c18 w18 Sq => ?_)
        have := TV.facts (Sq.facts 2 rfl)
        refine goA RZ Sq ?_
        clear RZ Kx)
     | (go_simp
        first
          | (have Sq := Sq.lit (aW.two (Sq.tr (x, vT k1 n1 a1 s1 o1 m1 c1) (by first | exact .tail _ (.head _) | exact .tail _ (.tail _ (.head _)))) (Sq.tr (y, vT k2 n2 a2 s2 o2 m2 c2) (by first | exact .head _ | exact .tail _ (.head _)))) #[.int .i64 k1, .int .i64 n1, .int .i64 a1, .string s1, .slice o1 m1 c1, .int .i64 k2, .int .i64 n2, .int .i64 a2, .string s2, .slice o2 m2 c2] rfl 40 0 0 e0 2 2 rfl
             refine goA RZ Sq ?_
             clear RZ Kx)
          | (go_at_call 216
             refine (Sq.pL (dP pb L hX 12 (by decide) j2 _ Sq.ps)).mono ?_
             rintro e w17 (⟨x, hr, rfl, hg⟩ | ⟨l17, j17, o17, c17, hr, rfl, Sq⟩)
             · unfold pan
               exact ⟨rfl, aD.err x (by simp [HU.out, aB, iS, hr]) hg⟩
             have H17 := hdq hr
             clear hr
             have := TV.facts (Sq.facts 0 rfl)
             have := TV.facts (Sq.facts 1 rfl)
             refine goA RZ Sq ?_
             clear RZ Kx)
          | (refine goA RZ Sq ?_
             clear RZ Kx)
          | (refine RZ _ _ ?_
             clear RZ Kx))
end
end Go.Proofs.YtfdlmcgcckkkdaaGreatDoor
