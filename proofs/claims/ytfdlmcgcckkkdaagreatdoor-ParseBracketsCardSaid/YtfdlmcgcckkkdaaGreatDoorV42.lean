/- ParseWhole, part 42: what it stands on. -/
import Derived.Test.YtfdlmcgcckkkdaaGreatDoorV41
set_option linter.all false
set_option maxHeartbeats 40000000
set_option maxRecDepth 100000
namespace Go.Proofs.YtfdlmcgcckkkdaaGreatDoor
section
open Go.RowKit Lx Px
def OE(pb:Nat)(L:List T3)(lo f:Nat):Prop:=∀ (inr:Bool) (label:ByteArray) (i:Nat) (w:World),lo≤i→PS w pb L i→
 Calls Tryz.prog 126 #[pq pb,.bool inr,label] w (aD pb L w (qK (lk L) f inr label i))
theorem tY(L:List Tk)(lab:Bool→ByteArray→Nat→R T)(inr:Bool)(i:Nat):cH L lab inr i =
 if sgn L i [sLP]then aB (eD L 4 (iX L) (i+1)) fun l j=>aB (aM L j sRP) fun _ j1=>aB (aM L j1 bY) fun _ j2=>aB (lab inr e0 j2) fun x j3=>.ok (node 13 i (l++[x]),j3)
 else lab inr e0 i:=rfl
theorem tL(pb:Nat)(L:List T3)(lo f:Nat)(hL:OE pb L lo f)(inr:Bool)(i:Nat)(w:World)(hi:lo≤i)(h:PS w pb L i):Calls Tryz.prog 84 #[pq pb,.bool inr] w (aD pb L w (cH (lk L) (qK (lk L) f) inr i)):=by
 have hbd:=h.bd;have hnot:∀ (x:Bool) (w:World),(Op.unary .not (.bool x)).run Tryz.prog w=.ok (.bool (!x)) w:=fun _ _=>rfl
 cases hs:sgn (lk L) i [sLP] with
 | false=>
  have HU:=hdq (show cH (lk L) (qK (lk L) f) inr i=qK (lk L) f inr e0 i by rw[tY,if_neg (by rw[hs];decide)]);go_enter Tryz.func84,Tryz.ntmps84;go_upto_region 1 with fail;have S1:=SV.new h;generalize World.alloc w _=w1 at S1 ⊢;have hC:=S1.dT 0 (by decide) [sLP] (by simp) #[.string ⟨#[40]⟩] rfl 1 rfl false hs;clear hs;go_upto_region 2 with (go_at_call 124;refine hC.mono ?_;rintro e w2 ⟨rfl,S2⟩);go_upto_block 2 with fail;refine(S2.aN (hL inr e0 i w2 hi S2.ps)).mono ?_;rintro e w3 (⟨x,hr,rfl,hg⟩|⟨t3,j3,k3,n3,a3,s3,o3,m3,c3,hr,rfl,S3⟩)
  ·unfold pan;go_wp2_with fail;exact⟨rfl,aD.err x (by simp[HU.out,aB,hr]) hg⟩
  have H3:=hdq hr;clear hr;have:=TV.facts (S3.facts 0 rfl);go_wp2_with fail;have S4:=S3.bN 0 rfl k3 n3 a3 s3 (.slice o3 m3 c3);refine rtv (S4.facts 0 rfl) Tryz.results84 ?_;exact S4.res (.head _) (by simp[HU.out,aB,H3.out]<;>rfl) rfl
 | true=>
  have HU:=hdq (show cH (lk L) (qK (lk L) f) inr i=aB (eD (lk L) 4 (iX (lk L)) (i+1)) fun l j=>aB (aM (lk L) j sRP) fun _ j1=>aB (aM (lk L) j1 bY) fun _ j2=>aB (qK (lk L) f inr e0 j2) fun x j3=>.ok (node 13 i (l++[x]),j3)by rw[tY,if_pos hs]);have hjl:=kR hs;go_enter Tryz.func84,Tryz.ntmps84;go_upto_region 1 with fail;have S1:=SV.new h;generalize World.alloc w _=w1 at S1 ⊢;have hC:=S1.dT 0 (by decide) [sLP] (by simp) #[.string ⟨#[40]⟩] rfl 1 rfl true hs;clear hs;go_upto_region 3 with (go_at_call 124;refine hC.mono ?_;rintro e w2 ⟨rfl,S2⟩);obtain⟨c1,f1⟩:=S2.ps.cells;go_upto_region 5 with fail;have T2:=S2.go (i+1) (by omega) (.int .i64 ((i:Int)+1)) rfl;generalize World.setCell w2 _ _=w5 at T2 ⊢;clear c1 f1;have hw5:w.heap.size<w5.heap.size:=T2.Jx (.head _);have hpl:pb<w5.heap.size:=by have:=h.lt;omega
  go_upto_block 5 with fail;refine(eI _ Ip pb L 0 (iX (lk L)) (fun i w _ h=>qQ pb L i w h) (fM (lk L)) 4 (by decide) (by decide) (i+1) (Nat.zero_le _) w5 T2.ps).mono ?_;intro e w7 hp
  rcases hp.split with ⟨l7,j7,o7,c7,hr,rfl,hL7,hok7⟩|⟨y,hr,rfl,hg⟩
  rotate_left
  ·unfold pan;go_wp2_with fail;exact⟨rfl,aD.err y (by simp[aB,HU.out,hr]) (T2.ok.1.trans hg)⟩
  have H7:=hdq hr;clear hr hp;have h7:=dB (lk L) (fM (lk L)) 4 _ _ _ H7.out;have T7:=T2.step hok7;have U7:=SV.begin hok7.2;go_upto_block 6 with fail;refine(U7.dR sRP).mono ?_;rintro e w8 (⟨y,hr,rfl,hg⟩|⟨j8,hr,rfl,U8⟩)
  ·unfold pan;go_wp2_with fail;exact⟨rfl,aD.err y (by simp[aB,HU.out,H7.out,hr]) (T7.ok.1.trans hg)⟩
  have H8:=hdq hr;clear hr;have h8:=aK (lk L) _ sRP _ _ H8.out;go_upto_block 7 with fail;refine(U8.dR bY).mono ?_;rintro e w9 (⟨y,hr,rfl,hg⟩|⟨j9,hr,rfl,U9⟩)
  ·unfold pan;go_wp2_with fail;exact⟨rfl,aD.err y (by simp[aB,HU.out,H7.out,H8.out,hr]) (T7.ok.1.trans hg)⟩
  have H9:=hdq hr;clear hr;have h9:=aK (lk L) _ bY _ _ H9.out;go_upto_block 8 with fail;refine(U9.aN (hL inr e0 j9 w9 (by omega) U9.ps)).mono ?_;rintro e w10 (⟨y,hr,rfl,hg⟩|⟨t10,j10,k10,n10,a10,s10,o10,m10,c10,hr,rfl,U10⟩)
  ·unfold pan;go_wp2_with fail;exact⟨rfl,aD.err y (by simp[aB,HU.out,H7.out,H8.out,H9.out,hr]) (T7.ok.1.trans hg)⟩
  have H10:=hdq hr;clear hr;have hL10:=hL7.step hpl U10.ok.1;have ht10:=TrC.beside hL7 hok7.1.size (U10.fr (.head _));have hok10:=hok7.trans U10.ok;have HQ3:=hdq (show cH (lk L) (qK (lk L) f) inr i=.ok (node 13 i (l7++[t10]),j10)by simp[aB,HU.out,H7.out,H8.out,H9.out,H10.out]);go_upto_block 8 with (at_builtin;go_loud (refine fL rfl _ _ rfl w5 w10 (.slice o7 l7.length c7) l7 rfl hL10 t10 (vT k10 n10 a10 s10 o10 m10 c10) ht10 rfl ?dd1 ?dd2 ?_))
  case dd1=>exact hok10.1.size
  case dd2=>exact Nat.le_trans (eW (by decide) H7.out) (by decide)
  intro v11 w11 hL11 hb11;have hok11:=hok10.new hpl hb11;obtain⟨bo11,cap11,rfl⟩:=hL11.form;rw[show (l7++[t10]).length=l7.length+1 by simp]at hL11;have T11:=((T2.step hok11).less (ts':=[]) (fun _ h=>by cases h)).QB hL11 (Nat.le_of_lt hw5) (AS hw5) 13 0 i e0;clear hL10 ht10 hok10 T7 U7 U8 U9 U10;go_upto_block 8 with fail;refine(T11.dI 13 i).mono ?_;rintro e w12 ⟨rfl,T12⟩;have:=TV.facts (T12.facts 0 rfl);go_wp2_with fail;have T13:=T12.bN 0 rfl (.int .i64 13) (.int .i64 0) i (.string ⟨#[]⟩) (.slice bo11 (l7.length+1) cap11);refine rtv (T13.facts 0 rfl) Tryz.results84 ?_;exact T13.res (.head _) HQ3.out rfl
theorem rZ(pb:Nat)(L:List T3)(lo f:Nat)(hL:OE pb L lo f):Reads 53 pb L lo (cH (lk L) (qK (lk L) f) false):=by
 intro i w hi h;have HU:=hdq (show cH (lk L) (qK (lk L) f) false i=cH (lk L) (qK (lk L) f) false i from rfl);go_enter Tryz.func53,Tryz.ntmps53;go_upto_region 1 with fail;have S1:=SV.new h;generalize World.alloc w _=w1 at S1 ⊢;go_upto_block 1 with fail;refine(S1.aN (tL pb L lo f hL false i w1 hi S1.ps)).mono ?_;rintro e w3 (⟨x,hr,rfl,hg⟩|⟨t3,j3,k3,n3,a3,s3,o3,m3,c3,hr,rfl,S3⟩)
 ·unfold pan;go_wp2_with fail;exact⟨rfl,aD.err x (by simp[HU.out,aB,hr]) hg⟩
 have H3:=hdq hr;clear hr;have:=TV.facts (S3.facts 0 rfl);go_wp2_with fail;have S4:=S3.bN 0 rfl k3 n3 a3 s3 (.slice o3 m3 c3);refine rtv (S4.facts 0 rfl) Tryz.results53 ?_;exact S4.res (.head _) H3.out rfl
theorem Ho(pb:Nat)(L:List T3)(lo f:Nat)(hL:OE pb L lo f):Reads 220 pb L lo (cH (lk L) (qK (lk L) f) true):=by
 intro i w hi h;have HU:=hdq (show cH (lk L) (qK (lk L) f) true i=cH (lk L) (qK (lk L) f) true i from rfl);go_enter Tryz.func220,Tryz.ntmps220;go_upto_region 1 with fail;have S1:=SV.new h;generalize World.alloc w _=w1 at S1 ⊢;go_upto_block 1 with fail;refine(S1.aN (tL pb L lo f hL true i w1 hi S1.ps)).mono ?_;rintro e w3 (⟨x,hr,rfl,hg⟩|⟨t3,j3,k3,n3,a3,s3,o3,m3,c3,hr,rfl,S3⟩)
 ·unfold pan;go_wp2_with fail;exact⟨rfl,aD.err x (by simp[HU.out,aB,hr]) hg⟩
 have H3:=hdq hr;clear hr;have:=TV.facts (S3.facts 0 rfl);go_wp2_with fail;have S4:=S3.bN 0 rfl k3 n3 a3 s3 (.slice o3 m3 c3);refine rtv (S4.facts 0 rfl) Tryz.results220 ?_;exact S4.res (.head _) H3.out rfl
theorem Ft(L:List Tk)(f:Nat)(inr:Bool)(label:ByteArray)(i:Nat)(h:(dU L i||!labelled L i)=true):qK L (f+1) inr label i=iT L (cH L (qK L f) false) (cH L (qK L f) true) inr label i:=by
 conv=>lhs;unfold qK
 rw[if_pos h]
theorem Mk(L:List Tk)(f:Nat)(inr:Bool)(label:ByteArray)(i:Nat)(h:(dU L i||!labelled L i)=false):qK L (f+1) inr label i=aB (qK L f inr (tok L i).text (i+2)) fun x j=>.ok (.mk 14 0 i (tok L i).text [x],j):=by
 conv=>lhs;unfold qK
 rw[if_neg (by rw[h];decide)]
theorem Ku(pb:Nat)(L:List T3)(hX:iC L)(lo f:Nat)(ih:OE pb L (lo+1) f):OE pb L lo (f+1):=by
 intro inr label i w hi h;have hbd:=h.bd;have hnot:∀ (x:Bool) (w:World),(Op.unary .not (.bool x)).run Tryz.prog w=.ok (.bool (!x)) w:=fun _ _=>rfl
 generalize hc:(dU (lk L) i||!labelled (lk L) i)=c;have HC:=hdq hc;clear hc;go_enter Tryz.func126,Tryz.ntmps126;go_upto_region 1 with fail;have S2:=SV.new h;generalize World.alloc w _=w2 at S2 ⊢;go_cut [15] (fun v15 wx=>v15=.bool c∧SV pb L w wx i [(w.heap.size,zs5)] [])
 case first=>
  have hA:=mP pb L i w2 S2.ps
  cases ha:dU (lk L) i with
  | true=>
   rw[ha]at hA;have hcc:=HC.out;rw[ha]at hcc;simp only[Bool.true_or]at hcc
   subst hcc;clear ha;go_wp2_with (go_at_call 147;refine(S2.aQ (E:=fun e=>e=_) hA).mono ?_;rintro e w3 ⟨rfl,S3⟩);go_meet
   case rel=>exact⟨rfl,S3⟩
  | false=>
   rw[ha]at hA;have hcc:=HC.out;rw[ha]at hcc;simp only[Bool.false_or]at hcc
   subst hcc;clear ha;go_wp2_with (first|(go_at_call 147;refine(S2.aQ (E:=fun e=>e=_) hA).mono ?_;rintro e w3 ⟨rfl,S3⟩)|(go_at_call 148;refine(S3.aQ (E:=fun e=>e=_) (tU pb L i w3 S3.ps)).mono ?_;rintro e w4 ⟨rfl,S4⟩));go_meet
   case rel=>exact⟨rfl,S4⟩
 case rest=>
  obtain⟨rfl,S3⟩:=hcut;clear S2
  cases c with
  | true=>
   have HU:=hdq (Ft (lk L) f inr label i HC.out);go_upto_block 2 with fail;refine(S3.aN (Hi pb L hX (lo+1) _ _ (rZ pb L (lo+1) f ih) (Ho pb L (lo+1) f ih) (iR (lk L) (DT (lk L) f) false) (iR (lk L) (DT (lk L) f) true) inr label i (by omega) wc S3.ps)).mono ?_;rintro e w4 (⟨x,hr,rfl,hg⟩|⟨t4,j4,k4,n4,a4,s4,o4,m4,c4,hr,rfl,S4⟩)
   ·unfold pan;go_wp2_with fail;exact⟨rfl,aD.err x (by simp[HU.out,aB,hr]) hg⟩
   have H4:=hdq hr;clear hr;have:=TV.facts (S4.facts 0 rfl);go_wp2_with fail;have S5:=S4.bN 0 rfl k4 n4 a4 s4 (.slice o4 m4 c4);refine rtv (S5.facts 0 rfl) Tryz.results126 ?_;exact S5.res (.head _) (by simp[HU.out,aB,H4.out]<;>rfl) rfl
  | false=>
   have hl:labelled (lk L) i=true:=by
    have:=HC.out;simp only[Bool.or_eq_false_iff,Bool.not_eq_false']at this
    exact this.2
   have hn:fN (lk L) i=.ok ((tok (lk L) i).text,i+1):=by
    unfold labelled at hl;simp only[Bool.and_eq_true]at hl
    unfold fN;rw[if_pos hl.1]
   have hlt:i+1<L.length:=by
    unfold labelled at hl;simp only[Bool.and_eq_true]at hl
    exact kR hl.2
   have HU:=hdq (Mk (lk L) f inr label i HC.out);have HN:=hdq hn;clear hl hn;generalize (tok (lk L) i).text=tx at HU HN;obtain⟨c1,_⟩:=S3.ps.cells;go_upto_region 4 with fail;clear c1;go_upto_block 4 with fail;refine(S3.pB (fT pb L i wc S3.ps)).mono ?_;rintro e w4 (⟨x,hr,rfl,hg⟩|⟨s2,j2,hr,rfl,S4⟩)
   ·rw[HN.out]at hr;cases hr
   obtain⟨rfl,rfl⟩:tx=s2∧i+1=j2:=by rw[HN.out]at hr;cases hr;exact⟨rfl,rfl⟩
   clear hr S3;obtain⟨c1,f1⟩:=S4.ps.cells;go_upto_region 6 with fail;have S5:=S4.go (i+2) (by omega) (.int .i64 ((i:Int)+1+1)) (by congr 1);replace S5:SV pb L w (w4.setCell ⟨pb,1,none⟩ (.int .i64 ((i:Int)+1+1))) (i+2) _ _:=S5;generalize World.setCell w4 _ _=w5 at S5 ⊢;clear c1 f1;go_upto_block 6 with fail;refine(S5.aN (ih inr tx (i+2) w5 (by omega) S5.ps)).mono ?_;rintro e w6 (⟨x,hr,rfl,hg⟩|⟨t6,j6,k6,n6,a6,s6,o6,m6,c6,hr,rfl,S6⟩)
   ·unfold pan;go_wp2_with fail;exact⟨rfl,aD.err x (by simp[HU.out,aB,hr]) hg⟩
   have H6:=hdq hr;clear hr;have S7:=S6.lit (aW.one (S6.tr _ (.head _))) (tg k6 n6 a6 s6 o6 m6 c6) rfl 14 0 i tx 1 1 rfl;have:=TV.facts (S7.facts 0 rfl);go_wp2_with fail;have S8:=S7.bN 0 rfl (.int .i64 14) (.int .i64 0) i tx (.slice (some ⟨w6.heap.size,0,none⟩) 1 1);refine rtv (S8.facts 0 rfl) Tryz.results126 ?_;exact S8.res (.head _) (by simp[HU.out,aB,H6.out]<;>rfl) rfl
theorem NK(pb:Nat)(L:List T3)(hX:iC L):∀ f lo,L.length+1≤f+lo→OE pb L lo f:=by
 intro f
 induction f with
 | zero=>intro lo hlo inr label i w hi h;exact absurd h.le (by omega)
 | succ f ih=>intro lo hlo;exact Ku pb L hX lo f (ih (lo+1) (by omega))
theorem uO(pb:Nat)(L:List T3)(hX:iC L):Reads 53 pb L 0 (qJ (lk L)):=
 rZ pb L 0 ((lk L).length+1) (NK pb L hX _ 0 (by rw[List.length_map];omega))
theorem DA(pb:Nat)(L:List T3)(hX:iC L):Reads 59 pb L 0 (gH (lk L)):=by
 intro i w hi h;have hbd:=h.bd
 have HU := hdq (show gH (lk L) i = aB (fN (lk L) i) fun s j => aB (aM (lk L) j bY) fun _ j1 => aB (gU (lk L) j1 [aE, pT]) fun _ j2 => aB (gU (lk L) j2 [bZ]) fun _ j3 =>
   aB (aM (lk L) j3 sLP) fun _ j4 => aB (gU (lk L) j4 [iV]) fun _ j5 => aB (aM (lk L) j5 sRP) fun _ j6 => aB (aM (lk L) j6 aS) fun _ j7 =>
   aB (fF (lk L) (qJ (lk L)) s j7) fun g j8 => .ok (.mk 14 0 i s [.mk 15 1 j1 e0 (node 40 0 [] :: none_ :: g)], j8) from rfl)
 go_enter Tryz.func59,Tryz.ntmps59;go_upto_region 1 with fail;have S1:=SV.new h;generalize World.alloc w _=w1 at S1 ⊢;obtain⟨c1,_⟩:=S1.ps.cells;go_upto_region 2 with fail;clear c1;go_upto_block 2 with fail;refine(S1.pB (fT pb L i w1 S1.ps)).mono ?_;rintro e w2 (⟨x,hr,rfl,hg⟩|⟨s2,j2,hr,rfl,S2⟩)
 ·unfold pan;go_wp2_with fail;exact⟨rfl,aD.err x (by simp[HU.out,aB,hr]) hg⟩
 have H2:=hdq hr;clear hr;go_upto_block 3 with fail;refine(S2.dR bY).mono ?_;rintro e w3 (⟨x,hr,rfl,hg⟩|⟨j3,hr,rfl,S3⟩)
 ·unfold pan;go_wp2_with fail;exact⟨rfl,aD.err x (by simp[HU.out,aB,H2.out,hr]) hg⟩
 have H3:=hdq hr;clear hr;go_upto_region 4 with fail;go_cut [5] (fun v5 wx=>∃ (B5:Nat) (ao:Option Addr),v5=.pointer (some ⟨B5,0,none⟩)∧SV pb L w wx j3 [(B5,tg 15 0 j3 ⟨#[]⟩ ao 2 2),(w.heap.size,zs5)] [(node 15 j3 [node 40 0 [],none_],vT 15 0 j3 e0 ao 2 2)]∧∃ B,ao=some ⟨B,0,none⟩)
 case first=>
  have S4:=S3.drew;refine wp_region_held_drew (S:=(fun w'=>w'.cell? ⟨pb,1,none⟩=some (.int .i64 (j3:Nat)))) (by kernel_rfl) (S4.ps.cells.1) (fun RY=>?_);generalize World.drew w3=w4 at *;refine tkH 0 ?_;refine tkH 1 ?_;refine tkH 2 ?_;refine tkH 3 ?_;refine rdH [4,8] ?_;refine cnH (fun Kx RZ=>?_) ?_
  ·go_simp;refine m2q ((S4.leaf 40 0 0 e0).dI 40 0) fun w18 S18=>?_;refine goH RZ (S18.ps.cells.1) fun RY=>?_;clear RZ Kx;refine rdH [5,8] ?_;refine cnH (fun Kx RZ=>?_) ?_
   ·go_simp;refine m2q (S18.uG) fun w19 S19=>?_;refine goH RZ (S19.ps.cells.1) fun RY=>?_;clear RZ Kx;refine rdH [6,8] ?_;refine cnH (fun Kx RZ=>?_) ?_
    ·have S20:=S19.lit (aW.two (S19.tr (node 40 0 [],vT 40 0 0 ⟨#[]⟩ none 0 0) (by first|exact .head _|exact .tail _ (.head _))) (S19.tr (none_,vT 10 0 0 ⟨#[]⟩ none 0 0) (by first|exact .head _|exact .tail _ (.head _)))) #[.int .i64 40,.int .i64 0,.int .i64 0,.string ⟨#[]⟩,.slice none 0 0,.int .i64 10,.int .i64 0,.int .i64 0,.string ⟨#[]⟩,.slice none 0 0] rfl 15 0 j3 e0 2 2 rfl;go_simp;refine goH RZ (S20.ps.cells.1) fun RY=>?_;clear RZ Kx;generalize World.alloc _ (.cells #[.int .i64 40,.int .i64 0,.int .i64 0,.string ⟨#[]⟩,.slice none 0 0,.int .i64 10,.int .i64 0,.int .i64 0,.string ⟨#[]⟩,.slice none 0 0] 24)=w20 at S20 RY ⊢;refine rdH [7,8] ?_;refine cnH (fun Kx RZ=>?_) ?_
     ·go_simp;refine m2q (S20.dI 15 j3) fun w21 S21=>?_;refine goH RZ (S21.ps.cells.1) fun RY=>?_;clear RZ Kx;refine bA 8 fun Kx RZ=>?_;go_simp;have S5:=S21.cX zs5 z5q rfl _ rfl;refine goH RZ (S5.ps.cells.1) fun RY=>?_;clear RZ Kx;generalize World.alloc _ (.cells z5q 24)=w5 at S5 RY ⊢;refine bA 9 fun Kx RZ=>?_;have:=TV.facts (S5.facts 0 rfl);have S10:=S5.xG 0 rfl;unfold st5 at S10;go_simp;refine goH RZ (S10.ps.cells.1) fun RY=>?_;clear RZ Kx;refine cW ?_
      go_wp2
      go_meet
      case rel=>exact⟨_,_,rfl,S10.less (fun p hp=>by rw[List.mem_singleton.1 hp];exact .head _),⟨_,rfl⟩⟩
     refine cnH (fun Kx RZ=>?_) AllReadyH.nil;go_simp;have S5:=S20.cX zs5 z5q rfl _ rfl;refine goH RZ (S5.ps.cells.1) fun RY=>?_;clear RZ Kx;generalize World.alloc _ (.cells z5q 24)=w5 at S5 RY ⊢;refine bA 7 fun Kx RZ=>?_;go_simp;refine m2q (S5.dI 15 j3) fun w21 S21=>?_;refine goH RZ (S21.ps.cells.1) fun RY=>?_;clear RZ Kx;refine bA 9 fun Kx RZ=>?_;have:=TV.facts (S21.facts 0 rfl);have S10:=S21.xG 0 rfl;unfold st5 at S10;go_simp;refine goH RZ (S10.ps.cells.1) fun RY=>?_;clear RZ Kx;refine cW ?_
     go_wp2
     go_meet
     case rel=>exact⟨_,_,rfl,S10.less (fun p hp=>by rw[List.mem_singleton.1 hp];exact .head _),⟨_,rfl⟩⟩
    refine cnH (fun Kx RZ=>?_) AllReadyH.nil;go_simp;have S5:=S19.cX zs5 z5q rfl _ rfl;refine goH RZ (S5.ps.cells.1) fun RY=>?_;clear RZ Kx;generalize World.alloc _ (.cells z5q 24)=w5 at S5 RY ⊢;refine bA 6 fun Kx RZ=>?_;have S20:=S5.lit (aW.two (S5.tr (node 40 0 [],vT 40 0 0 ⟨#[]⟩ none 0 0) (by first|exact .head _|exact .tail _ (.head _))) (S5.tr (none_,vT 10 0 0 ⟨#[]⟩ none 0 0) (by first|exact .head _|exact .tail _ (.head _)))) #[.int .i64 40,.int .i64 0,.int .i64 0,.string ⟨#[]⟩,.slice none 0 0,.int .i64 10,.int .i64 0,.int .i64 0,.string ⟨#[]⟩,.slice none 0 0] rfl 15 0 j3 e0 2 2 rfl;go_simp;refine goH RZ (S20.ps.cells.1) fun RY=>?_;clear RZ Kx;generalize World.alloc _ (.cells #[.int .i64 40,.int .i64 0,.int .i64 0,.string ⟨#[]⟩,.slice none 0 0,.int .i64 10,.int .i64 0,.int .i64 0,.string ⟨#[]⟩,.slice none 0 0] 24)=w20 at S20 RY ⊢;refine bA 7 fun Kx RZ=>?_;go_simp;refine m2q (S20.dI 15 j3) fun w21 S21=>?_;refine goH RZ (S21.ps.cells.1) fun RY=>?_;clear RZ Kx;refine bA 9 fun Kx RZ=>?_;have:=TV.facts (S21.facts 0 rfl);have S10:=S21.xG 0 rfl;unfold st5 at S10;go_simp;refine goH RZ (S10.ps.cells.1) fun RY=>?_;clear RZ Kx;refine cW ?_
    go_wp2
    go_meet
    case rel=>exact⟨_,_,rfl,S10.less (fun p hp=>by rw[List.mem_singleton.1 hp];exact .head _),⟨_,rfl⟩⟩
   refine cnH (fun Kx RZ=>?_) AllReadyH.nil;go_simp;have S5:=S18.cX zs5 z5q rfl _ rfl;refine goH RZ (S5.ps.cells.1) fun RY=>?_;clear RZ Kx;generalize World.alloc _ (.cells z5q 24)=w5 at S5 RY ⊢;refine bA 5 fun Kx RZ=>?_;go_simp;refine m2q (S5.uG) fun w19 S19=>?_;refine goH RZ (S19.ps.cells.1) fun RY=>?_;clear RZ Kx;refine bA 6 fun Kx RZ=>?_;have S20:=S19.lit (aW.two (S19.tr (node 40 0 [],vT 40 0 0 ⟨#[]⟩ none 0 0) (by first|exact .head _|exact .tail _ (.head _))) (S19.tr (none_,vT 10 0 0 ⟨#[]⟩ none 0 0) (by first|exact .head _|exact .tail _ (.head _)))) #[.int .i64 40,.int .i64 0,.int .i64 0,.string ⟨#[]⟩,.slice none 0 0,.int .i64 10,.int .i64 0,.int .i64 0,.string ⟨#[]⟩,.slice none 0 0] rfl 15 0 j3 e0 2 2 rfl;go_simp;refine goH RZ (S20.ps.cells.1) fun RY=>?_;clear RZ Kx;generalize World.alloc _ (.cells #[.int .i64 40,.int .i64 0,.int .i64 0,.string ⟨#[]⟩,.slice none 0 0,.int .i64 10,.int .i64 0,.int .i64 0,.string ⟨#[]⟩,.slice none 0 0] 24)=w20 at S20 RY ⊢;refine bA 7 fun Kx RZ=>?_;go_simp;refine m2q (S20.dI 15 j3) fun w21 S21=>?_;refine goH RZ (S21.ps.cells.1) fun RY=>?_;clear RZ Kx;refine bA 9 fun Kx RZ=>?_;have:=TV.facts (S21.facts 0 rfl);have S10:=S21.xG 0 rfl;unfold st5 at S10;go_simp;refine goH RZ (S10.ps.cells.1) fun RY=>?_;clear RZ Kx;refine cW ?_
   go_wp2
   go_meet
   case rel=>exact⟨_,_,rfl,S10.less (fun p hp=>by rw[List.mem_singleton.1 hp];exact .head _),⟨_,rfl⟩⟩
  refine cnH (fun Kx RZ=>?_) AllReadyH.nil;go_simp;have S5:=S4.cX zs5 z5q rfl _ rfl;refine goH RZ (S5.ps.cells.1) fun RY=>?_;clear RZ Kx;generalize World.alloc _ (.cells z5q 24)=w5 at S5 RY ⊢;refine bA 4 fun Kx RZ=>?_;go_simp;refine m2q ((S5.leaf 40 0 0 e0).dI 40 0) fun w18 S18=>?_;refine goH RZ (S18.ps.cells.1) fun RY=>?_;clear RZ Kx;refine bA 5 fun Kx RZ=>?_;go_simp;refine m2q (S18.uG) fun w19 S19=>?_;refine goH RZ (S19.ps.cells.1) fun RY=>?_;clear RZ Kx;refine bA 6 fun Kx RZ=>?_;have S20:=S19.lit (aW.two (S19.tr (node 40 0 [],vT 40 0 0 ⟨#[]⟩ none 0 0) (by first|exact .head _|exact .tail _ (.head _))) (S19.tr (none_,vT 10 0 0 ⟨#[]⟩ none 0 0) (by first|exact .head _|exact .tail _ (.head _)))) #[.int .i64 40,.int .i64 0,.int .i64 0,.string ⟨#[]⟩,.slice none 0 0,.int .i64 10,.int .i64 0,.int .i64 0,.string ⟨#[]⟩,.slice none 0 0] rfl 15 0 j3 e0 2 2 rfl;go_simp;refine goH RZ (S20.ps.cells.1) fun RY=>?_;clear RZ Kx;generalize World.alloc _ (.cells #[.int .i64 40,.int .i64 0,.int .i64 0,.string ⟨#[]⟩,.slice none 0 0,.int .i64 10,.int .i64 0,.int .i64 0,.string ⟨#[]⟩,.slice none 0 0] 24)=w20 at S20 RY ⊢;refine bA 7 fun Kx RZ=>?_;go_simp;refine m2q (S20.dI 15 j3) fun w21 S21=>?_;refine goH RZ (S21.ps.cells.1) fun RY=>?_;clear RZ Kx;refine bA 9 fun Kx RZ=>?_;have:=TV.facts (S21.facts 0 rfl);have S10:=S21.xG 0 rfl;unfold st5 at S10;go_simp;refine goH RZ (S10.ps.cells.1) fun RY=>?_;clear RZ Kx;refine cW ?_
  go_wp2
  go_meet
  case rel=>exact⟨_,_,rfl,S10.less (fun p hp=>by rw[List.mem_singleton.1 hp];exact .head _),⟨_,rfl⟩⟩
 case rest=>
  obtain⟨B5,ao,rfl,S4,⟨B,rfl⟩⟩:=hcut;clear S1 S2 S3;have:=TV.facts (S4.facts 0 rfl);have S5:=(S4.put 0 rfl 1 (.int .i64 1) (by simp)).Cc 15 1 j3 e0;go_upto_region 6 with fail;generalize World.setCell _ ⟨B5,1,none⟩ _=w5 at S5 ⊢;clear S4;go_upto_block 6 with fail;refine(S5.pI [aE,pT] (by simp) _ rfl 2 rfl).mono ?_;rintro e w6 (⟨x,hr,rfl,hg⟩|⟨j6,hr,rfl,S6⟩)
  ·unfold pan;go_wp2_with fail;exact⟨rfl,aD.err x (by simp[HU.out,aB,H2.out,H3.out,hr]) hg⟩
  have H6:=hdq hr;clear hr;go_upto_block 7 with fail;refine(S6.pI [bZ] (by simp) _ rfl 1 rfl).mono ?_;rintro e w7 (⟨x,hr,rfl,hg⟩|⟨j7,hr,rfl,S7⟩)
  ·unfold pan;go_wp2_with fail;exact⟨rfl,aD.err x (by simp[HU.out,aB,H2.out,H3.out,H6.out,hr]) hg⟩
  have H7:=hdq hr;clear hr;go_upto_block 8 with fail;refine(S7.dR sLP).mono ?_;rintro e w8 (⟨x,hr,rfl,hg⟩|⟨j8,hr,rfl,S8⟩)
  ·unfold pan;go_wp2_with fail;exact⟨rfl,aD.err x (by simp[HU.out,aB,H2.out,H3.out,H6.out,H7.out,hr]) hg⟩
  have H8:=hdq hr;clear hr;go_upto_block 9 with fail;refine(S8.pI [iV] (by simp) _ rfl 1 rfl).mono ?_;rintro e w9 (⟨x,hr,rfl,hg⟩|⟨j9,hr,rfl,S9⟩)
  ·unfold pan;go_wp2_with fail;exact⟨rfl,aD.err x (by simp[HU.out,aB,H2.out,H3.out,H6.out,H7.out,H8.out,hr]) hg⟩
  have H9:=hdq hr;clear hr;go_upto_block 10 with fail;refine(S9.dR sRP).mono ?_;rintro e w10 (⟨x,hr,rfl,hg⟩|⟨j10,hr,rfl,S10⟩)
  ·unfold pan;go_wp2_with fail;exact⟨rfl,aD.err x (by simp[HU.out,aB,H2.out,H3.out,H6.out,H7.out,H8.out,H9.out,hr]) hg⟩
  have H10:=hdq hr;clear hr;go_upto_block 11 with fail;refine(S10.dR aS).mono ?_;rintro e w11 (⟨x,hr,rfl,hg⟩|⟨j11,hr,rfl,S11⟩)
  ·unfold pan;go_wp2_with fail;exact⟨rfl,aD.err x (by simp[HU.out,aB,H2.out,H3.out,H6.out,H7.out,H8.out,H9.out,H10.out,hr]) hg⟩
  have H11:=hdq hr;clear hr;go_upto_region 12 with fail;refine wp_region_any (by kernel_rfl) ?_;change wpAny _ _ _ _ _ _ _ (World.drew _);have S12:=S11.drew;generalize World.drew w11=w12 at S12 ⊢;have:=TV.facts (S12.facts 0 rfl);refine tkA 0 ?_;refine tkA 2 ?_;refine tkA 3 ?_;refine rdA [1,4] ?_;refine cnA (fun Kx RZ=>?_) ?_
  ·go_simp;refine RZ _ _ ?_;clear RZ Kx;refine dG 4 fun Kx RZ=>?_;go_simp;refine(S12.pL (fR pb L 0 (qJ (lk L)) (uO pb L hX) (uL (lk L)) s2 j11 (Nat.zero_le _) _ S12.ps)).mono ?_;rintro e w13 (⟨x,hr,rfl,hg⟩|⟨l13,j13,o13,c13,hr,rfl,S13⟩)
   ·unfold pan;exact⟨rfl,aD.err x (by simp[HU.out,aB,H2.out,H3.out,H6.out,H7.out,H8.out,H9.out,H10.out,H11.out,hr]) hg⟩
   have H13:=hdq hr;clear hr;have:=TV.facts (S13.facts 0 rfl);refine RZ _ _ ?_;clear RZ Kx;refine dG 5 fun Kx RZ=>?_;refine bV (by kernel_rfl) (.tmp 39) (.tmp 42) rfl S13 (by first|exact .head _|exact .tail _ (.head _)) (by first|exact .head _|exact .tail _ (.head _)) (by decide) (by have:=dY (uL (lk L)) H13.out;have:=S13.ps.le;omega) 15 1 j3 e0 (by decide) rfl rfl (fun ao14 c14 w14 S14=>?_);have:=TV.facts (S14.facts 0 rfl);refine RZ _ _ ?_;clear RZ Kx;refine tkA 6 ?_;refine dG 7 fun Kx RZ=>?_;go_simp;refine RZ _ _ ?_;clear RZ Kx;refine fX ?_;have S15:=S14.put 0 rfl 4 (.slice ao14 (2+l13.length) c14) (by simp);generalize World.setCell _ ⟨B5,4,none⟩ _=w15 at S15 ⊢;have:=TV.facts (S15.facts 0 rfl);have:=TV.facts (S15.facts 1 rfl);have S16:=S15.lit (aW.one (S15.tr _ (.head _))) (tg 15 1 j3 ⟨#[]⟩ ao14 (2+l13.length) c14) rfl 14 0 i s2 1 1 rfl;have:=TV.facts (S16.facts 1 rfl);go_wp2_with fail;have S17:=S16.bN 1 rfl (.int .i64 14) (.int .i64 0) i s2 (.slice (some ⟨w15.heap.size,0,none⟩) 1 1);refine rtv (S17.facts 1 rfl) Tryz.results59 ?_;exact S17.res (.head _) (by simp[HU.out,aB,H2.out,H3.out,H6.out,H7.out,H8.out,H9.out,H10.out,H11.out,H13.out]<;>rfl) rfl
  refine cnA (fun Kx RZ=>?_) AllReady.nil;go_simp;refine(S12.pL (fR pb L 0 (qJ (lk L)) (uO pb L hX) (uL (lk L)) s2 j11 (Nat.zero_le _) _ S12.ps)).mono ?_;rintro e w13 (⟨x,hr,rfl,hg⟩|⟨l13,j13,o13,c13,hr,rfl,S13⟩)
  ·unfold pan;exact⟨rfl,aD.err x (by simp[HU.out,aB,H2.out,H3.out,H6.out,H7.out,H8.out,H9.out,H10.out,H11.out,hr]) hg⟩
  have H13:=hdq hr;clear hr;have:=TV.facts (S13.facts 0 rfl);refine RZ _ _ ?_;clear RZ Kx;refine dG 1 fun Kx RZ=>?_;go_simp;refine RZ _ _ ?_;clear RZ Kx;refine dG 5 fun Kx RZ=>?_;refine bV (by kernel_rfl) (.tmp 39) (.tmp 42) rfl S13 (by first|exact .head _|exact .tail _ (.head _)) (by first|exact .head _|exact .tail _ (.head _)) (by decide) (by have:=dY (uL (lk L)) H13.out;have:=S13.ps.le;omega) 15 1 j3 e0 (by decide) rfl rfl (fun ao14 c14 w14 S14=>?_);have:=TV.facts (S14.facts 0 rfl);refine RZ _ _ ?_;clear RZ Kx;refine tkA 6 ?_;refine dG 7 fun Kx RZ=>?_;go_simp;refine RZ _ _ ?_;clear RZ Kx;refine fX ?_;have S15:=S14.put 0 rfl 4 (.slice ao14 (2+l13.length) c14) (by simp);generalize World.setCell _ ⟨B5,4,none⟩ _=w15 at S15 ⊢;have:=TV.facts (S15.facts 0 rfl);have:=TV.facts (S15.facts 1 rfl);have S16:=S15.lit (aW.one (S15.tr _ (.head _))) (tg 15 1 j3 ⟨#[]⟩ ao14 (2+l13.length) c14) rfl 14 0 i s2 1 1 rfl;have:=TV.facts (S16.facts 1 rfl);go_wp2_with fail;have S17:=S16.bN 1 rfl (.int .i64 14) (.int .i64 0) i s2 (.slice (some ⟨w15.heap.size,0,none⟩) 1 1);refine rtv (S17.facts 1 rfl) Tryz.results59 ?_;exact S17.res (.head _) (by simp[HU.out,aB,H2.out,H3.out,H6.out,H7.out,H8.out,H9.out,H10.out,H11.out,H13.out]<;>rfl) rfl
end
end Go.Proofs.YtfdlmcgcckkkdaaGreatDoor
