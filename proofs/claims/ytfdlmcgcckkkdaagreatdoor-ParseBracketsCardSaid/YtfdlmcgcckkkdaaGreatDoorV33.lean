/- ParseWhole, part 33: what it stands on. -/
import Derived.Test.YtfdlmcgcckkkdaaGreatDoorV32
import Derived.Deep.DeepCutAuto
set_option linter.all false
set_option maxHeartbeats 40000000
set_option maxRecDepth 100000
namespace Go.Proofs.YtfdlmcgcckkkdaaGreatDoor
section
open Go.RowKit Lx Px
def dH(L:List Tk)(k:Int)(a:Nat)(item:Nat→R T)(w:ByteArray)(n:Int)(j1:Nat):R T:=
 aB (if wrd L j1 [xI, rV] then
     aB (aM L (j1 + 1) sLP) fun _ k1 => aB (eD L 16 item k1) fun l k2 => aB (aM L k2 sRP) fun _ k3 =>
     (if wrd L j1 [rV] then aB (aM L k3 sLP) fun _ k4 => aB (eD L 32 (mY L) k4) fun m k5 => aB (aM L k5 sRP) fun _ k6 => .ok ((gC l, gC m), k6)
      else .ok ((gC l, none_), k3))
   else .ok ((none_, none_), j1)) fun lm j2 => aG L (.mk k n a w [lm.1, lm.2]) j2
def lL(L:List Tk)(k:Int)(a:Nat)(item:Nat→R T)(w:ByteArray)(j:Nat):R T:=
 aB (if wrd L j [xK]then aB (aM L (j+1) sLP) fun _ j1=>aB (fA L 1 99 j1) fun n j2=>aB (aM L j2 sRP) fun _ j3=>.ok ((n:Int),j3)else .ok (0,j)) fun n j1=>dH L k a item w n j1
theorem GB(L:List Tk)(k:Int)(a:Nat)(item:Nat→R T)(i:Nat):fO L k a item i=aB (if wrd L i [gZ]then pA L i else .ok (e0,i)) fun w j=>lL L k a item w j:=rfl
abbrev Qy: List Value:=[.int .i64 10,.int .i64 0,.int .i64 0,.string ⟨#[]⟩,.slice none 0 0,.int .i64 10,.int .i64 0,.int .i64 0,.string ⟨#[]⟩,.slice none 0 0]
abbrev c10(k n a:Int)(s:ByteArray)(o:Option Addr)(m c:Nat)(k' n' a':Int)(s':ByteArray)(o':Option Addr)(m' c':Nat):List Value:=
 [.int .i64 k,.int .i64 n,.int .i64 a,.string s,.slice o m c,.int .i64 k',.int .i64 n',.int .i64 a',.string s',.slice o' m' c']
theorem CQ{w:World}{b:Nat}{v0 v1 v2 v3 v4 v5 v6 v7 v8 v9:Value}(h:w.heap[b]?=some (.cells [v0,v1,v2,v3,v4,v5,v6,v7,v8,v9].toArray 24 (0,0))):w.cell? ⟨b,0,none⟩=some v0∧w.cell? ⟨b,1,none⟩=some v1∧w.cell? ⟨b,2,none⟩=some v2∧w.cell? ⟨b,3,none⟩=some v3∧w.cell? ⟨b,4,none⟩=some v4∧w.cell? ⟨b,5,none⟩=some v5∧w.cell? ⟨b,6,none⟩=some v6∧w.cell? ⟨b,7,none⟩=some v7∧w.cell? ⟨b,8,none⟩=some v8∧w.cell? ⟨b,9,none⟩=some v9∧w.frozen? ⟨b,0,none⟩=false∧w.frozen? ⟨b,1,none⟩=false∧w.frozen? ⟨b,2,none⟩=false∧w.frozen? ⟨b,3,none⟩=false∧w.frozen? ⟨b,4,none⟩=false∧w.frozen? ⟨b,5,none⟩=false∧w.frozen? ⟨b,6,none⟩=false∧w.frozen? ⟨b,7,none⟩=false∧w.frozen? ⟨b,8,none⟩=false∧w.frozen? ⟨b,9,none⟩=false:=
 ⟨cell_of_row w b 0 _ _ _ h, cell_of_row w b 1 _ _ _ h, cell_of_row w b 2 _ _ _ h, cell_of_row w b 3 _ _ _ h, cell_of_row w b 4 _ _ _ h, cell_of_row w b 5 _ _ _ h, cell_of_row w b 6 _ _ _ h, cell_of_row w b 7 _ _ _ h, cell_of_row w b 8 _ _ _ h, cell_of_row w b 9 _ _ _ h,
  Lib.frozen_of_heap h 0, Lib.frozen_of_heap h 1, Lib.frozen_of_heap h 2, Lib.frozen_of_heap h 3, Lib.frozen_of_heap h 4, Lib.frozen_of_heap h 5, Lib.frozen_of_heap h 6, Lib.frozen_of_heap h 7, Lib.frozen_of_heap h 8, Lib.frozen_of_heap h 9⟩
theorem SV.qI{pb:Nat}{L:List T3}{w0 w:World}{j:Nat}{rv ts}(S:SV pb L w0 w j rv ts)(k:Nat){b:Nat}{v0 v1 v2 v3 v4 v5 v6 v7 v8 v9:Value}(hk:rv[k]?=some (b,[v0,v1,v2,v3,v4,v5,v6,v7,v8,v9])) :
 w.heap[b]?=some (.cells [v0,v1,v2,v3,v4,v5,v6,v7,v8,v9].toArray 24 (0,0)):=(S.tv _ (List.mem_of_getElem? hk)).1
theorem SV.RU{pb:Nat}{L:List T3}{w0 w:World}{j:Nat}{p:Nat×List Value}{b:Nat}{us:List Value}{rv ts}(S:SV pb L w0 w j (p::(b,us)::rv) ts){l:List T}(h:aW (Av w0 (p::(b,us)::rv)) w l us)(k n a:Int)(s:ByteArray)(m c:Nat)(hm:m=l.length)(hcap:l.length≤c:=by exact Nat.le_refl _):SV pb L w0 w j (p::rv) ((.mk k n a s l,vT k n a s (some ⟨b,0,none⟩) m c)::ts):=by
 subst hm;have hpw:=S.pw;rw[List.pairwise_cons]at hpw;have hpw2:=hpw.2;rw[List.pairwise_cons]at hpw2;have hb:=S.tv (b,us) (.tail _ (.head _));have hav:∀ c,Av w0 (p::(b,us)::rv) c→Av w0 (p::rv) c:=fun c hc=>⟨hc.1,fun q hq=>hc.2 q (by rcases List.mem_cons.1 hq with rfl|hq;exact .head _;exact .tail _ (.tail _ hq))⟩
 refine⟨S.ok,S.hp,fun q hq=>S.tv q (by rcases List.mem_cons.1 hq with rfl|hq;exact .head _;exact .tail _ (.tail _ hq)),List.pairwise_cons.2 ⟨fun q hq=>hpw.1 q (.tail _ hq),hpw2.2⟩,fun q hq=>?_⟩
 rcases List.mem_cons.1 hq with rfl|hq
 ·show TrC _ _ (.mk k n a s l) (vT k n a s (some ⟨b,0,none⟩) l.length c)
  unfold TrC;refine⟨_,_,rfl,fun _=>⟨b,0,us,rfl,⟨hb.2,fun q hq=>?_⟩,(Array.getElem?_eq_some_iff.1 hb.1).1,h.kept (fun c hc _=>hav c hc) (Nat.le_refl _) (fun _ _ _=>rfl),fun i u hi=>?_⟩,hcap⟩
  ·rcases List.mem_cons.1 hq with rfl|hq
   ·exact(hpw.1 (b,us) (.head _)).symm
   ·exact hpw2.1 q hq
  ·rw[Nat.zero_add,cell_of_row w b i _ _ _ hb.1]
   simpa using hi
 ·exact(S.tr q hq).kept (fun c hc _=>hav c hc) (Nat.le_refl _) (fun _ _ _=>rfl)
theorem zR(K:FuncId)(hK:∀ args w,(callFunc K args).run Tryz.prog w=.ok (.enter K args) w)(pb:Nat)(L:List T3)(hX:iC L)(item:Nat→R T)(hr:Reads K pb L 0 item)(up:∀ i,Up (i+1) (item i))(k:Int)(a i:Nat)(w:World)(h:PS w pb L i):Calls Tryz.prog 225 #[pq pb,k,a,.func (.func K) #[pq pb] #[]] w (aD pb L w (fO (lk L) k a item i)):=by
 have HU:=hdq (GB (lk L) k a item i);go_enter Tryz.func225,Tryz.ntmps225;go_upto_region 1 with fail;have S1:=SV.new h;generalize World.alloc w _=w1 at S1 ⊢;go_upto_block 1 with fail;refine S1.uG.mono ?_;rintro e w2 ⟨rfl,S2⟩;go_upto_block 1 with fail;refine S2.uG.mono ?_;rintro e w3 ⟨rfl,S3⟩;have S4:=(S3.less (ts':=[]) (fun _ h=>by cases h)).cX Qy #[.int .i64 10,.int .i64 0,.int .i64 0,.string ⟨#[]⟩,.slice none 0 0,.int .i64 10,.int .i64 0,.int .i64 0,.string ⟨#[]⟩,.slice none 0 0] rfl _ rfl;go_upto_block 1 with fail;generalize World.alloc w3 _=w4 at S4 ⊢;generalize w3.heap.size=B4 at S4 ⊢;refine m2q (S4.aQ (E:=fun e=>e=_) (iZ k a _ 2 2 w4)) fun w5 S5=>?_;go_upto_region 2 with fail;have S6:=S5.yV (tg k 0 a ⟨#[]⟩ (some ⟨B4,0,none⟩) 2 2);generalize World.alloc w5 _=w6 at S6 ⊢;generalize w5.heap.size=B6 at S6 ⊢;clear S1 S2 S3 S4 S5;have hC:=S6.uC [gZ] (by simp) #[.string ⟨#[70,73,76,69]⟩] rfl 1 rfl _ rfl;go_upto_if 19 with (go_at_call 155;refine hC.mono ?_;rintro e w7 ⟨rfl,S7⟩);clear hC S6;go_cut [] (fun wx=>∃ (wd:ByteArray) (j:Nat),SV pb L w wx j [(B6,tg k 0 a wd (some ⟨B4,0,none⟩) 2 2),(B4,Qy),(w.heap.size,zs5)] []∧fO (lk L) k a item i=lL (lk L) k a item wd j)
 case first=>
  cases hs:wrd (lk L) i [gZ] with
  | true=>
   have HS:=hdq hs;clear hs;go_upto_block 3 with fail;refine(S7.pB (iO pb L i w7 S7.ps)).mono ?_;rintro e w8 (⟨x,hr,rfl,hg⟩|⟨s8,j8,hr,rfl,S8⟩)
   ·unfold pan;go_wp2_with fail;exact⟨rfl,aD.err x (by simp[HU.out,aB,HS.out,hr]) hg⟩
   have H8:=hdq hr;clear hr;have:=TV.facts (S8.facts 0 rfl)
   go_wp2
   go_meet
   case rel=>exact⟨s8,j8,S8.put 0 rfl 3 (.string s8) (by simp),by rw[HU.out,if_pos HS.out,H8.out];rfl⟩
  | false=>
   have HS:=hdq hs;clear hs
   go_wp2
   go_meet
   case rel=>exact⟨e0,i,S7,by rw[HU.out,if_neg (by rw[HS.out];decide)];rfl⟩
 case rest=>
  clear S7;obtain⟨wd,j,S7,hq⟩:=hcut;have HU:=hdq hq;clear hq;have hC:=S7.wK [xK] (by simp) #[.string ⟨#[83,75,73,80]⟩] rfl 1 rfl _ rfl;go_upto_if 25 with (go_at_call 136;refine hC.mono ?_;rintro e w8 ⟨rfl,S8⟩);clear hC S7;go_cut [] (fun wx=>∃ (n:Int) (j:Nat),SV pb L w wx j [(B6,tg k n a wd (some ⟨B4,0,none⟩) 2 2),(B4,Qy),(w.heap.size,zs5)] []∧fO (lk L) k a item i=dH (lk L) k a item wd n j)
  case first=>
   cases hs:wrd (lk L) j [xK] with
   | true=>
    rw[hs]at S8;replace S8:SV pb L w w8 (j+1) _ _:=S8;have HS:=hdq hs;clear hs;go_upto_block 5 with fail;refine(S8.dR sLP).mono ?_;rintro e w9 (⟨x,hr,rfl,hg⟩|⟨j9,hr,rfl,S9⟩)
    ·unfold pan;go_wp2_with fail;exact⟨rfl,aD.err x (by simp[HU.out,aB,lL,HS.out,hr]) hg⟩
    have H9:=hdq hr;clear hr;go_upto_block 6 with fail;refine(S9.jO hX 1 99).mono ?_;rintro e w10 (⟨x,hr,rfl,hg⟩|⟨n10,j10,hr,rfl,S10⟩)
    ·unfold pan;go_wp2_with fail;exact⟨rfl,aD.err x (by simp[HU.out,aB,lL,HS.out,H9.out,hr]) hg⟩
    have H10:=hdq hr;clear hr;have:=TV.facts (S10.facts 0 rfl);have S11:=S10.put 0 rfl 1 (.int .i64 n10) (by simp);go_upto_region 7 with fail;generalize World.setCell w10 ⟨B6,1,none⟩ _=w11 at S11 ⊢;go_upto_block 7 with fail;refine(S11.dR sRP).mono ?_;rintro e w12 (⟨x,hr,rfl,hg⟩|⟨j12,hr,rfl,S12⟩)
    ·unfold pan;go_wp2_with fail;exact⟨rfl,aD.err x (by simp[HU.out,aB,lL,HS.out,H9.out,H10.out,hr]) hg⟩
    have H12:=hdq hr;clear hr
    go_wp2
    go_meet
    case rel=>exact⟨n10,j12,S12,by simp[HU.out,aB,lL,HS.out,H9.out,H10.out,H12.out]⟩
   | false=>
    rw[hs]at S8;replace S8:SV pb L w w8 j _ _:=S8;have HS:=hdq hs;clear hs
    go_wp2
    go_meet
    case rel=>exact⟨0,j,S8,by simp[HU.out,aB,lL,HS.out]⟩
  case rest=>
   clear S8;obtain⟨n,j,S8,hq⟩:=hcut;have HU:=hdq hq;clear hq;have hC:=S8.uC [xI,rV] (by simp) #[.string ⟨#[76,73,83,84]⟩,.string ⟨#[69,68,73,84]⟩] rfl 2 rfl _ rfl;go_upto_if 35 with (go_at_call 155;refine hC.mono ?_;rintro e w9 ⟨rfl,S9⟩);clear hC S8
   go_cut [] (fun wx => ∃ (x y : T) (j' : Nat) (k1 n1 a1 : Int) (s1 : ByteArray) (o1 : Option Addr) (m1 c1 : Nat) (k2 n2 a2 : Int) (s2 : ByteArray) (o2 : Option Addr) (m2 c2 : Nat),
     SV pb L w wx j' [(B6, tg k n a wd (some ⟨B4, 0, none⟩) 2 2), (B4, c10 k1 n1 a1 s1 o1 m1 c1 k2 n2 a2 s2 o2 m2 c2), (w.heap.size, zs5)] [(x, vT k1 n1 a1 s1 o1 m1 c1), (y, vT k2 n2 a2 s2 o2 m2 c2)] ∧ fO (lk L) k a item i = aG (lk L) (.mk k n a wd [x, y]) j')
   case first=>
    cases hs:wrd (lk L) j [xI,rV] with
    | false=>
     have HS:=hdq hs;clear hs
     go_wp2
     go_meet
     case rel=>exact⟨none_,none_,j,_,_,_,_,_,_,_,_,_,_,_,_,_,_,(S9.leaf 10 0 0 e0).leaf 10 0 0 e0,by simp[HU.out,aB,dH,HS.out]⟩
    | true=>
     have hjl:=zU hs;have hbd:=S9.ps.bd;have HS:=hdq hs;clear hs;have hC:=S9.uC [rV] (by simp) #[.string ⟨#[69,68,73,84]⟩] rfl 1 rfl _ rfl;go_upto_region 10 with (go_at_call 155;refine hC.mono ?_;rintro e w10 ⟨rfl,S10⟩);clear hC S9;obtain⟨c1,f1⟩:=S10.ps.cells;go_upto_region 11 with fail;have S11:=S10.step ⟨dJ w10 pb 1 (.int .i64 ((j:Int)+1)),S10.ps.set (j+1) (by omega)⟩;generalize World.setCell w10 _ _=w11 at S11 ⊢;clear c1 f1 S10;go_upto_block 11 with fail;refine(S11.dR sLP).mono ?_;rintro e w12 (⟨x,hr,rfl,hg⟩|⟨j12,hr,rfl,S12⟩)
     ·unfold pan;go_wp2_with fail;exact⟨rfl,aD.err x (by simp[HU.out,aB,dH,HS.out,hr]) hg⟩
     have H12:=hdq hr;clear hr;go_upto_region 12 with fail;go_cut [] (fun wx=>∃ (l:List T) (j':Nat) (a1:Int) (o1:Option Addr) (c1:Nat),SV pb L w wx j' [(B6,tg k n a wd (some ⟨B4,0,none⟩) 2 2),(B4,c10 40 0 a1 e0 o1 l.length c1 10 0 0 e0 none 0 0),(w.heap.size,zs5)] [(gC l,vT 40 0 a1 e0 o1 l.length c1)]∧eD (lk L) 16 item j12=.ok (l,j'))
     case first=>
      refine wp_region_any (by kernel_rfl) ?_;change wpAny _ _ _ _ _ _ _ (World.drew _);have S13:=S12.drew;generalize World.drew w12=w13 at S13 ⊢;have:=TV.facts (S13.facts 0 rfl);refine tkA 0 ?_;refine tkA 2 ?_;refine tkA 3 ?_;refine rdA [1,4] ?_;refine cnA (fun Kx RZ=>?_) ?_
      ·go_simp;refine RZ _ _ ?_;clear RZ Kx;refine dG 4 fun Kx RZ=>?_;have hM:=eI _ hK pb L 0 item hr up 16 (by decide) (by decide) j12 (Nat.zero_le _) _ S13.ps;go_simp;refine(S13.pL hM).mono ?_;rintro e w14 (⟨x,hr,rfl,hg⟩|⟨l14,j14,o14,c14,hr,rfl,S14⟩)
       ·unfold pan;exact⟨rfl,aD.err x (by simp[HU.out,aB,dH,HS.out,H12.out,hr]) hg⟩
       have H14:=hdq hr;clear hr;have:=TV.facts (S14.facts 0 rfl);refine RZ _ _ ?_;clear RZ Kx;refine dG 5 fun Kx RZ=>?_;go_simp;refine(S14.vO (Nat.le_trans (eW (by decide) H14.out) (by decide))).mono ?_;rintro e w15 ⟨a15,hl15,rfl,S15⟩;have:=TV.facts (S15.facts 0 rfl);obtain⟨_,_,_,_,_,_,_,_,_,_,_,_,_,_,_,_,_,_,_,_⟩:=CQ (S15.qI 1 rfl);refine RZ _ _ ?_;clear RZ Kx;refine tkA 6 ?_;refine dG 7 fun Kx RZ=>?_;go_simp;refine RZ _ _ ?_;clear RZ Kx;refine fX ?_;have S16:=((((S15.put 1 rfl 0 (.int .i64 40) (by simp)).put 1 rfl 1 (.int .i64 0) (by simp)).put 1 rfl 2 (.int .i64 a15) (by simp)).put 1 rfl 3 (.string ⟨#[]⟩) (by simp)).put 1 rfl 4 (.slice o14 l14.length c14) (by simp)
       go_wp2
       go_meet
       case rel=>exact⟨l14,j14,a15,o14,c14,S16,H14.out⟩
      refine cnA (fun Kx RZ=>?_) AllReady.nil;have hM:=eI _ hK pb L 0 item hr up 16 (by decide) (by decide) j12 (Nat.zero_le _) _ S13.ps;go_simp;refine(S13.pL hM).mono ?_;rintro e w14 (⟨x,hr,rfl,hg⟩|⟨l14,j14,o14,c14,hr,rfl,S14⟩)
      ·unfold pan;exact⟨rfl,aD.err x (by simp[HU.out,aB,dH,HS.out,H12.out,hr]) hg⟩
      have H14:=hdq hr;clear hr;have:=TV.facts (S14.facts 0 rfl);refine RZ _ _ ?_;clear RZ Kx;refine rdA [1,5] ?_;refine cnA (fun Kx RZ=>?_) ?_
      ·go_simp;refine RZ _ _ ?_;clear RZ Kx;refine dG 5 fun Kx RZ=>?_;go_simp;refine(S14.vO (Nat.le_trans (eW (by decide) H14.out) (by decide))).mono ?_;rintro e w15 ⟨a15,hl15,rfl,S15⟩;have:=TV.facts (S15.facts 0 rfl);obtain⟨_,_,_,_,_,_,_,_,_,_,_,_,_,_,_,_,_,_,_,_⟩:=CQ (S15.qI 1 rfl);refine RZ _ _ ?_;clear RZ Kx;refine tkA 6 ?_;refine dG 7 fun Kx RZ=>?_;go_simp;refine RZ _ _ ?_;clear RZ Kx;refine fX ?_;have S16:=((((S15.put 1 rfl 0 (.int .i64 40) (by simp)).put 1 rfl 1 (.int .i64 0) (by simp)).put 1 rfl 2 (.int .i64 a15) (by simp)).put 1 rfl 3 (.string ⟨#[]⟩) (by simp)).put 1 rfl 4 (.slice o14 l14.length c14) (by simp)
       go_wp2
       go_meet
       case rel=>exact⟨l14,j14,a15,o14,c14,S16,H14.out⟩
      refine cnA (fun Kx RZ=>?_) AllReady.nil;go_simp;refine(S14.vO (Nat.le_trans (eW (by decide) H14.out) (by decide))).mono ?_;rintro e w15 ⟨a15,hl15,rfl,S15⟩;have:=TV.facts (S15.facts 0 rfl);obtain⟨_,_,_,_,_,_,_,_,_,_,_,_,_,_,_,_,_,_,_,_⟩:=CQ (S15.qI 1 rfl);refine RZ _ _ ?_;clear RZ Kx;refine dG 1 fun Kx RZ=>?_;go_simp;refine RZ _ _ ?_;clear RZ Kx;refine tkA 6 ?_;refine dG 7 fun Kx RZ=>?_;go_simp;refine RZ _ _ ?_;clear RZ Kx;refine fX ?_;have S16:=((((S15.put 1 rfl 0 (.int .i64 40) (by simp)).put 1 rfl 1 (.int .i64 0) (by simp)).put 1 rfl 2 (.int .i64 a15) (by simp)).put 1 rfl 3 (.string ⟨#[]⟩) (by simp)).put 1 rfl 4 (.slice o14 l14.length c14) (by simp)
      go_wp2
      go_meet
      case rel=>exact⟨l14,j14,a15,o14,c14,S16,H14.out⟩
     case rest=>
      obtain⟨l,j13,a1,o1,c1,S13,hq⟩:=hcut;have H13:=hdq hq;clear hq S12 S11;go_upto_block 13 with fail;refine(S13.dR sRP).mono ?_;rintro e w14 (⟨x,hr,rfl,hg⟩|⟨j14,hr,rfl,S14⟩)
      ·unfold pan;go_wp2_with fail;exact⟨rfl,aD.err x (by simp[HU.out,aB,dH,HS.out,H12.out,H13.out,hr]) hg⟩
      have H14:=hdq hr;clear hr
      cases hs:wrd (lk L) j [rV] with
      | false=>
       have HS2:=hdq hs;clear hs
       go_wp2
       go_meet
       case rel => exact ⟨gC l, none_, j14, _, _, _, _, _, _, _, _, _, _, _, _, _, _, ⟨S14.ok, S14.hp, S14.tv, S14.pw, fun p hp => by
         rcases List.mem_cons.1 hp with rfl | hp
         · exact S14.tr _ (.head _)
         · rcases List.mem_cons.1 hp with rfl | hp
           · exact (S14.leaf 10 0 0 e0).tr _ (.head _)
           · cases hp⟩, by simp [HU.out, aB, dH, HS.out, H12.out, H13.out, H14.out, HS2.out]⟩
      | true=>
       have HS2:=hdq hs;clear hs;go_upto_block 15 with fail;refine(S14.dR sLP).mono ?_;rintro e w15 (⟨x,hr,rfl,hg⟩|⟨j15,hr,rfl,S15⟩)
       ·unfold pan;go_wp2_with fail;exact⟨rfl,aD.err x (by simp[HU.out,aB,dH,HS.out,H12.out,H13.out,H14.out,HS2.out,hr]) hg⟩
       have H15:=hdq hr;clear hr;go_upto_region 16 with fail;refine wp_region_any (by kernel_rfl) ?_;change wpAny _ _ _ _ _ _ _ (World.drew _);have S16:=S15.drew;generalize World.drew w15=w16 at S16 ⊢;have:=TV.facts (S16.facts 0 rfl);refine tkA 0 ?_;refine tkA 2 ?_;refine tkA 3 ?_;refine rdA [1,4] ?_;refine cnA (fun Kx RZ=>?_) ?_
       ·go_simp;refine RZ _ _ ?_;clear RZ Kx;refine dG 4 fun Kx RZ=>?_;go_simp;refine RZ _ _ ?_;clear RZ Kx;refine dG 5 fun Kx RZ=>?_;have hM:=eI _ uI pb L 0 (mY (lk L)) (tC pb L hX) (oU (lk L)) 32 (by decide) (by decide) j15 (Nat.zero_le _) _ S16.ps;go_simp;refine(S16.pL hM).mono ?_;rintro e w17 (⟨x,hr,rfl,hg⟩|⟨l17,j17,o17,c17,hr,rfl,S17⟩)
        ·unfold pan;exact⟨rfl,aD.err x (by simp[HU.out,aB,dH,HS.out,H12.out,H13.out,H14.out,HS2.out,H15.out,hr]) hg⟩
        have H17:=hdq hr;clear hr;have:=TV.facts (S17.facts 0 rfl);refine RZ _ _ ?_;clear RZ Kx;refine dG 6 fun Kx RZ=>?_;go_simp;refine(S17.vO (Nat.le_trans (eW (by decide) H17.out) (by decide))).mono ?_;rintro e w18 ⟨a18,hl18,rfl,S18⟩;have:=TV.facts (S18.facts 0 rfl);obtain⟨_,_,_,_,_,_,_,_,_,_,_,_,_,_,_,_,_,_,_,_⟩:=CQ (S18.qI 1 rfl);refine RZ _ _ ?_;clear RZ Kx;refine tkA 7 ?_;refine dG 8 fun Kx RZ=>?_;go_simp;refine RZ _ _ ?_;clear RZ Kx;refine fX ?_;have S19:=((((S18.put 1 rfl 5 (.int .i64 40) (by simp)).put 1 rfl 6 (.int .i64 0) (by simp)).put 1 rfl 7 (.int .i64 a18) (by simp)).put 1 rfl 8 (.string ⟨#[]⟩) (by simp)).put 1 rfl 9 (.slice o17 l17.length c17) (by simp);go_upto_region 17 with fail;generalize World.setCell _ ⟨B4,9,none⟩ _=w19 at S19 ⊢;go_upto_block 17 with fail;refine(S19.dR sRP).mono ?_;rintro e w20 (⟨x,hr,rfl,hg⟩|⟨j20,hr,rfl,S20⟩)
        ·unfold pan;go_wp2_with fail;exact⟨rfl,aD.err x (by simp[HU.out,aB,dH,HS.out,H12.out,H13.out,H14.out,HS2.out,H15.out,H17.out,hr]) hg⟩
        have H20:=hdq hr;clear hr
        go_wp2
        go_meet
        case rel => exact ⟨gC l, gC l17, j20, _, _, _, _, _, _, _, _, _, _, _, _, _, _, ⟨S20.ok, S20.hp, S20.tv, S20.pw, fun p hp => S20.tr p (by
          rcases List.mem_cons.1 hp with rfl | hp
          · exact .tail _ (.head _)
          · rcases List.mem_cons.1 hp with rfl | hp
            · exact .head _
            · cases hp)⟩, by simp [HU.out, aB, dH, HS.out, H12.out, H13.out, H14.out, HS2.out, H15.out, H17.out, H20.out]⟩
       refine cnA (fun Kx RZ=>?_) AllReady.nil;go_simp;refine RZ _ _ ?_;clear RZ Kx;refine rdA [1,5] ?_;refine cnA (fun Kx RZ=>?_) ?_
       ·go_simp;refine RZ _ _ ?_;clear RZ Kx;refine dG 5 fun Kx RZ=>?_;have hM:=eI _ uI pb L 0 (mY (lk L)) (tC pb L hX) (oU (lk L)) 32 (by decide) (by decide) j15 (Nat.zero_le _) _ S16.ps;go_simp;refine(S16.pL hM).mono ?_;rintro e w17 (⟨x,hr,rfl,hg⟩|⟨l17,j17,o17,c17,hr,rfl,S17⟩)
        ·unfold pan;exact⟨rfl,aD.err x (by simp[HU.out,aB,dH,HS.out,H12.out,H13.out,H14.out,HS2.out,H15.out,hr]) hg⟩
        have H17:=hdq hr;clear hr;have:=TV.facts (S17.facts 0 rfl);refine RZ _ _ ?_;clear RZ Kx;refine dG 6 fun Kx RZ=>?_;go_simp;refine(S17.vO (Nat.le_trans (eW (by decide) H17.out) (by decide))).mono ?_;rintro e w18 ⟨a18,hl18,rfl,S18⟩;have:=TV.facts (S18.facts 0 rfl);obtain⟨_,_,_,_,_,_,_,_,_,_,_,_,_,_,_,_,_,_,_,_⟩:=CQ (S18.qI 1 rfl);refine RZ _ _ ?_;clear RZ Kx;refine tkA 7 ?_;refine dG 8 fun Kx RZ=>?_;go_simp;refine RZ _ _ ?_;clear RZ Kx;refine fX ?_;have S19:=((((S18.put 1 rfl 5 (.int .i64 40) (by simp)).put 1 rfl 6 (.int .i64 0) (by simp)).put 1 rfl 7 (.int .i64 a18) (by simp)).put 1 rfl 8 (.string ⟨#[]⟩) (by simp)).put 1 rfl 9 (.slice o17 l17.length c17) (by simp);go_upto_region 17 with fail;generalize World.setCell _ ⟨B4,9,none⟩ _=w19 at S19 ⊢;go_upto_block 17 with fail;refine(S19.dR sRP).mono ?_;rintro e w20 (⟨x,hr,rfl,hg⟩|⟨j20,hr,rfl,S20⟩)
        ·unfold pan;go_wp2_with fail;exact⟨rfl,aD.err x (by simp[HU.out,aB,dH,HS.out,H12.out,H13.out,H14.out,HS2.out,H15.out,H17.out,hr]) hg⟩
        have H20:=hdq hr;clear hr
        go_wp2
        go_meet
        case rel => exact ⟨gC l, gC l17, j20, _, _, _, _, _, _, _, _, _, _, _, _, _, _, ⟨S20.ok, S20.hp, S20.tv, S20.pw, fun p hp => S20.tr p (by
          rcases List.mem_cons.1 hp with rfl | hp
          · exact .tail _ (.head _)
          · rcases List.mem_cons.1 hp with rfl | hp
            · exact .head _
            · cases hp)⟩, by simp [HU.out, aB, dH, HS.out, H12.out, H13.out, H14.out, HS2.out, H15.out, H17.out, H20.out]⟩
       refine cnA (fun Kx RZ=>?_) AllReady.nil;have hM:=eI _ uI pb L 0 (mY (lk L)) (tC pb L hX) (oU (lk L)) 32 (by decide) (by decide) j15 (Nat.zero_le _) _ S16.ps;go_simp;refine(S16.pL hM).mono ?_;rintro e w17 (⟨x,hr,rfl,hg⟩|⟨l17,j17,o17,c17,hr,rfl,S17⟩)
       ·unfold pan;exact⟨rfl,aD.err x (by simp[HU.out,aB,dH,HS.out,H12.out,H13.out,H14.out,HS2.out,H15.out,hr]) hg⟩
       have H17:=hdq hr;clear hr;have:=TV.facts (S17.facts 0 rfl);refine RZ _ _ ?_;clear RZ Kx;refine rdA [1,6] ?_;refine cnA (fun Kx RZ=>?_) ?_
       ·go_simp;refine RZ _ _ ?_;clear RZ Kx;refine dG 6 fun Kx RZ=>?_;go_simp;refine(S17.vO (Nat.le_trans (eW (by decide) H17.out) (by decide))).mono ?_;rintro e w18 ⟨a18,hl18,rfl,S18⟩;have:=TV.facts (S18.facts 0 rfl);obtain⟨_,_,_,_,_,_,_,_,_,_,_,_,_,_,_,_,_,_,_,_⟩:=CQ (S18.qI 1 rfl);refine RZ _ _ ?_;clear RZ Kx;refine tkA 7 ?_;refine dG 8 fun Kx RZ=>?_;go_simp;refine RZ _ _ ?_;clear RZ Kx;refine fX ?_;have S19:=((((S18.put 1 rfl 5 (.int .i64 40) (by simp)).put 1 rfl 6 (.int .i64 0) (by simp)).put 1 rfl 7 (.int .i64 a18) (by simp)).put 1 rfl 8 (.string ⟨#[]⟩) (by simp)).put 1 rfl 9 (.slice o17 l17.length c17) (by simp);go_upto_region 17 with fail;generalize World.setCell _ ⟨B4,9,none⟩ _=w19 at S19 ⊢;go_upto_block 17 with fail;refine(S19.dR sRP).mono ?_;rintro e w20 (⟨x,hr,rfl,hg⟩|⟨j20,hr,rfl,S20⟩)
        ·unfold pan;go_wp2_with fail;exact⟨rfl,aD.err x (by simp[HU.out,aB,dH,HS.out,H12.out,H13.out,H14.out,HS2.out,H15.out,H17.out,hr]) hg⟩
        have H20:=hdq hr;clear hr
        go_wp2
        go_meet
        case rel => exact ⟨gC l, gC l17, j20, _, _, _, _, _, _, _, _, _, _, _, _, _, _, ⟨S20.ok, S20.hp, S20.tv, S20.pw, fun p hp => S20.tr p (by
          rcases List.mem_cons.1 hp with rfl | hp
          · exact .tail _ (.head _)
          · rcases List.mem_cons.1 hp with rfl | hp
            · exact .head _
            · cases hp)⟩, by simp [HU.out, aB, dH, HS.out, H12.out, H13.out, H14.out, HS2.out, H15.out, H17.out, H20.out]⟩
       refine cnA (fun Kx RZ=>?_) AllReady.nil;go_simp;refine(S17.vO (Nat.le_trans (eW (by decide) H17.out) (by decide))).mono ?_;rintro e w18 ⟨a18,hl18,rfl,S18⟩;have:=TV.facts (S18.facts 0 rfl);obtain⟨_,_,_,_,_,_,_,_,_,_,_,_,_,_,_,_,_,_,_,_⟩:=CQ (S18.qI 1 rfl);refine RZ _ _ ?_;clear RZ Kx;refine dG 1 fun Kx RZ=>?_;go_simp;refine RZ _ _ ?_;clear RZ Kx;refine tkA 7 ?_;refine dG 8 fun Kx RZ=>?_;go_simp;refine RZ _ _ ?_;clear RZ Kx;refine fX ?_;have S19:=((((S18.put 1 rfl 5 (.int .i64 40) (by simp)).put 1 rfl 6 (.int .i64 0) (by simp)).put 1 rfl 7 (.int .i64 a18) (by simp)).put 1 rfl 8 (.string ⟨#[]⟩) (by simp)).put 1 rfl 9 (.slice o17 l17.length c17) (by simp);go_upto_region 17 with fail;generalize World.setCell _ ⟨B4,9,none⟩ _=w19 at S19 ⊢;go_upto_block 17 with fail;refine(S19.dR sRP).mono ?_;rintro e w20 (⟨x,hr,rfl,hg⟩|⟨j20,hr,rfl,S20⟩)
       ·unfold pan;go_wp2_with fail;exact⟨rfl,aD.err x (by simp[HU.out,aB,dH,HS.out,H12.out,H13.out,H14.out,HS2.out,H15.out,H17.out,hr]) hg⟩
       have H20:=hdq hr;clear hr
       go_wp2
       go_meet
       case rel => exact ⟨gC l, gC l17, j20, _, _, _, _, _, _, _, _, _, _, _, _, _, _, ⟨S20.ok, S20.hp, S20.tv, S20.pw, fun p hp => S20.tr p (by
         rcases List.mem_cons.1 hp with rfl | hp
         · exact .tail _ (.head _)
         · rcases List.mem_cons.1 hp with rfl | hp
           · exact .head _
           · cases hp)⟩, by simp [HU.out, aB, dH, HS.out, H12.out, H13.out, H14.out, HS2.out, H15.out, H17.out, H20.out]⟩
   case rest=>
    clear S9;obtain⟨x,y,j',k1,n1,a1,s1,o1,m1,c1,k2,n2,a2,s2,o2,m2,c2,S9,hq⟩:=hcut;have HU:=hdq hq;clear hq;have:=TV.facts (S9.facts 0 rfl);go_upto_block 18 with fail;refine(S9.gX k n a wd (some ⟨B4,0,none⟩) 2 2).mono ?_;rintro e wz (⟨x,hr,rfl,hg⟩|⟨jz,hr,rfl,Sz⟩)
    ·unfold pan;go_wp2_with fail;exact⟨rfl,aD.err x (by simp[HU.out,aB,aG,hr]) hg⟩
    have Hz:=hdq hr;clear hr;have Sy:=Sz.RU (aW.two (Sz.tr _ (.head _)) (Sz.tr _ (.tail _ (.head _)))) k n a wd 2 2 rfl;have:=TV.facts (Sy.facts 1 rfl);go_wp2_with fail;have Sx:=Sy.bN 1 rfl k n a wd (.slice (some ⟨B4,0,none⟩) 2 2);refine rtv (Sx.facts 1 rfl) Tryz.results225 ?_;exact Sx.res (.head _) (by simp[HU.out,aB,aG,Hz.out]<;>rfl) rfl
theorem DX: ∀ args w,(callFunc 146 args).run Tryz.prog w=.ok (.enter 146 args) w:=
 enters_of Tryz.func146 (by decide) rfl
theorem kH: ∀ args w,(callFunc 52 args).run Tryz.prog w=.ok (.enter 52 args) w:=
 enters_of Tryz.func52 (by decide) rfl
theorem Nx(pb:Nat)(L:List T3)(hX:iC L)(a:Nat)(lab:ByteArray)(i:Nat)(w:World)(h:PS w pb L i):Calls Tryz.prog 196 #[pq pb,a,lab] w (aD pb L w (fO (lk L) 38 a (Cr (lk L)) i)):=by
 have HU:=hdq (show fO (lk L) 38 a (Cr (lk L)) i=fO (lk L) 38 a (Cr (lk L)) i from rfl);go_enter Tryz.func196,Tryz.ntmps196;go_upto_region 1 with fail;have S1:=SV.new h;generalize World.alloc w _=w1 at S1 ⊢;go_upto_block 1 with fail;refine(S1.aN (zR _ DX pb L hX (Cr (lk L)) (qO pb L) (nI (lk L)) 38 a i w1 S1.ps)).mono ?_;rintro e w3 (⟨x,hr,rfl,hg⟩|⟨t3,j3,k3,n3,a3,s3,o3,m3,c3,hr,rfl,S3⟩)
 ·unfold pan;go_wp2_with fail;exact⟨rfl,aD.err x (by simp[HU.out,aB,hr]) hg⟩
 have H3:=hdq hr;clear hr;have:=TV.facts (S3.facts 0 rfl);go_wp2_with fail;have S4:=S3.bN 0 rfl k3 n3 a3 s3 (.slice o3 m3 c3);refine rtv (S4.facts 0 rfl) Tryz.results196 ?_;exact S4.res (.head _) H3.out rfl
theorem NI(pb:Nat)(L:List T3)(hX:iC L)(a:Nat)(lab:ByteArray)(i:Nat)(w:World)(h:PS w pb L i):Calls Tryz.prog 197 #[pq pb,a,lab] w (aD pb L w (fO (lk L) 39 a (bM (lk L)) i)):=by
 have HU:=hdq (show fO (lk L) 39 a (bM (lk L)) i=fO (lk L) 39 a (bM (lk L)) i from rfl);go_enter Tryz.func197,Tryz.ntmps197;go_upto_region 1 with fail;have S1:=SV.new h;generalize World.alloc w _=w1 at S1 ⊢;go_upto_block 1 with fail;refine(S1.aN (zR _ kH pb L hX (bM (lk L)) (aV pb L) (bD (lk L)) 39 a i w1 S1.ps)).mono ?_;rintro e w3 (⟨x,hr,rfl,hg⟩|⟨t3,j3,k3,n3,a3,s3,o3,m3,c3,hr,rfl,S3⟩)
 ·unfold pan;go_wp2_with fail;exact⟨rfl,aD.err x (by simp[HU.out,aB,hr]) hg⟩
 have H3:=hdq hr;clear hr;have:=TV.facts (S3.facts 0 rfl);go_wp2_with fail;have S4:=S3.bN 0 rfl k3 n3 a3 s3 (.slice o3 m3 c3);refine rtv (S4.facts 0 rfl) Tryz.results197 ?_;exact S4.res (.head _) H3.out rfl
theorem IG(pb:Nat)(L:List T3)(label:ByteArray)(i:Nat)(w:World)(h:PS w pb L i):Calls Tryz.prog 138 #[pq pb,label] w (mL pb L w (Cs (lk L) label i)):=by
 have HU:=hdq (show Cs (lk L) label i=aB (gU (lk L) i [GP]) fun _ j=>aM (lk L) (if label.size≠0∧wrd (lk L) j [label]=true then j+1 else j) aS from rfl);have S1:=SV.begin h;go_enter Tryz.func138,Tryz.ntmps138;go_upto_block 0 with fail;refine(S1.pI [GP] (by simp) _ rfl 1 rfl).mono ?_;rintro e w2 (⟨x,hr,rfl,hg⟩|⟨j2,hr,rfl,S2⟩)
 ·unfold pan;go_wp2_with fail;exact⟨rfl,mL.err x (by simp[HU.out,aB,hr]) hg⟩
 have H1:=hdq hr;clear hr
 by_cases hl:label=⟨#[]⟩
 ·subst hl;have HE:=hdq (show Cs (lk L) ⟨#[]⟩ i=aM (lk L) j2 aS by rw[HU.out,H1.out];show aM (lk L) (if _ then _ else _) aS=_;rw[if_neg (fun h=>h.1 rfl)]);go_upto_block 3 with fail;refine(S2.dR aS).mono ?_;rintro e w3 (⟨x,hr,rfl,hg⟩|⟨j3,hr,rfl,S3⟩)
  ·unfold pan;go_wp2_with fail;exact⟨rfl,mL.err x (by rw[HE.out,hr]) hg⟩
  have H3:=hdq hr;clear hr
  go_wp2
  go_end0;exact mL.ok (by rw[HE.out,H3.out]) S3.ok
 ·have hs1:(label.toList == [])=false:=beq_eq_false_iff_ne.2 fun e=>hl (by rw[← kK,e,ByteArray.toList_eq])
  have hs2:decide (label=⟨#[]⟩)=false:=decide_eq_false hl
  have hsz : label.size ≠ 0 := fun e => hl (by
    obtain ⟨⟨d⟩⟩ := label
    have : d.length = 0 := e
    rw [List.length_eq_zero_iff] at this
    rw [this])
  have HS:=hdq hsz;clear hsz hl
  cases hw:wrd (lk L) j2 [label] with
  | true=>
   have HE:=hdq (show Cs (lk L) label i=aM (lk L) (j2+1) aS by rw[HU.out,H1.out];show aM (lk L) (if _ then _ else _) aS=_;rw[if_pos ⟨HS.out,hw⟩]);have hC:=S2.ED [label] (by simp) #[.string label] rfl 1 rfl hw;clear hw;go_upto_block 3 with (go_at_call 136;refine hC.mono ?_;rintro e w3 ⟨rfl,S3⟩);refine(S3.dR aS).mono ?_;rintro e w4 (⟨x,hr,rfl,hg⟩|⟨j4,hr,rfl,S4⟩)
   ·unfold pan;go_wp2_with fail;exact⟨rfl,mL.err x (by rw[HE.out,hr]) hg⟩
   have H4:=hdq hr;clear hr
   go_wp2
   go_end0;exact mL.ok (by rw[HE.out,H4.out]) S4.ok
  | false=>
   have HE:=hdq (show Cs (lk L) label i=aM (lk L) j2 aS by rw[HU.out,H1.out];show aM (lk L) (if _ then _ else _) aS=_;rw[if_neg (fun h=>by rw[hw]at h;cases h.2)]);have hC:=S2.Ev [label] (by simp) #[.string label] rfl 1 rfl hw;clear hw;go_upto_block 3 with (go_at_call 136;refine hC.mono ?_;rintro e w3 ⟨rfl,S3⟩);refine(S3.dR aS).mono ?_;rintro e w4 (⟨x,hr,rfl,hg⟩|⟨j4,hr,rfl,S4⟩)
   ·unfold pan;go_wp2_with fail;exact⟨rfl,mL.err x (by rw[HE.out,hr]) hg⟩
   have H4:=hdq hr;clear hr
   go_wp2
   go_end0;exact mL.ok (by rw[HE.out,H4.out]) S4.ok
theorem nR(L:List Tk)(stmt:Nat→R T)(label:ByteArray)(f:Nat)(acc:List T)(i:Nat):fJ L stmt label (f+1) acc i =
 if keyword L i [GP]then aB (Cs L label i) fun _ j=>.ok (acc,j)else aB (stmt i) fun x j=>fJ L stmt label f (acc++[x]) j:=by conv=>lhs;unfold fJ
theorem fR(pb:Nat)(L:List T3)(lo:Nat)(stmt:Nat→R T)(hS:Reads 53 pb L lo stmt)(up:∀ i,Up (i+1) (stmt i))(label:ByteArray)(i:Nat)(hi:lo≤i)(w:World)(h:PS w pb L i):Calls Tryz.prog 100 #[pq pb,label] w (kS pb L w (fF (lk L) stmt label i)):=by
 have HU:=hdq (show fF (lk L) stmt label i=fJ (lk L) stmt label ((lk L).length+1) [] i from rfl);have hpl:=h.lt;have hbd:=h.bd;have hle:=h.le;go_enter Tryz.func100,Tryz.ntmps100;go_upto_region 2 with fail
 go_loopg [5] (L.length - i) (fun g v wr=>∃ (l:List T) (jj q:Nat),Lst w wr v l∧Ok pb L jj w wr∧i≤jj∧g=L.length - jj∧L.length+1≤q+jj∧l.length+i≤jj∧fF (lk L) stmt label i=fJ (lk L) stmt label q l jj)
 case atStart=>exact⟨[],i,L.length+1,Lst.nil w w,⟨aF _ (Below.refl _ _),h⟩,Nat.le_refl _,rfl,by omega,by simp,by rw[HU.out,List.length_map]⟩
 case round=>
  obtain⟨l,jj,q,hL,hO,hij,hg,hq0,hlen,hq⟩:=hrel;have HQ:=hdq hq;have HG:=hdq hg;clear hq hg HU;obtain⟨bo,cap,rfl⟩:=hL.form;have hjL:=hO.2.le;obtain⟨q,rfl⟩:∃ q',q=q'+1:=⟨q - 1,by omega⟩
  have S0:=SV.begin hO.2
  cases hs:keyword (lk L) jj [GP] with
  | true=>
   have HQ2:=hdq (show fF (lk L) stmt label i=aB (Cs (lk L) label jj) fun _ j=>.ok (l,j)by rw[HQ.out,nR,if_pos hs]);have hC:=S0.kwC [GP] (by simp) #[.string ⟨#[69,78,68]⟩] rfl 1 rfl true hs;clear HQ hs;go_upto_block 4 with (go_at_call 137;refine hC.mono ?_;rintro e w3 ⟨rfl,S3⟩);refine(S3.Me (IG pb L label jj w3 S3.ps)).mono ?_;rintro e w4 (⟨x,hr,rfl,hg⟩|⟨j4,hr,rfl,S4⟩)
   ·unfold pan;go_wp2_with fail;exact⟨rfl,kS.err x (by rw[HQ2.out,hr];rfl) (hO.1.trans hg)⟩
   have H4:=hdq hr;clear hr;go_wp2_with fail;go_ret;exact kS.ok (by rw[HQ2.out,H4.out];rfl) (hL.step hpl S4.ok.1) (hO.trans S4.ok)
  | false=>
   have HQ2:=hdq (show fF (lk L) stmt label i=aB (stmt jj) fun x j=>fJ (lk L) stmt label q (l++[x]) j by rw[HQ.out,nR,if_neg (by rw[hs];decide)]);have hC:=S0.kwC [GP] (by simp) #[.string ⟨#[69,78,68]⟩] rfl 1 rfl false hs;clear HQ hs;go_upto_block 3 with (go_at_call 137;refine hC.mono ?_;rintro e w3 ⟨rfl,S3⟩);have hO3:=hO.trans S3.ok;have hL3:=hL.step hpl S3.ok.1;refine(hS jj w3 (by omega) S3.ps).mono ?_;intro e w4 hp
   rcases hp.split with ⟨t',j',k',n',a',s',ao',m',c',hr1,rfl,ht,hok⟩|⟨a',hr1,rfl,hg4⟩
   ·have hL4:=hL3.step hpl hok.1;have ht4:=TrC.beside hL3 hO3.1.size ht;have hO4:=hO3.trans hok;have hj':jj+1≤j':=up jj t' j' hr1;have hjl':=hok.2.le;have HQ3:=hdq (show fF (lk L) stmt label i=fJ (lk L) stmt label q (l++[t']) j' by rw[HQ2.out,hr1];rfl);clear HQ2 hr1 hp hL3 hO3 hok ht S3 hC;go_wp2_with (at_builtin;go_loud (refine fL rfl _ _ rfl w w4 (.slice bo l.length cap) l rfl hL4 t' (vT k' n' a' s' ao' m' c') ht4 rfl ?dd1 ?dd2 ?_))
    case dd1=>exact hO4.1.size
    case dd2=>omega
    intro v5 w5 hL5 hb5;have hO5:=hO4.new hpl hb5;clear hL4 ht4 hO4;go_wp2_with fail
    go_roundg (L.length - j')
    case measure=>rw[HG.out];omega
    case rel=>exact⟨l++[t'],j',q,hL5,hO5,by omega,rfl,by omega,by rw[List.length_append];simp;omega,HQ3.out⟩
   ·unfold pan;go_wp2_with fail;exact⟨rfl,kS.err a' (by rw[HQ2.out,hr1];rfl) (hO3.1.trans hg4)⟩
theorem nS{L:List Tk}{stmt:Nat→R T}{label:ByteArray}(up:∀ i,Up (i+1) (stmt i)):∀ (f:Nat) (acc:List T) (i:Nat) (l:List T) (j:Nat),fJ L stmt label f acc i=.ok (l,j)→l.length+i≤acc.length+j:=by
 intro f
 induction f with
 | zero=>intro acc i l j h;unfold fJ at h;cases h
 | succ f ih=>
  intro acc i l j h;rw[nR]at h
  split at h
  ·cases hr:Cs L label i with
   | error a=>rw[hr]at h;cases h
   | ok xj=>
    obtain⟨x,j1⟩:=xj;rw[hr]at h
    cases h
    have:=xE L label i _ _ hr;omega
  ·cases hr:stmt i with
   | error a=>rw[hr]at h;cases h
   | ok xj=>
    obtain⟨x,j1⟩:=xj;rw[hr]at h;have h1:=ih _ _ _ _ h;have h2:=up i _ _ hr;rw[List.length_append]at h1
    simp at h1;omega
theorem dY{L:List Tk}{stmt:Nat→R T}{label:ByteArray}(up:∀ i,Up (i+1) (stmt i)){i:Nat}{l:List T}{j:Nat}(h:fF L stmt label i=.ok (l,j)):l.length≤j:=by
 have:=nS up _ _ _ _ _ h
 simp at this;omega
theorem Hd(pb:Nat)(L:List T3)(lo:Nat)(stmt:Nat→R T)(hS:Reads 53 pb L lo stmt)(up:∀ i,Up (i+1) (stmt i))(a:Nat)(lab:ByteArray)(i:Nat)(hi:lo≤i)(w:World)(h:PS w pb L i):Calls Tryz.prog 180 #[pq pb,a,lab] w (aD pb L w (aB (aM (lk L) i aS) fun _ j=>aB (fF (lk L) stmt lab j) fun g j1=>.ok (node 16 a g,j1))):=by
 have HU:=hdq (show (aB (aM (lk L) i aS) fun _ j=>aB (fF (lk L) stmt lab j) fun g j1=>.ok (node 16 a g,j1))=(aB (aM (lk L) i aS) fun _ j=>aB (fF (lk L) stmt lab j) fun g j1=>.ok (node 16 a g,j1):R T)from rfl);go_enter Tryz.func180,Tryz.ntmps180;go_upto_region 1 with fail;have S1:=SV.new h;generalize World.alloc w _=w1 at S1 ⊢;go_upto_block 1 with fail;refine(S1.dR aS).mono ?_;rintro e w2 (⟨x,hr,rfl,hg⟩|⟨j2,hr,rfl,S2⟩)
 ·unfold pan;go_wp2_with fail;exact⟨rfl,aD.err x (by simp[HU.out,aB,hr]) hg⟩
 have H2:=hdq hr;clear hr;have hj2:=aK (lk L) i aS _ _ H2.out;go_upto_block 2 with fail;refine(S2.pL (fR pb L lo stmt hS up lab j2 (by omega) w2 S2.ps)).mono ?_;rintro e w3 (⟨x,hr,rfl,hg⟩|⟨l3,j3,o3,c3,hr,rfl,S3⟩)
 ·unfold pan;go_wp2_with fail;exact⟨rfl,aD.err x (by simp[HU.out,aB,H2.out,hr]) hg⟩
 have H3:=hdq hr;clear hr;go_upto_block 2 with fail;refine m2q (S3.dI 16 a) fun w4 S4=>?_;have:=TV.facts (S4.facts 0 rfl);go_wp2_with fail;have S5:=S4.bN 0 rfl (.int .i64 16) (.int .i64 0) a (.string ⟨#[]⟩) (.slice o3 l3.length c3);refine rtv (S5.facts 0 rfl) Tryz.results180 ?_;exact S5.res (.head _) (by simp[HU.out,aB,H2.out,H3.out]<;>rfl) rfl
end
end Go.Proofs.YtfdlmcgcckkkdaaGreatDoor
