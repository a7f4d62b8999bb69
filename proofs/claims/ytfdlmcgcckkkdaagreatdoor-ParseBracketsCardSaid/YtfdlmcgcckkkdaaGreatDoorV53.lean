/- ParseBrackets, part 53: what it stands on. -/
import Derived.Test.YtfdlmcgcckkkdaaGreatDoorV52
import Derived.Test.YtfdlmcgcckkkdaaGreatDoorV50
import Derived.Test.YtfdlmcgcckkkdaaGreatDoorV51
set_option linter.all false
set_option maxHeartbeats 40000000
set_option maxRecDepth 100000
namespace Go.Proofs.YtfdlmcgcckkkdaaGreatDoor
section
open Go.RowKit Lx Px
theorem Vz(wB:World)(a:Int)(x y:T)(hx:Cb wB x)(hy:Cb wB y)(hl:(sV (.mk 4 0 a e0 [x,y])).length≤100000):Cb wB (.mk 4 0 a e0 [x,y]):=by
 intro w low k n' a' s' ao m c ht;obtain⟨rfl,rfl,rfl,rfl,rfl⟩:=ht.lit;have hu:sV (.mk 4 0 a' e0 [x,y])=sV x++O hJ::sV y:=by rw[tT];rfl
 rw[hu]at hl;have HU:=hdq hu;obtain⟨ao1,c1',vs1,e,hTs,hrow⟩:=eF.tree (rv:=[]) low ht;obtain⟨b,off,rfl,hblt,hcell⟩:=hrow (by intro e;cases e);simp only[Value.slice.injEq,true_and,T.l]at e
 obtain⟨rfl,rfl⟩:=e;have hblt:b<w.heap.size:=hblt.elim (fun h=>Nat.lt_of_lt_of_le h low.size) fun⟨_,h⟩=>(nomatch h)
 obtain⟨kx,nx,ax,sx,ox,mx,cx,hTx,d0,d1,d2,d3,d4⟩:=Tr.elem hTs hcell 0 (by simp[T.l]);simp only[Nat.zero_mul,Nat.one_mul,Nat.add_zero]at d0 d1 d2 d3 d4
 have Ex:El w b off kx nx ax sx ox mx cx:=⟨d0,d1,d2,d3,d4⟩
 clear d0 d1 d2 d3 d4;have HX:=hdq fun (W:World) (hb:Below wB.heap.size wB W)=>hx W hb kx nx ax sx ox mx cx hTx
 obtain⟨ky,ny,ay,sy,oy,my,cy,hTy,d0,d1,d2,d3,d4⟩:=Tr.elem hTs hcell 1 (by simp[T.l]);simp only[Nat.zero_mul,Nat.one_mul,Nat.add_zero]at d0 d1 d2 d3 d4
 have Ey1:El w b (off+5) ky ny ay sy oy my cy:=⟨d0,d1,d2,d3,d4⟩
 clear d0 d1 d2 d3 d4;have HY1:=hdq fun (W:World) (hb:Below wB.heap.size wB W)=>hy W hb ky ny ay sy oy my cy hTy
 clear hx hy ht hu hTs hrow hcell hTx hTy;have b1:=aC w (.cells (tg 4 0 a' e0 (some ⟨b,off,none⟩) 2 c) 24);have t1:=TV.new w (.int .i64 4) (.int .i64 0) a' e0 (.slice (some ⟨b,off,none⟩) 2 c);change Calls Tryz.prog 38 #[tg 4 0 a' e0 (some ⟨b,off,none⟩) 2 c] w _;go_enter Tryz.func38,Tryz.ntmps38;go_upto_region 1 with fail;generalize World.alloc w _=w1 at b1 t1 ⊢;have Ex:=Ex.below b1 hblt;have Ey1:=Ey1.below b1 hblt;have hblt1:=Nat.lt_of_lt_of_le hblt b1.size;have KT:=hdq fun (W:World) (ps:List (Value×List Tk)) (S:GSt wB w1 W ps)=>t1.below S.low
 have KX1:=hdq fun (W:World) (ps:List (Value×List Tk)) (S:GSt wB w1 W ps)=>Ex.below S.low hblt1
 have KY1:=hdq fun (W:World) (ps:List (Value×List Tk)) (S:GSt wB w1 W ps)=>Ey1.below S.low hblt1
 have S1:GSt wB w1 w1 []:=⟨low.trans (b1.mono low.size),Below.refl _ _,fun _ h=>(nomatch h)⟩
 clear Ex Ey1 hblt hblt1;have:=TV.facts t1;go_upto_region 26 with fail;have Sq:=S1.drew;refine wp_region_held_drew (S:=(fun w'=>TV w' w.heap.size (.int .i64 4) (.int .i64 0) a' e0 (.slice (some ⟨b,off,none⟩) 2 c)∧(w'.cell? ⟨b,off,none⟩=some (.int .i64 kx)∧w'.cell? ⟨b,off+1,none⟩=some (.int .i64 nx)∧w'.cell? ⟨b,off+2,none⟩=some (.int .i64 ax)∧w'.cell? ⟨b,off+3,none⟩=some (.string sx)∧w'.cell? ⟨b,off+4,none⟩=some (.slice ox mx cx))∧(w'.cell? ⟨b,off+5,none⟩=some (.int .i64 ky)∧w'.cell? ⟨b,off+5+1,none⟩=some (.int .i64 ny)∧w'.cell? ⟨b,off+5+2,none⟩=some (.int .i64 ay)∧w'.cell? ⟨b,off+5+3,none⟩=some (.string sy)∧w'.cell? ⟨b,off+5+4,none⟩=some (.slice oy my cy)))) (by kernel_rfl) ⟨KT.out _ _ Sq,KX1.out _ _ Sq,KY1.out _ _ Sq⟩ (fun RY=>?_);generalize World.drew w1=wD at *
 repeat' first
  | ((with_reducible refine isH ?_)
     first
       | (refine Nn ?_
          go_wp2_with fail
          go_ret
          exact ⟨_, rfl, by rw [HU.out]; exact (Sq.src _ (.head _)).mono b1.size, b1.trans (Sq.low.mono b1.size)⟩)
       | refine DO 0 ?_
       | refine DO 1 ?_
       | refine DO 2 ?_
       | refine DO 3 ?_
       | refine DO 7 ?_
       | refine DO 8 ?_
       | refine DO 9 ?_
       | refine DO 10 ?_
       | refine DO 14 ?_
       | refine DU [4] ?_
       | refine DU [5] ?_
       | refine DU [6, 11] ?_
       | refine DU [11] ?_
       | refine DU [12] ?_
       | refine DU [13] ?_
       | refine DU [6] ?_)
  | ((with_reducible refine arH ?_);first|exact AllReadyH.nil|refine cnH (fun Kx RZ=>?_) ?_)
  | (go_simp
     first
       | (go_at_call 38
          refine Calls.mono (by with_reducible exact Sq.call (HX.out _ Sq.base)) ?_
          rintro e wx ⟨px, lx, qx, rfl, Sq⟩
          refine goH RZ ⟨KT.out _ _ Sq, KX1.out _ _ Sq, KY1.out _ _ Sq⟩ fun RY => ?_
          clear RZ Kx)
       | (go_at_call 75
          refine m2q (Sq.sign _) fun wS1 Sq => ?_
          refine goH RZ ⟨KT.out _ _ Sq, KX1.out _ _ Sq, KY1.out _ _ Sq⟩ fun RY => ?_
          clear RZ Kx)
       | (have Sq := Sq.build ⟨#[45, 62]⟩
          refine goH RZ ⟨KT.out _ _ Sq, KX1.out _ _ Sq, KY1.out _ _ Sq⟩ fun RY => ?_
          clear RZ Kx
          generalize World.alloc _ (.cells #[.int .i64 6, .string ⟨#[45, 62]⟩, .int .i64 0] 43) = wE at Sq RY ⊢
          generalize (World.heap _).size = BE at Sq ⊢)
       | (go_at_call 38
          refine Calls.mono (by with_reducible exact Sq.call (HY1.out _ Sq.base)) ?_
          rintro e wy ⟨py, ly, qy, rfl, Sq⟩
          refine goH RZ ⟨KT.out _ _ Sq, KX1.out _ _ Sq, KY1.out _ _ Sq⟩ fun RY => ?_
          clear RZ Kx)
       | (obtain ⟨Sq, hrow⟩ := Sq.row (a := sV x) (b := [O hJ]) (c := sV y) Je Je Je
          refine goH RZ ⟨KT.out _ _ Sq, KX1.out _ _ Sq, KY1.out _ _ Sq⟩ fun RY => ?_
          clear RZ Kx)
       | (go_at_call 76
          refine (Sq.cat (a := sV x) (b := [O hJ]) (c := sV y) hrow Je Je Je (by simp only [List.length_cons, List.length_append, List.length_nil] at hl ⊢; omega)).mono ?_
          rintro e wG ⟨vG1, rfl, Sq⟩
          refine goH RZ ⟨KT.out _ _ Sq, KX1.out _ _ Sq, KY1.out _ _ Sq⟩ fun RY => ?_
          clear RZ Kx))
theorem Wf(wB:World)(a:Int)(s:ByteArray)(x:T)(hx:BrC wB x)(hl:(sV (.mk 5 0 a s [x])).length≤100000)(hv:0<(brT x).length):Cb wB (.mk 5 0 a s [x]):=by
 intro w low k n' a' s' ao m c ht;obtain⟨rfl,rfl,rfl,rfl,rfl⟩:=ht.lit;have hu:sV (.mk 5 0 a' s' [x])=O s'::brT x:=by rw[tT];rfl
 rw[hu]at hl;have HU:=hdq hu;obtain⟨ao1,c1',vs1,e,hTs,hrow⟩:=eF.tree (rv:=[]) low ht;obtain⟨b,off,rfl,hblt,hcell⟩:=hrow (by intro e;cases e);simp only[Value.slice.injEq,true_and,T.l]at e
 obtain⟨rfl,rfl⟩:=e;have hblt:b<w.heap.size:=hblt.elim (fun h=>Nat.lt_of_lt_of_le h low.size) fun⟨_,h⟩=>(nomatch h)
 obtain⟨kx,nx,ax,sx,ox,mx,cx,hTx,d0,d1,d2,d3,d4⟩:=Tr.elem hTs hcell 0 (by simp[T.l]);simp only[Nat.zero_mul,Nat.one_mul,Nat.add_zero]at d0 d1 d2 d3 d4
 have Ex:El w b off kx nx ax sx ox mx cx:=⟨d0,d1,d2,d3,d4⟩
 clear d0 d1 d2 d3 d4;have HX:=hdq fun (W:World) (hb:Below wB.heap.size wB W)=>hx W hb kx nx ax sx ox mx cx hTx
 clear hx ht hu hTs hrow hcell hTx;have b1:=aC w (.cells (tg 5 0 a' s' (some ⟨b,off,none⟩) 1 c) 24);have t1:=TV.new w (.int .i64 5) (.int .i64 0) a' s' (.slice (some ⟨b,off,none⟩) 1 c);change Calls Tryz.prog 38 #[tg 5 0 a' s' (some ⟨b,off,none⟩) 1 c] w _;go_enter Tryz.func38,Tryz.ntmps38;go_upto_region 1 with fail;generalize World.alloc w _=w1 at b1 t1 ⊢;have Ex:=Ex.below b1 hblt;have hblt1:=Nat.lt_of_lt_of_le hblt b1.size;have KT:=hdq fun (W:World) (ps:List (Value×List Tk)) (S:GSt wB w1 W ps)=>t1.below S.low
 have KX1:=hdq fun (W:World) (ps:List (Value×List Tk)) (S:GSt wB w1 W ps)=>Ex.below S.low hblt1
 have S1:GSt wB w1 w1 []:=⟨low.trans (b1.mono low.size),Below.refl _ _,fun _ h=>(nomatch h)⟩
 clear Ex hblt hblt1;have:=TV.facts t1;go_upto_region 28 with fail;have Sq:=S1.drew;refine wp_region_held_drew (S:=(fun w'=>TV w' w.heap.size (.int .i64 5) (.int .i64 0) a' s' (.slice (some ⟨b,off,none⟩) 1 c)∧(w'.cell? ⟨b,off,none⟩=some (.int .i64 kx)∧w'.cell? ⟨b,off+1,none⟩=some (.int .i64 nx)∧w'.cell? ⟨b,off+2,none⟩=some (.int .i64 ax)∧w'.cell? ⟨b,off+3,none⟩=some (.string sx)∧w'.cell? ⟨b,off+4,none⟩=some (.slice ox mx cx)))) (by kernel_rfl) ⟨KT.out _ _ Sq,KX1.out _ _ Sq⟩ (fun RY=>?_);generalize World.drew w1=wD at *
 repeat' first
  | ((with_reducible refine isH ?_)
     first
       | (refine Nn ?_
          go_wp2_with fail
          go_ret
          exact ⟨_, rfl, by rw [HU.out]; exact (Sq.src _ (.head _)).mono b1.size, b1.trans (Sq.low.mono b1.size)⟩)
       | refine DO 0 ?_
       | refine DO 1 ?_
       | refine DO 4 ?_
       | refine DO 5 ?_
       | refine DO 6 ?_
       | refine DO 7 ?_
       | refine DO 10 ?_
       | refine DU [2] ?_
       | refine DU [3, 8] ?_
       | refine DU [8] ?_
       | refine DU [9] ?_
       | refine DU [3] ?_)
  | ((with_reducible refine arH ?_);first|exact AllReadyH.nil|refine cnH (fun Kx RZ=>?_) ?_)
  | (refine Sq.app (aSq := [O s']) (bs := brT x) Je Je hv (by simp only [List.length_cons, List.length_append, List.length_nil] at hl ⊢; omega) rfl (.tmp 96) (.tmp 101) rfl rfl rfl (fun vG1 wG Sq => ?_)
     refine goH RZ ⟨KT.out _ _ Sq, KX1.out _ _ Sq⟩ fun RY => ?_
     clear RZ Kx)
  | (go_simp
     first
       | (go_at_call 75
          refine m2q (Sq.sign _) fun wS1 Sq => ?_
          refine goH RZ ⟨KT.out _ _ Sq, KX1.out _ _ Sq⟩ fun RY => ?_
          clear RZ Kx)
       | (have Sq := Sq.build s'
          refine goH RZ ⟨KT.out _ _ Sq, KX1.out _ _ Sq⟩ fun RY => ?_
          clear RZ Kx
          generalize World.alloc _ (.cells #[.int .i64 6, .string s', .int .i64 0] 43) = wE at Sq RY ⊢
          generalize (World.heap _).size = BE at Sq ⊢)
       | (go_at_call 39
          refine Calls.mono (by with_reducible exact Sq.call (HX.out _ Sq.base)) ?_
          rintro e wx ⟨px, lx, qx, rfl, Sq⟩
          refine goH RZ ⟨KT.out _ _ Sq, KX1.out _ _ Sq⟩ fun RY => ?_
          clear RZ Kx))
theorem Vv(wB:World)(a:Int)(s:ByteArray)(x y:T)(hx:BrC wB x)(hy:BrC wB y)(hl:(sV (.mk 6 0 a s [x,y])).length≤100000):Cb wB (.mk 6 0 a s [x,y]):=by
 intro w low k n' a' s' ao m c ht;obtain⟨rfl,rfl,rfl,rfl,rfl⟩:=ht.lit;have hu:sV (.mk 6 0 a' s' [x,y])=brT x++O s'::brT y:=by rw[tT];rfl
 rw[hu]at hl;have HU:=hdq hu;obtain⟨ao1,c1',vs1,e,hTs,hrow⟩:=eF.tree (rv:=[]) low ht;obtain⟨b,off,rfl,hblt,hcell⟩:=hrow (by intro e;cases e);simp only[Value.slice.injEq,true_and,T.l]at e
 obtain⟨rfl,rfl⟩:=e;have hblt:b<w.heap.size:=hblt.elim (fun h=>Nat.lt_of_lt_of_le h low.size) fun⟨_,h⟩=>(nomatch h)
 obtain⟨kx,nx,ax,sx,ox,mx,cx,hTx,d0,d1,d2,d3,d4⟩:=Tr.elem hTs hcell 0 (by simp[T.l]);simp only[Nat.zero_mul,Nat.one_mul,Nat.add_zero]at d0 d1 d2 d3 d4
 have Ex:El w b off kx nx ax sx ox mx cx:=⟨d0,d1,d2,d3,d4⟩
 clear d0 d1 d2 d3 d4;have HX:=hdq fun (W:World) (hb:Below wB.heap.size wB W)=>hx W hb kx nx ax sx ox mx cx hTx
 obtain⟨ky,ny,ay,sy,oy,my,cy,hTy,d0,d1,d2,d3,d4⟩:=Tr.elem hTs hcell 1 (by simp[T.l]);simp only[Nat.zero_mul,Nat.one_mul,Nat.add_zero]at d0 d1 d2 d3 d4
 have Ey1:El w b (off+5) ky ny ay sy oy my cy:=⟨d0,d1,d2,d3,d4⟩
 clear d0 d1 d2 d3 d4;have HY1:=hdq fun (W:World) (hb:Below wB.heap.size wB W)=>hy W hb ky ny ay sy oy my cy hTy
 clear hx hy ht hu hTs hrow hcell hTx hTy;have b1:=aC w (.cells (tg 6 0 a' s' (some ⟨b,off,none⟩) 2 c) 24);have t1:=TV.new w (.int .i64 6) (.int .i64 0) a' s' (.slice (some ⟨b,off,none⟩) 2 c);change Calls Tryz.prog 38 #[tg 6 0 a' s' (some ⟨b,off,none⟩) 2 c] w _;go_enter Tryz.func38,Tryz.ntmps38;go_upto_region 1 with fail;generalize World.alloc w _=w1 at b1 t1 ⊢;have Ex:=Ex.below b1 hblt;have Ey1:=Ey1.below b1 hblt;have hblt1:=Nat.lt_of_lt_of_le hblt b1.size;have KT:=hdq fun (W:World) (ps:List (Value×List Tk)) (S:GSt wB w1 W ps)=>t1.below S.low
 have KX1:=hdq fun (W:World) (ps:List (Value×List Tk)) (S:GSt wB w1 W ps)=>Ex.below S.low hblt1
 have KY1:=hdq fun (W:World) (ps:List (Value×List Tk)) (S:GSt wB w1 W ps)=>Ey1.below S.low hblt1
 have S1:GSt wB w1 w1 []:=⟨low.trans (b1.mono low.size),Below.refl _ _,fun _ h=>(nomatch h)⟩
 clear Ex Ey1 hblt hblt1;have:=TV.facts t1;go_upto_region 30 with fail;have Sq:=S1.drew;refine wp_region_held_drew (S:=(fun w'=>TV w' w.heap.size (.int .i64 6) (.int .i64 0) a' s' (.slice (some ⟨b,off,none⟩) 2 c)∧(w'.cell? ⟨b,off,none⟩=some (.int .i64 kx)∧w'.cell? ⟨b,off+1,none⟩=some (.int .i64 nx)∧w'.cell? ⟨b,off+2,none⟩=some (.int .i64 ax)∧w'.cell? ⟨b,off+3,none⟩=some (.string sx)∧w'.cell? ⟨b,off+4,none⟩=some (.slice ox mx cx))∧(w'.cell? ⟨b,off+5,none⟩=some (.int .i64 ky)∧w'.cell? ⟨b,off+5+1,none⟩=some (.int .i64 ny)∧w'.cell? ⟨b,off+5+2,none⟩=some (.int .i64 ay)∧w'.cell? ⟨b,off+5+3,none⟩=some (.string sy)∧w'.cell? ⟨b,off+5+4,none⟩=some (.slice oy my cy)))) (by kernel_rfl) ⟨KT.out _ _ Sq,KX1.out _ _ Sq,KY1.out _ _ Sq⟩ (fun RY=>?_);generalize World.drew w1=wD at *
 repeat' first
  | ((with_reducible refine isH ?_)
     first
       | (refine Nn ?_
          go_wp2_with fail
          go_ret
          exact ⟨_, rfl, by rw [HU.out]; exact (Sq.src _ (.head _)).mono b1.size, b1.trans (Sq.low.mono b1.size)⟩)
       | refine DO 0 ?_
       | refine DO 1 ?_
       | refine DO 2 ?_
       | refine DO 3 ?_
       | refine DO 5 ?_
       | refine DO 6 ?_
       | refine DO 9 ?_
       | refine DO 10 ?_
       | refine DO 11 ?_
       | refine DO 12 ?_
       | refine DO 16 ?_
       | refine DU [4] ?_
       | refine DU [7] ?_
       | refine DU [8, 13] ?_
       | refine DU [13] ?_
       | refine DU [14] ?_
       | refine DU [15] ?_
       | refine DU [8] ?_)
  | ((with_reducible refine arH ?_);first|exact AllReadyH.nil|refine cnH (fun Kx RZ=>?_) ?_)
  | (go_simp
     first
       | (go_at_call 39
          refine Calls.mono (by with_reducible exact Sq.call (HX.out _ Sq.base)) ?_
          rintro e wx ⟨px, lx, qx, rfl, Sq⟩
          refine goH RZ ⟨KT.out _ _ Sq, KX1.out _ _ Sq, KY1.out _ _ Sq⟩ fun RY => ?_
          clear RZ Kx)
       | (go_at_call 75
          refine m2q (Sq.sign _) fun wS1 Sq => ?_
          refine goH RZ ⟨KT.out _ _ Sq, KX1.out _ _ Sq, KY1.out _ _ Sq⟩ fun RY => ?_
          clear RZ Kx)
       | (have Sq := Sq.build s'
          refine goH RZ ⟨KT.out _ _ Sq, KX1.out _ _ Sq, KY1.out _ _ Sq⟩ fun RY => ?_
          clear RZ Kx
          generalize World.alloc _ (.cells #[.int .i64 6, .string s', .int .i64 0] 43) = wE at Sq RY ⊢
          generalize (World.heap _).size = BE at Sq ⊢)
       | (go_at_call 39
          refine Calls.mono (by with_reducible exact Sq.call (HY1.out _ Sq.base)) ?_
          rintro e wy ⟨py, ly, qy, rfl, Sq⟩
          refine goH RZ ⟨KT.out _ _ Sq, KX1.out _ _ Sq, KY1.out _ _ Sq⟩ fun RY => ?_
          clear RZ Kx)
       | (obtain ⟨Sq, hrow⟩ := Sq.row (a := brT x) (b := [O s']) (c := brT y) Je Je Je
          refine goH RZ ⟨KT.out _ _ Sq, KX1.out _ _ Sq, KY1.out _ _ Sq⟩ fun RY => ?_
          clear RZ Kx)
       | (go_at_call 76
          refine (Sq.cat (a := brT x) (b := [O s']) (c := brT y) hrow Je Je Je (by simp only [List.length_cons, List.length_append, List.length_nil] at hl ⊢; omega)).mono ?_
          rintro e wG ⟨vG1, rfl, Sq⟩
          refine goH RZ ⟨KT.out _ _ Sq, KX1.out _ _ Sq, KY1.out _ _ Sq⟩ fun RY => ?_
          clear RZ Kx))
def FmS(wB:World):So→T→Prop
 | .expr,t=>Cb wB t∧BrC wB t
 | .part,t=>Cb wB t
 | .arg,t=>BrC wB t
 | _,_=>True
theorem Wv{wB:World}{t:T}(hV:V .expr t)(hn:nodes t≤1000)(hF:(sV t).length≤100000→Cb wB t):Cb wB t∧BrC wB t:=by
 have h1:lnE t:=PE hV;have h2:=Mn hV;unfold lnE at h1;have hF:=hF (by omega);exact⟨hF,VP wB t (by rcases Ax hV with e|e|e|e|e<;>omega) hF (by omega)⟩
theorem VG(wB:World){s:So}{t:T}(h:V s t):nodes t≤1000→FmS wB s t:=by
 induction h with
 | const n a w h=>exact fun hn=>Wv (V.const n a w h) hn fun _=>US wB n a w
 | ref a ps h1 h8 h ih=>
  intro hn;have e:=yI 2 0 a e0 ps;exact Wv (V.ref a ps h1 h8 h) hn fun hl=>Vw wB a ps (fun p hp=>ih p hp (by have:=tF hp;omega)) (by omega) hl
 | ptr a x y hx hr hy h2 ihx ihy=>
  intro hn;have e:=yI 4 0 a e0 [x,y];rw[Mg]at e;exact Wv (V.ptr a x y hx hr hy h2) hn fun hl=>Vz wB a x y (ihx (by omega)).1 (ihy (by omega)).1 hl
 | un a w x hw hx ih=>
  intro hn;have e:=yI 5 0 a w [x];rw[Vb]at e;exact Wv (V.un a w x hw hx) hn fun hl=>Wf wB a w x (ih (by omega)).2 hl (by rw[Mn hx];omega)
 | bin a w x y hw hx hy ihx ihy=>
  intro hn;have e:=yI 6 0 a w [x,y];rw[Mg]at e;exact Wv (V.bin a w x y hw hx hy) hn fun hl=>Vv wB a w x y (ihx (by omega)).2 (ihy (by omega)).2 hl
 | part0 a w h=>exact fun _=>UX wB a w
 | part1 a w l h h16 hl ih=>
  intro hn;have e:=yI 3 1 a w l;have hL:(sV (.mk 3 1 a w l)).length+1≤4*nodes (.mk 3 1 a w l):=PE (V.part1 a w l h h16 hl);exact UR wB a w l (fun p hp=>ih p hp (by have:=tF hp;omega)) (by omega) (by omega)
 | arg x h ih=>exact fun hn=>(ih hn).2
 | star a=>exact fun _=>VX wB a
 | _=>exact fun _=>trivial
theorem VW: ∀ d (t:T),depth t≤d→wdT t→Tx (sV t)∧Tx (brT t):=by
 intro d
 induction d with
 | zero=>intro t h;obtain⟨k,n,a,w,l⟩:=t;unfold depth at h;omega
 | succ d ih=>
  intro t hd hw;obtain⟨k,n,a,w,l⟩:=t;unfold wdT at hw;have hl:∀ x,x∈l→Tx (sV x)∧Tx (brT x):=fun x hx=>ih x (by have:=Cd hx;unfold depth at hd;omega) ((EC l).1 hw.2 x hx)
  have h1:∀ p,p∈l.map sV→Tx p:=fun p hp=>by obtain⟨x,hx,rfl⟩:=List.mem_map.1 hp;exact(hl x hx).1
  have h2:∀ p,p∈l.map brT→Tx p:=fun p hp=>by obtain⟨x,hx,rfl⟩:=List.mem_map.1 hp;exact(hl x hx).2
  have hf:Tx (sV (.mk k n a w l)):=by
   rw[tT];unfold UY;exact .ite (fun _=>.cons hw.1 .nil) fun _=>.ite (fun _=>.sG h1) fun _=>.ite (fun _=>.cons hw.1 (.ite (fun _=>.cons (by decide) (.app (.aO h2) (.cons (by decide) .nil))) fun _=>.nil)) fun _=>
    .ite (fun _=>.app (.ct h1 0) (.cons (by decide) (.ct h1 1))) fun _=>.ite (fun _=>.cons hw.1 (.ct h2 0)) fun _=>.ite (fun _=>.app (.ct h2 0) (.cons hw.1 (.ct h2 1))) fun _=>.nil
  refine⟨hf,?_⟩;rw[Kc];unfold bra;exact .ite (fun _=>.cons (by decide) .nil) fun _=>.cons (by decide) (.app hf (.cons (by decide) .nil))
theorem Wh: ∀ d (t t':T),depth t≤d→fU t' t=true→wL t→wL t':=by
 intro d
 induction d with
 | zero=>intro t t' h;obtain⟨k,n,a,w,l⟩:=t;unfold depth at h;omega
 | succ d ih=>
  intro t t' hd h hw;obtain⟨_,_,e3,e4⟩:=GO h;rw[Va]at hw ⊢;refine⟨by rw[e3];exact hw.1,?_⟩;have hdl:∀ x,x∈t.l→depth x≤d:=fun x hx=>by have:=Px.iQ hx;omega
  have hm:∀ (r r':List T),eG r' r=true→(∀ x,x∈r→depth x≤d∧wL x)→∀ x',x'∈r'→wL x':=by
   intro r
   induction r with
   | nil=>intro r' h _;cases r' with
    | nil=>intro _ h;cases h
    | cons _ _=>unfold eG at h;cases h
   | cons x r ihr=>intro r' h hx;cases r' with
    | nil=>unfold eG at h;cases h
    | cons x' r'=>
     unfold eG at h;simp only[Bool.and_eq_true]at h
     intro y hy
     rcases List.mem_cons.1 hy with rfl|hy
     ·exact ih x y (hx x (.head _)).1 h.1 (hx x (.head _)).2
     ·exact ihr r' h.2 (fun z hz=>hx z (.tail _ hz)) y hy
  exact hm t.l t'.l e4 fun x hx=>⟨hdl x hx,hw.2 x hx⟩
theorem Vd{t t':T}{v v':Nat}(h:fU t' t=true)(hc:CF t v 1)(hv:v≤v'):CF t' v' 1:=by
 obtain⟨h1,h2,h3⟩:=hc;exact⟨by rw[FY h];omega,by rw[Lm h];omega,Wh _ t t' (Nat.le_refl _) h h3⟩
end
end Go.Proofs.YtfdlmcgcckkkdaaGreatDoor
