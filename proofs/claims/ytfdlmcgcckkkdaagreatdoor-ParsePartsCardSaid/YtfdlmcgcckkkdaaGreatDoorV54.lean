/- ParseParts: the node at a path, put back, is the tree; another one is found there, and the rest stays. No condition. -/
import Derived.Test.YtfdlmcgcckkkdaaGreatDoorV53
import Derived.Test.YtfdlmcgcckkkdaaGreatDoorV50
import Derived.Test.YtfdlmcgcckkkdaaGreatDoorV52
set_option linter.all false
set_option maxHeartbeats 40000000
set_option maxRecDepth 100000
namespace Go.Proofs.YtfdlmcgcckkkdaaGreatDoor
section
open Go.RowKit Lx Px
theorem wM(w:World)(hTab:eJ w)(hml:ML w)(t x:T)(hEt:evR t)(hEx:evR x)(p q:List Int)(kT nT zT:Int)(yT:ByteArray)(oT:Option Addr)(mT lT:Nat)(hT:Tr w t (vT kT nT zT yT oT mT lT))(kX nX zX:Int)(yX:ByteArray)(oX:Option Addr)(mX lX:Nat)(hX:Tr w x (vT kX nX zX yX oX mX lX))(vp vq:Value)(hp:BN w vp p)(hq:BN w vq q):Calls Tryz.prog 10 #[tg kT nT zT yT oT mT lT,tg kX nX zX yX oX mX lX,vp,vq] w fun e w'=>e=.returned (.bool true)∧Below w.heap.size w w':=by
 obtain⟨aop,cp,rfl,hcp⟩:=hp.form;obtain⟨aoq,cq,rfl,hcq⟩:=hq.form;have S0:LS w w [] [] [(t,(vT kT nT zT yT oT mT lT)),(x,(vT kX nX zX yX oX mX lX))]:=LS.OV (by intro p hp;rcases List.mem_cons.1 hp with rfl|hp;exact hT;rw[List.mem_singleton.1 hp];exact hX);have S1:=S0.Dc (tg kT nT zT yT oT mT lT) (tg kT nT zT yT oT mT lT) rfl _ rfl;have S2:=S1.Dc (tg kX nX zX yX oX mX lX) (tg kX nX zX yX oX mX lX) rfl (w.heap.size+1) (by simp);have hsn:=LW _ (hTab.below S2.low) (hml.below S2.low);clear S0 S1;go_enter Tryz.func10,Tryz.ntmps10;go_upto_region 1 with fail;generalize World.alloc (World.alloc w _) _=w2 at S2 hsn ⊢;go_upto_region 3 with (go_at_call 11;refine hsn.mono ?_;rintro e w1 ⟨rfl,b1⟩);clear hsn;have S1:=S2.below b1;clear b1;clear S2;have F0:=TV.facts (S1.facts 0 rfl);have F1:=TV.facts (S1.facts 1 rfl);have bR:=aC w1 (.cells #[.int .i64 kT,.int .i64 nT,.int .i64 zT,.string yT,.slice oT mT lT,.int .i64 kX,.int .i64 nX,.int .i64 zX,.string yX,.slice oX mX lX] 24);have hR:=En (aW.two (S1.tree (t,(vT kT nT zT yT oT mT lT)) (.head _)) (S1.tree (x,(vT kX nX zX yX oX mX lX)) (.tail _ (.head _)))) #[.int .i64 kT,.int .i64 nT,.int .i64 zT,.string yT,.slice oT mT lT,.int .i64 kX,.int .i64 nX,.int .i64 zX,.string yX,.slice oX mX lX] rfl 2 rfl;have cM:=oW (w1.alloc (.cells #[.int .i64 kT,.int .i64 nT,.int .i64 zT,.string yT,.slice oT mT lT,.int .i64 kX,.int .i64 nX,.int .i64 zX,.string yX,.slice oX mX lX] 24)) _ [t,x] hR (by simp);have SR:=S1.below bR;clear bR hR;go_upto_block 3 with fail;generalize World.alloc w1 (.cells #[.int .i64 kT,.int .i64 nT,.int .i64 zT,.string yT,.slice oT mT lT,.int .i64 kX,.int .i64 nX,.int .i64 zX,.string yX,.slice oX mX lX] 24)=wR at SR cM ⊢;clear S1;refine cM.mono ?_;rintro e w2 ⟨bb,rfl,hb,b2⟩;clear cM;have S2:=SR.below b2;clear b2;clear SR
 cases bb with
 | false=>
  go_wp2_with fail;go_ret;exact⟨rfl,S2.low⟩
 | true=>
  have hCF:=hb.1 rfl;clear hb;have hCt:=hCF t (by simp);have hCx:=hCF x (by simp);clear hCF
  by_cases hp1:100<p.length
  ·have hp2:(100:Int)<(p.length:Int):=by omega
   go_wp2_with fail;go_ret;exact⟨rfl,S2.low⟩
  have hp2:¬ (100:Int)<(p.length:Int):=by omega
  by_cases hq1:100<q.length
  ·have hq2:(100:Int)<(q.length:Int):=by omega
   go_wp2_with fail;go_ret;exact⟨rfl,S2.low⟩
  have hq2:¬ (100:Int)<(q.length:Int):=by omega
  go_upto_region 5 with fail;clear hp2 hq2;obtain⟨okt,wdt⟩:=Pj hCt (by decide) hEt;obtain⟨okx,wdx⟩:=Pj hCx (by decide) hEx;clear F0 F1;have F1:=TV.facts (S2.facts 1 rfl);have cA:=BY w2 (hTab.below S2.low) (t) okt wdt kT nT zT yT oT mT lT (S2.tree (t,(vT kT nT zT yT oT mT lT)) (.head _)) (.slice aop p.length cp) p (hp.below S2.low) (by omega)
  rcases Kc t p with ⟨a,hat,ha,hct⟩|hat|hat
  rotate_left
  ·rw[hat]at cA;go_wp2_with (go_at_call 29;refine cA.mono ?_;rintro e wz ⟨bz,kZ,nZ,zZ,yZ,oZ,mZ,lZ,rfl,TZ⟩);go_ret;exact⟨rfl,((S2.below bz).below (aC _ _)).low⟩
  ·rw[hat]at cA;go_wp2_with (go_at_call 29;refine cA.mono ?_;rintro e wz ⟨bz,kZ,nZ,zZ,yZ,oZ,mZ,lZ,rfl,TZ⟩);go_ret;exact⟨rfl,((S2.below bz).below (aC _ _)).low⟩
  rw[hat]at cA;go_upto_region 6 with (go_at_call 29;refine cA.mono ?_;rintro e w3 ⟨b3,k3,n3,z3,y3,o3,m3,l3,rfl,T3⟩);have S3:=S2.Gx b3 T3;clear b3 T3 cA;clear S2;have S4:=S3.Dc (tg k3 n3 z3 y3 o3 m3 l3) (tg k3 n3 z3 y3 o3 m3 l3) rfl _ rfl;generalize World.alloc w3 (.cells (tg k3 n3 z3 y3 o3 m3 l3) 24)=w4 at S4 ⊢;generalize w3.heap.size=B4 at S4 ⊢;clear S3;have hCa:=PN hCt ha;clear F1;have F0:=TV.facts (S4.facts 0 rfl);have F2:=TV.facts (S4.facts 2 rfl);have cA:=Je w4 (hTab.below S4.low) t okt wdt kT nT zT yT oT mT lT (S4.tree (t,(vT kT nT zT yT oT mT lT)) (.tail _ (.head _))) (.slice aop p.length cp) p (hp.below S4.low) (by omega) a k3 n3 z3 y3 o3 m3 l3 (S4.tree (a,(vT k3 n3 z3 y3 o3 m3 l3)) (.head _)) (by have:=hCt.1;omega) (fun _ _=>by rw[Mm p t a ha];exact⟨okt,wdt⟩);rw[Hy hct ha]at cA;go_upto_region 9 with (go_at_call 40;refine cA.mono ?_;rintro e w5 ⟨b5,k5,n5,z5,y5,o5,m5,l5,rfl,T5⟩);have S5:=S4.Gx b5 T5;clear b5 T5 cA;clear S4;have S6:=S5.Dc (tg k5 n5 z5 y5 o5 m5 l5) (tg k5 n5 z5 y5 o5 m5 l5) rfl _ rfl;generalize World.alloc w5 (.cells (tg k5 n5 z5 y5 o5 m5 l5) 24)=w6 at S6 ⊢;generalize w5.heap.size=B6 at S6 ⊢;clear S5;clear F0 F2;have F0:=TV.facts (S6.facts 0 rfl);have F1:=TV.facts (S6.facts 1 rfl);have F3:=TV.facts (S6.facts 3 rfl);have bR:=aC w6 (.cells #[.int .i64 k3,.int .i64 n3,.int .i64 z3,.string y3,.slice o3 m3 l3,.int .i64 k5,.int .i64 n5,.int .i64 z5,.string y5,.slice o5 m5 l5] 24);have hR:=En (aW.two (S6.tree (a,(vT k3 n3 z3 y3 o3 m3 l3)) (.tail _ (.head _))) (S6.tree (t,(vT k5 n5 z5 y5 o5 m5 l5)) (.head _))) #[.int .i64 k3,.int .i64 n3,.int .i64 z3,.string y3,.slice o3 m3 l3,.int .i64 k5,.int .i64 n5,.int .i64 z5,.string y5,.slice o5 m5 l5] rfl 2 rfl;have cM:=oW (w6.alloc (.cells #[.int .i64 k3,.int .i64 n3,.int .i64 z3,.string y3,.slice o3 m3 l3,.int .i64 k5,.int .i64 n5,.int .i64 z5,.string y5,.slice o5 m5 l5] 24)) _ [a,t] hR (by simp);have hM:∀ u,u∈[a,t]→CF u 4100 1:=by simp[hCa,hCt]
  have SR:=S6.below bR;clear bR hR;go_upto_region 11 with (first|(go_at_call 12;refine cM.mono ?_;rintro e w7 ⟨bb,rfl,hb,b7⟩;obtain rfl:bb=true:=hb.2 hM;clear hb;have S7:=SR.below b7;have G0:=TV.facts (S7.facts 0 rfl);have G3:=TV.facts (S7.facts 3 rfl))|(go_at_call 16;refine(uS w7 _ t (Nat.le_refl _) t (by have:=hCt.1;omega) w7 (Below.refl _ _) k5 n5 z5 y5 o5 m5 l5 kT nT zT yT oT mT lT (S7.tree (t,(vT k5 n5 z5 y5 o5 m5 l5)) (.head _)) (S7.tree (t,(vT kT nT zT yT oT mT lT)) (.tail _ (.tail _ (.head _))))).mono ?_;rw[wJ];rintro e w8 ⟨rfl,b8⟩));have S8:=S7.below b8;clear b8 b7 cM hM SR S7 G0 G3;clear S6;replace S8:=S8.less (fv':=[(w.heap.size+1,tg kX nX zX yX oX mX lX),(w.heap.size,tg kT nT zT yT oT mT lT)]) (ts':=[(t,(vT kT nT zT yT oT mT lT)),(x,(vT kX nX zX yX oX mX lX))]) (by simp) (by simp);clear F0 F1 F3;have F0:=TV.facts (S8.facts 0 rfl);have F1:=TV.facts (S8.facts 1 rfl);have hpk:=Pp hCt hCx hEt hEx ha;have cA:=Je w8 (hTab.below S8.low) t okt wdt kT nT zT yT oT mT lT (S8.tree (t,(vT kT nT zT yT oT mT lT)) (.head _)) (.slice aop p.length cp) p (hp.below S8.low) (by omega) x kX nX zX yX oX mX lX (S8.tree (x,(vT kX nX zX yX oX mX lX)) (.tail _ (.head _))) (by have:=hCt.1;omega) (fun _ _=>hpk)
  cases hck:chk (kN t p x) with
  | false=>
   rw[Nn hct ha hck]at cA;go_wp2_with (go_at_call 40;refine cA.mono ?_;rintro e wz ⟨bz,kZ,nZ,zZ,yZ,oZ,mZ,lZ,rfl,TZ⟩);go_ret;exact⟨rfl,((S8.below bz).below (aC _ _)).low⟩
  | true=>
   rw[NL hct ha hck]at cA;have hCu:=Pd hCt hCx ha hck;have hup:=Pr p t a x ha;have huo:=fun (q:List Int) (h:apart p q)=>LB (x:=x) ha h
   obtain⟨oku,wdu⟩:=hpk;generalize kN t p x=u at cA hck hCu oku wdu hup huo;go_upto_region 14 with (go_at_call 40;refine cA.mono ?_;rintro e w9 ⟨b9,k9,n9,z9,y9,o9,m9,l9,rfl,T9⟩);have S9:=S8.Gx b9 T9;clear b9 T9 cA;clear S8;have S10:=S9.Dc (tg k9 n9 z9 y9 o9 m9 l9) (tg k9 n9 z9 y9 o9 m9 l9) rfl _ rfl;generalize World.alloc w9 (.cells (tg k9 n9 z9 y9 o9 m9 l9) 24)=w10 at S10 ⊢;generalize w9.heap.size=B10 at S10 ⊢;clear S9;clear F0 F1;have F0:=TV.facts (S10.facts 0 rfl);have cA:=BY w10 (hTab.below S10.low) (u) oku wdu k9 n9 z9 y9 o9 m9 l9 (S10.tree (u,(vT k9 n9 z9 y9 o9 m9 l9)) (.head _)) (.slice aop p.length cp) p (hp.below S10.low) (by omega);rw[zK hck hup]at cA;go_upto_region 15 with (go_at_call 29;refine cA.mono ?_;rintro e w11 ⟨b11,k11,n11,z11,y11,o11,m11,l11,rfl,T11⟩);have S11:=S10.Gx b11 T11;clear b11 T11 cA;clear S10;have S12:=S11.Dc (tg k11 n11 z11 y11 o11 m11 l11) (tg k11 n11 z11 y11 o11 m11 l11) rfl _ rfl;generalize World.alloc w11 (.cells (tg k11 n11 z11 y11 o11 m11 l11) 24)=w12 at S12 ⊢;generalize w11.heap.size=B12 at S12 ⊢;clear S11;clear F0;have F1:=TV.facts (S12.facts 1 rfl);have F0:=TV.facts (S12.facts 0 rfl);have F2:=TV.facts (S12.facts 2 rfl);have cB:=Dy w12 u 8300 (Nat.le_refl _) k9 n9 z9 y9 o9 m9 l9 (S12.tree (u,(vT k9 n9 z9 y9 o9 m9 l9)) (.tail _ (.head _)));have cM:∀ wv,LS w wv [] [(B12,tg k11 n11 z11 y11 o11 m11 l11),(B10,tg k9 n9 z9 y9 o9 m9 l9),(w.heap.size+1,tg kX nX zX yX oX mX lX),(w.heap.size,tg kT nT zT yT oT mT lT)] [(x,(vT k11 n11 z11 y11 o11 m11 l11)),(u,(vT k9 n9 z9 y9 o9 m9 l9)),(t,(vT kT nT zT yT oT mT lT)),(x,(vT kX nX zX yX oX mX lX))]→Calls Tryz.prog 12 #[.slice (some ⟨wv.heap.size,0,none⟩) 1 1] (wv.alloc (.cells (tg k11 n11 z11 y11 o11 m11 l11) 24)) (DY (wv.alloc (.cells (tg k11 n11 z11 y11 o11 m11 l11) 24)) (∀ u,u∈[x]→CF u 4100 1)):=fun wv Sv=>
    oW (wv.alloc (.cells (tg k11 n11 z11 y11 o11 m11 l11) 24)) _ [x] (En (aW.one (Sv.tree (x,(vT k11 n11 z11 y11 o11 m11 l11)) (.head _))) (tg k11 n11 z11 y11 o11 m11 l11) rfl 1 rfl) (by simp)
   have hM:∀ u,u∈[x]→CF u 4100 1:=by simp[hCx]
   go_upto_region 17 with (first
     | (go_at_call 37; refine cB.mono ?_; rintro e w13 ⟨bb, rfl, hb, b13⟩; obtain rfl : bb = true := hb.2 hCu; clear hb; have S13 := S12.below b13; have cMj := cM w13 S13; have Sa := S13.below (aC w13 (.cells (tg k11 n11 z11 y11 o11 m11 l11) 24)); have G0 := TV.facts (S13.facts 0 rfl); have G2 := TV.facts (S13.facts 2 rfl))
     | (go_at_call 12; refine cMj.mono ?_; rintro e w14 ⟨bb2, rfl, hb2, b14⟩; obtain rfl : bb2 = true := hb2.2 hM; clear hb2; have S14 := Sa.below b14; clear G0 G2; have G0 := TV.facts (S14.facts 0 rfl); have G2 := TV.facts (S14.facts 2 rfl))
     | (go_at_call 16; refine (uS w14 _ x (Nat.le_refl _) x (by have := hCx.1; omega) w14 (Below.refl _ _) k11 n11 z11 y11 o11 m11 l11 kX nX zX yX oX mX lX (S14.tree (x, (vT k11 n11 z11 y11 o11 m11 l11)) (.head _)) (S14.tree (x, (vT kX nX zX yX oX mX lX)) (.tail _ (.tail _ (.tail _ (.head _)))))).mono ?_; rw [wJ]; rintro e w15 ⟨rfl, b15⟩))
   have S15:=S14.below b15;clear b13 b14 b15 cM cB cMj hM Sa S13 S14 G0 G2;clear S12;replace S15:=S15.less (fv':=[(B10,tg k9 n9 z9 y9 o9 m9 l9),(w.heap.size,tg kT nT zT yT oT mT lT)]) (ts':=[(t,(vT kT nT zT yT oT mT lT)),(u,(vT k9 n9 z9 y9 o9 m9 l9))]) (by simp) (by simp);obtain⟨N,hN⟩:∃ N,N=min p.length q.length:=⟨_,rfl⟩
   have HN:=hdq hN;clear hN;go_cut [16] (fun v16 wx=>v16=.int .i64 (N:Nat)∧LS w wx [] [(B10,tg k9 n9 z9 y9 o9 m9 l9),(w.heap.size,tg kT nT zT yT oT mT lT)] [(t,(vT kT nT zT yT oT mT lT)),(u,(vT k9 n9 z9 y9 o9 m9 l9))])
   case first=>
    by_cases hpq:p.length≤q.length
    ·have hpq2:¬ (q.length:Int)<(p.length:Int):=by omega
     have HP:=hdq (show N=p.length by rw[HN.out];omega);clear hpq
     go_wp2
     go_meet
     case rel=>exact⟨congrArg (Value.int .i64) (by have:=HP.out;omega),S15⟩
    ·have hpq2:(q.length:Int)<(p.length:Int):=by omega
     have HP:=hdq (show N=q.length by rw[HN.out];omega);clear hpq
     go_wp2
     go_meet
     case rel=>exact⟨congrArg (Value.int .i64) (by have:=HP.out;omega),S15⟩
   case rest=>
    obtain⟨rfl,SN⟩:=hcut;clear S15;have i0:(0:Int)≤(N:Int):=by omega
    have hNp:N≤p.length:=by rw[HN.out];omega
    have hNq:N≤q.length:=by rw[HN.out];omega
    have i1:(N:Int)≤(cp:Int):=by omega
    have i2:(N:Int)≤(cq:Int):=by omega
    have cE:=fun k:Nat=>Gk (.slice aop N cp) (.slice aoq N cq) (p.take N) (q.take N) (wc.drewN k) (((hp.below SN.low).below (below_drewN _ k)).take hNp) (((hq.below SN.low).below (below_drewN _ k)).take hNq) (by rw[List.length_take];omega) (by rw[List.length_take];omega)
    cases hEQ:decide (p.take N=q.take N) with
    | true=>
     rw[hEQ]at cE;clear hEQ;go_wp2_with fail
     go_quiet ((go_at_call 30;exact Calls.quiet_of (cE _)))
     have Sq:=SN.drewN nq;generalize wc.drewN nq=wq at Sq ⊢;clear SN cE i0 i1 i2 hNp hNq HN;go_wp2_with fail;go_ret;exact⟨rfl,Sq.low⟩
    | false=>
     rw[hEQ]at cE;have hap:apart p q:=KJ p q (by rw[← HN.out];exact of_decide_eq_false hEQ);clear hEQ;go_wp2_with fail
     go_quiet ((go_at_call 30;exact Calls.quiet_of (cE _)))
     have Sq:=SN.drewN nq;generalize wc.drewN nq=wq at Sq ⊢;clear SN cE i0 i1 i2 hNp hNq HN;go_upto_region 20 with fail;obtain⟨r,e,hr1,hr2,hCr⟩:=LY hct hck (huo q hap) hCt;clear F1 F0 F2;have F1:=TV.facts (Sq.facts 1 rfl);have cA:=BY wq (hTab.below Sq.low) t okt wdt kT nT zT yT oT mT lT (Sq.tree (t,(vT kT nT zT yT oT mT lT)) (.head _)) (.slice aoq q.length cq) q (hq.below Sq.low) (by omega);rw[hr1]at cA;go_upto_region 21 with (go_at_call 29;refine cA.mono ?_;rintro e wE ⟨bE,kE,nE,zE,yE,oE,mE,lE,rfl,TE⟩);have SE:=Sq.Gx bE TE;clear bE TE cA;clear Sq;have S16:=SE.Dc (tg kE nE zE yE oE mE lE) (tg kE nE zE yE oE mE lE) rfl _ rfl;generalize World.alloc wE (.cells (tg kE nE zE yE oE mE lE) 24)=w16 at S16 ⊢;generalize wE.heap.size=B16 at S16 ⊢;clear SE;clear F1;have F1:=TV.facts (S16.facts 1 rfl);have cA:=BY w16 (hTab.below S16.low) u oku wdu k9 n9 z9 y9 o9 m9 l9 (S16.tree (u,(vT k9 n9 z9 y9 o9 m9 l9)) (.tail _ (.tail _ (.head _)))) (.slice aoq q.length cq) q (hq.below S16.low) (by omega);rw[hr2]at cA;go_upto_region 22 with (go_at_call 29;refine cA.mono ?_;rintro e wF ⟨bF,kF,nF,zF,yF,oF,mF,lF,rfl,TF⟩);have SF:=S16.Gx bF TF;clear bF TF cA;clear S16;have S17:=SF.Dc (tg kF nF zF yF oF mF lF) (tg kF nF zF yF oF mF lF) rfl _ rfl;generalize World.alloc wF (.cells (tg kF nF zF yF oF mF lF) 24)=w17 at S17 ⊢;generalize wF.heap.size=B17 at S17 ⊢;clear SF;clear F1;have F0:=TV.facts (S17.facts 0 rfl);have F1:=TV.facts (S17.facts 1 rfl);have bR:=aC w17 (.cells #[.int .i64 kE,.int .i64 nE,.int .i64 zE,.string yE,.slice oE mE lE,.int .i64 kF,.int .i64 nF,.int .i64 zF,.string yF,.slice oF mF lF] 24);have hR:=En (aW.two (S17.tree (r,(vT kE nE zE yE oE mE lE)) (.tail _ (.head _))) (S17.tree (r,(vT kF nF zF yF oF mF lF)) (.head _))) #[.int .i64 kE,.int .i64 nE,.int .i64 zE,.string yE,.slice oE mE lE,.int .i64 kF,.int .i64 nF,.int .i64 zF,.string yF,.slice oF mF lF] rfl 2 rfl;have cM:=oW (w17.alloc (.cells #[.int .i64 kE,.int .i64 nE,.int .i64 zE,.string yE,.slice oE mE lE,.int .i64 kF,.int .i64 nF,.int .i64 zF,.string yF,.slice oF mF lF] 24)) _ [r,r] hR (by simp);have hM:∀ u,u∈[r,r]→CF u 4100 1:=by simp[hCr]
     have SR:=S17.below bR;clear bR hR;go_wp2_with (first|(go_at_call 12;refine cM.mono ?_;rintro e w7 ⟨bb,rfl,hb,b7⟩;obtain rfl:bb=true:=hb.2 hM;clear hb;have S7:=SR.below b7;have G0:=TV.facts (S7.facts 0 rfl);have G1:=TV.facts (S7.facts 1 rfl))|(go_at_call 16;refine(uS w7 _ r (Nat.le_refl _) r (by have:=hCr.1;omega) w7 (Below.refl _ _) kE nE zE yE oE mE lE kF nF zF yF oF mF lF (S7.tree (r,(vT kE nE zE yE oE mE lE)) (.tail _ (.head _))) (S7.tree (r,(vT kF nF zF yF oF mF lF)) (.head _))).mono ?_;rw[wJ];rintro e w8 ⟨rfl,b8⟩));go_ret;exact⟨rfl,(S7.below b8).low⟩
theorem ParseParts_holds: Rows.ParsePartsCardSaid:=vL fun w hTab hml t x hEt hEx p q kT nT zT yT oT mT lT hT kX nX zX yX oX mX lX hX vp vq hp hq=>wM w hTab hml t x hEt hEx p q kT nT zT yT oT mT lT hT kX nX zX yX oX mX lX hX vp vq hp hq
end
end Go.Proofs.YtfdlmcgcckkkdaaGreatDoor
