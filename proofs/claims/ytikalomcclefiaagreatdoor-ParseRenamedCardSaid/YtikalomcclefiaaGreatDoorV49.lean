/- Part 49. -/
import Derived.Test.YtikalomcclefiaaGreatDoorV48
set_option linter.all false
set_option maxHeartbeats 0
set_option maxRecDepth 100000
namespace Go.Proofs.YtikalomcclefiaaGreatDoor
section
open Go.RowKit Lx Px
def Zf{p:Prop}(h:p:=by
 try have:=AAD (Sq.nM 0 rfl)
 go_simp;refine(Sq.UP ⟨#[65]⟩).mono ?_;rintro e wA ⟨kA,nA,zA,yA,oA,mA,lA,rfl,Sq⟩;refine kX aMB LP λaMA=>?_;clear aMB Kx;exact uG):p:=h
def YM{p:Prop}(h:p:=by
 try have:=AAD (Sq.nM 0 rfl)
 go_simp;refine(Sq.UP ⟨#[66]⟩).mono ?_;rintro e wB ⟨kB,nB,zB,yB,oB,mB,lB,rfl,Sq⟩;refine kX aMB LP λaMA=>?_;clear aMB Kx;exact uG):p:=h
def YV{p:Prop}(h:p:=by
 try have:=AAD (Sq.nM 0 rfl)
 go_simp;refine(Sq.aEf ⟨#[61]⟩ (.tail _ (.head _)) (.head _)).mono ?_;rintro e wC ⟨kC,nC,zC,yC,oC,mC,lC,rfl,Sq⟩;refine kX aMB LP λaMA=>?_;clear aMB Kx;exact uG):p:=h
def Yr{p:Prop}(h:p:=by
 try have:=AAD (Sq.nM 0 rfl)
 go_simp;refine(Sq.UP ⟨#[69,76,83,69]⟩).mono ?_;rintro e wD ⟨kD,nD,zD,yD,oD,mD,lD,rfl,Sq⟩;refine kX aMB LP λaMA=>?_;clear aMB Kx;exact uG):p:=h
def Zi{p:Prop}(h:p:=by
 try have:=AAD (Sq.nM 0 rfl)
 go_simp;have Sq:=Sq.lit (dO.two (Sq.tr (Dp ⟨#[69,76,83,69]⟩,(vT kD nD zD yD oD mD lD)) (.head _)) (iB.leaf _ _ 1 2 0 ⟨#[50]⟩ 0)) #[.int .i64 kD,.int .i64 nD,.int .i64 zD,.string yD,.slice oD mD lD,.int .i64 1,.int .i64 2,.int .i64 0,.string ⟨#[50]⟩,.slice none 0 0] rfl 24 0 0 ⟨#[]⟩ 2 2 rfl;refine kX aMB LP λaMA=>?_;clear aMB Kx;generalize World.alloc _ (.cells #[iq kD,iq nD,iq zD,.string yD,.slice oD mD lD,iq 1,iq 2,iq 0,.string ⟨#[50]⟩,.slice none 0 0] 24)=wE at Sq aMA ⊢;generalize (World.heap _).size=BE at Sq ⊢;exact uG):p:=h
def YS{p:Prop}(h:p:=by
 try have:=AAD (Sq.nM 0 rfl)
 go_simp;have Sq:=Sq.lit (dO.app (dO.one (Sq.tr (ajD ⟨#[61]⟩ (Dp ⟨#[65]⟩) (Dp ⟨#[66]⟩),(vT kC nC zC yC oC mC lC)) (.tail _ (.tail _ (.head _))))) (dO.two (Sq.tr (.mk 24 0 0 ⟨#[]⟩ [Dp ⟨#[69,76,83,69]⟩,aKk],vT 24 0 0 ⟨#[]⟩ (some (AAF BE 0)) 2 2) (.head _)) (iB.leaf _ _ 30 0 0 ⟨#[]⟩ 0))) #[.int .i64 kC,.int .i64 nC,.int .i64 zC,.string yC,.slice oC mC lC,.int .i64 24,.int .i64 0,.int .i64 0,.string ⟨#[]⟩,.slice (some (AAF BE 0)) 2 2,.int .i64 30,.int .i64 0,.int .i64 0,.string ⟨#[]⟩,.slice none 0 0] rfl 23 0 0 ⟨#[]⟩ 3 3 rfl;refine kX aMB LP λaMA=>?_;clear aMB Kx;generalize World.alloc _ (.cells #[iq kC,iq nC,iq zC,.string yC,.slice oC mC lC,iq 24,iq 0,iq 0,.string ⟨#[]⟩,.slice (some (AAF BE 0)) 2 2,iq 30,iq 0,iq 0,.string ⟨#[]⟩,.slice none 0 0] 24)=wF at Sq aMA ⊢;generalize (World.heap _).size=BF at Sq ⊢;exact uG):p:=h
def vP{p:Prop}(h:p:=by
 try have:=AAD (Sq.nM 0 rfl)
 go_simp;have Sq:=Sq.oF (tg 0 0 0 ⟨#[]⟩ none 0 0) sZ rfl _ rfl;refine kX aMB LP λaMA=>?_;clear aMB Kx;generalize World.alloc _ (.cells sZ 24)=wG at Sq aMA ⊢;generalize (World.heap _).size=BG at Sq ⊢;exact uG):p:=h
def aoC{p:Prop}(h:p:=by
 try have:=AAD (Sq.nM 0 rfl)
 go_simp;have Sq:=Sq.fY rfl (iq 23) (iq 0) (iq 0) (.string ⟨#[]⟩) (.slice (some (AAF BF 0)) 3 3);unfold AY at Sq;refine kX aMB LP λaMA=>?_;clear aMB Kx;exact uG):p:=h
def azE{p:Prop}(h:p:=by
 go_wp2
 go_meet
 case rel=>
  refine⟨_,_,_,_,_,_,_,_,rfl,Sq.fix.less (λp hp=>hp) (λp hp=>?_)⟩
  rcases bO.1 hp with rfl|hp
  ·exact .head _
  ·rw[cO.1 hp];exact(.tail _ (.tail _ (.tail _ (.tail _ (.tail _ (.tail _ (.head _)))))))):p:=h
theorem uG{p:Prop}(h:p:=by
 first
 | (refine aaW ?_;exact azE)
 | (refine Kt 4 ?_;exact uG)
 | (refine Kt 7 ?_;exact uG)
 | (refine Kt 6 ?_;exact uG)
 | (refine Kt 9 ?_;exact uG)
 | (refine qG [0,10] ?_;refine rB (λKx aMB=>?_) (rB (λKx aMB=>?_) .nil);exact Zf;exact vP)
 | (refine qG [1,10] ?_;refine rB (λKx aMB=>?_) (rB (λKx aMB=>?_) .nil);exact YM;exact vP)
 | (refine qG [2,10] ?_;refine rB (λKx aMB=>?_) (rB (λKx aMB=>?_) .nil);exact YV;exact vP)
 | (refine qG [3,10] ?_;refine rB (λKx aMB=>?_) (rB (λKx aMB=>?_) .nil);exact Yr;exact vP)
 | (refine qG [5,10] ?_;refine rB (λKx aMB=>?_) (rB (λKx aMB=>?_) .nil);exact Zi;exact vP)
 | (refine qG [8,10] ?_;refine rB (λKx aMB=>?_) (rB (λKx aMB=>?_) .nil);exact YS;exact vP)
 | (refine qG [10] ?_;refine rB (λKx aMB=>?_) .nil;exact vP)
 | (refine qG [11] ?_;refine rB (λKx aMB=>?_) .nil;exact aoC)
 | (refine qG [8] ?_;refine rB (λKx aMB=>?_) .nil;exact YS)
 | (refine qG [5] ?_;refine rB (λKx aMB=>?_) .nil;exact Zi)
 | (refine qG [3] ?_;refine rB (λKx aMB=>?_) .nil;exact Yr)
 | (refine qG [2] ?_;refine rB (λKx aMB=>?_) .nil;exact YV)
 | (refine qG [1] ?_;refine rB (λKx aMB=>?_) .nil;exact YM)
 | (refine qG [0] ?_;refine rB (λKx aMB=>?_) .nil;exact Zf)):p:=h
def IN(w:World)(hTab:fQ w)(hml:ML w):AAA 8 #[] w λe w'=>e=.returned (.bool true)/\iY w w':=by
 have h14:=aLx;simp only[pB]at h14
 obtain⟨g1,g2,g3,g4,g5⟩:=h14;have S0:=LS.begin w;obtain⟨r1,hr1⟩:∃ r,DB sx1 true=r:=⟨_,rfl⟩
 obtain⟨a1,p1,q1⟩:=r1;have f1:=ex1;have c1:=S0.tq (akS sx1 aD w (hml.below S0.low) (Hg g1));rw[hr1]at c1 f1;rw[bA,dX]at f1;obtain⟨f1,s1⟩:=f1;simp only at f1 s1
 subst f1;clear hr1;unfold sx1 at c1;go_in;go_upto_region 2 with (go_at_call 33;refine c1.mono ?_;rintro e w2 ⟨k2,n2,z2,y2,o2,m2,l2,rfl,S2⟩);clear c1;have S3:=S2.At (tg k2 n2 z2 y2 o2 m2 l2) (tg k2 n2 z2 y2 o2 m2 l2) rfl _ rfl;generalize World.alloc w2 (.cells (tg k2 n2 z2 y2 o2 m2 l2) 24)=w3 at S3 ⊢;generalize w2.heap.size=B3 at S3 ⊢;clear S2;go_upto_block 2 with fail;refine(S3.UP ⟨#[65]⟩).mono ?_;rintro e w4 ⟨k4,n4,z4,y4,o4,m4,l4,rfl,S4⟩;clear S3;go_upto_block 2 with fail;refine(S4.UP ⟨#[66]⟩).mono ?_;rintro e w5 ⟨k5,n5,z5,y5,o5,m5,l5,rfl,S5⟩;clear S4;go_upto_block 2 with fail;refine(S5.aEf ⟨#[45]⟩ (.tail _ (.head _)) (.head _)).mono ?_;rintro e w6 ⟨k6,n6,z6,y6,o6,m6,l6,rfl,S6⟩;clear S5;go_upto_block 2 with fail;refine(S6.UP ⟨#[67]⟩).mono ?_;rintro e w7 ⟨k7,n7,z7,y7,o7,m7,l7,rfl,S7⟩;clear S6;go_upto_block 2 with fail;refine(S7.UP ⟨#[68]⟩).mono ?_;rintro e w8 ⟨k8,n8,z8,y8,o8,m8,l8,rfl,S8⟩;clear S7;have S9:=S8.lit (dO.one (S8.tr (Dp ⟨#[68]⟩,(vT k8 n8 z8 y8 o8 m8 l8)) (.head _))) (tg k8 n8 z8 y8 o8 m8 l8) rfl 5 0 0 ⟨#[45]⟩ 1 1 rfl;go_upto_block 2 with fail;generalize World.alloc w8 (.cells (tg k8 n8 z8 y8 o8 m8 l8) 24)=w9 at S9 ⊢;generalize w8.heap.size=B9 at S9 ⊢;clear S8;refine(S9.aEf ⟨#[42]⟩ (.tail _ (.tail _ (.head _))) (.head _)).mono ?_;rintro e w10 ⟨k10,n10,z10,y10,o10,m10,l10,rfl,S10⟩;clear S9;go_upto_block 2 with fail;refine(S10.aEf ⟨#[45]⟩ (.tail _ (.tail _ (.tail _ (.tail _ (.head _))))) (.head _)).mono ?_;rintro e w11 ⟨k11,n11,z11,y11,o11,m11,l11,rfl,S11⟩;clear S10;have S12:=S11.At (tg k11 n11 z11 y11 o11 m11 l11) (tg k11 n11 z11 y11 o11 m11 l11) rfl _ rfl;go_upto_region 3 with fail;generalize World.alloc w11 (.cells (tg k11 n11 z11 y11 o11 m11 l11) 24)=w12 at S12 ⊢;generalize w11.heap.size=B12 at S12 ⊢;clear S11;have F0:=AAD (S12.facts 0 rfl);have F1:=AAD (S12.facts 1 rfl);have cS:=XM w12 _ a1 (aG _) aAB aD w12 (bH _ _) k2 n2 z2 y2 o2 m2 l2 k11 n11 z11 y11 o11 m11 l11 (S12.tree (a1,(vT k2 n2 z2 y2 o2 m2 l2)) (.tail _ (.tail _ (.tail _ (.tail _ (.tail _ (.tail _ (.tail _ (.tail _ (.head _)))))))))) (S12.tree (aAB,(vT k11 n11 z11 y11 o11 m11 l11)) (.head _));rw[s1]at cS;go_upto_region 5 with (go_at_call 36;refine cS.mono ?_;rintro e w13 ⟨rfl,b13⟩);have S13:=(S12.below b13).less (fv':=[]) (ts':=[]) aI aI;clear F0 F1;clear S12;clear b13 cS s1;obtain⟨r14,hr14⟩:∃ r,DB sx2 false=r:=⟨_,rfl⟩
 obtain⟨a14,p14,q14⟩:=r14;have f14:=ex2;have c14:=S13.tq (IS sx2 aD w13 (hml.below S13.low) (Hg g2));rw[hr14]at c14 f14;rw[bA,dX]at f14;obtain⟨f14,s14⟩:=f14;simp only at f14 s14
 subst f14;clear hr14;unfold sx2 at c14;go_upto_region 6 with (go_at_call 33;refine c14.mono ?_;rintro e w15 ⟨k15,n15,z15,y15,o15,m15,l15,rfl,S15⟩);clear c14;clear S13;have S16:=S15.At (tg k15 n15 z15 y15 o15 m15 l15) (tg k15 n15 z15 y15 o15 m15 l15) rfl _ rfl;generalize World.alloc w15 (.cells (tg k15 n15 z15 y15 o15 m15 l15) 24)=w16 at S16 ⊢;generalize w15.heap.size=B16 at S16 ⊢;clear S15;have S17:=S16.At (tg 1 2 0 ⟨#[50]⟩ none 0 0) (tg 1 2 0 ⟨#[50]⟩ none 0 0) rfl _ rfl;go_upto_region 7 with fail;generalize World.alloc w16 (.cells (tg 1 2 0 ⟨#[50]⟩ none 0 0) 24)=w17 at S17 ⊢;generalize w16.heap.size=B17 at S17 ⊢;clear S16;go_cut [8] (λv8 wx=>∃ (B8:Nat) (kO nO zO:Int) (yO:dL) (oO:iD) (mO lO:Nat),v8=.pointer (some (AAF B8 0))/\LS w wx [] ((B8,tg kO nO zO yO oO mO lO)::[(B17,tg 1 2 0 ⟨#[50]⟩ none 0 0),(B16,tg k15 n15 z15 y15 o15 m15 l15)]) [(xQ,(vT kO nO zO yO oO mO lO)),(a14,(vT k15 n15 z15 y15 o15 m15 l15))])
 case first=>
  have Sq:=S17.drew;refine fW (S:=(λw'=>TV w' B17 (iq 1) (iq 2) (iq 0) (.string ⟨#[50]⟩) (.slice none 0 0))) aQ LP (λaMA=>?_);generalize World.drew w17=wD at *;exact uG
 case rest=>
  obtain⟨B8,kO,nO,zO,yO,oO,mO,lO,rfl,SO⟩:=hcut;clear S17;have F0:=AAD (SO.facts 0 rfl);have hO:=Ul _ xQ (aG _) aLl;have cP:=NV wc (hTab.below SO.low) (hml.below SO.low) xQ hO.1 hO.2 kO nO zO yO oO mO lO (SO.tree (xQ,(vT kO nO zO yO oO mO lO)) (.head _));rw[ex3]at cP;unfold sx6 at cP;go_upto_region 9 with (go_at_call 14;refine cP.mono ?_;rintro e w19 ⟨rfl,b19⟩);clear cP;have S19:=SO.below b19;clear b19;clear F0;clear SO;have F0:=AAD (S19.facts 0 rfl);have F2:=AAD (S19.facts 2 rfl);have cS:=XM w19 _ a14 (aG _) xQ aD w19 (bH _ _) k15 n15 z15 y15 o15 m15 l15 kO nO zO yO oO mO lO (S19.tree (a14,(vT k15 n15 z15 y15 o15 m15 l15)) (.tail _ (.head _))) (S19.tree (xQ,(vT kO nO zO yO oO mO lO)) (.head _));rw[s14]at cS;go_upto_region 11 with (go_at_call 36;refine cS.mono ?_;rintro e w20 ⟨rfl,b20⟩);clear cS s14;have S20:=S19.below b20;clear b20;clear F0 F2;clear S19;replace S20:=S20.less (fv':=[(B8,tg kO nO zO yO oO mO lO)]) (ts':=[(xQ,(vT kO nO zO yO oO mO lO))]) aI aI;obtain⟨r21,hr21⟩:∃ r,DB sx3 false=r:=⟨_,rfl⟩
  obtain⟨a21,p21,q21⟩:=r21;have f21:=ex4;have c21:=S20.tq (IS sx3 aD w20 (hml.below S20.low) (Hg g3));rw[hr21]at c21 f21;simp only[pB]at f21
  obtain⟨f21,g21⟩:=f21;subst f21 g21;clear hr21;unfold sx3 at c21;go_upto_region 12 with (go_at_call 33;refine c21.mono ?_;rintro e w22 ⟨k22,n22,z22,y22,o22,m22,l22,rfl,S22⟩);clear c21;clear S20;have S23:=S22.At (tg k22 n22 z22 y22 o22 m22 l22) (tg k22 n22 z22 y22 o22 m22 l22) rfl _ rfl;generalize World.alloc w22 (.cells (tg k22 n22 z22 y22 o22 m22 l22) 24)=w23 at S23 ⊢;generalize w22.heap.size=B23 at S23 ⊢;clear S22;obtain⟨r24,hr24⟩:∃ r,DB sx4 false=r:=⟨_,rfl⟩
  obtain⟨a24,p24,q24⟩:=r24;have f24:=ex5;have c24:=S23.tq (IS sx4 aD w23 (hml.below S23.low) (Hg g4));rw[hr24]at c24 f24;simp only[pB]at f24
  obtain⟨f24,g24⟩:=f24;subst f24 g24;clear hr24;unfold sx4 at c24;go_upto_region 13 with (go_at_call 33;refine c24.mono ?_;rintro e w25 ⟨k25,n25,z25,y25,o25,m25,l25,rfl,S25⟩);clear c24;clear S23;have S26:=S25.At (tg k25 n25 z25 y25 o25 m25 l25) (tg k25 n25 z25 y25 o25 m25 l25) rfl _ rfl;generalize World.alloc w25 (.cells (tg k25 n25 z25 y25 o25 m25 l25) 24)=w26 at S26 ⊢;generalize w25.heap.size=B26 at S26 ⊢;clear S25;have cR:=NR sx5 aD w26 (hml.below S26.low) (Hg g5);have f6:=ex6;have f7:=ex7;have f9:=ex9;have f11:=aLq;obtain⟨rr,hrr⟩:∃ r,KC sx5=r:=⟨_,rfl⟩
  obtain⟨a6,q6⟩:=rr;rw[hrr]at cR f6 f7 f9 f11;clear hrr;simp only at f6 f7 f9 f11
  subst f6;unfold sx5 at cR;go_upto_region 14 with (go_at_call 16;refine cR.mono ?_;rintro e w27 ⟨b27,k27,n27,z27,y27,o27,m27,l27,at6,rfl,hT6⟩);have S27:=S26.DM b27 hT6;clear b27 hT6 cR;clear S26;have S28:=S27.At (tg k27 n27 z27 y27 o27 m27 l27) (tg k27 n27 z27 y27 o27 m27 l27) rfl _ rfl;generalize World.alloc w27 (.cells (tg k27 n27 z27 y27 o27 m27 l27) 24)=w28 at S28 ⊢;generalize w27.heap.size=B28 at S28 ⊢;clear S27;have F0:=AAD (S28.facts 0 rfl);have h6:=Ul _ a6 (aG _) f11;have cT:=GK w28 (hTab.below S28.low) a6 h6.1 h6.2 k27 n27 z27 y27 o27 m27 l27 (S28.tree (a6,(vT k27 n27 z27 y27 o27 m27 l27)) (.head _));obtain⟨rs,hrs⟩:∃ r,stR a6=r:=⟨_,rfl⟩
  obtain⟨ps,q7⟩:=rs;rw[hrs]at cT f7;simp only[pB]at f7
  obtain⟨f7,hps⟩:=f7;subst f7;clear hrs;have hps:=aN hps;go_upto_region 15 with (go_at_call 24;refine cT.mono ?_;rintro e w29 ⟨b29,vS,us,ob,rfl,hvS,hpS⟩);clear cT;have hus:us.length=2:=by rw[<- hps.out];exact hpS.len
  obtain⟨gS,capS,hvv,_,_⟩:=hvS.form aB;rw[hus]at hvv;clear hvS hpS hus;subst hvv;have S29:=S28.below b29;clear b29;clear F0;clear S28;have F3:=AAD (S29.facts 3 rfl);have cZ:AAA 37 #[tg kO nO zO yO oO mO lO] w29 λe w'=>e=.returned (.tuple #[iq 11,iq 4])/\iY w29 w':=by
   have hz:=agD w29 _ xQ (aG _) aD w29 (bH _ _) kO nO zO yO oO mO lO (S29.tree (xQ,(vT kO nO zO yO oO mO lO)) (.tail _ (.tail _ (.tail _ (.head _)))));rw[ex8.1,ex8.2]at hz;exact hz
  go_upto_region 16 with (go_at_call 37;refine cZ.mono ?_;rintro e w30 ⟨rfl,b30⟩);clear cZ;have S30:=S29.below b30;clear b30;clear F3;clear S29;have F0:=AAD (S30.facts 0 rfl);have cN:=KM w30 (hTab.below S30.low) a6 h6.1 h6.2 k27 n27 z27 y27 o27 m27 l27 (S30.tree (a6,(vT k27 n27 z27 y27 o27 m27 l27)) (.head _));rw[f9]at cN;go_upto_region 17 with (go_at_call 29;refine cN.mono ?_;rintro e w31 ⟨b31,vN,rfl,hvN⟩);clear cN;have S31:=S30.below b31;clear b31;clear F0;clear S30;have bE:=aJ w31 (.cells #[.string ⟨#[70]⟩,.string ⟨#[88]⟩] 9);have nE:=aP w31 (.cells #[.string ⟨#[70]⟩,.string ⟨#[88]⟩] 9);have cE:=aeT (w31.alloc (.cells #[.string ⟨#[70]⟩,.string ⟨#[88]⟩] 9)) vN [⟨#[70]⟩,⟨#[88]⟩] _ aI aD (hvN.alloc _) w31.heap.size 2 (λj hj=>by rw[aK _ _ j _ _ _ nE];match j,hj with|0,_=>rfl|1,_=>rfl);obtain⟨gN,capN,hvv,_,_⟩:=hvN.form aD;subst hvv;have cC:∀ q:Nat,AAA 11 #[tg 11 0 0 ⟨#[65]⟩ none 0 0] ((w31.alloc (.cells #[.string ⟨#[70]⟩,.string ⟨#[88]⟩] 9)).drewN q) λe w'=>e=.returned (.int .i64 71)/\Below ((w31.alloc (.cells #[.string ⟨#[70]⟩,.string ⟨#[88]⟩] 9)).drewN q).heap.size ((w31.alloc (.cells #[.string ⟨#[70]⟩,.string ⟨#[88]⟩] 9)).drewN q) w':=λq=>by
   have hz:=nV ((w31.alloc (.cells #[.string ⟨#[70]⟩,.string ⟨#[88]⟩] 9)).drewN q) (hTab.below ((S31.below bE).drewN q).low) (.mk 11 0 0 ⟨#[65]⟩ []) (Ul _ _ (aG _) aJT).1 (Ul _ _ (aG _) aJT).2 11 0 0 ⟨#[65]⟩ none 0 0 (iB.leaf _ _ 11 0 0 ⟨#[65]⟩ 0);unfold Ed at hz;rw[aC (by rw[aLa];decide)]at hz;exact hz
  go_wp2_with (first|(go_at_call 32;refine cE.mono ?_;rintro e wx ⟨rfl,qE,rfl⟩)|(go_at_call 11;refine(cC _).mono ?_;rintro e wx ⟨rfl,bC⟩));go_ret;exact⟨rfl,(((S31.below bE).drewN _).below bC).low⟩
end
