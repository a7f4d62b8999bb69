/- ParseFree: the law holds of the program, whatever the input. No condition. -/
import Derived.Test.YtikalomcclefiaaGreatDoorZ03
import Derived.Test.YtikalomcclefiaaGreatDoorCards
set_option linter.all false
set_option maxHeartbeats 0
set_option maxRecDepth 100000
namespace Go.Proofs.YtikalomcclefiaaGreatDoor
section
open Go.RowKit Lx Px
def aGC{t:T}{f:ByteArray->ByteArray}(h:qF t=true):qF (qX f false t)=true:=by
 obtain⟨h1,a1,w1,x,y,r,h2,h3,h4⟩:=rZ h;obtain⟨k,n,a,w,l⟩:=t;obtain rfl:k=14:=h1;obtain rfl:l=_:=h2;rw[Tc _ _ _ _ _ _ aD aD aD];refine adG rfl (x:=qX f false x) (y:=qX f false y) (r:=r.map (qX f false)) (a1:=a1) (w1:=w1) ?_ ?_ (by rw[MS];exact h4)
 ·show [qX f false (T.mk 15 1 a1 w1 (x::y::r))]=_
  rw[Tc _ _ _ _ _ _ aD aD aD];rfl
 ·obtain⟨kx,nx,ax,wx,lx⟩:=x;obtain rfl:lx=[]:=h3;rw[qX,BS];rfl
def azZ{t:T}(hc:De t=true):(Jn t).2=0\/(Jn t).2=2:=by
 unfold Jn;rw[FZ hc]
 split
 ·exact .inr rfl
 ·rename_i h5
  rw[aF rfl];obtain⟨_,t',h2,h3⟩:=(BK t).1 hc;have hg:Gd (Eu t):=by
   have e:aL false t'=Eu t:=Uy h2
   rcases h3 with h|h
   ·exact e ▸ Nt false h
   ·exact e ▸ Nt false h
  unfold Lx.gX
  split
  ·exact .inr rfl
  ·split
   ·rename_i h6
    refine absurd h6 ?_;rw[Bool.not_eq_false,iJ];intro p hp;obtain⟨u,hu,rfl⟩:=iL.1 hp;obtain⟨z,hz,rfl⟩:=iL.1 hu;exact hg z hz
   ·split
    ·exact .inr rfl
    ·exact .inl rfl
def VY(w:World)(hTab:fQ w)(hml:ML w)(t:T)(hEt:XJ t)(kT nT zT:Int)(yT:dL)(oT:iD)(mT lT:Nat)(hT:Tr w t (vT kT nT zT yT oT mT lT))(P:List (ByteArray×ByteArray))(ao:iD)(cap:Nat)(hP:aKF w (.slice ao P.length cap) P)(hmax:P.length<=9223372036854775807):AAA 6 #[tg kT nT zT yT oT mT lT,.slice ao P.length cap] w λe w'=>e=.returned (.bool true)/\iY w w':=by
 have S0:LS w w [] [] [(t,vT kT nT zT yT oT mT lT)]:=LS.WN (by intro p hp;rw[cO.1 hp];exact hT);have S1:=S0.oF (tg kT nT zT yT oT mT lT) (tg kT nT zT yT oT mT lT) rfl _ rfl;clear S0;have hsn:=IN _ (hTab.below S1.low) (hml.below S1.low);go_in;go_upto_region 1 with fail;generalize World.alloc w _=w1 at S1 hsn ⊢;go_upto_region 3 with (go_at_call 8;refine hsn.mono ?_;rintro e w2 ⟨rfl,b2⟩);have S2:=S1.below b2;clear hsn b2 S1;have F0:=AAD (S2.nM 0 rfl);have hR:=vG (dO.one (S2.tree (t,vT kT nT zT yT oT mT lT) (.head _))) (tg kT nT zT yT oT mT lT) rfl 1 rfl;have cM:=kV (w2.alloc (.cells (tg kT nT zT yT oT mT lT) 24)) _ [t] hR aI;have SR:=S2.below (aJ w2 (.cells (tg kT nT zT yT oT mT lT) 24));clear hR;go_upto_block 3 with fail;generalize World.alloc w2 (.cells (tg kT nT zT yT oT mT lT) 24)=wR at SR cM ⊢;refine cM.mono ?_;rintro e w3 ⟨bb,rfl,hb,b3⟩;have S3:=SR.below b3;clear cM b3 SR S2 F0
 cases bb with
 | false=>
  go_wp2_with fail;go_ret;exact⟨rfl,S3.low⟩
 | true=>
  have hCt:=hb.1 rfl t aI;clear hb
  by_cases h20:(20:Int)<(P.length:Int)
  ·go_wp2_with fail;go_ret;exact⟨rfl,S3.low⟩
  obtain⟨okt,wdt⟩:=Tb hCt aD hEt;have F0:=AAD (S3.nM 0 rfl);have cC:=nV w3 (hTab.below S3.low) t okt wdt kT nT zT yT oT mT lT (S3.tree (t,vT kT nT zT yT oT mT lT) (.head _));unfold Ed at cC;have cG:=λW (hx:Tr W t (vT kT nT zT yT oT mT lT))=>EO W t (by have:=hCt.1;omega) kT nT zT yT oT mT lT hx
  cases hc:De t with
  | false=>
   rw[hc]at cC;go_wp2_with (go_at_call 11;refine cC.mono ?_;rintro e w4 ⟨rfl,b4⟩);go_ret;exact⟨rfl,(S3.below b4).low⟩
  | true=>
   rw[hc]at cC
   cases hp:qF t with
   | false=>
    rw[hp]at cG;go_wp2_with (first|(go_at_call 11;refine cC.mono ?_;rintro e w4 ⟨rfl,b4⟩;have S4:=S3.below b4;have G0:=AAD (S4.nM 0 rfl))|(go_at_call 15;refine(cG w4 (S4.tree (t,vT kT nT zT yT oT mT lT) (.head _))).mono ?_;rintro e w5 ⟨rfl,b5⟩));go_ret;exact⟨rfl,(S4.below b5).low⟩
   | true=>
    rw[hp]at cG;go_upto_region 5 with (first|(go_at_call 11;refine cC.mono ?_;rintro e w4 ⟨rfl,b4⟩;have S4:=S3.below b4;have G0:=AAD (S4.nM 0 rfl))|(go_at_call 15;refine(cG w4 (S4.tree (t,vT kT nT zT yT oT mT lT) (.head _))).mono ?_;rintro e w5 ⟨rfl,b5⟩));have S5:=S4.below b5;clear cC cG b4 b5 S3 S4 F0 G0 okt wdt h20 hT;go_wp2_with fail
    go_loopg [36] P.length (λg t36 wr=>∃ (i:Nat) (t:T) (k n a:Int) (s:dL) (o:iD) (m c:Nat),t36=.int .i64 i/\i<=P.length/\g=P.length - i/\De t=true/\qF t=true/\CF t 4100 1/\XJ t/\LS w wr [(w.heap.size,tg k n a s o m c)] [] [(t,vT k n a s o m c)])
    case atStart=>exact⟨0,t,kT,nT,zT,yT,oT,mT,lT,rfl,aS _,rfl,hc,hp,hCt,hEt,S5⟩
    case round=>
     clear S5 hc hp hCt hEt;obtain⟨i,t,k,n,a,s,o,m,c,rfl,hi,hg,hc,hp,hCt,hEt,S⟩:=hrel;have HG:=aN hg;clear hg;obtain⟨okt,wdt⟩:=Tb hCt aD hEt
     by_cases hlt:i<P.length
     ·obtain⟨ao1,cap1,e,hrow⟩:=hP;obtain⟨b,off,rfl,hbw,hcell⟩:=hrow kF;simp only[dZ]at e
      obtain⟨rfl,hz9,rfl⟩:=e;clear hz9;obtain⟨d0,d1⟩:=hcell i hlt;generalize (P[i]'hlt)=pr at d0 d1;obtain⟨A,B⟩:=pr;replace d0:=(S.low.cell (p:=(AAF b (off+i*2))) hbw).trans d0;replace d1:=(S.low.cell (p:=(AAF b (off+i*2+1))) hbw).trans d1;have x1:(i:Int)<(P.length:Int):=by omega
      have b4:=aJ wr (.cells #[.string A,.string B] 58);have n4:=aP wr (.cells #[.string A,.string B] 58);go_upto_region 8 with fail;generalize World.alloc wr _=w5 at b4 n4 ⊢;have S5:=S.below b4;have k0:w5.cell? (AAF wr.heap.size 0)=some (.string A):=aK w5 _ 0 _ _ _ n4;have k1:w5.cell? (AAF wr.heap.size 1)=some (.string B):=aK w5 _ 1 _ _ _ n4;clear d0 d1 b4 S hcell hrow x1;have F0:=AAD (S5.nM 0 rfl);have cR:=Hj w5 (hTab.below S5.low) t okt wdt A B k n a s o m c (S5.tree (t,vT k n a s o m c) (.head _))
      by_cases hAB:oI A=true/\oI B=true
      ·obtain⟨hr1,hcx,hCx,hEx⟩:=NL hc hAB.1 hAB.2 hCt hEt;have hpx:=aGC (f:=rf A B) hp;rw[hr1]at cR;clear hr1 hAB;generalize qX (rf A B) false t=x at cR hcx hCx hEx hpx;go_upto_region 9 with (go_at_call 27;refine cR.mono ?_;rintro e w6 ⟨b6,k6,n6,a6,s6,o6,m6,c6,rfl,T6⟩);have S6:=S5.DM b6 T6;have S7:=S6.At (tg k6 n6 a6 s6 o6 m6 c6) (tg k6 n6 a6 s6 o6 m6 c6) rfl _ rfl;generalize World.alloc w6 (.cells (tg k6 n6 a6 s6 o6 m6 c6) 24)=w7 at S7 ⊢;generalize w6.heap.size=B6 at S7 ⊢;clear cR b6 T6 S5 S6 F0 k0 k1 n4;have F0:=AAD (S7.facts 0 rfl);have hR:=vG (dO.one (S7.tree (x,vT k6 n6 a6 s6 o6 m6 c6) (.head _))) (tg k6 n6 a6 s6 o6 m6 c6) rfl 1 rfl;have cM:=kV (w7.alloc (.cells (tg k6 n6 a6 s6 o6 m6 c6) 24)) _ [x] hR aI;have SR:=S7.below (aJ w7 (.cells (tg k6 n6 a6 s6 o6 m6 c6) 24));have hM:∀ u,u∈[x]->CF u 4100 1:=by simp[hCx]
       clear hR;go_upto_region 14 with (go_at_call 9;refine cM.mono ?_;rintro e w8 ⟨bb,rfl,hb,b8⟩;obtain rfl:bb=true:=hb.2 hM;clear hb);have S8:=SR.below b8;clear cM hM SR b8 S7 F0;have F0:=AAD (S8.facts 0 rfl);have R0:=AAD (S8.nM 0 rfl);have S9:=S8.fY rfl k6 n6 a6 s6 (.slice o6 m6 c6);unfold AY at S9;have S9:=S9.less (fv':=[]) (ts':=[(x,vT k6 n6 a6 s6 o6 m6 c6)]) aI aI;have HS:=aN S9;clear S9;go_wp2_with fail
       go_roundg (P.length - (i+1))
       case measure=>rw[HG.out];omega
       case rel=>exact⟨i+1,x,k6,n6,a6,s6,o6,m6,c6,by go_num,hlt,rfl,hcx,hpx,hCx,hEx,HS.out⟩
      ·rw[show abN t A B=(sP,1)by unfold abN;rw[aF hc,aC hAB]]at cR;go_upto_region 9 with (go_at_call 27;refine cR.mono ?_;rintro e w6 ⟨b6,k6,n6,a6,s6,o6,m6,c6,rfl,T6⟩);have S6:=(S5.below b6).below (aJ w6 (.cells (tg k6 n6 a6 s6 o6 m6 c6) 24));generalize World.alloc w6 (.cells (tg k6 n6 a6 s6 o6 m6 c6) 24)=w7 at S6 ⊢;clear cR b6 T6 S5 F0 k0 k1 n4;go_wp2_with fail
       go_roundg (P.length - (i+1))
       case measure=>rw[HG.out];omega
       case rel=>exact⟨i+1,t,k,n,a,s,o,m,c,by go_num,hlt,rfl,hc,hp,hCt,hEt,S6⟩
     ·have x1:¬ (i:Int)<(P.length:Int):=by omega
      have F0:=AAD (S.nM 0 rfl);go_upto_region 16 with fail;have cX:=NV wr (hTab.below S.low) (hml.below S.low) t okt wdt k n a s o m c (S.tree (t,vT k n a s o m c) (.head _));obtain⟨tx,hx⟩:∃ r,Jn t=r:=⟨_,rfl⟩
      have hte:=azZ hc;rw[hx]at cX hte;obtain⟨s1,e1⟩:=tx;have HTX:=aN hx;clear hx;go_upto_region 17 with (go_at_call 14;refine cX.mono ?_;rintro e w10 ⟨rfl,b10⟩);have S10:=S.below b10;clear cX b10 S F0
      rcases hte with he1|he1
      ·obtain rfl:e1=0:=he1;obtain⟨hsz,htk,y,hy,hys⟩:=Yz wdt hc hp HTX.out;go_upto_region 19 with fail;have cR:=NR s1 aB w10 (hml.below S10.low) htk;rw[hy]at cR;go_upto_region 20 with (go_at_call 16;refine cR.mono ?_;rintro e w12 ⟨b12,k2,n2,z2,y2,o2,m2,l2,q2,rfl,T12⟩);have S12:=S10.DM b12 T12;have S13:=S12.At (tg k2 n2 z2 y2 o2 m2 l2) (tg k2 n2 z2 y2 o2 m2 l2) rfl _ rfl;generalize World.alloc w12 (.cells (tg k2 n2 z2 y2 o2 m2 l2) 24)=w13 at S13 ⊢;generalize w12.heap.size=B12 at S13 ⊢;clear cR b12 T12 S10 S12;obtain⟨hCy,_⟩:=Hy hys hCt hEt;have F0:=AAD (S13.facts 0 rfl);have R0:=AAD (S13.nM 0 rfl);have hR:=vG (dO.one (S13.tree (y,vT k2 n2 z2 y2 o2 m2 l2) (.head _))) (tg k2 n2 z2 y2 o2 m2 l2) rfl 1 rfl;have cM:=kV (w13.alloc (.cells (tg k2 n2 z2 y2 o2 m2 l2) 24)) _ [y] hR aI;have SR:=S13.below (aJ w13 (.cells (tg k2 n2 z2 y2 o2 m2 l2) 24));have hM:∀ u,u∈[y]->CF u 4100 1:=by simp[hCy]
       clear hR;go_wp2_with (first|(go_at_call 9;refine cM.mono ?_;rintro e w14 ⟨bb,rfl,hb,b14⟩;obtain rfl:bb=true:=hb.2 hM;clear hb;have S14:=SR.below b14;have G0:=AAD (S14.facts 0 rfl);have G1:=AAD (S14.nM 0 rfl))|(go_at_call 13;refine(Cf w14 _ y (aG _) t (by have:=hCt.1;omega) w14 (bH _ _) k2 n2 z2 y2 o2 m2 l2 k n a s o m c (S14.tree (y,vT k2 n2 z2 y2 o2 m2 l2) (.head _)) (S14.tree (t,vT k n a s o m c) (.tail _ (.head _)))).mono ?_;rw[hys];rintro e w15 ⟨rfl,b15⟩));go_ret;exact⟨rfl,(S14.below b15).low⟩
      ·obtain rfl:e1=2:=he1;go_wp2_with fail;go_ret;exact⟨rfl,S10.low⟩
end
section
open Go.ChangeShapes Go.WideShapes Go.ChangeAt Go.RowKit Lx Px
open Go.ChangeMaps (open_string shut_string)
def NS(os:Os)(started:os.Started)(H:Type)(enc:TypeId×Value->H):ReturnsInHanded {} Tryz.checked os 6 .any (λw args=>(Rows.parseFreeSpec.pre enc Tryz.prog Tryz.f6 [] false w args/\laidMetH Tryz.prog rH w)/\sizedMet enc Tryz.prog Tryz.f6 (OpenSpec.ofChange Rows.parseFreeSpec) false w args) (Rows.parseFreeSpec.post enc Tryz.prog Tryz.f6 false true false false):=by
 refine Ce (C:=Tryz.checked) (X:=λw _=>laidMetH Tryz.prog rH w) aDu started aQ Tryz.func6
  (ChangeSpec.witness_shaped (enc:=enc) (C:=Tryz.checked) (os:=os) (X:=λw _=>laidMetH Tryz.prog rH w) false (World.laidAll Tryz.prog os rH) #[tg 0 0 0 ⟨#[]⟩ none 0 0,.slice none 0 0] 8 (World.laidAll_os _ _ _)
   (Mi os) aQ aQ aQ
   (by rw[MakeChecks.laidMetH_plain _ _ _ aQ];exact laidMet_laidAll _ aQ aQ)) ?_
 intro W base args ds gs before hval0 hW _ hsh hLH;have hval:∀ (j:Nat) t v,Tryz.f6.params[j]?=some t->args[j]?=some v->Value.okWide Tryz.prog W .any base t v:=hval0;have hW':=hW;obtain⟨p,q,hA0,hV,rfl,_,_⟩:=hW;have hA:DataW.TrodAll enc Tryz.prog W 0 (λ_=>true) true Tryz.f6.params.toList args.toList ds p:=hA0;rw[Tryz.params6]at hA hval;obtain⟨v0,v1,d0,d1,p0,p1,rfl,rfl,rfl,h0,h1⟩:=trodAll_two hA;obtain⟨rfl,rfl⟩:=trodVars_none hV;obtain⟨t0,k0,n0,z0,y0,o0,m0,l0,rfl,hT0,hE0⟩:=FH (hval 0 _ v0 rfl rfl) h0;obtain⟨P1,hQ1,hm1⟩:=anP (hval 1 _ v1 rfl rfl) h1;obtain⟨ao1,cp1,rfl,hU1⟩:=id hQ1;have hL:laidMet Tryz.prog rH W.memory:=by rw[MakeChecks.laidMetH_plain _ _ _ aQ]at hLH;exact hLH
 have hTm:fQ W.memory:=Vc hL;have hTab:fQ W:=hTm;refine(VY W hTab (aeY hsh) t0 hE0 k0 n0 z0 y0 o0 m0 l0 hT0 P1 ao1 cp1 hQ1 hm1).mono λe W' ⟨he,hb⟩=>?_;subst he;have hlt:∀ y∈(p0++p1)++[],y.block<W.heap.size:=λy hy=>hW'.lt y hy
 exact⟨_,rfl,Hi hW' rfl rfl rfl (λsp hsp=>by
  rw[Tryz.params6]
  rw[bD]at hsp hlt ⊢
  exact trodAll_mk2 (WideElems.Trod_stays QG aQ (iG aQ) h0 (λy hy=>hb.same (hlt y (by simp[hy]))) (λy hy=>hsp y (by simp[hy])))
   (WideElems.Trod_stays QG aQ (iG aQ) h1 (λy hy=>hb.same (hlt y (by simp[hy]))) (λy hy=>hsp y (by simp[hy])))) hb⟩
def Na: Rows.parseFreeRow.laidByTextAt .later Tryz.pinned [.data,.data,.data,.data,.sentinel,.sentinel,.pinned] true:=
 OpenClaim.laidByTextAt_pinned rfl rfl tie rfl rfl rfl rfl (λy hy _e => by
   simp only [Rows.parseFreeRow, List.zip_cons_cons, List.zip_nil_right, bO, List.mem_nil_iff, or_false] at hy
   rcases hy with rfl | rfl | rfl | rfl | rfl | rfl | rfl
   · cases _e
   · cases _e
   · cases _e
   · cases _e
   · cases _e
   · cases _e
   · exact ⟨jD, by kernel_rfl⟩) aiE
def abV: Rows.ParseFreeSaid:=
 OpenClaim.holds_of_wide 6 Tryz.f6 rfl rfl rfl rfl rfl rfl rfl ⟨rfl,rfl,rfl,rfl,rfl⟩ rfl rfl rfl rfl rfl aQ Tryz.func6 aQ
  (iG aQ) (by unfold Func.isWrapper;first|(rw[aF aE];kernel_rfl)|(rw[aC aE];exact⟨rfl,rfl⟩))
  (λos started H enc _=>NS os started H enc)
def Vv: Rows.ParseFreeCardSaid:=
 Claim7.holds_tied_plain_at .later [] [.data,.data,.data,.data,.sentinel,.sentinel,.pinned] true (true,"444515db2f49c643c3105946acfbf8479b97ebfe9767868f205b285ee7d5f22c") true abV (λ_ h=>by cases h) aQ (λ_ h=>by cases h) Na rfl ⟨rfl,rfl⟩ aQ rfl
  (λf fn hf hfn => by
    obtain rfl : f = 6 := Option.some.inj ((show Tryz.prog.funcNamed "pliant/pliantlaw07.ParseFree" = some 6 by kernel_rfl).symm.trans hf) |>.symm
    obtain rfl : fn = Tryz.f6 := (Option.some.inj (Tryz.func6.symm.trans hfn)).symm
    exact ⟨by kernel_rfl, λj t ht => by
      rw [Tryz.params6] at ht
      have hm : t ∈ [24, 57] := by have := Array.mem_of_getElem? ht; simp at this; simp; omega
      have hall : ([24, 57].all λu => !Tryz.prog.wantsStandIn u) = true := by kernel_rfl
      exact (show Tryz.prog.wantsStandIn t = false by simpa using iJ.1 hall t hm)⟩)
  aQ
theorem ParseFree_holds: Rows.ParseFreeCardSaid:=Vv
end
end Go.Proofs.YtikalomcclefiaaGreatDoor
