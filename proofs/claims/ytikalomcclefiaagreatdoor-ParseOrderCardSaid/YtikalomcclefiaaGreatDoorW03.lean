/- ParseOrder: the law holds of the program, whatever the input. No condition. -/
import Derived.Test.YtikalomcclefiaaGreatDoorW02
import Derived.Test.YtikalomcclefiaaGreatDoorCards
set_option linter.all false
set_option maxHeartbeats 0
set_option maxRecDepth 100000
namespace Go.Proofs.YtikalomcclefiaaGreatDoor
section
open Go.RowKit Lx Px
def WH{L:List T3}(h:VR L=true):∀ t,t∈L->t.text.size<=1000:=λt ht=>by
 unfold VR at h;simp only[bA,Gx,List.any_eq_false]at h
 have:=h.2 t ht;unfold YF at this;have:¬ 1000<t.text.size:=by simpa using this
 omega
def Kj{L:List T3}(h:VR L=true):∀ x,x∈lk L->x.text.size<=1000:=λx hx=>by
 obtain⟨t,ht,rfl⟩:=iL.1 hx;exact WH h t ht
def Ux{L:List Tk}{read:Nat->R T}{k:Nat}{s:So}{t:T}(hL:∀ x,x∈L->x.text.size<=1000)(h5:L.length<=5000)(h:∀ K,WK K L->Nw K L.length k (read 0))(e:uN L read=.ok t)(hs:oJ t=true)(hv:V s t):CF t 4100 1/\XJ t:=by
 have h1:=BX.1 hs;exact⟨⟨by omega,by omega,anC hL h5 h e⟩,apU (λn _ _ h=>by unfold inR;omega) t (aKJ hv)⟩
mutual
theorem aoQ: ∀ t:T,(Df t).length<=nodes t
 | .mk k n a w l=>by
  have:=adC l;rw[Df,nodes,aO]
  split<;>simp<;>omega
theorem adC: ∀ l:List T,(zH l).length<=bV l
 | []=>by rw[zH];exact aS _
 | x::r=>by
  have h1:=aoQ x;have h2:=adC r;rw[zH,bV,aO];omega
end
def lst(t:T)(i:Nat):Int:=if i=0 then -1 else plc t (i - 1)
def TI(w:World)(hTab:fQ w)(hml:ML w)(L:List T3)(ao:iD)(cap:Nat)(hL:fJ w (.slice ao L.length cap) L)(hmax:L.length<=9223372036854775807):AAA 5 #[.slice ao L.length cap] w λe w'=>e=.returned (.bool true)/\iY w w':=by
 have hsn:=IN w hTab hml;go_in;go_upto_region 3 with (go_at_call 8;refine hsn.mono ?_;rintro e w1 ⟨rfl,b1⟩);clear hsn;have hL1:=hL.below b1 (aG _);have cF:=apB _ L w1 hL1 aB
 cases hf:VR L with
 | false=>
  rw[hf]at cF;go_wp2_with (go_at_call 10;refine cF.mono ?_;rintro e w3 ⟨rfl,b3⟩);go_ret;exact⟨rfl,b1.trans (b3.mono b1.size)⟩
 | true=>
  rw[hf]at cF;go_upto_region 5 with (go_at_call 10;refine cF.mono ?_;rintro e w2 ⟨rfl,b2⟩);have S2:=((LS.begin w).below b1).below b2;have hP:=Dc L (λt ht=>aZ (WH hf t ht) aD) (.slice ao L.length cap) w2 (hL1.below b2 (aG _)) aB;obtain⟨r,hr⟩:∃ r,jM fC (lk L)=r:=⟨_,rfl⟩
  rw[hr]at hP;obtain⟨t,rx,ry⟩:=r;have HR:=aN hr;clear hr cF hL1 b1 b2 hL;go_upto_region 6 with (go_at_call 19;refine hP.mono ?_;rintro e w3 ⟨b3,k3,n3,a3,s3,o3,m3,c3,rfl,T3⟩);have S3:=S2.DM b3 T3;clear hP b3 T3 S2;have S4:=S3.At (tg k3 n3 a3 s3 o3 m3 c3) (tg k3 n3 a3 s3 o3 m3 c3) rfl _ rfl;generalize World.alloc w3 (.cells (tg k3 n3 a3 s3 o3 m3 c3) 24)=w4 at S4 ⊢;generalize w3.heap.size=B3 at S4 ⊢;clear S3
  by_cases hy:ry=0
  ·subst hy;have F0:=AAD (S4.facts 0 rfl);go_upto_region 8 with fail;obtain⟨hck,hvt,_⟩:=acS HR.out rfl;obtain⟨hlen,hpos,hat,hplc,hpw⟩:=asO HR.out rfl;obtain⟨h5,hg,t',hall,hsm,h3⟩:=CU.1 (show (jM fC (lk L)).2.2=0 by rw[HR.out]);obtain rfl:t=t':=(Prod.mk.inj (HR.out.symm.trans h3)).1;obtain⟨hCF,hev⟩:=Ux (Kj hf) h5 (λK _=>AV (K:=K) (lk L) 0) hall hsm hvt;obtain⟨okt,wdt⟩:=Tb hCF aD hev;have hdep:=(BX.1 hsm).2;have cS:=GK w4 (hTab.below S4.low) t okt wdt k3 n3 a3 s3 o3 m3 c3 (S4.tree (t,(vT k3 n3 a3 s3 o3 m3 c3)) (.head _));rw[show stR t=(Md [] t,0)by unfold stR;rw[aF hck]]at cS;have hlk:(lk L).length=L.length:=bN _;rw[hlk]at hplc;rw[<- hlen]at hpos hplc;have hps:(Md [] t).length<=4100:=by rw[hlen];exact aZ (aoQ t) hCF.1
   have hdp:∀ i,(hi:i<(Md [] t).length)->(Md [] t)[i].length<=60:=λi hi=>by
    obtain⟨x,hx,_⟩:=hat i hi;have:=aIy _ _ _ hx;omega
   clear hlen h5 hg hall h3 hlk hvt hsm hdep hev;generalize Md [] t=ps at cS hpos hplc hat hpw hdp hps;go_upto_region 9 with (go_at_call 24;refine cS.mono ?_;rintro e w5 ⟨b5,v5,us,ob,rfl,ho5,hp5⟩);have S5:=S4.below b5;clear cS b5 F0 S4;have hN:us.length=ps.length:=hp5.len;have hlt5:=ho5.lt;obtain⟨g,c5,rfl,hg5,hc5,hcell⟩:∃ g c5,v5=.slice (some (AAF g 0)) us.length c5/\g<w5.heap.size/\us.length<=c5/\∀ i u,us[i]?=some u->w5.cell? (AAF g (0+i))=some u:=by
    rcases ho5.2 with ⟨rfl,h0⟩|⟨g,c5,cur,rfl,hB,hg,hle,hmx,hsz,htk⟩
    ·omega
    ·refine⟨g,c5,rfl,(aX.1 hg).1,hle,λi u hu=>?_⟩;have hi:=(lS.1 hu).1;rw[dT,aK w5 g i _ _ _ hg,<- Cy];have h6:(List.take (us.length*1) cur.toList)[i]?=us[i]?:=by rw[htk]
     rw[CO,aF aB]at h6;rw[h6,hu]
   rw[hN]at hc5 ⊢;have HC:=aN (λi (hi:i<ps.length)=>(let ⟨u,h1,h2⟩:=hp5.get i hi;⟨u,hcell i u h1,h2⟩:∃ u,w5.cell? (AAF g (0+i))=some u/\Ei w5 u (ps[i]'hi)));clear ho5 hp5 hcell hlt5 hN;have F0:=AAD (S5.facts 0 rfl);have hR:=vG (dO.one (S5.tree (t,(vT k3 n3 a3 s3 o3 m3 c3)) (.head _))) (tg k3 n3 a3 s3 o3 m3 c3) rfl 1 rfl;have cM:=kV (w5.alloc (.cells (tg k3 n3 a3 s3 o3 m3 c3) 24)) _ [t] hR aI;have SR:=S5.below (aJ w5 (.cells (tg k3 n3 a3 s3 o3 m3 c3) 24));have bR:=aJ w5 (.cells (tg k3 n3 a3 s3 o3 m3 c3) 24);have hM:∀ u,u∈[t]->CF u 4100 1:=by simp[hCF]
   have hpos1:¬ (ps.length:Int)<1:=by omega
   go_upto_region 12 with (go_at_call 9;refine cM.mono ?_;rintro e w6 ⟨bb,rfl,hb,b6⟩;obtain rfl:bb=true:=hb.2 hM;clear hb);have S6:=SR.below b6;have B56:=bR.trans (b6.mono bR.size);clear cM hM SR bR b6 S5 hR F0 hpos1;have HP:=aN hplc;have HAT:=aN hat;have HPW:=aN (KZ.1 hpw);have HDP:=aN hdp;clear hplc hat hpw hdp hpos;go_wp2_with fail
   go_loopg [7,47] ps.length (λq t7 t47 wr=>∃ i:Nat,t47=.int .i64 i/\t7=.int .i64 (lst t i)/\i<=ps.length/\q=ps.length - i/\LS w wr [] [(B3,tg k3 n3 a3 s3 o3 m3 c3)] [(t,vT k3 n3 a3 s3 o3 m3 c3)]/\iY w5 wr)
   case atStart=>exact⟨0,rfl,rfl,aS _,rfl,S6,B56⟩
   case round=>
    clear S6 B56;obtain⟨i,rfl,rfl,hi,hq,S,Bz⟩:=hrel;have HG:=aN hq;clear hq
    by_cases hlt:i<ps.length
    ·obtain⟨u,hcell,hrow⟩:=HC.out i hlt;obtain⟨x,hax,hpx⟩:=HAT.out i hlt;obtain⟨hp0,hp1,hp2⟩:=HP.out i hlt;have hd:=HDP.out i hlt;have HPWi:=aN (λj (hj:j<i)=>HPW.out j i (tP hj hlt) hlt hj);generalize ps[i]'hlt=p at hrow hax hd HPWi;obtain⟨pa,pc,rfl,hpc⟩:=hrow.form;have d0:=(Bz.cell (p:=(AAF g (0+i))) hg5).trans hcell;have hrow1:=hrow.below Bz;have x1:(i:Int)<(ps.length:Int):=by omega
     have F0:=AAD (S.facts 0 rfl);clear hcell hrow;simp only[dT]at d0
     go_upto_region 15 with fail;have cA:=aIh wr (hTab.below S.low) t okt wdt k3 n3 a3 s3 o3 m3 c3 (S.tree (t,vT k3 n3 a3 s3 o3 m3 c3) (.head _)) (.slice pa p.length pc) p hrow1 aB;rw[aHF hck hax]at cA;go_upto_region 16 with (go_at_call 25;refine cA.mono ?_;rintro e w11 ⟨b11,k11,n11,z11,y11,o11,m11,l11,rfl,T11⟩);have S11:=S.ayR b11 T11;have S12:=S11.At (tg k11 n11 z11 y11 o11 m11 l11) (tg k11 n11 z11 y11 o11 m11 l11) rfl _ rfl;have Bx:=Bz.trans (b11.mono Bz.size);have By:=Bx.trans ((aJ w11 (.cells (tg k11 n11 z11 y11 o11 m11 l11) 24)).mono Bx.size);have hz:z11=plc t i:=T11.split.2.2.1.trans hpx;have hrow2:Ei _ (.slice pa p.length pc) p:=(hrow1.below b11).below (aJ w11 (.cells (tg k11 n11 z11 y11 o11 m11 l11) 24));generalize World.alloc w11 (.cells (tg k11 n11 z11 y11 o11 m11 l11) 24)=w12 at S12 By hrow2 ⊢;generalize w11.heap.size=B12 at S12 ⊢;clear d0 cA b11 T11 S11 Bx hrow1 F0 S Bz;have g1:¬ z11<=lst t i:=by
      unfold lst
      split
      ·omega
      ·have:=(HP.out (i - 1) aB).2.2 aB;rw[Nat.sub_add_cancel aB]at this;omega
     have g2:¬ (L.length:Int)<=z11:=by omega
     have HZ:=aN hz;clear hp0 hp1 hp2 hz hpx hax;have F0:=AAD (S12.facts 0 rfl);have g3:(0:Int)<=(i:Int):=by omega
     have g4:(i:Int)<=(c5:Int):=by omega
     go_upto_region 19 with fail;clear g1 g2 F0;go_wp2_with fail;clear g3 g4
     go_loopg [79] i (λq2 t79 wy=>∃ j:Nat,t79=.int .i64 j/\j<=i/\q2=i - j/\∃ n,wy=w12.drewN n)
     case atStart=>exact⟨0,rfl,aS _,rfl,0,rfl⟩
     case round=>
      obtain⟨j,rfl,hj,hq2,nn,rfl⟩:=hrel;have HG2:=aN hq2;clear hq2
      by_cases hlj:j<i
      ·obtain⟨u,hcell,hrow⟩:=HC.out j (tP hlj hlt);have hne:=HPWi.out j hlj;have hd2:=HDP.out j (tP hlj hlt);generalize ps[j]'(tP hlj hlt)=p2 at hrow hne hd2;obtain⟨pa2,pc2,rfl,hpc2⟩:=hrow.form;have d0:=(By.cell (p:=(AAF g (0+j))) hg5).trans hcell;simp only[dT]at d0
       have hrow3:=hrow.below By;have x2:(j:Int)<(i:Int):=by omega
       clear hcell hrow;go_upto_region 22 with fail;clear d0
       by_cases hll:p.length<p2.length
       ·have y1:(p.length:Int)<(p2.length:Int):=by omega
        have y2:(0:Int)<=(p.length:Int):=by omega
        have y3:(p.length:Int)<=(pc2:Int):=by omega
        have cE:=amM (.slice pa2 p.length pc2) (.slice pa p.length pc) (p2.take p.length) p (w12.drewN nn) (show Ei (w12.drewN nn) _ _ from Ei.take hrow3 aB) (show Ei (w12.drewN nn) _ _ from hrow2) (by rw[jV];omega) aB;rw[bX (λe=>hne ⟨hll,e⟩)]at cE;go_wp2_with (go_at_call 26;refine cE.mono ?_;rintro e w14 ⟨rfl,n2,rfl⟩)
        exact QN
       ·have y1:¬ (p.length:Int)<(p2.length:Int):=by omega
        go_wp2_with fail
        exact QN
      ·have x2:¬ (j:Int)<(i:Int):=by omega
       go_wp2_with fail
       go_roundg (ps.length - (i+1))
       case measure=>rw[HG.out];exact Nat.sub_lt_sub_left hlt (pC _)
       case rel=>exact⟨i+1,by go_num,by rw[HZ.out];unfold lst;rw[aC aB,Nat.add_sub_cancel],by omega,rfl,(S12.drewN nn).less aI aI,By.trans ((below_drewN w12 nn).mono By.size)⟩
    ·have x1:¬ (i:Int)<(ps.length:Int):=by omega
     go_wp2_with fail;go_ret;exact⟨rfl,S.low⟩
  ·have F0:=AAD (S4.facts 0 rfl);go_wp2_with fail;go_ret;exact⟨rfl,S4.low⟩
end
section
open Go.ChangeShapes Go.WideShapes Go.ChangeAt Go.RowKit Lx Px
open Go.ChangeMaps (open_string shut_string)
def MX(os:Os)(started:os.Started)(H:Type)(enc:TypeId×Value->H):ReturnsInHanded {} Tryz.checked os 5 .any (λw args=>(Rows.parseOrderSpec.pre enc Tryz.prog Tryz.f5 [] false w args/\laidMetH Tryz.prog rH w)/\sizedMet enc Tryz.prog Tryz.f5 (OpenSpec.ofChange Rows.parseOrderSpec) false w args) (Rows.parseOrderSpec.post enc Tryz.prog Tryz.f5 false true false false):=by
 refine Ce (C:=Tryz.checked) (X:=λw _=>laidMetH Tryz.prog rH w) aDu started aQ Tryz.func5
  (ChangeSpec.witness_shaped (enc:=enc) (C:=Tryz.checked) (os:=os) (X:=λw _=>laidMetH Tryz.prog rH w) false (World.laidAll Tryz.prog os rH) #[.slice none 0 0] 8 (World.laidAll_os _ _ _)
   (Mi os) aQ aQ aQ
   (by rw[MakeChecks.laidMetH_plain _ _ _ aQ];exact laidMet_laidAll _ aQ aQ)) ?_
 intro W base args ds gs before hval0 hW _ hsh hLH;have hval:∀ (j:Nat) t v,Tryz.f5.params[j]?=some t->args[j]?=some v->Value.okWide Tryz.prog W .any base t v:=hval0;have hW':=hW;obtain⟨p,q,hA0,hV,rfl,_,_⟩:=hW;have hA:DataW.TrodAll enc Tryz.prog W 0 (λ_=>true) true Tryz.f5.params.toList args.toList ds p:=hA0;rw[Tryz.params5]at hA hval;obtain⟨v0,d0,rfl,rfl,h0⟩:=trodAll_one hA;obtain⟨rfl,rfl⟩:=trodVars_none hV;obtain⟨ts0,hT0,hm0⟩:=YN (hval 0 _ v0 rfl rfl) h0;obtain⟨ao0,cp0,rfl,hU0⟩:=id hT0;have hL:laidMet Tryz.prog rH W.memory:=by rw[MakeChecks.laidMetH_plain _ _ _ aQ]at hLH;exact hLH
 have hTm:fQ W.memory:=Vc hL;have hTab:fQ W:=hTm;refine(TI W hTab (aeY hsh) ts0 ao0 cp0 hT0 hm0).mono λe W' ⟨he,hb⟩=>?_;subst he;have hlt:∀ y∈(p)++[],y.block<W.heap.size:=λy hy=>hW'.lt y hy
 exact⟨_,rfl,Hi hW' rfl rfl rfl (λsp hsp=>by
  rw[Tryz.params5]
  rw[bD]at hsp hlt ⊢
  exact trodAll_mk1 (WideElems.Trod_stays QG aQ (iG aQ) h0 (λy hy=>hb.same (hlt y hy)) hsp)) hb⟩
def Lm: Rows.parseOrderRow.laidByTextAt .later Tryz.pinned [.data,.data,.data,.data,.sentinel,.sentinel,.pinned] true:=
 OpenClaim.laidByTextAt_pinned rfl rfl tie rfl rfl rfl rfl (λy hy _e => by
   simp only [Rows.parseOrderRow, List.zip_cons_cons, List.zip_nil_right, bO, List.mem_nil_iff, or_false] at hy
   rcases hy with rfl | rfl | rfl | rfl | rfl | rfl | rfl
   · cases _e
   · cases _e
   · cases _e
   · cases _e
   · cases _e
   · cases _e
   · exact ⟨jD, by kernel_rfl⟩) aiE
def XF: Rows.ParseOrderSaid:=
 OpenClaim.holds_of_wide 5 Tryz.f5 rfl rfl rfl rfl rfl rfl rfl ⟨rfl,rfl,rfl,rfl,rfl⟩ rfl rfl rfl rfl rfl aQ Tryz.func5 aQ
  (iG aQ) (by unfold Func.isWrapper;first|(rw[aF aE];kernel_rfl)|(rw[aC aE];exact⟨rfl,rfl⟩))
  (λos started H enc _=>MX os started H enc)
def TL: Rows.ParseOrderCardSaid:=
 Claim7.holds_tied_plain_at .later [] [.data,.data,.data,.data,.sentinel,.sentinel,.pinned] true (true,"444515db2f49c643c3105946acfbf8479b97ebfe9767868f205b285ee7d5f22c") true XF (λ_ h=>by cases h) aQ (λ_ h=>by cases h) Lm rfl ⟨rfl,rfl⟩ aQ rfl
  (λf fn hf hfn => by
    obtain rfl : f = 5 := Option.some.inj ((show Tryz.prog.funcNamed "pliant/pliantlaw07.ParseOrder" = some 5 by kernel_rfl).symm.trans hf) |>.symm
    obtain rfl : fn = Tryz.f5 := (Option.some.inj (Tryz.func5.symm.trans hfn)).symm
    exact ⟨by kernel_rfl, λj t ht => by
      rw [Tryz.params5] at ht
      have hm : t ∈ [25] := by have := Array.mem_of_getElem? ht; simp at this; simp; omega
      have hall : ([25].all λu => !Tryz.prog.wantsStandIn u) = true := by kernel_rfl
      exact (show Tryz.prog.wantsStandIn t = false by simpa using iJ.1 hall t hm)⟩)
  aQ
theorem ParseOrder_holds: Rows.ParseOrderCardSaid:=TL
end
end Go.Proofs.YtikalomcclefiaaGreatDoor
