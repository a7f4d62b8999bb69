/- ParsePrinted: the law holds of the program, whatever the input. No condition. -/
import Derived.Test.YtikalomcclefiaaGreatDoorY03
import Derived.Test.YtikalomcclefiaaGreatDoorCards
set_option linter.all false
set_option maxHeartbeats 0
set_option maxRecDepth 100000
namespace Go.Proofs.YtikalomcclefiaaGreatDoor
section
open Go.RowKit Lx Px
def rdI(i:Nat):List Tk->Nat->R T:=if i=0 then dB else if i=1 then rW else fC
def fnI(i:Nat):FuncId:=if i=0 then 17 else if i=1 then 18 else 19
def aKv(i:Nat):∀ args w,(callFunc (fnI i) args).run Tryz.prog w=.ok (.enter (fnI i) args) w:=by
 unfold fnI
 split
 ·exact enters_of Tryz.func17 aD rfl
 ·split
  ·exact enters_of Tryz.func18 aD rfl
  ·exact enters_of Tryz.func19 aD rfl
def aFM(i:Nat)(L:List T3)(hs:∀ t,t∈L->t.text.size<=140737488351232)(v:Value)(w:World)(hT:fJ w v L)(hl:L.length<=9223372036854775807):AAA (fnI i) #[v] w (TQ w (jM (rdI i) (lk L))):=by
 unfold fnI rdI
 split
 ·exact Be L hs v w hT hl
 ·split
  ·exact CI L hs v w hT hl
  ·exact Dc L hs v w hT hl
def aFk(i:Nat){L:List T3}{x:T}{a e:Int}(hf:VR L=true)(h:jM (rdI i) (lk L)=(x,a,e))(he:e=0):De x=true/\CF x 4100 1/\XJ x/\(i=2->qF x=true):=by
 obtain⟨h5,hg,t',hall,hsm,h3⟩:=CU.1 (show (jM (rdI i) (lk L)).2.2=0 by rw[h];exact he);obtain rfl:x=t':=(Prod.mk.inj (h.symm.trans h3)).1;unfold rdI at h hall
 split at h
 ·rw[aF ‹_›]at hall;obtain⟨h1,hv⟩:=aBl h he;obtain⟨h2,h3⟩:=Ux (Kj hf) h5 (λK _=>mZ (K:=K) (lk L) 0) hall hsm hv;exact⟨h1,h2,h3,λe=>by omega⟩
 ·rw[aC ‹_›]at hall
  split at h
  ·rw[aF ‹_›]at hall;obtain⟨h1,hv⟩:=aAN h he;obtain⟨h2,h3⟩:=Ux (Kj hf) h5 (λK _=>UT (K:=K) (lk L) 0) hall hsm hv;exact⟨h1,h2,h3,λe=>by omega⟩
  ·rw[aC ‹_›]at hall;obtain⟨h1,hv,hp⟩:=acS h he;obtain⟨h2,h3⟩:=Ux (Kj hf) h5 (λK _=>AV (K:=K) (lk L) 0) hall hsm hv;exact⟨h1,h2,h3,λ_=>aAg hp⟩
def Mt(w:World)(hTab:fQ w)(hml:ML w)(t:T)(hEt:XJ t)(kT nT zT:Int)(yT:dL)(oT:iD)(mT lT:Nat)(hT:Tr w t (vT kT nT zT yT oT mT lT))(L:List T3)(ao:iD)(cap:Nat)(hL:fJ w (.slice ao L.length cap) L)(hmax:L.length<=9223372036854775807):AAA 3 #[tg kT nT zT yT oT mT lT,.slice ao L.length cap] w λe w'=>e=.returned (.bool true)/\iY w w':=by
 have S0:LS w w [] [] [(t,vT kT nT zT yT oT mT lT)]:=LS.WN (by intro p hp;rw[cO.1 hp];exact hT);have S1:=S0.At (tg kT nT zT yT oT mT lT) (tg kT nT zT yT oT mT lT) rfl _ rfl;clear S0;have hsn:=IN _ (hTab.below S1.low) (hml.below S1.low);go_in;go_upto_region 1 with fail;generalize World.alloc w _=w1 at S1 hsn ⊢;go_upto_region 3 with (go_at_call 8;refine hsn.mono ?_;rintro e w2 ⟨rfl,b2⟩);have S2:=S1.below b2;clear hsn b2 S1;have F0:=AAD (S2.facts 0 rfl);have hR:=vG (dO.one (S2.tree (t,vT kT nT zT yT oT mT lT) (.head _))) (tg kT nT zT yT oT mT lT) rfl 1 rfl;have cM:=kV (w2.alloc (.cells (tg kT nT zT yT oT mT lT) 24)) _ [t] hR aI;have SR:=S2.below (aJ w2 (.cells (tg kT nT zT yT oT mT lT) 24));clear hR;go_upto_block 3 with fail;generalize World.alloc w2 (.cells (tg kT nT zT yT oT mT lT) 24)=wR at SR cM ⊢;refine cM.mono ?_;rintro e w3 ⟨bb,rfl,hb,b3⟩;have S3:=SR.below b3;clear cM b3 SR S2 F0
 cases bb with
 | false=>
  go_wp2_with fail;go_ret;exact⟨rfl,S3.low⟩
 | true=>
  have hCt:=hb.1 rfl t aI;clear hb;have cF:=apB _ L w3 (hL.below S3.low (aG _)) aB
  cases hf:VR L with
  | false=>
   rw[hf]at cF;go_wp2_with (go_at_call 10;refine cF.mono ?_;rintro e w4 ⟨rfl,b4⟩);go_ret;exact⟨rfl,(S3.below b4).low⟩
  | true=>
   rw[hf]at cF;go_upto_region 5 with (go_at_call 10;refine cF.mono ?_;rintro e w4 ⟨rfl,b4⟩);have S4:=S3.below b4;clear cF b4 S3;obtain⟨okt,wdt⟩:=Tb hCt aD hEt;have hTab4:=hTab.below S4.low;have F0:=AAD (S4.facts 0 rfl);have cC:=nV w4 hTab4 t okt wdt kT nT zT yT oT mT lT (S4.tree (t,vT kT nT zT yT oT mT lT) (.head _));unfold Ed at cC;go_upto_if 32 with (go_at_call 11;refine cC.mono ?_;rintro e w5 ⟨rfl,b5⟩);have S5:=S4.below b5;clear cC b5 F0 hTab4 S4;go_cut [] (λwx=>LS w wx [] [] [])
   case first=>
    cases hc:De t with
    | false=>
     clear hT hL
     go_wp2
     go_meet
     case rel=>exact S5.less aI aI
    | true=>
     have F0:=AAD (S5.facts 0 rfl);have cA:=XW w5 (hTab.below S5.low) t okt wdt hc kT nT zT yT oT mT lT (S5.tree (t,vT kT nT zT yT oT mT lT) (.head _));go_upto_region 7 with (go_at_call 12;refine cA.mono ?_;rintro e w6 ⟨b6,x,k6,n6,z6,y6,o6,m6,l6,rfl,T6,hxs⟩);have S6:=S5.ayR b6 T6;have S7:=S6.At (tg k6 n6 z6 y6 o6 m6 l6) (tg k6 n6 z6 y6 o6 m6 l6) rfl _ rfl;generalize World.alloc w6 (.cells (tg k6 n6 z6 y6 o6 m6 l6) 24)=w7 at S7 ⊢;generalize w6.heap.size=B6 at S7 ⊢;clear cA b6 T6 F0 S5 S6;obtain⟨hCx,_⟩:=Hy hxs hCt hEt;have F0:=AAD (S7.facts 0 rfl);have F1:=AAD (S7.facts 1 rfl);have hR:=vG (dO.one (S7.tree (x,vT k6 n6 z6 y6 o6 m6 l6) (.head _))) (tg k6 n6 z6 y6 o6 m6 l6) rfl 1 rfl;have cM:=kV (w7.alloc (.cells (tg k6 n6 z6 y6 o6 m6 l6) 24)) _ [x] hR aI;have SR:=S7.below (aJ w7 (.cells (tg k6 n6 z6 y6 o6 m6 l6) 24));have hM:∀ u,u∈[x]->CF u 4100 1:=by simp[hCx]
     clear hR;go_upto_region 9 with (first|(go_at_call 9;refine cM.mono ?_;rintro e w8 ⟨bb,rfl,hb,b8⟩;obtain rfl:bb=true:=hb.2 hM;clear hb;have S8:=SR.below b8;have G0:=AAD (S8.facts 0 rfl);have G1:=AAD (S8.facts 1 rfl))|(go_at_call 13;refine(Cf w8 _ x (aG _) t (by have:=hCt.1;omega) w8 (bH _ _) k6 n6 z6 y6 o6 m6 l6 kT nT zT yT oT mT lT (S8.tree (x,vT k6 n6 z6 y6 o6 m6 l6) (.head _)) (S8.tree (t,vT kT nT zT yT oT mT lT) (.tail _ (.head _)))).mono ?_;rw[hxs];rintro e w9 ⟨rfl,b9⟩));have S9:=S8.below b9;clear b9 b8 cM hM SR S8 G0 G1 S7 F0 F1;replace S9:=S9.less (fv':=[(w.heap.size,tg kT nT zT yT oT mT lT)]) (ts':=[(t,vT kT nT zT yT oT mT lT)]) aI aI;have F0:=AAD (S9.facts 0 rfl);have cX:=NV w9 (hTab.below S9.low) (hml.below S9.low) t okt wdt kT nT zT yT oT mT lT (S9.tree (t,vT kT nT zT yT oT mT lT) (.head _));obtain⟨tx,hx⟩:∃ r,Jn t=r:=⟨_,rfl⟩
     rw[hx]at cX;obtain⟨s1,e1⟩:=tx;have HTX:=aN hx;clear hx;go_upto_region 10 with (go_at_call 14;refine cX.mono ?_;rintro e w10 ⟨rfl,b10⟩);have S10:=S9.below b10;clear cX b10 S9 F0;have F0:=AAD (S10.facts 0 rfl)
     by_cases he1:e1=0
     ·subst he1;have cG:=EO w10 t (by have:=hCt.1;omega) kT nT zT yT oT mT lT (S10.tree (t,vT kT nT zT yT oT mT lT) (.head _))
      cases hp:qF t with
      | false=>
       rw[hp]at cG;go_wp2_with (go_at_call 15;refine cG.mono ?_;rintro e w11 ⟨rfl,b11⟩);go_meet
       case rel=>exact(S10.below b11).less aI aI
      | true=>
       rw[hp]at cG;obtain⟨hsz,htk,y,hy,hys⟩:=Yz wdt hc hp HTX.out;go_upto_region 11 with (go_at_call 15;refine cG.mono ?_;rintro e w11 ⟨rfl,b11⟩);have S11:=S10.below b11;clear cG b11 S10 F0;have cR:=NR s1 aB w11 (hml.below S11.low) htk;rw[hy]at cR;go_upto_region 12 with (go_at_call 16;refine cR.mono ?_;rintro e w12 ⟨b12,k2,n2,z2,y2,o2,m2,l2,q2,rfl,T12⟩);have S12:=S11.DM b12 T12;have S13:=S12.At (tg k2 n2 z2 y2 o2 m2 l2) (tg k2 n2 z2 y2 o2 m2 l2) rfl _ rfl;generalize World.alloc w12 (.cells (tg k2 n2 z2 y2 o2 m2 l2) 24)=w13 at S13 ⊢;generalize w12.heap.size=B12 at S13 ⊢;clear cR b12 T12 S11 S12;obtain⟨hCy,_⟩:=Hy hys hCt hEt;have F0:=AAD (S13.facts 0 rfl);have F1:=AAD (S13.facts 1 rfl);have hR:=vG (dO.one (S13.tree (y,vT k2 n2 z2 y2 o2 m2 l2) (.head _))) (tg k2 n2 z2 y2 o2 m2 l2) rfl 1 rfl;have cM:=kV (w13.alloc (.cells (tg k2 n2 z2 y2 o2 m2 l2) 24)) _ [y] hR aI;have SR:=S13.below (aJ w13 (.cells (tg k2 n2 z2 y2 o2 m2 l2) 24));have hM:∀ u,u∈[y]->CF u 4100 1:=by simp[hCy]
       clear hR;go_wp2_with (first|(go_at_call 9;refine cM.mono ?_;rintro e w14 ⟨bb,rfl,hb,b14⟩;obtain rfl:bb=true:=hb.2 hM;clear hb;have S14:=SR.below b14;have G0:=AAD (S14.facts 0 rfl);have G1:=AAD (S14.facts 1 rfl))|(go_at_call 13;refine(Cf w14 _ y (aG _) t (by have:=hCt.1;omega) w14 (bH _ _) k2 n2 z2 y2 o2 m2 l2 kT nT zT yT oT mT lT (S14.tree (y,vT k2 n2 z2 y2 o2 m2 l2) (.head _)) (S14.tree (t,vT kT nT zT yT oT mT lT) (.tail _ (.head _)))).mono ?_;rw[hys];rintro e w15 ⟨rfl,b15⟩));go_meet
       case rel=>exact(S14.below b15).less aI aI
     ·go_wp2
      go_meet
      case rel=>exact S10.less aI aI
   case rest=>
    have S6:=hcut;clear hcut S5 hT okt wdt hCt;have nA:=aP wc (.cells #[.func (.func 17) #[] #[],.func (.func 18) #[] #[],.func (.func 19) #[] #[]] 39);have SA:=S6.below (aJ wc (.cells #[.func (.func 17) #[] #[],.func (.func 18) #[] #[],.func (.func 19) #[] #[]] 39));go_wp2_with fail;generalize World.alloc wc _=w5 at nA SA ⊢;have hA5:=(aX.1 nA).1
    have HCF:=aN (λi (hi:i<3)=>(show w5.cell? (AAF wc.heap.size (0+i))=some (.func (.func (fnI i)) #[] #[])by
     rw[dT,aK w5 _ i _ _ _ nA]
     match i,hi with
     | 0,_=>rfl
     | 1,_=>rfl
     | 2,_=>rfl))
    clear nA S6;have hLs:=λW (b:iY w W)=>hL.below b (aG _)
    have hT3:∀ u,u∈L->u.text.size<=140737488351232:=λu hu=>aZ (WH hf u hu) aD
    generalize wc.heap.size=BA at HCF hA5 ⊢
    go_loopg [85] 3 (λq t85 wr=>∃ i:Nat,t85=.int .i64 i/\i<=3/\q=3 - i/\LS w wr [] [] []/\iY w5 wr)
    case atStart=>exact⟨0,rfl,aS _,rfl,SA,bH _ _⟩
    case round=>
     clear SA;obtain⟨i,rfl,hi,hq,S,Bz⟩:=hrel;have HG:=aN hq;clear hq
     by_cases hlt:i<3
     ·have d0:=(Bz.cell (p:=(AAF BA (0+i))) hA5).trans (HCF.out i hlt);have x1:(i:Int)<3:=by omega
      have cT:=aFM i L hT3 (.slice ao L.length cap) wr (hLs wr S.low) aB;have hK:=aKv i;have HLAW:=aN (λ(x:T) (a e:Int)=>@aFk i L x a e hf);generalize fnI i=K at cT hK d0;simp only[dT]at d0
      obtain⟨r,hr⟩:∃ r,jM (rdI i) (lk L)=r:=⟨_,rfl⟩
      rw[hr]at cT;obtain⟨x,rx,ry⟩:=r;have hlaw:=HLAW.out x rx ry hr;clear hr HLAW;go_upto_region 17 with fail;clear d0 x1;go_upto_block 17 with fail;refine cT.mono ?_;rintro e w6 ⟨b6,k6,n6,z6,y6,o6,m6,l6,rfl,T6⟩;have S6:=S.DM b6 T6;have S7:=S6.At (tg k6 n6 z6 y6 o6 m6 l6) (tg k6 n6 z6 y6 o6 m6 l6) rfl _ rfl;have B7:=Bz.trans ((b6.trans ((aJ w6 (.cells (tg k6 n6 z6 y6 o6 m6 l6) 24)).mono b6.size)).mono Bz.size);go_upto_region 18 with fail;generalize World.alloc w6 (.cells (tg k6 n6 z6 y6 o6 m6 l6) 24)=w7 at S7 B7 ⊢;generalize w6.heap.size=B6 at S7 ⊢;clear cT b6 T6 S6 S Bz hK
      by_cases he:ry=0
      ·subst he;obtain⟨hck,hCx,hEx,hp2⟩:=hlaw rfl;clear hlaw;obtain⟨okx,wdx⟩:=Tb hCx aD hEx;have F0:=AAD (S7.facts 0 rfl);have hR:=vG (dO.one (S7.tree (x,vT k6 n6 z6 y6 o6 m6 l6) (.head _))) (tg k6 n6 z6 y6 o6 m6 l6) rfl 1 rfl;have cM:=kV (w7.alloc (.cells (tg k6 n6 z6 y6 o6 m6 l6) 24)) _ [x] hR aI;have bR:=aJ w7 (.cells (tg k6 n6 z6 y6 o6 m6 l6) 24);have hM:∀ u,u∈[x]->CF u 4100 1:=by simp[hCx]
       have cC:=λW hW (hx:Tr W x (vT k6 n6 z6 y6 o6 m6 l6))=>nV W hW x okx wdx k6 n6 z6 y6 o6 m6 l6 hx
       unfold Ed at cC;rw[hck]at cC;have cG:=λW (hx:Tr W x (vT k6 n6 z6 y6 o6 m6 l6))=>EO W x (by have:=hCx.1;omega) k6 n6 z6 y6 o6 m6 l6 hx
       clear hR;have hj:∃ w8,LS w w8 [] [(B6,tg k6 n6 z6 y6 o6 m6 l6)] [(x,vT k6 n6 z6 y6 o6 m6 l6)]:=⟨_,S7.less aI aI⟩
       clear hj;go_upto_region 19 with fail;go_cut [116] (λv116 wx=>v116=.bool false/\LS w wx [] [(B6,tg k6 n6 z6 y6 o6 m6 l6)] [(x,vT k6 n6 z6 y6 o6 m6 l6)]/\iY w5 wx)
       case first=>
        by_cases h2:i=2
        ·have y1:((i:Int)==2)=true:=by simp[h2]
         have hpx:=hp2 h2;rw[hpx]at cG;clear h2 hp2 hpx;go_wp2_with (first|(go_at_call 9;refine cM.mono ?_;rintro e w8 ⟨bb,rfl,hb,b8⟩;obtain rfl:bb=true:=hb.2 hM;clear hb;have b78:=bR.trans (b8.mono bR.size);have S8:=S7.below b78;have G0:=AAD (S8.facts 0 rfl))|(go_at_call 11;refine(cC w8 (hTab.below S8.low) (S8.tree (x,vT k6 n6 z6 y6 o6 m6 l6) (.head _))).mono ?_;rintro e w9 ⟨rfl,b9⟩;have S9:=S8.below b9;have b79:=b78.trans (b9.mono b78.size);have G0:=AAD (S9.facts 0 rfl))|(go_at_call 15;refine(cG w9 (S9.tree (x,vT k6 n6 z6 y6 o6 m6 l6) (.head _))).mono ?_;rintro e w10 ⟨rfl,b10⟩));go_meet
         case rel=>exact⟨rfl,S9.below b10,B7.trans ((b79.trans (b10.mono b79.size)).mono B7.size)⟩
        ·have y1:((i:Int)==2)=false:=by simp;omega
         clear h2 hp2 cG;go_wp2_with (first|(go_at_call 9;refine cM.mono ?_;rintro e w8 ⟨bb,rfl,hb,b8⟩;obtain rfl:bb=true:=hb.2 hM;clear hb;have b78:=bR.trans (b8.mono bR.size);have S8:=S7.below b78;have G0:=AAD (S8.facts 0 rfl))|(go_at_call 11;refine(cC w8 (hTab.below S8.low) (S8.tree (x,vT k6 n6 z6 y6 o6 m6 l6) (.head _))).mono ?_;rintro e w9 ⟨rfl,b9⟩));go_meet
         case rel=>exact⟨rfl,S8.below b9,B7.trans ((b78.trans (b9.mono b78.size)).mono B7.size)⟩
       case rest=>
        obtain⟨rfl,S9,B9⟩:=hcut;clear cM cC cG bR hM S7 B7 F0;have F0:=AAD (S9.facts 0 rfl);have cA:=XW wc (hTab.below S9.low) x okx wdx hck k6 n6 z6 y6 o6 m6 l6 (S9.tree (x,vT k6 n6 z6 y6 o6 m6 l6) (.head _));go_upto_region 21 with fail;go_upto_region 22 with (go_at_call 12;refine cA.mono ?_;rintro e w11 ⟨b11,y,k2,n2,z2,y2,o2,m2,l2,rfl,T11,hys⟩);have S11:=S9.ayR b11 T11;have S12:=S11.At (tg k2 n2 z2 y2 o2 m2 l2) (tg k2 n2 z2 y2 o2 m2 l2) rfl _ rfl;have B12:=B9.trans ((b11.trans ((aJ w11 (.cells (tg k2 n2 z2 y2 o2 m2 l2) 24)).mono b11.size)).mono B9.size);generalize World.alloc w11 (.cells (tg k2 n2 z2 y2 o2 m2 l2) 24)=w12 at S12 B12 ⊢;generalize w11.heap.size=B11 at S12 ⊢;clear cA b11 T11 S11 S9 B9 F0;obtain⟨hCy,_⟩:=Hy hys hCx hEx;have hsy:=atA hys;have F0:=AAD (S12.facts 0 rfl);have F1:=AAD (S12.facts 1 rfl);have hR:=vG (dO.one (S12.tree (y,vT k2 n2 z2 y2 o2 m2 l2) (.head _))) (tg k2 n2 z2 y2 o2 m2 l2) rfl 1 rfl;have cM:=kV (w12.alloc (.cells (tg k2 n2 z2 y2 o2 m2 l2) 24)) _ [y] hR aI;have bR:=aJ w12 (.cells (tg k2 n2 z2 y2 o2 m2 l2) 24);have hM:∀ u,u∈[y]->CF u 4100 1:=by simp[hCy]
        clear hR;go_wp2_with (first|(go_at_call 9;refine cM.mono ?_;rintro e w13 ⟨bb,rfl,hb,b13⟩;obtain rfl:bb=true:=hb.2 hM;clear hb;have b1213:=bR.trans (b13.mono bR.size);have S13:=S12.below b1213;have G0:=AAD (S13.facts 0 rfl);have G1:=AAD (S13.facts 1 rfl))|(go_at_call 13;refine(Cf w13 _ x (aG _) y (by have:=hCy.1;omega) w13 (bH _ _) k6 n6 z6 y6 o6 m6 l6 k2 n2 z2 y2 o2 m2 l2 (S13.tree (x,vT k6 n6 z6 y6 o6 m6 l6) (.tail _ (.head _))) (S13.tree (y,vT k2 n2 z2 y2 o2 m2 l2) (.head _))).mono ?_;rw[hsy];rintro e w14 ⟨rfl,b14⟩))
        go_roundg (3 - (i+1))
        case measure=>rw[HG.out];omega
        case rel=>exact⟨i+1,by go_num,hlt,rfl,(S13.below b14).less aI aI,B12.trans ((b1213.trans (b14.mono b1213.size)).mono B12.size)⟩
      ·clear hlaw;go_wp2_with fail
       go_roundg (3 - (i+1))
       case measure=>rw[HG.out];omega
       case rel=>exact⟨i+1,by go_num,hlt,rfl,S7.less aI aI,B7⟩
     ·have x1:¬ (i:Int)<3:=by omega
      go_wp2_with fail;go_ret;exact⟨rfl,S.low⟩
end
section
open Go.ChangeShapes Go.WideShapes Go.ChangeAt Go.RowKit Lx Px
open Go.ChangeMaps (open_string shut_string)
def Kr(os:Os)(started:os.Started)(H:Type)(enc:TypeId×Value->H):ReturnsInHanded {} Tryz.checked os 3 .any (λw args=>(Rows.parsePrintedSpec.pre enc Tryz.prog Tryz.f3 [] false w args/\laidMetH Tryz.prog rH w)/\sizedMet enc Tryz.prog Tryz.f3 (OpenSpec.ofChange Rows.parsePrintedSpec) false w args) (Rows.parsePrintedSpec.post enc Tryz.prog Tryz.f3 false true false false):=by
 refine Ce (C:=Tryz.checked) (X:=λw _=>laidMetH Tryz.prog rH w) aDu started aQ Tryz.func3
  (ChangeSpec.witness_shaped (enc:=enc) (C:=Tryz.checked) (os:=os) (X:=λw _=>laidMetH Tryz.prog rH w) false (World.laidAll Tryz.prog os rH) #[tg 0 0 0 ⟨#[]⟩ none 0 0,.slice none 0 0] 8 (World.laidAll_os _ _ _)
   (Mi os) aQ aQ aQ
   (by rw[MakeChecks.laidMetH_plain _ _ _ aQ];exact laidMet_laidAll _ aQ aQ)) ?_
 intro W base args ds gs before hval0 hW _ hsh hLH;have hval:∀ (j:Nat) t v,Tryz.f3.params[j]?=some t->args[j]?=some v->Value.okWide Tryz.prog W .any base t v:=hval0;have hW':=hW;obtain⟨p,q,hA0,hV,rfl,_,_⟩:=hW;have hA:DataW.TrodAll enc Tryz.prog W 0 (λ_=>true) true Tryz.f3.params.toList args.toList ds p:=hA0;rw[Tryz.params3]at hA hval;obtain⟨v0,v1,d0,d1,p0,p1,rfl,rfl,rfl,h0,h1⟩:=trodAll_two hA;obtain⟨rfl,rfl⟩:=trodVars_none hV;obtain⟨t0,k0,n0,z0,y0,o0,m0,l0,rfl,hT0,hE0⟩:=FH (hval 0 _ v0 rfl rfl) h0;obtain⟨ts1,hT1,hm1⟩:=YN (hval 1 _ v1 rfl rfl) h1;obtain⟨ao1,cp1,rfl,hU1⟩:=id hT1;have hL:laidMet Tryz.prog rH W.memory:=by rw[MakeChecks.laidMetH_plain _ _ _ aQ]at hLH;exact hLH
 have hTm:fQ W.memory:=Vc hL;have hTab:fQ W:=hTm;refine(Mt W hTab (aeY hsh) t0 hE0 k0 n0 z0 y0 o0 m0 l0 hT0 ts1 ao1 cp1 hT1 hm1).mono λe W' ⟨he,hb⟩=>?_;subst he;have hlt:∀ y∈(p0++p1)++[],y.block<W.heap.size:=λy hy=>hW'.lt y hy
 exact⟨_,rfl,Hi hW' rfl rfl rfl (λsp hsp=>by
  rw[Tryz.params3]
  rw[bD]at hsp hlt ⊢
  exact trodAll_mk2 (WideElems.Trod_stays QG aQ (iG aQ) h0 (λy hy=>hb.same (hlt y (by simp[hy]))) (λy hy=>hsp y (by simp[hy])))
   (WideElems.Trod_stays QG aQ (iG aQ) h1 (λy hy=>hb.same (hlt y (by simp[hy]))) (λy hy=>hsp y (by simp[hy])))) hb⟩
def GV: Rows.parsePrintedRow.laidByTextAt .later Tryz.pinned [.data,.data,.data,.data,.sentinel,.sentinel,.pinned] true:=
 OpenClaim.laidByTextAt_pinned rfl rfl tie rfl rfl rfl rfl (λy hy _e => by
   simp only [Rows.parsePrintedRow, List.zip_cons_cons, List.zip_nil_right, bO, List.mem_nil_iff, or_false] at hy
   rcases hy with rfl | rfl | rfl | rfl | rfl | rfl | rfl
   · cases _e
   · cases _e
   · cases _e
   · cases _e
   · cases _e
   · cases _e
   · exact ⟨jD, by kernel_rfl⟩) aiE
def TM: Rows.ParsePrintedSaid:=
 OpenClaim.holds_of_wide 3 Tryz.f3 rfl rfl rfl rfl rfl rfl rfl ⟨rfl,rfl,rfl,rfl,rfl⟩ rfl rfl rfl rfl rfl aQ Tryz.func3 aQ
  (iG aQ) (by unfold Func.isWrapper;first|(rw[aF aE];kernel_rfl)|(rw[aC aE];exact⟨rfl,rfl⟩))
  (λos started H enc _=>Kr os started H enc)
def MC: Rows.ParsePrintedCardSaid:=
 Claim7.holds_tied_plain_at .later [] [.data,.data,.data,.data,.sentinel,.sentinel,.pinned] true (true,"444515db2f49c643c3105946acfbf8479b97ebfe9767868f205b285ee7d5f22c") true TM (λ_ h=>by cases h) aQ (λ_ h=>by cases h) GV rfl ⟨rfl,rfl⟩ aQ rfl
  (λf fn hf hfn => by
    obtain rfl : f = 3 := Option.some.inj ((show Tryz.prog.funcNamed "pliant/pliantlaw07.ParsePrinted" = some 3 by kernel_rfl).symm.trans hf) |>.symm
    obtain rfl : fn = Tryz.f3 := (Option.some.inj (Tryz.func3.symm.trans hfn)).symm
    exact ⟨by kernel_rfl, λj t ht => by
      rw [Tryz.params3] at ht
      have hm : t ∈ [24, 25] := by have := Array.mem_of_getElem? ht; simp at this; simp; omega
      have hall : ([24, 25].all λu => !Tryz.prog.wantsStandIn u) = true := by kernel_rfl
      exact (show Tryz.prog.wantsStandIn t = false by simpa using iJ.1 hall t hm)⟩)
  aQ
theorem ParsePrinted_holds: Rows.ParsePrintedCardSaid:=MC
end
end Go.Proofs.YtikalomcclefiaaGreatDoor
