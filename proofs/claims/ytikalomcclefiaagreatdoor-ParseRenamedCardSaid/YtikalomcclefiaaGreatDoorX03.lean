/- ParseRenamed: the law holds of the program, whatever the input. No condition. -/
import Derived.Test.YtikalomcclefiaaGreatDoorX02
import Derived.Test.YtikalomcclefiaaGreatDoorCards
set_option linter.all false
set_option maxHeartbeats 0
set_option maxRecDepth 100000
namespace Go.Proofs.YtikalomcclefiaaGreatDoor
section
open Go.RowKit Lx Px
section
variable{w:World}{B:Nat}{v:Value}{ss:List ByteArray}(h:w.ownsRow B 9 1 v (ss.map Value.string).length (ss.map Value.string))
include w B v ss h
theorem abX(h0:ss≠[]):∃ g cap,v=.slice (some (AAF g 0)) ss.length cap/\B<=g/\g<w.heap.size/\ss.length<=cap/\∀ j,(hj:j<ss.length)->w.cell? (AAF g j)=some (.string (ss[j]'hj)):=by
 have hpos:0<ss.length:=pE.2 h0
 rcases h.2 with ⟨_,h1⟩|⟨g,cap,cur,rfl,hB,hg,hle,hmx,hsz,htk⟩
 ·rw[bN]at h1;omega
 ·rw[bN]at hle htk ⊢;refine⟨g,cap,rfl,hB,(aX.1 hg).1,hle,λj hj=>?_⟩;rw[aK w g j _ _ _ hg,<- Cy];have h1:(List.take (ss.length*1) cur.toList)[j]?=(ss.map Value.string)[j]?:=by rw[htk]
  rw[CO,aF aB]at h1;rw[h1,lV,dQ hj];rfl
theorem Pd(hn:ss.length<=1000000)(s:dL):AAA 30 #[v,s] w λe w'=>e=.returned (.bool (eH s ss))/\w'=w:=by
 by_cases h0:ss=[]
 ·subst h0
  rcases h.2 with ⟨rfl,_⟩|⟨g,cap,cur,rfl,_⟩
  ·exact GC 0 s w
  ·have:=h.2
   rcases this with ⟨e,_⟩|⟨g',cap',cur',e,_⟩
   ·cases e
   ·simp only[oY,dD]
    exact(AnyE.slices_Contains_empty Tryz.Es _ _ _ w).mono λe w' h=>by simpa[eH]using h
 ·obtain⟨g,cap,rfl,_,hg,_,hc⟩:=abX h h0;exact Ae _ ss s w ⟨g,0,cap,rfl,hg,λj hj=>by rw[dT,hc j hj,kZ ss j hj]⟩ aB
end
def aBY{s:dL}:∀ {ss:List ByteArray} (k:Nat),s∈ss->∃ i,∃ hi:i<ss.length,Lib.idxByFrom (λx y:ByteArray=>x.toList==y.toList) s ss k=((k+i:Nat):Int)/\ss[i]'hi=s:=by
 intro ss
 induction ss with
 | nil=>intro k h;cases h
 | cons y r ih=>
  intro k h;unfold Lib.idxByFrom
  by_cases e:s=y
  ·exact⟨0,Nat.succ_pos _,by rw[aF (by rw[beq_toList,eQ e])];rfl,e.symm⟩
  ·rw[aC (by rw[beq_toList,bX e];decide)];obtain⟨i,hi,h1,h2⟩:=ih (k+1) ((bO.1 h).resolve_left e);exact⟨i+1,Nat.succ_lt_succ hi,by rw[h1];congr 1;omega,h2⟩
def aAs{w:World}{g cap:Nat}{ss:List ByteArray}(hc:∀ j,(hj:j<ss.length)->w.cell? (AAF g j)=some (.string (ss[j]'hj)))(hn:ss.length<=1000000){s:dL}(hs:s∈ss):∃ i,∃ hi:i<ss.length,ss[i]'hi=s/\AAA 31 #[.slice (some (AAF g 0)) ss.length cap,s] w λe w'=>e=.returned (.int .i64 i)/\w'=w:=by
 obtain⟨i,hi,h1,h2⟩:=aBY 0 hs;refine⟨i,hi,h2,(AnyE.slices_Index { Tryz.Es with } Value.string (λx y=>x.toList==y.toList) (EqlAt.string Tryz.prog 9) g 0 ss.length cap ss s w (aG _) aB (λj hj=>by rw[dT,hc j hj,kZ ss j hj])).mono ?_⟩;rintro e w' ⟨rfl,rfl⟩;refine⟨?_,rfl⟩;rw[jP,Lib.idxBy,h1,dT]
def aFK(w:World)(ss:List ByteArray)(hn:ss.length<=1000000)(g c g2 c2:Nat)(h1:∀ j,(hj:j<ss.length)->w.cell? (AAF g j)=some (.string (ss[j]'hj)))(h2:∀ j,(hj:j<ss.length)->w.cell? (AAF g2 j)=some (.string (ss[j]'hj))):AAA 32 #[.slice (some (AAF g 0)) ss.length c,.slice (some (AAF g2 0)) ss.length c2] w λe w'=>e=.returned (.bool true)/\∃ q,w'=w.drewN q:=by
 refine(AnyE.slices_Equal Tryz.aqX Value.string _ (NeqAt.string Tryz.prog 9) g 0 ss.length c g2 0 ss.length c2 ss ss w (aG _) (aG _) aB aB (λj hj=>by rw[dT,kZ ss j hj];exact h1 j hj) (λj hj=>by rw[dT,kZ ss j hj];exact h2 j hj)).mono ?_;rintro e w' ⟨rfl,q,rfl⟩;refine⟨?_,q,rfl⟩;rw[jP];have:∀ l:List ByteArray,Lib.allEq (λx y=>x.toList==y.toList) l l=true:=by
  intro l
  induction l with
  | nil=>rfl
  | cons x r ih=>simp[Lib.allEq,ih]
 rw[this]
def Mk(w:World)(hTab:fQ w)(hml:ML w)(t:T)(hEt:XJ t)(kT nT zT:Int)(yT:dL)(oT:iD)(mT lT:Nat)(hT:Tr w t (vT kT nT zT yT oT mT lT))(A B:dL):AAA 7 #[tg kT nT zT yT oT mT lT,A,B] w λe w'=>e=.returned (.bool true)/\iY w w':=by
 have S0:LS w w [] [] [(t,vT kT nT zT yT oT mT lT)]:=LS.WN (by intro p hp;rw[cO.1 hp];exact hT);have S1:=S0.At (tg kT nT zT yT oT mT lT) (tg kT nT zT yT oT mT lT) rfl _ rfl;clear S0;have hsn:=IN _ (hTab.below S1.low) (hml.below S1.low);go_in;go_upto_region 1 with fail;generalize World.alloc w _=w1 at S1 hsn ⊢;go_upto_region 3 with (go_at_call 8;refine hsn.mono ?_;rintro e w2 ⟨rfl,b2⟩);have S2:=S1.below b2;clear hsn b2 S1;have F0:=AAD (S2.facts 0 rfl);have hR:=vG (dO.one (S2.tree (t,vT kT nT zT yT oT mT lT) (.head _))) (tg kT nT zT yT oT mT lT) rfl 1 rfl;have cM:=kV (w2.alloc (.cells (tg kT nT zT yT oT mT lT) 24)) _ [t] hR aI;have SR:=S2.below (aJ w2 (.cells (tg kT nT zT yT oT mT lT) 24));clear hR;go_upto_block 3 with fail;generalize World.alloc w2 (.cells (tg kT nT zT yT oT mT lT) 24)=wR at SR cM ⊢;refine cM.mono ?_;rintro e w3 ⟨bb,rfl,hb,b3⟩;have S3:=SR.below b3;clear cM b3 SR S2 F0
 cases bb with
 | false=>
  go_wp2_with fail;go_ret;exact⟨rfl,S3.low⟩
 | true=>
  have hCt:=hb.1 rfl t aI;clear hb;obtain⟨okt,wdt⟩:=Tb hCt aD hEt;have F0:=AAD (S3.facts 0 rfl);have cC:=nV w3 (hTab.below S3.low) t okt wdt kT nT zT yT oT mT lT (S3.tree (t,vT kT nT zT yT oT mT lT) (.head _));unfold Ed at cC;have cA:=Gw A;have cB:=Gw B
  cases hc:De t with
  | false=>
   rw[hc]at cC;go_wp2_with (go_at_call 11;refine cC.mono ?_;rintro e w4 ⟨rfl,b4⟩);go_ret;exact⟨rfl,(S3.below b4).low⟩
  | true=>
   rw[hc]at cC
   cases hA:oI A with
   | false=>
    rw[hA]at cA;go_wp2_with (first|(go_at_call 11;refine cC.mono ?_;rintro e w4 ⟨rfl,b4⟩)|(go_at_call 28;refine dY (by with_reducible exact cA _) ?_;rintro e w5 ⟨rfl,b5⟩));go_ret;exact⟨rfl,((S3.below b4).below b5).low⟩
   | true=>
    rw[hA]at cA
    cases hB:oI B with
    | false=>
     rw[hB]at cB;go_wp2_with (first|(go_at_call 11;refine cC.mono ?_;rintro e w4 ⟨rfl,b4⟩)|(go_at_call 28;refine dY (by with_reducible exact cA _) ?_;rintro e w5 ⟨rfl,b5⟩)|(go_at_call 28;refine dY (by with_reducible exact cB _) ?_;rintro e w6 ⟨rfl,b6⟩));go_ret;exact⟨rfl,(((S3.below b4).below b5).below b6).low⟩
    | true=>
     rw[hB]at cB;go_upto_region 5 with (first|(go_at_call 11;refine cC.mono ?_;rintro e w4 ⟨rfl,b4⟩)|(go_at_call 28;refine dY (by with_reducible exact cA _) ?_;rintro e w5 ⟨rfl,b5⟩)|(go_at_call 28;refine dY (by with_reducible exact cB _) ?_;rintro e w6 ⟨rfl,b6⟩));have S6:=((S3.below b4).below b5).below b6;clear cC cA cB b4 b5 b6 S3 F0;obtain⟨hr1,hcx,hCx,hEx⟩:=NL hc hA hB hCt hEt;obtain⟨hr2,_,_,_⟩:=NL hcx hB hA hCx hEx;obtain⟨okx,wdx⟩:=Tb hCx aD hEx;have hgone:=λ(h:A∉En t [])=>aEc (b:=B) h
     have hback:=λ(h:B∉En t [])=>aET (a:=A) h
     have hnames:=λ(h:B∉En t []) i hi he=>aAX (a:=A) h i hi he
     have hnl:=(akK _ t (aG _) []).1;have hnx:=(akK _ (qX (rf A B) false t) (aG _) []).1;have hnl1:(En t []).length<=1000000:=by have:=hCt.1;rw[dD]at hnl;omega
     have hnx1:(En (qX (rf A B) false t) []).length<=1000000:=by have:=hCx.1;rw[dD]at hnx;omega
     clear hnl hnx;have F0:=AAD (S6.facts 0 rfl);have cN:=KM w6 (hTab.below S6.low) t okt wdt kT nT zT yT oT mT lT (S6.tree (t,vT kT nT zT yT oT mT lT) (.head _));rw[show Et t=(En t [],0)by unfold Et;rw[aF hc]]at cN;have cNx:=λW (hW:fQ W) k n a s ao m c hx=>KM W hW (qX (rf A B) false t) okx wdx k n a s ao m c hx
     rw[show Et (qX (rf A B) false t)=(En (qX (rf A B) false t) [],0)by unfold Et;rw[aF hcx]]at cNx;generalize qX (rf A B) false t=x at hr1 hr2 hcx hCx hEx okx wdx hgone hback hnames hnx1 cNx;go_upto_region 6 with (go_at_call 29;refine cN.mono ?_;rintro e w7 ⟨b7,v7,rfl,ho7⟩);have S7:=S6.below b7;have hz6:=(S6.facts 0 rfl).lt;clear cN b7 S6 F0;have F0:=AAD (S7.facts 0 rfl);have cR:=Hj w7 (hTab.below S7.low) t okt wdt A B kT nT zT yT oT mT lT (S7.tree (t,vT kT nT zT yT oT mT lT) (.head _));rw[hr1]at cR;go_upto_region 7 with (go_at_call 27;refine cR.mono ?_;rintro e w8 ⟨b8,k8,n8,z8,y8,o8,m8,l8,rfl,T8⟩);have S8:=S7.DM b8 T8;have S9:=S8.At (tg k8 n8 z8 y8 o8 m8 l8) (tg k8 n8 z8 y8 o8 m8 l8) rfl _ rfl;have b79:=b8.trans ((aJ w8 (.cells (tg k8 n8 z8 y8 o8 m8 l8) 24)).mono b8.size);generalize World.alloc w8 (.cells (tg k8 n8 z8 y8 o8 m8 l8) 24)=w9 at S9 b79 ⊢;generalize w8.heap.size=B8 at S9 ⊢;clear cR b8 T8 S8 F0;have F0:=AAD (S9.facts 0 rfl);have hR:=vG (dO.one (S9.tree (x,vT k8 n8 z8 y8 o8 m8 l8) (.head _))) (tg k8 n8 z8 y8 o8 m8 l8) rfl 1 rfl;have cM:=kV (w9.alloc (.cells (tg k8 n8 z8 y8 o8 m8 l8) 24)) _ [x] hR aI;have SR:=S9.below (aJ w9 (.cells (tg k8 n8 z8 y8 o8 m8 l8) 24));have bR:=aJ w9 (.cells (tg k8 n8 z8 y8 o8 m8 l8) 24);have hM:∀ u,u∈[x]->CF u 4100 1:=by simp[hCx]
     have cC:=λW hW (hx:Tr W x (vT k8 n8 z8 y8 o8 m8 l8))=>nV W hW x okx wdx k8 n8 z8 y8 o8 m8 l8 hx
     unfold Ed at cC;rw[hcx]at cC;clear hR;go_upto_region 9 with (first|(go_at_call 9;refine cM.mono ?_;rintro e w10 ⟨bb,rfl,hb,b10⟩;obtain rfl:bb=true:=hb.2 hM;clear hb;have S10:=SR.below b10;have G0:=AAD (S10.facts 0 rfl))|(go_at_call 11;refine(cC w10 (hTab.below S10.low) (S10.tree (x,vT k8 n8 z8 y8 o8 m8 l8) (.head _))).mono ?_;rintro e w11 ⟨rfl,b11⟩));have S11:=S10.below b11;have b711:=(b79.trans ((bR.trans (b10.mono bR.size)).mono b79.size)).trans (b11.mono (b79.trans ((bR.trans (b10.mono bR.size)).mono b79.size)).size);have ho11:=Mc ho7 (λg hg=>b711.block g (ho7.lt g hg).2);have hz7:=S7.low.size;clear cM cC SR bR b10 b11 b79 b711 S10 G0 S9 F0 hM ho7;have cK:=Pd ho11 hnl1 A
     cases hmA:eH A (En t []) with
     | false=>
      rw[hmA]at cK;have hsame:=hgone (λe=>by rw[(eX _ _).2 e]at hmA;cases hmA);go_upto_region 10 with (go_at_call 30;refine cK.mono ?_;rintro e w12 ⟨rfl,hw12⟩;rw[hw12];clear hw12);have F0:=AAD (S11.facts 0 rfl);have F1:=AAD (S11.facts 1 rfl);go_wp2_with (go_at_call 13;refine(Cf w11 _ x (aG _) t (by have:=hCt.1;omega) w11 (bH _ _) k8 n8 z8 y8 o8 m8 l8 kT nT zT yT oT mT lT (S11.tree (x,vT k8 n8 z8 y8 o8 m8 l8) (.head _)) (S11.tree (t,vT kT nT zT yT oT mT lT) (.tail _ (.head _)))).mono ?_;rw[hsame,yW];rintro e w13 ⟨rfl,b13⟩);go_ret;exact⟨rfl,(S11.below b13).low⟩
     | true=>
      rw[hmA]at cK;have cL:=Pd ho11 hnl1 B
      cases hmB:eH B (En t []) with
      | true=>
       rw[hmB]at cL;go_wp2_with (first|(go_at_call 30;refine dY (by with_reducible exact cK) ?_;rintro e w12 ⟨rfl,hw12⟩;rw[hw12];clear hw12)|(go_at_call 30;refine dY (by with_reducible exact cL) ?_;rintro e w13 ⟨rfl,hw13⟩;rw[hw13];clear hw13));go_ret;exact⟨rfl,S11.low⟩
      | false=>
       rw[hmB]at cL;have hBn:B∉En t []:=λe=>by rw[(eX _ _).2 e]at hmB;cases hmB
       have hAn:A∈En t []:=(eX _ _).1 hmA;have hne:En t []≠[]:=λe=>by rw[e]at hAn;cases hAn
       have hxt:=hback hBn;have hnames1:=hnames hBn;rw[hxt]at hr2;clear hgone hback hnames hBn hmA hmB hxt;go_upto_region 13 with (first|(go_at_call 30;refine dY (by with_reducible exact cK) ?_;rintro e w12 ⟨rfl,hw12⟩;rw[hw12];clear hw12)|(go_at_call 30;refine dY (by with_reducible exact cL) ?_;rintro e w13 ⟨rfl,hw13⟩;rw[hw13];clear hw13));clear cK cL;obtain⟨g,cap,hv7,hg1,hg2,hg3,hcell⟩:=abX ho11 hne;subst hv7;have F0:=AAD (S11.facts 0 rfl);have cR:=Hj w11 (hTab.below S11.low) x okx wdx B A k8 n8 z8 y8 o8 m8 l8 (S11.tree (x,vT k8 n8 z8 y8 o8 m8 l8) (.head _));rw[hr2]at cR;go_upto_region 14 with (go_at_call 27;refine cR.mono ?_;rintro e w14 ⟨b14,k2,n2,z2,y2,o2,m2,l2,rfl,T14⟩);have S14:=S11.DM b14 T14;have S15:=S14.At (tg k2 n2 z2 y2 o2 m2 l2) (tg k2 n2 z2 y2 o2 m2 l2) rfl _ rfl;have b1415:=aJ w14 (.cells (tg k2 n2 z2 y2 o2 m2 l2) 24);have b15:=b14.trans (b1415.mono b14.size);have T15:iB (λb=>b≠g) _ t (vT k2 n2 z2 y2 o2 m2 l2):=T14.kept (λb hb _=>by unfold Fr at hb;omega) b1415.size (λb _ hl=>b1415.block b hl);have hzB:w14.heap.size≠g:=by have:=b14.size;omega
       generalize World.alloc w14 (.cells (tg k2 n2 z2 y2 o2 m2 l2) 24)=w15 at S15 b15 T15 ⊢;generalize w14.heap.size=B14 at S15 hzB ⊢;clear cR b14 T14 S14 F0 b1415;have F1:=AAD (S15.facts 1 rfl);have cNx2:=cNx w15 (hTab.below S15.low) k8 n8 z8 y8 o8 m8 l8 (S15.tree (x,vT k8 n8 z8 y8 o8 m8 l8) (.tail _ (.head _)));go_upto_region 15 with (go_at_call 29;refine cNx2.mono ?_;rintro e w16 ⟨b16,v16,rfl,ho16⟩);have S16:=(S15.below b16).less (fv':=[(B14,tg k2 n2 z2 y2 o2 m2 l2),(w.heap.size,tg kT nT zT yT oT mT lT)]) (ts':=[]) aI aI;have b116:=b15.trans (b16.mono b15.size);have T16:iB (λb=>b≠g) w16 t (vT k2 n2 z2 y2 o2 m2 l2):=T15.kept (λ_ hb _=>hb) b16.size (λb _ hl=>b16.block b hl);have U16:iB (λb=>b≠g) w16 t (vT kT nT zT yT oT mT lT):=hT.kept (λb _ hb=>(show b≠g by omega)) S16.low.size (λb _ hl=>S16.low.block b hl);have hz15:=b15.size;clear cNx2 cNx b15 T15 b16 S15 F1;have hcell16:∀ j,(hj:j<(En t []).length)->w16.cell? (AAF g j)=some (.string ((En t [])[j]'hj)):=λj hj=>(b116.cell (p:=(AAF g j)) hg2).trans (hcell j hj)
       obtain⟨i,hi,hiA,cI⟩:=aAs (cap:=cap) hcell16 hnl1 hAn;rw[hnames1 i hi hiA]at ho16 hnx1;obtain⟨g2,cap2,hv16,hg4,hg5,hg6,hcell2⟩:=abX ho16 (by intro e;have:=congrArg List.length e;rw[List.length_set,dD]at this;omega);subst hv16;rw[List.length_set];have hgne:g2≠g:=by omega
       have ho11g:∃ cs,w16.heap[g]?=some (.cells cs 9 (0,0))/\i<cs.size:=by
        rcases ho11.2 with ⟨e,_⟩|⟨g',cap',cur,e,hB,hg,hle,hmx,hsz,htk⟩
        ·cases e
        ·simp only[dZ,mP,Addr.mk.injEq,mM]at e
         obtain⟨rfl,_⟩:=e;refine⟨cur,(b116.block _ hg2).trans hg,?_⟩;rw[bN]at hle;omega
       obtain⟨cs,hcs,hics⟩:=ho11g;have hf:=aY hcs i;have k0:=hcell16 i hi;have hiI:(i:Int)<((En t []).length:Int):=by omega
       go_upto_region 16 with (go_at_call 31;refine cI.mono ?_;rintro e w17 ⟨rfl,hw17⟩;rw[hw17];clear hw17);clear cI;have W17:∀ b,b≠g->(w16.setCell (AAF g i) (.string B)).heap[b]?=w16.heap[b]?:=λb hb=>dJ w16 (AAF g i) (.string B) b hb
       have Z17:(w16.setCell (AAF g i) (.string B)).heap.size=w16.heap.size:=by simp[World.setCell]
       have L17:iY w (w16.setCell (AAF g i) (.string B)):=S16.low.setCell (p:=(AAF g i)) (show w.heap.size<=g by omega) _;have hc17:(w16.setCell (AAF g i) (.string B)).heap[g]?=some (.cells (cs.setIfInBounds i (.string B)) 9 (0,0)):=by simp[World.setCell,pK,hcs]
       have C17:∀ j,(hj:j<(En t []).length)->(w16.setCell (AAF g i) (.string B)).cell? (AAF g j)=some (.string (((En t []).set i B)[j]'(by rw[List.length_set];exact hj))):=λj hj=>by
        refine(aK _ g j _ _ _ hc17).trans ?_
        by_cases e:i=j
        ·subst e;rw[Array.getElem?_setIfInBounds_self_of_lt hics,List.getElem_set_self]
        ·rw[Ln e,List.getElem_set_ne e];exact(aK w16 g j _ _ _ hcs).symm.trans (hcell16 j hj)
       clear hc17;go_upto_region 17 with fail;generalize World.setCell w16 _ _=w17 at W17 Z17 L17 C17 ⊢;have D17:∀ j,(hj:j<(En t []).length)->w17.cell? (AAF g2 j)=some (.string (((En t []).set i B)[j]'(by rw[List.length_set];exact hj))):=λj hj=>(tR (a:=(AAF g2 j)) (W17 g2 hgne)).trans (hcell2 j (by rw[List.length_set];exact hj))
       have V0:TV w17 B14 _ _ _ _ _:=(W17 _ hzB).trans (S16.facts 0 rfl);have V1:TV w17 w.heap.size _ _ _ _ _:=(W17 _ aB).trans (S16.facts 1 rfl);have T17:Tr w17 t (vT k2 n2 z2 y2 o2 m2 l2):=T16.kept (λ_ _ _=>trivial) (Nat.le_of_eq Z17.symm) (λb hb _=>W17 b hb);have U17:Tr w17 t (vT kT nT zT yT oT mT lT):=U16.kept (λ_ _ _=>trivial) (Nat.le_of_eq Z17.symm) (λb hb _=>W17 b hb);clear T16 U16 S16 hcell16 hcell2 hcell k0 hf W17 ho16 ho11 hcs hics;have F0:=AAD V0;have F1:=AAD V1;have hR:=vG (dO.one T17) (tg k2 n2 z2 y2 o2 m2 l2) rfl 1 rfl;have cM:=kV (w17.alloc (.cells (tg k2 n2 z2 y2 o2 m2 l2) 24)) _ [t] hR aI;have bR:=aJ w17 (.cells (tg k2 n2 z2 y2 o2 m2 l2) 24);have hM:∀ u,u∈[t]->CF u 4100 1:=by simp[hCt]
       have cE:=λW (h1:iY w17 W)=>aFK W ((En t []).set i B) (by rw[List.length_set];exact hnl1) g cap g2 cap2 (λj hj=>(h1.cell (p:=(AAF g j)) (show g<w17.heap.size by have:=b116.size;omega)).trans (C17 j (by rwa[List.length_set]at hj))) (λj hj=>(h1.cell (p:=(AAF g2 j)) (show g2<w17.heap.size by omega)).trans (D17 j (by rwa[List.length_set]at hj)))
       rw[List.length_set]at cE;clear hR C17 D17 Z17 hiA hnames1;go_wp2_with (first|(go_at_call 9;refine cM.mono ?_;rintro e w18 ⟨bb,rfl,hb,b18⟩;obtain rfl:bb=true:=hb.2 hM;clear hb;have b1718:=bR.trans (b18.mono bR.size);have V08:=V0.below b1718;have V18:=V1.below b1718;have G0:=AAD V08;have G1:=AAD V18)|(go_at_call 13;refine(Cf w18 _ t (aG _) t (by have:=hCt.1;omega) w18 (bH _ _) k2 n2 z2 y2 o2 m2 l2 kT nT zT yT oT mT lT (T17.low b1718) (U17.low b1718)).mono ?_;rw[yW];rintro e w19 ⟨rfl,b19⟩;have b1719:=b1718.trans (b19.mono b1718.size))|(go_at_call 32;refine(cE w19 b1719).mono ?_;rintro e w20 ⟨rfl,q,rfl⟩));go_ret;exact⟨rfl,(L17.trans (b1719.mono L17.size)).trans ((below_drewN w19 q).mono (L17.trans (b1719.mono L17.size)).size)⟩
end
section
open Go.ChangeShapes Go.WideShapes Go.ChangeAt Go.RowKit Lx Px
open Go.ChangeMaps (open_string shut_string)
def Kq(os:Os)(started:os.Started)(H:Type)(enc:TypeId×Value->H):ReturnsInHanded {} Tryz.checked os 7 .any (λw args=>(Rows.parseRenamedSpec.pre enc Tryz.prog Tryz.f7 [] false w args/\laidMetH Tryz.prog rH w)/\sizedMet enc Tryz.prog Tryz.f7 (OpenSpec.ofChange Rows.parseRenamedSpec) false w args) (Rows.parseRenamedSpec.post enc Tryz.prog Tryz.f7 false true false false):=by
 refine Ce (C:=Tryz.checked) (X:=λw _=>laidMetH Tryz.prog rH w) aDu started aQ Tryz.func7
  (ChangeSpec.witness_shaped (enc:=enc) (C:=Tryz.checked) (os:=os) (X:=λw _=>laidMetH Tryz.prog rH w) false (World.laidAll Tryz.prog os rH) #[tg 0 0 0 ⟨#[]⟩ none 0 0,.string ⟨#[]⟩,.string ⟨#[]⟩] 8 (World.laidAll_os _ _ _)
   (Mi os) aQ aQ aQ
   (by rw[MakeChecks.laidMetH_plain _ _ _ aQ];exact laidMet_laidAll _ aQ aQ)) ?_
 intro W base args ds gs before hval0 hW _ hsh hLH;have hval:∀ (j:Nat) t v,Tryz.f7.params[j]?=some t->args[j]?=some v->Value.okWide Tryz.prog W .any base t v:=hval0;have hW':=hW;obtain⟨p,q,hA0,hV,rfl,_,_⟩:=hW;have hA:DataW.TrodAll enc Tryz.prog W 0 (λ_=>true) true Tryz.f7.params.toList args.toList ds p:=hA0;rw[Tryz.params7]at hA hval;obtain⟨v0,v1,v2,d0,d1,d2,p0,p1,p2,rfl,rfl,rfl,h0,h1,h2⟩:=trodAll_three hA;obtain⟨rfl,rfl⟩:=trodVars_none hV;obtain⟨t0,k0,n0,z0,y0,o0,m0,l0,rfl,hT0,hE0⟩:=FH (hval 0 _ v0 rfl rfl) h0;obtain⟨s1,rfl,rfl,rfl,ws1⟩:=open_string Tryz.underlying9 (hval 1 _ v1 rfl rfl) h1;obtain⟨s2,rfl,rfl,rfl,ws2⟩:=open_string Tryz.underlying9 (hval 2 _ v2 rfl rfl) h2;have hL:laidMet Tryz.prog rH W.memory:=by rw[MakeChecks.laidMetH_plain _ _ _ aQ]at hLH;exact hLH
 have hTm:fQ W.memory:=Vc hL;have hTab:fQ W:=hTm;refine(Mk W hTab (aeY hsh) t0 hE0 k0 n0 z0 y0 o0 m0 l0 hT0 s1 s2).mono λe W' ⟨he,hb⟩=>?_;subst he;have hlt:∀ y∈(p0++[]++[])++[],y.block<W.heap.size:=λy hy=>hW'.lt y hy
 exact⟨_,rfl,Hi hW' rfl rfl rfl (λsp hsp=>by
  rw[Tryz.params7]
  rw[bD]at hsp hlt ⊢
  rw[bT]
  exact trodAll_mk3 (WideElems.Trod_stays QG aQ (iG aQ) h0 (λy hy=>hb.same (hlt y (by simp[hy]))) (λy hy=>hsp y (by simp[hy])))
   (shut_string Tryz.underlying9 ws1)
   (shut_string Tryz.underlying9 ws2)) hb⟩
def Il: Rows.parseRenamedRow.laidByTextAt .later Tryz.pinned [.data,.data,.data,.data,.sentinel,.sentinel,.pinned] true:=
 OpenClaim.laidByTextAt_pinned rfl rfl tie rfl rfl rfl rfl (λy hy _e => by
   simp only [Rows.parseRenamedRow, List.zip_cons_cons, List.zip_nil_right, bO, List.mem_nil_iff, or_false] at hy
   rcases hy with rfl | rfl | rfl | rfl | rfl | rfl | rfl
   · cases _e
   · cases _e
   · cases _e
   · cases _e
   · cases _e
   · cases _e
   · exact ⟨jD, by kernel_rfl⟩) aiE
def TX: Rows.ParseRenamedSaid:=
 OpenClaim.holds_of_wide 7 Tryz.f7 rfl rfl rfl rfl rfl rfl rfl ⟨rfl,rfl,rfl,rfl,rfl⟩ rfl rfl rfl rfl rfl aQ Tryz.func7 aQ
  (iG aQ) (by unfold Func.isWrapper;first|(rw[aF aE];kernel_rfl)|(rw[aC aE];exact⟨rfl,rfl⟩))
  (λos started H enc _=>Kq os started H enc)
def Nk: Rows.ParseRenamedCardSaid:=
 Claim7.holds_tied_plain_at .later [] [.data,.data,.data,.data,.sentinel,.sentinel,.pinned] true (true,"444515db2f49c643c3105946acfbf8479b97ebfe9767868f205b285ee7d5f22c") true TX (λ_ h=>by cases h) aQ (λ_ h=>by cases h) Il rfl ⟨rfl,rfl⟩ aQ rfl
  (λf fn hf hfn => by
    obtain rfl : f = 7 := Option.some.inj ((show Tryz.prog.funcNamed "pliant/pliantlaw07.ParseRenamed" = some 7 by kernel_rfl).symm.trans hf) |>.symm
    obtain rfl : fn = Tryz.f7 := (Option.some.inj (Tryz.func7.symm.trans hfn)).symm
    exact ⟨by kernel_rfl, λj t ht => by
      rw [Tryz.params7] at ht
      have hm : t ∈ [24, 9] := by have := Array.mem_of_getElem? ht; simp at this; simp; omega
      have hall : ([24, 9].all λu => !Tryz.prog.wantsStandIn u) = true := by kernel_rfl
      exact (show Tryz.prog.wantsStandIn t = false by simpa using iJ.1 hall t hm)⟩)
  aQ
theorem ParseRenamed_holds: Rows.ParseRenamedCardSaid:=Nk
end
end Go.Proofs.YtikalomcclefiaaGreatDoor
