/- Part 36. -/
import Derived.Test.YtikalomcclefiaaGreatDoorV35
set_option linter.all false
set_option maxHeartbeats 0
set_option maxRecDepth 100000
namespace Go.Proofs.YtikalomcclefiaaGreatDoor
section
open Go.RowKit Lx Px
def amE(pb:Nat)(L:List T3)(i:Nat)(w:World)(h:PS w pb L i)(n:Nat)(HU0:eC (lk L) i=aH (cQ (lk L) (i+3)) λx j=>.ok (.mk 42 n i e0 [x],j))(hs0:cD (lk L) (i+0) [cJ]=true)(hn1:¬ (n:Int)<1)(hn2:¬ (1000:Int)<(n:Int))(hs2:cD (lk L) (i+2) [dA]=true)(hcn:dP (lk L) (i+3)=true)(hW:∀ p W,AAA 231 #[.agg #[iq (tok (lk L) (i+1)).kind,.string (tok (lk L) (i+1)).text,iq p]] W λe w'=>e=wE (some n)/\iY W w')(hsg:cD (lk L) (i+3) [jR,gG,rA]=false):AAA 225 #[pq pb] w (aU pb L w (eC (lk L) i)):=by
 have hbd:=h.bd;unfold wE at hW;have hnot:∀ (x:Bool) (w:World),(Op.unary .not (.bool x)).run Tryz.prog w=.ok (.bool (!x)) w:=λ_ _=>rfl
 have HSG:=aN hsg;clear hsg;have HU:=aN HU0;clear HU0;have HS0:=aN hs0;clear hs0;have HS2:=aN hs2;clear hs2;have HCN:=aN hcn;clear hcn;go_in;go_upto_region 1 with fail;have S1:=SV.new h;generalize World.alloc w _=w1 at S1 ⊢;go_upto_block 1 with fail;refine(S1.eT (E:=λe=>∃ p:Int,e=_) (fS pb L i 1 aD w1 S1.ps)).mono ?_;rintro e w2 ⟨⟨p,rfl⟩,S2⟩;go_upto_block 1 with fail;refine gU (S2.eT (E:=λe=>e=_) (hW p w2)) λw3 S3=>?_;clear hW;go_upto_block 3 with fail;refine gU (S3.oN 3 aD [jR,gG,rA] aD #[.string ⟨#[43]⟩,.string ⟨#[45]⟩,.string ⟨#[94]⟩] rfl 3 rfl false HSG.out) λw4 S4=>?_;go_upto_block 5 with fail;refine gU (S4.oN 0 aD [cJ] aD #[.string ⟨#[40]⟩] rfl 1 rfl true HS0.out) λw5 S5=>?_;go_upto_block 5 with fail;refine gU (S5.oN 2 aD [dA] aD #[.string ⟨#[41]⟩] rfl 1 rfl true HS2.out) λw6 S6=>?_;go_upto_block 5 with fail;refine gU (S6.Gs 3 aD true HCN.out) λw7 S7=>?_;have HL3:=aN (FK HCN.out);have hw3:IntKind.i64.wrap ((i:Int)+3)=(i:Int)+3:=iV _ (by have:=aZ h.le hbd;omega);have hw4:IntKind.i64.wrap ((i:Int)+3+1)=(i:Int)+3+1:=iV _ (by have:=aZ h.le hbd;omega);obtain⟨c1,f1⟩:=S7.ps.cells;go_upto_region 9 with fail;have S8:=S7.go (i+3) (iH HL3.out) (iq ((i:Int)+3)) rfl;generalize World.setCell w7 _ _=w8 at S8 ⊢;clear c1 f1;obtain⟨c2,f2⟩:=S8.ps.cells;replace c2:w8.cell? (AAF pb 1)=some (.int .i64 ((i:Int)+3)):=c2;go_upto_region 11 with fail;have S9:=S8.EU (tg 0 0 0 ⟨#[]⟩ none 0 0);generalize World.alloc w8 _=w9 at S9 ⊢;generalize w8.heap.size=B9 at S9 ⊢;clear c2 f2;go_upto_block 14 with fail;refine(S9.eK (uD pb L (i+3) w9 S9.ps)).mono ?_;rintro e w10 (⟨x,hr,rfl,hg⟩|⟨t10,j10,k10,n10,a10,s10,o10,m10,c10,hr,rfl,S10⟩)
 ·exact jQ
 have H10:=aN hr;clear hr;have:=AAD (S10.facts 0 rfl);go_upto_region 15 with fail;have S11:=S10.fY 0 rfl k10 n10 a10 s10 (.slice o10 m10 c10);unfold AY at S11;generalize World.setCell _ (AAF B9 4) _=w11 at S11 ⊢;have S12:=S11.lit (dO.one (S11.tr _ (.head _))) (tg k10 n10 a10 s10 o10 m10 c10) rfl 42 n i e0 1 1 rfl;have:=AAD (S11.facts 0 rfl);have:=AAD (S12.facts 1 rfl);go_wp2_with fail;have S13:=S12.fY 1 rfl (iq 42) n i (.string ⟨#[]⟩) (.slice (some (AAF w11.heap.size 0)) 1 1);refine nX (S13.facts 1 rfl) Tryz.results225 ?_;exact S13.res (.head _) (by simp[HU.out,aH,H10.out]<;>rfl) rfl
def NB{p:Prop}(h:p:=by
 try have:=AAD (Sq.facts 0 rfl)
 go_simp;refine GR aMB Sq ?_;clear aMB Kx;exact sG):p:=h
def Nu{p:Prop}(h:p:=by
 try have:=AAD (Sq.facts 0 rfl)
 go_simp;refine GR aMB Sq ?_;clear aMB Kx;exact sG):p:=h
def LI{p:Prop}(h:p:=by
 try have:=AAD (Sq.facts 0 rfl)
 go_simp;refine(Sq.eK (uD pb L (i+4) _ Sq.ps)).mono ?_;rintro e w12 (⟨x,hr,rfl,hg⟩|⟨t12,j12,k12,n12,a12,s12,o12,m12,c12,hr,rfl,Sq⟩)
 ·unfold gM;exact⟨rfl,aU.err x Ar hg⟩
 have H12:=aN hr;clear hr;obtain⟨b',off',cap',k0',k1',hb'⟩:=Sq.ps.OX (n:=i+3) (Ft HL4.out);have HB':=aN hb';clear hb';have SB:=Sq;have k1o:=(SA.old Sq HB.out (off+(i+3)*3+1)).trans k1;refine GR aMB Sq ?_;clear aMB Kx;exact sG):p:=h
def Lc{p:Prop}(h:p:=by
 try have:=AAD (Sq.facts 0 rfl)
 go_simp;have Sq:=Sq.lit (dO.one (Sq.tr _ (.head _))) (tg k12 n12 a12 s12 o12 m12 c12) rfl 5 0 ((i:Int)+3) (tok (lk L) (i+3)).text 1 1 rfl;obtain⟨b'',off'',cap'',k0'',k1'',_⟩:=Sq.ps.OX (n:=i+3) (Ft HL4.out);have k1p:=(SA.old Sq HB.out (off+(i+3)*3+1)).trans k1;have k1q:=(SB.old Sq HB'.out (off'+(i+3)*3+1)).trans k1';refine GR aMB Sq ?_;clear aMB Kx;exact sG):p:=h
def alI{p:Prop}(h:p:=by
 try have:=AAD (Sq.facts 0 rfl)
 go_simp;refine aMB _ _ ?_;clear aMB Kx;exact sG):p:=h
def aDF{p:Prop}(h:p:=by
 go_upto_region 15 with fail;have S14:=Sq.fY 0 rfl (iq 5) (iq 0) (iq ((i:Int)+3)) (.string (tok (lk L) (i+3)).text) (.slice (some (AAF w12.heap.size 0)) 1 1);unfold AY at S14;generalize World.setCell _ (AAF B9 4) _=w14 at S14 ⊢;have S15:=S14.lit (dO.one (S14.tr _ (.head _))) #[.int .i64 5,.int .i64 0,.int .i64 ((i:Int)+3),.string (tok (lk L) (i+3)).text,.slice (some (AAF w12.heap.size 0)) 1 1] rfl 42 n i e0 1 1 rfl;have:=AAD (S14.facts 0 rfl);have:=AAD (S15.facts 1 rfl);go_wp2_with fail;have S16:=S15.fY 1 rfl (iq 42) n i (.string ⟨#[]⟩) (.slice (some (AAF w14.heap.size 0)) 1 1);refine nX (S16.facts 1 rfl) Tryz.results225 ?_;exact S16.res (.head _) (by simp[HU.out,aH,H12.out]<;>rfl) rfl):p:=h
theorem sG{p:Prop}(h:p:=by
 first
 | (refine Gk ?_;exact aDF)
 | (refine tZ 0 ?_;exact sG)
 | (refine tZ 1 ?_;exact sG)
 | (refine tZ 2 ?_;exact sG)
 | (refine tZ 3 ?_;exact sG)
 | (refine tZ 5 ?_;exact sG)
 | (refine tZ 9 ?_;exact sG)
 | (refine tZ 6 ?_;exact sG)
 | (refine tZ 7 ?_;exact sG)
 | (refine tZ 12 ?_;exact sG)
 | (refine kL [4,10] ?_;refine qP (λKx aMB=>?_) (qP (λKx aMB=>?_) .nil);exact NB;exact LI)
 | (refine kL [8,10] ?_;refine qP (λKx aMB=>?_) (qP (λKx aMB=>?_) .nil);exact Nu;exact LI)
 | (refine kL [10] ?_;refine qP (λKx aMB=>?_) .nil;exact LI)
 | (refine kL [11] ?_;refine qP (λKx aMB=>?_) .nil;exact Lc)
 | (refine kL [13] ?_;refine qP (λKx aMB=>?_) .nil;exact alI)
 | (refine kL [8,11] ?_;refine qP (λKx aMB=>?_) (qP (λKx aMB=>?_) .nil);exact Nu;exact Lc)
 | (refine kL [8] ?_;refine qP (λKx aMB=>?_) .nil;exact Nu)
 | (refine kL [4,11] ?_;refine qP (λKx aMB=>?_) (qP (λKx aMB=>?_) .nil);exact NB;exact Lc)
 | (refine kL [4] ?_;refine qP (λKx aMB=>?_) .nil;exact NB)):p:=h
def akY(pb:Nat)(L:List T3)(i:Nat)(w:World)(h:PS w pb L i)(n:Nat)(HU0:eC (lk L) i=aH (cQ (lk L) (i+4)) λx j=>.ok (.mk 42 n i e0 [.mk 5 0 (i+3) (tok (lk L) (i+3)).text [x]],j))(hs0:cD (lk L) (i+0) [cJ]=true)(hn1:¬ (n:Int)<1)(hn2:¬ (1000:Int)<(n:Int))(hs2:cD (lk L) (i+2) [dA]=true)(hcn:dP (lk L) (i+4)=true)(hW:∀ p W,AAA 231 #[.agg #[iq (tok (lk L) (i+1)).kind,.string (tok (lk L) (i+1)).text,iq p]] W λe w'=>e=wE (some n)/\iY W w')(hsg:cD (lk L) (i+3) [jR,gG,rA]=true):AAA 225 #[pq pb] w (aU pb L w (eC (lk L) i)):=by
 have hbd:=h.bd;unfold wE at hW;have hnot:∀ (x:Bool) (w:World),(Op.unary .not (.bool x)).run Tryz.prog w=.ok (.bool (!x)) w:=λ_ _=>rfl
 have HSG:=aN hsg;clear hsg;have HU:=aN HU0;clear HU0;have HS0:=aN hs0;clear hs0;have HS2:=aN hs2;clear hs2;have HCN:=aN hcn;clear hcn;go_in;go_upto_region 1 with fail;have S1:=SV.new h;generalize World.alloc w _=w1 at S1 ⊢;go_upto_block 1 with fail;refine(S1.eT (E:=λe=>∃ p:Int,e=_) (fS pb L i 1 aD w1 S1.ps)).mono ?_;rintro e w2 ⟨⟨p,rfl⟩,S2⟩;go_upto_block 1 with fail;refine gU (S2.eT (E:=λe=>e=_) (hW p w2)) λw3 S3=>?_;clear hW;go_upto_block 3 with fail;refine gU (S3.oN 3 aD [jR,gG,rA] aD #[.string ⟨#[43]⟩,.string ⟨#[45]⟩,.string ⟨#[94]⟩] rfl 3 rfl true HSG.out) λw4 S4=>?_;go_upto_block 5 with fail;refine gU (S4.oN 0 aD [cJ] aD #[.string ⟨#[40]⟩] rfl 1 rfl true HS0.out) λw5 S5=>?_;go_upto_block 5 with fail;refine gU (S5.oN 2 aD [dA] aD #[.string ⟨#[41]⟩] rfl 1 rfl true HS2.out) λw6 S6=>?_;go_upto_block 5 with fail;refine gU (S6.Gs 4 aD true HCN.out) λw7 S7=>?_;have HL4:=aN (FK HCN.out);have hw3:IntKind.i64.wrap ((i:Int)+3)=(i:Int)+3:=iV _ (by have:=aZ h.le hbd;omega);have hw4:IntKind.i64.wrap ((i:Int)+3+1)=(i:Int)+3+1:=iV _ (by have:=aZ h.le hbd;omega);obtain⟨c1,f1⟩:=S7.ps.cells;go_upto_region 9 with fail;have S8:=S7.go (i+3) (iH (Ft HL4.out)) (iq ((i:Int)+3)) rfl;generalize World.setCell w7 _ _=w8 at S8 ⊢;clear c1 f1;obtain⟨c2,f2⟩:=S8.ps.cells;replace c2:w8.cell? (AAF pb 1)=some (.int .i64 ((i:Int)+3)):=c2;go_upto_region 11 with fail;have S9:=S8.EU (tg 0 0 0 ⟨#[]⟩ none 0 0);generalize World.alloc w8 _=w9 at S9 ⊢;generalize w8.heap.size=B9 at S9 ⊢;clear c2 f2;obtain⟨c3,f3⟩:=S9.ps.cells;replace c3:w9.cell? (AAF pb 1)=some (.int .i64 ((i:Int)+3)):=c3;go_upto_region 13 with fail;have S10:=S9.go (i+4) (iH HL4.out) (iq ((i:Int)+3+1)) (congrArg (Value.int .i64) aB);generalize World.setCell w9 _ _=w10 at S10 ⊢;clear c3 f3;refine qW aQ ?_;change wpAny _ _ _ _ _ _ _ (World.drew _);have Sq:=S10.drew;generalize World.drew w10=w11 at Sq ⊢;have SA:=Sq;have hb3:((i:Int)+3)<(L.length:Int):=by have:=HL4.out;omega
 have hb0:(0:Int)<=(i:Int)+3:=by omega
 have hn3:((i:Int)+3).toNat=i+3:=by omega
 obtain⟨b,off,cap,k0,k1,hb⟩:=Sq.ps.OX (n:=i+3) (Ft HL4.out);have HB:=aN hb;clear hb;exact sG
def XL(pb:Nat)(L:List T3)(hX:qZ L)(i:Nat)(w:World)(h:PS w pb L i):AAA 225 #[pq pb] w (aU pb L w (eC (lk L) i)):=by
 have hW:=λp W=>YI (tok (lk L) (i+1)) p (hX.at_ (i+1)) W
 cases hq:nH (tok (lk L) (i+1)) with
 | none=>
  rw[hq]at hW;have HU:=afH hq
  cases hsg:cD (lk L) (i+3) [jR,gG,rA]<;>cases hs0:cD (lk L) (i+0) [cJ]
  ·exact XC pb L i w h HU hs0 hW hsg
  ·exact Xm pb L i w h HU hs0 hW hsg
  ·exact XE pb L i w h HU hs0 hW hsg
  ·exact XD pb L i w h HU hs0 hW hsg
 | some n=>
  rw[hq]at hW;have HU0:=adH hq
  cases hsg:cD (lk L) (i+3) [jR,gG,rA]
  all_goals
   have HU1:=HU0;rw[hsg]at HU1
   cases hs0:cD (lk L) (i+0) [cJ]
   ·have HU:eC (lk L) i=cV (lk L) (dB (lk L)) i:=by rw[HU1,show cD (lk L) i [cJ]=false from hs0];rfl
    first
    | exact alT pb L i w h n HU hs0 hW hsg
    | exact ajL pb L i w h n HU hs0 hW hsg
   by_cases hn1:1<=n
   rotate_left
   ·have HU:eC (lk L) i=cV (lk L) (dB (lk L)) i:=by rw[HU1,bX hn1];simp
    first
    | exact akL pb L i w h n HU hs0 aB hW hsg
    | exact alH pb L i w h n HU hs0 aB hW hsg
   by_cases hn2:n<=1000
   rotate_left
   ·have HU:eC (lk L) i=cV (lk L) (dB (lk L)) i:=by rw[HU1,bX hn2];simp
    first
    | exact amW pb L i w h n HU hs0 aB aB hW hsg
    | exact alU pb L i w h n HU hs0 aB aB hW hsg
   cases hs2:cD (lk L) (i+2) [dA]
   ·have HU:eC (lk L) i=cV (lk L) (dB (lk L)) i:=by rw[HU1,hs2];simp
    first
    | exact akO pb L i w h n HU hs0 aB aB hs2 hW hsg
    | exact ajR pb L i w h n HU hs0 aB aB hs2 hW hsg
  ·cases hcn:dP (lk L) (i+3)
   ·exact ajS pb L i w h n (by rw[HU1];simp[hcn]) hs0 aB aB hs2 hcn hW hsg
   ·exact amE pb L i w h n PV hs0 aB aB hs2 hcn hW hsg
  ·cases hcn:dP (lk L) (i+4)
   ·exact anA pb L i w h n (by rw[HU1];simp[hcn]) hs0 aB aB hs2 hcn hW hsg
   ·exact akY pb L i w h n PV hs0 aB aB hs2 hcn hW hsg
end
