/- Part 34. -/
import Derived.Test.YtikalomcclefiaaGreatDoorV22
import Derived.Test.YtikalomcclefiaaGreatDoorV11
set_option linter.all false
set_option maxHeartbeats 0
set_option maxRecDepth 100000
namespace Go.Proofs.YtikalomcclefiaaGreatDoor
section
open Go.RowKit Lx Px
def afB: ∀ (l:Bs) (d b:Nat) (r:Nat×Nat),(46:UInt8)∉l->uO l d b false=some r->r.1=d+l.length/\∀ c∈l,gI (c.toNat:Int)=true:=by
 intro l
 induction l with
 | nil=>intro d b r _ h;unfold uO at h;cases h;exact⟨rfl,λc hc=>by cases hc⟩
 | cons c l ih=>
  intro d b r hn h;simp only[bO,not_or]at hn
  unfold uO at h
  by_cases hd:gI (c.toNat:Int)=true
  ·rw[aF hd]at h;obtain⟨h1,h2⟩:=ih _ _ _ hn.2 h;refine⟨by rw[h1,aV];omega,λx hx=>?_⟩
   rcases bO.1 hx with rfl|hx
   ·exact hd
   ·exact h2 x hx
  ·rw[aC hd,aC]at h
   ·cases h
   ·rintro⟨h1,_⟩;exact hn.1 (UInt8.toNat.inj (by have:(46:UInt8).toNat=46:=rfl;omega))
def aqT{c:UInt8}(h:gI (c.toNat:Int)=true):Lib.digitVal c=some (c.toNat - 48)/\48<=c.toNat/\c.toNat<=57:=by
 unfold gI at h;simp only[bA,dX]at h
 unfold Lib.digitVal;rw[aF aB];exact⟨rfl,by omega,by omega⟩
def agH: ∀ (l:Bs) (a:Nat),(∀ c∈l,gI (c.toNat:Int)=true)->Lib.decFrom a l=some (l.foldl (λn c=>n*10+(c.toNat - 48)) a):=by
 intro l
 induction l with
 | nil=>intro a _;rfl
 | cons c l ih=>
  intro a h;unfold Lib.decFrom;rw[(aqT (h c aI)).1];exact ih _ (λx hx=>h x (by simp[hx]))
def arL{s:dL}(h:eP 2 s=true)(hp:(46:UInt8)∉s.data.toList):s.size<=9/\Lib.atoi s.data.toList=some (Px.ajG s.data.toList:Int):=by
 unfold eP at h;rw[aC aD,aF rfl]at h;unfold Ns at h
 cases hg:uO s.data.toList 0 0 false with
 | none=>rw[hg]at h;cases h
 | some r=>
  obtain⟨d,b⟩:=r;rw[hg]at h;simp only[bA,dX]at h
  obtain⟨h1,h2⟩:=afB _ _ _ _ hp hg;have hsz:s.data.toList.length=s.size:=by simp
  simp only at h1
  refine⟨by omega,?_⟩;generalize s.data.toList=l at h2 h1
  cases l with
  | nil=>simp at h1;omega
  | cons c l=>
   have hc:=aqT (h2 c aI);have h45:(c==45)=false:=dR.2 (λe=>by have:=hc.2;rw[e]at this;simp at this);have h43:(c==43)=false:=dR.2 (λe=>by have:=hc.2;rw[e]at this;simp at this);unfold Lib.atoi;simp only[h45,h43,FY,if_false]
   unfold Lib.decNat;rw[aC aI,agH _ 0 h2];rfl
def arK(l:Bs):decide (0<=Lib.indexByte l 46)=decide ((46:UInt8)∈l):=by
 have hge:=Lib.indexByte_ge l 46
 by_cases h:(46:UInt8)∈l
 ·rw[eQ h,eQ]
  rcases Int.lt_or_le (Lib.indexByte l 46) 0 with hlt|hle
  ·obtain⟨k,hk⟩:=Ly h;exact absurd hk (Lib.indexByte_none aB k)
  ·exact hle
 ·rw[bX h,bX];intro hle;obtain⟨o,ho⟩:=Gv hle;exact h (lN (Lib.indexByte_some ho).1)
def wE: Option Nat->Ending
 | some n=>.returned (.tuple #[iq n,.bool true])
 | none=>.returned (.tuple #[iq 0,.bool false])
def YI(t:Tk)(p:Int)(ht:eP t.kind t.text=true\/t.kind=0)(w:World):AAA 231 #[.agg #[iq t.kind,.string t.text,iq p]] w λe w'=>e=wE (nH t)/\iY w w':=by
 obtain⟨k,s⟩:=t;simp only at ht ⊢
 have b1:=aJ w (.cells #[iq k,.string s,iq p] 47);have n1:=aP w (.cells #[iq k,.string s,iq p] 47)
 by_cases hk:k=2
 ·subst hk;have hC:=λW=>Tryz.strings_Contains_one s 46 W
  simp only[arK]at hC
  by_cases hp:(46:UInt8)∈s.data.toList
  ·have HW:=aN (show nH ⟨2,s⟩=none by unfold nH;rw[aC (λh=>h.2 hp)]);rw[eQ hp]at hC;clear hp;go_in;go_upto_region 1 with fail;generalize w.alloc _=w1 at b1 n1 ⊢;have c0:w1.cell? (AAF w.heap.size 0)=some (.int .i64 2):=aK w1 _ 0 _ _ _ n1;have c1:w1.cell? (AAF w.heap.size 1)=some (.string s):=aK w1 _ 1 _ _ _ n1;go_wp2_with (go_at_call 232;refine(hC _).mono ?_;rintro e w2 ⟨rfl,rfl⟩)
   go_ret2
   rw[HW.out];exact⟨rfl,b1⟩
  ·have HW:=aN (show nH ⟨2,s⟩=some (Px.ajG s.data.toList)by unfold nH;rw[aF ⟨rfl,hp⟩]);obtain⟨h9,hat⟩:=arL (ht.resolve_right aD) hp;rw[bX hp]at hC;generalize Px.ajG s.data.toList=v at HW hat;have hA:=λW=>Tryz.strconv_Atoi s v aB hat W
   clear hp hat;go_in;go_upto_region 1 with fail;generalize w.alloc _=w1 at b1 n1 ⊢;have c0:w1.cell? (AAF w.heap.size 0)=some (.int .i64 2):=aK w1 _ 0 _ _ _ n1;have c1:w1.cell? (AAF w.heap.size 1)=some (.string s):=aK w1 _ 1 _ _ _ n1;go_upto_region 4 with (first|(go_at_call 232;refine(hC _).mono ?_;rintro e w2 ⟨rfl,rfl⟩)|(go_at_call 233;refine(hA _).mono ?_;rintro e w3 ⟨rfl,tt,hw3⟩;have b3:iY w2 w3:=by { rw[hw3];exact Lib.bytesWorld_below _ _ _ };clear hw3));have B3:=b1.trans (b3.mono b1.size)
   go_quiet (fail)
   go_wp2_with fail
   go_ret2
   rw[HW.out];exact⟨rfl,B3.trans ⟨rfl,rfl,rfl,aG _,λ_ _=>rfl⟩⟩
 ·have HW:=aN (show nH ⟨k,s⟩=none by unfold nH;rw[aC (λh=>hk h.1)]);go_in;go_upto_region 1 with fail;generalize w.alloc _=w1 at b1 n1 ⊢;have c0:w1.cell? (AAF w.heap.size 0)=some (.int .i64 k):=aK w1 _ 0 _ _ _ n1;have c1:w1.cell? (AAF w.heap.size 1)=some (.string s):=aK w1 _ 1 _ _ _ n1;go_wp2_with fail
  go_ret2
  rw[HW.out];exact⟨rfl,b1⟩
def qZ(L:List T3):Prop:=∀ t,t∈L->eP t.kind t.text=true
def qZ.at_{L:List T3}(h:qZ L)(j:Nat):eP (tok (lk L) j).kind (tok (lk L) j).text=true\/(tok (lk L) j).kind=0:=by
 rcases cY j L.length with h'|h'
 ·left
  rw[show tok (lk L) j=_ from WZ h'];have:L[j]! = L[j]:=by simp[tC,dQ h']
  rw[this];exact h _ (eJ h')
 ·right;rw[show tok (lk L) j=_ from Mb h']
def Pg(pb:Nat)(L:List T3)(w:World)(r:R Nat)(e:Ending)(w':World):Prop:=match r with
 | .ok (n,j)=>e=.returned (.int .i64 n)/\Ok pb L j w w'
 | .error a=>e=gM a/\w.grownBy w' (some pb)
theorem Pg.ok{pb:Nat}{L:List T3}{w w':World}{r:R Nat}{s:Nat}{j:Nat}(h:r=.ok (s,j))(k:Ok pb L j w w'):Pg pb L w r (.returned (.int .i64 s)) w':=by rw[h];exact⟨rfl,k⟩
def Pg.err{pb:Nat}{L:List T3}{w w':World}{r:R Nat}(a:Nat)(h:r=.error a)(k:w.grownBy w' (some pb)):Pg pb L w r (gM a) w':=by rw[h];exact⟨rfl,k⟩
def agJ(pb:Nat)(L:List T3)(hX:qZ L)(lo hi i:Nat)(w:World)(h:PS w pb L i):AAA 226 #[pq pb,lo,hi] w (Pg pb L w (gO (lk L) lo hi i)):=by
 have HU:=aN (show gO (lk L) lo hi i=match nH (tok (lk L) (i+0)) with|some n=>if lo<=n/\n<=hi then .ok (n,i+1)else .error i|none=>.error i from rfl);have S1:=SV.begin h;have hT:=fS pb L i 0 aD w h;have hW:=λp W=>YI (tok (lk L) (i+0)) p (hX.at_ (i+0)) W
 have hbd:=h.bd
 cases hq:nH (tok (lk L) (i+0)) with
 | none=>
  rw[hq]at hW HU;unfold wE at hW;have HE:=aN (show gO (lk L) lo hi i=.error i from HU.out);clear hq;go_in;go_upto_block 3 with (first|(go_at_call 113;refine(S1.eT (E:=λe=>∃ p:Int,e=_) hT).mono ?_;rintro e w2 ⟨⟨p,rfl⟩,S2⟩)|(go_at_call 231;refine(S2.eT (E:=λe=>e=_) (hW p w2)).mono ?_;rintro e w3 ⟨rfl,S3⟩));refine S3.QW.mono ?_;rintro e wf ⟨rfl,hg⟩;unfold gM;go_wp2_with fail;exact⟨rfl,Pg.err i HE.out hg⟩
 | some n=>
  rw[hq]at hW HU;unfold wE at hW
  have hlt : i < L.length := FO (i := i) (by
    intro e
    have : nH (tok (lk L) (i + 0)) = none := by unfold nH; rw [aC]; rintro ⟨h1, _⟩; rw [show (tok (lk L) (i + 0)).kind = 0 from e] at h1; cases h1
    rw [this] at hq; cases hq)
  clear hq
  by_cases hb:lo<=n/\n<=hi
  ·have HE:=aN (show gO (lk L) lo hi i=.ok (n,i+1)by rw[HU.out];show (if lo<=n/\n<=hi then _ else _)=_;rw[aF hb]);have hb1:¬ (n:Int)<(lo:Int):=by omega
   have hb2:¬ (hi:Int)<(n:Int):=by omega
   clear HU hb;go_in;go_upto_region 4 with (first|(go_at_call 113;refine(S1.eT (E:=λe=>∃ p:Int,e=_) hT).mono ?_;rintro e w2 ⟨⟨p,rfl⟩,S2⟩)|(go_at_call 231;refine(S2.eT (E:=λe=>e=_) (hW p w2)).mono ?_;rintro e w3 ⟨rfl,S3⟩));obtain⟨c1,f1⟩:=S3.ps.cells;go_wp2_with fail;go_ret;exact Pg.ok HE.out (S3.ok.trans ⟨mN w3 pb 1 (iq ((i:Int)+1)),S3.ps.set (i+1) aB⟩)
  ·have HE:=aN (show gO (lk L) lo hi i=.error i by rw[HU.out];show (if lo<=n/\n<=hi then _ else _)=_;rw[aC hb])
   by_cases hb1:(n:Int)<(lo:Int)
   ·exact Ts
   ·have hb2:(hi:Int)<(n:Int):=by omega
    exact Ts
def SV.JM{pb:Nat}{L:List T3}{w0 w:World}{j:Nat}{rv ts}(S:SV pb L w0 w j rv ts)(hX:qZ L)(lo hi:Nat):AAA 226 #[pq pb,lo,hi] w λe w'=>(∃ a,gO (lk L) lo hi j=.error a/\e=gM a/\w0.grownBy w' (some pb))\/(∃ n j',gO (lk L) lo hi j=.ok (n,j')/\e=.returned (.int .i64 n)/\SV pb L w0 w' j' rv ts):=by
 refine(agJ pb L hX lo hi j w S.ps).mono ?_;intro e w' hp
 cases hr:gO (lk L) lo hi j with
 | ok sj=>rw[hr]at hp;exact OJ
 | error a=>rw[hr]at hp;exact .inl ⟨a,rfl,hp.1,S.ok.1.trans hp.2⟩
def abL(L:List Tk)(f i:Nat):hJ L (f+1) i =
 if (tok L i).kind=2 then aH (gO L 1 100 i) λn j=>aH (aW L j cJ) λ_ j1=>aH (eR L L.length (hJ L f) j1) λl j2=>aH (aW L j2 dA) λ_ j3=>.ok (.mk 42 n i e0 l,j3)
 else aH (iN L i) λs j=>
  if s=wP then(if (tok L j).kind=4 then aH (cQ L j) λx j'=>.ok (.mk 41 0 i s [x],j')else .error j)
  else if cD L j [cJ]then aH (eR L 2 (cQ L) (j+1)) λl j'=>aH (aW L j' dA) λ_ j2=>.ok (.mk 41 0 i s l,j2)
  else .ok (.mk 41 0 i s [],j):=by conv=>lhs;unfold hJ
def ahH: ∀ args w,(callFunc 227 args).run Tryz.prog w=.ok (.enter 227 args) w:=
 enters_of Tryz.func227 aD rfl
def anJ: ∀ args w,(callFunc 133 args).run Tryz.prog w=.ok (.enter 133 args) w:=
 enters_of Tryz.func133 aD rfl
def azT{L:List Tk}{read:Nat->R T}:∀ (n:Nat) (acc:List T) (j:Nat) (l:List T) (j':Nat),iP L read n acc j=.ok (l,j')->l.length<=acc.length+n:=by
 intro n
 induction n with
 | zero=>intro acc j l j' h;unfold iP at h;cases h;simp
 | succ n ih=>
  intro acc j l j' h;unfold iP at h
  split at h
  ·cases hr:read (j+1) with
   | error a=>rw[hr]at h;cases h
   | ok xj=>
    exact Pm
  ·cases h;simp
def Cb{L:List Tk}{read:Nat->R T}{most i:Nat}{l:List T}{j:Nat}(h1:1<=most)(h:eR L most read i=.ok (l,j)):l.length<=most:=by
 unfold eR at h
 cases hr:read i with
 | error a=>rw[hr]at h;cases h
 | ok xj=>
  obtain⟨x,j1⟩:=xj;rw[hr]at h;have:=azT _ _ _ _ _ h
  simp at this;omega
def agN(pb:Nat)(L:List T3)(hX:qZ L)(lo f:Nat)(ih:Reads 227 pb L (lo+1) (hJ (lk L) f)):Reads 227 pb L lo (hJ (lk L) (f+1)):=by
 intro i w hi h;have hu:=abL (lk L) f i;rw[bN]at hu;have HU:=aN hu;clear hu;have hbd:=h.bd;have hf0:=Eo;go_in;go_upto_region 1 with fail;have S1:=SV.new h;generalize World.alloc w _=w1 at S1 ⊢;obtain⟨c1,_⟩:=S1.ps.cells;go_upto_region 2 with fail;have hT:=fS pb L i 0 aD w1 S1.ps;clear c1
 by_cases hk:(tok (lk L) i).kind=2
 ·have hlt:i<L.length:=FO (by rw[hk];decide);rw[show (tok (L.map T3.tk) (i+0)).kind=2 from hk]at hT;have HK:=aN hk;clear hk;go_upto_block 3 with (go_at_call 113;refine(S1.eT (E:=λe=>∃ p:Int,e=_) hT).mono ?_;rintro e w2 ⟨⟨p,rfl⟩,S2⟩);refine(S2.JM hX 1 100).mono ?_;rintro e w3 (⟨x,hr,rfl,hg⟩|⟨n3,j3,hr,rfl,S3⟩)
  ·exact RB
  have H3:=aN hr;clear hr;have hj3:=vW (lk L) 1 100 i _ _ H3.out;go_upto_block 4 with fail;refine(S3.kG cJ).mono ?_;rintro e w4 (⟨x,hr,rfl,hg⟩|⟨j4,hr,rfl,S4⟩)
  ·unfold gM;go_wp2_with fail;exact⟨rfl,aU.err x (by simp[HU.out,aH,HK.out,H3.out,hr]) hg⟩
  have H4:=aN hr;clear hr;have hj4:=bM (lk L) j3 cJ _ _ H4.out;obtain⟨ao,cap,k0⟩:=S4.ps.row;have hM:=rK _ ahH pb L (lo+1) (hJ (lk L) f) ih (Wf (lk L) f) L.length aB aB j4 aB w4 S4.ps;go_upto_block 5 with fail;refine(S4.GQ hM).mono ?_;rintro e w5 (⟨x,hr,rfl,hg⟩|⟨l5,j5,o5,c5,hr,rfl,S5⟩)
  ·unfold gM;go_wp2_with fail;exact⟨rfl,aU.err x (by simp[HU.out,aH,HK.out,H3.out,H4.out,hr]) hg⟩
  have H5:=aN hr;clear hr;go_upto_block 6 with fail;refine(S5.kG dA).mono ?_;rintro e w6 (⟨x,hr,rfl,hg⟩|⟨j6,hr,rfl,S6⟩)
  ·unfold gM;go_wp2_with fail;exact⟨rfl,aU.err x (by simp[HU.out,aH,HK.out,H3.out,H4.out,H5.out,hr]) hg⟩
  have H6:=aN hr;clear hr;have:=AAD (S6.facts 0 rfl);go_wp2_with fail;have S7:=(S6.fY 0 rfl (iq 42) n3 i (.string ⟨#[]⟩) (.slice o5 l5.length c5)).OV 42 n3 i e0;refine nX (S7.facts 0 rfl) Tryz.results227 ?_;exact S7.res (.head _) (by simp[HU.out,aH,HK.out,H3.out,H4.out,H5.out,H6.out]<;>rfl) rfl
 ·generalize hkk:(tok (lk L) i).kind=tk at hk;rw[show (tok (L.map T3.tk) (i+0)).kind=tk from hkk]at hT;have HK:=aN (show ¬ (tok (lk L) i).kind=2 by rw[hkk];exact hk);clear hkk;go_upto_block 8 with (go_at_call 113;refine(S1.eT (E:=λe=>∃ p:Int,e=_) hT).mono ?_;rintro e w2 ⟨⟨p,rfl⟩,S2⟩);refine(S2.Bn (rM pb L i w2 S2.ps)).mono ?_;rintro e w3 (⟨x,hr,rfl,hg⟩|⟨s3,j3,hr,rfl,S3⟩)
  ·exact RB
  have H3:=aN hr;clear hr;have hj3:=sN (lk L) i _ _ H3.out;go_upto_region 9 with fail;have S4:=S3.EU (tg 41 0 i s3 none 0 0);generalize World.alloc w3 _=w4 at S4 ⊢;generalize w3.heap.size=B4 at S4 ⊢;have:=AAD (S4.facts 0 rfl)
  by_cases hp:s3=⟨#[80]⟩
  ·subst hp;have hT:=fS pb L j3 0 aD w4 S4.ps
   by_cases hk4:(tok (lk L) j3).kind=4
   ·rw[show (tok (L.map T3.tk) (j3+0)).kind=4 from hk4]at hT;have HP:=aN (show (⟨#[80]⟩:ByteArray)=wP from rfl);have HK4:=aN hk4;clear hk4;go_upto_block 12 with (go_at_call 113;refine(S4.eT (E:=λe=>∃ p:Int,e=_) hT).mono ?_;rintro e w5 ⟨⟨p,rfl⟩,S5⟩);refine(S5.eK (uD pb L j3 w5 S5.ps)).mono ?_;rintro e w6 (⟨x,hr,rfl,hg⟩|⟨t6,j6,k6,n6,a6,s6,o6,m6,c6,hr,rfl,S6⟩)
    ·unfold gM;go_wp2_with fail;exact⟨rfl,aU.err x (by simp[HU.out,aH,HK.out,H3.out,HP.out,HK4.out,hr]) hg⟩
    have H6:=aN hr;clear hr;have S7:=S6.lit (dO.one (S6.tr _ (.head _))) (tg k6 n6 a6 s6 o6 m6 c6) rfl 41 0 i wP 1 1 rfl;have:=AAD (S7.facts 0 rfl);have S8:=S7.put 0 rfl 4 (.slice (some (AAF w6.heap.size 0)) 1 1) aI;go_upto_region 16 with fail;generalize World.setCell _ (AAF B4 4) _=w8 at S8 ⊢;have:=AAD (S8.facts 0 rfl);have:=AAD (S8.facts 1 rfl);go_wp2_with fail;have S9:=S8.fY 1 rfl (iq 41) (iq 0) i (.string ⟨#[80]⟩) (.slice (some (AAF w6.heap.size 0)) 1 1);refine nX (S9.facts 1 rfl) Tryz.results227 ?_;exact S9.res (.head _) (by rw[HU.out,aC HK.out];simp[aH,H3.out,HP.out,HK4.out,H6.out]) rfl
   ·generalize hkk:(tok (lk L) j3).kind=tk4 at hk4;rw[show (tok (L.map T3.tk) (j3+0)).kind=tk4 from hkk]at hT;have HP:=aN (show (⟨#[80]⟩:ByteArray)=wP from rfl);have HK4:=aN (show ¬ (tok (lk L) j3).kind=4 by rw[hkk];exact hk4);clear hkk;go_upto_block 11 with (go_at_call 113;refine(S4.eT (E:=λe=>∃ p:Int,e=_) hT).mono ?_;rintro e w5 ⟨⟨p,rfl⟩,S5⟩);refine S5.QW.mono ?_;rintro e wf ⟨rfl,hg⟩;unfold gM;go_wp2_with fail;exact⟨rfl,aU.err _ (by rw[HU.out,aC HK.out];simp[aH,H3.out,HP.out,HK4.out]) hg⟩
  ·have h1:(s3.toList == [80])=false:=dR.2 λe=>hp (by rw[<- Le,e];decide +kernel)
   have h3:decide (s3=⟨#[80]⟩)=false:=bX hp;have HP:=aN (show ¬ s3=wP from hp);clear hp
   cases hs:cD (lk L) j3 [cJ] with
   | true=>
    have hC:=S4.LW cJ hs;have HS:=aN hs;clear hs;go_upto_block 14 with (go_at_call 123;refine hC.mono ?_;rintro e w5 ⟨rfl,S5⟩);refine(S5.GQ (rK _ anJ pb L 0 (cQ (lk L)) (λi w _ h=>uD pb L i w h) (lQ (lk L)) 2 aD aD (j3+1) (aS _) w5 S5.ps)).mono ?_;rintro e w6 (⟨x,hr,rfl,hg⟩|⟨l6,j6,o6,c6,hr,rfl,S6⟩)
    ·unfold gM;go_wp2_with fail;exact⟨rfl,aU.err x (by simp[HU.out,aH,HK.out,H3.out,HP.out,HS.out,hr]) hg⟩
    have H6:=aN hr;clear hr;have:=AAD (S6.facts 0 rfl);have S7:=(S6.put 0 rfl 4 (.slice o6 l6.length c6) aI).OV 41 0 i s3;go_upto_region 15 with fail;generalize World.setCell _ (AAF B4 4) _=w7 at S7 ⊢;go_upto_block 15 with fail;refine(S7.kG dA).mono ?_;rintro e w8 (⟨x,hr,rfl,hg⟩|⟨j8,hr,rfl,S8⟩)
    ·unfold gM;go_wp2_with fail;exact⟨rfl,aU.err x (by simp[HU.out,aH,HK.out,H3.out,HP.out,HS.out,H6.out,hr]) hg⟩
    have H8:=aN hr;clear hr;have:=AAD (S8.facts 0 rfl);have:=AAD (S8.facts 1 rfl);go_wp2_with fail;have S9:=S8.fY 1 rfl (iq 41) (iq 0) i s3 (.slice o6 l6.length c6);refine nX (S9.facts 1 rfl) Tryz.results227 ?_;exact S9.res (.head _) (by simp[HU.out,aH,HK.out,H3.out,HP.out,HS.out,H6.out,H8.out]<;>rfl) rfl
   | false=>
    have hC:=S4.Ma cJ hs;have HS:=aN hs;clear hs;go_upto_region 16 with (go_at_call 123;refine hC.mono ?_;rintro e w5 ⟨rfl,S5⟩);have:=AAD (S5.facts 0 rfl);have:=AAD (S5.facts 1 rfl);go_wp2_with fail;have S9:=(S5.fY 1 rfl (iq 41) (iq 0) i s3 (.slice none 0 0)).leaf 41 0 i s3;refine nX (S9.facts 1 rfl) Tryz.results227 ?_;exact S9.res (.head _) (by simp[HU.out,aH,HK.out,H3.out,HP.out,HS.out]<;>rfl) rfl
def anW(pb:Nat)(L:List T3)(hX:qZ L):Reads 227 pb L 0 (uZ (lk L)):=by
 have:∀ f lo,L.length+1<=f+lo->Reads 227 pb L lo (hJ (lk L) f):=by
  intro f
  induction f with
  | zero=>intro lo hlo i w hi h;exact absurd h.le aB
  | succ f ih=>intro lo hlo;exact agN pb L hX lo f (ih (lo+1) aB)
 exact Qf
def tF(L:List Tk)(k:Int)(a:Nat)(item:Nat->R T)(w:dL)(n:Int)(j1:Nat):R T:=
 aH (if iT L j1 [wQ,rX]then
   aH (aW L (j1+1) cJ) λ_ k1=>aH (eR L 16 item k1) λl k2=>aH (aW L k2 dA) λ_ k3=>
   (if iT L j1 [rX]then aH (aW L k3 cJ) λ_ k4=>aH (eR L 32 (uZ L) k4) λm k5=>aH (aW L k5 dA) λ_ k6=>.ok ((gQ l,gQ m),k6)
    else .ok ((gQ l,none_),k3))
  else .ok ((none_,none_),j1)) λlm j2=>bK L (.mk k n a w [lm.1,lm.2]) j2
def Cx(L:List Tk)(k:Int)(a:Nat)(item:Nat->R T)(w:dL)(j:Nat):R T:=
 aH (if iT L j [sV]then aH (aW L (j+1) cJ) λ_ j1=>aH (gO L 1 99 j1) λn j2=>aH (aW L j2 dA) λ_ j3=>.ok ((n:Int),j3)else .ok (0,j)) λn j1=>tF L k a item w n j1
def alM(L:List Tk)(k:Int)(a:Nat)(item:Nat->R T)(i:Nat):jT L k a item i=aH (if iT L i [gR]then rT L i else .ok (e0,i)) λw j=>Cx L k a item w j:=rfl
abbrev aHC: List Value:=[.int .i64 10,.int .i64 0,.int .i64 0,.string ⟨#[]⟩,.slice none 0 0,.int .i64 10,.int .i64 0,.int .i64 0,.string ⟨#[]⟩,.slice none 0 0]
abbrev c10(k n a:Int)(s:dL)(o:iD)(m c:Nat)(k' n' a':Int)(s':dL)(o':iD)(m' c':Nat):List Value:=
 [.int .i64 k,.int .i64 n,.int .i64 a,.string s,.slice o m c,.int .i64 k',.int .i64 n',.int .i64 a',.string s',.slice o' m' c']
def aGX{w:World}{b:Nat}{v0 v1 v2 v3 v4 v5 v6 v7 v8 v9:Value}(h:w.heap[b]?=some (.cells [v0,v1,v2,v3,v4,v5,v6,v7,v8,v9].toArray 24 (0,0))):w.cell? (AAF b 0)=some v0/\w.cell? (AAF b 1)=some v1/\w.cell? (AAF b 2)=some v2/\w.cell? (AAF b 3)=some v3/\w.cell? (AAF b 4)=some v4/\w.cell? (AAF b 5)=some v5/\w.cell? (AAF b 6)=some v6/\w.cell? (AAF b 7)=some v7/\w.cell? (AAF b 8)=some v8/\w.cell? (AAF b 9)=some v9/\w.frozen? (AAF b 0)=false/\w.frozen? (AAF b 1)=false/\w.frozen? (AAF b 2)=false/\w.frozen? (AAF b 3)=false/\w.frozen? (AAF b 4)=false/\w.frozen? (AAF b 5)=false/\w.frozen? (AAF b 6)=false/\w.frozen? (AAF b 7)=false/\w.frozen? (AAF b 8)=false/\w.frozen? (AAF b 9)=false:=
 ⟨aK w b 0 _ _ _ h,aK w b 1 _ _ _ h,aK w b 2 _ _ _ h,aK w b 3 _ _ _ h,aK w b 4 _ _ _ h,aK w b 5 _ _ _ h,aK w b 6 _ _ _ h,aK w b 7 _ _ _ h,aK w b 8 _ _ _ h,aK w b 9 _ _ _ h,
  aY h 0,aY h 1,aY h 2,aY h 3,aY h 4,aY h 5,aY h 6,aY h 7,aY h 8,aY h 9⟩
def SV.aqY{pb:Nat}{L:List T3}{w0 w:World}{j:Nat}{rv ts}(S:SV pb L w0 w j rv ts)(k:Nat){b:Nat}{v0 v1 v2 v3 v4 v5 v6 v7 v8 v9:Value}(hk:rv[k]?=some (b,[v0,v1,v2,v3,v4,v5,v6,v7,v8,v9])) :
 w.heap[b]?=some (.cells [v0,v1,v2,v3,v4,v5,v6,v7,v8,v9].toArray 24 (0,0)):=(S.tv _ (lN hk)).1
def SV.aLO{pb:Nat}{L:List T3}{w0 w:World}{j:Nat}{p:Nat×List Value}{b:Nat}{us:List Value}{rv ts}(S:SV pb L w0 w j (p::(b,us)::rv) ts){l:List T}(h:dO (Av w0 (p::(b,us)::rv)) w l us)(k n a:Int)(s:dL)(m c:Nat)(hm:m=l.length)(hcap:l.length<=c:=by exact aG _):SV pb L w0 w j (p::rv) ((.mk k n a s l,vT k n a s (some (AAF b 0)) m c)::ts):=by
 subst hm;have hpw:=S.pw;rw[sB]at hpw;have hpw2:=hpw.2;rw[sB]at hpw2;have hb:=S.tv (b,us) (.tail _ (.head _));have hav:∀ c,Av w0 (p::(b,us)::rv) c->Av w0 (p::rv) c:=λc hc=>⟨hc.1,λq hq=>hc.2 q SH⟩
 refine⟨S.ok,S.hp,λq hq=>S.tv q SH,sB.2 ⟨λq hq=>hpw.1 q (.tail _ hq),hpw2.2⟩,λq hq=>?_⟩
 rcases bO.1 hq with rfl|hq
 ·show iB _ _ (.mk k n a s l) (vT k n a s (some (AAF b 0)) l.length c)
  unfold iB;refine⟨_,_,rfl,λ_=>⟨b,0,us,rfl,⟨hb.2,λq hq=>?_⟩,(aX.1 hb.1).1,h.kept (λc hc _=>hav c hc) (aG _) (λ_ _ _=>rfl),λi u hi=>?_⟩,hcap⟩
  ·rcases bO.1 hq with rfl|hq
   ·exact(hpw.1 (b,us) (.head _)).symm
   ·exact hpw2.1 q hq
  ·rw[dT,aK w b i _ _ _ hb.1]
   simpa using hi
 ·exact(S.tr q hq).kept (λc hc _=>hav c hc) (aG _) (λ_ _ _=>rfl)
def On{p:Prop}(h:p:=by
 go_simp;refine GR aMB Sq ?_;clear aMB Kx;exact Bq):p:=h
def Zo{p:Prop}(h:p:=by
 go_simp;have hM:=rK _ hK pb L 0 item hr up 16 aD aD j12 (aS _) _ Sq.ps;refine(Sq.GQ hM).mono ?_;rintro e w14 (⟨x,hr,rfl,hg⟩|⟨l14,j14,o14,c14,hr,rfl,Sq⟩)
 ·unfold gM;exact⟨rfl,aU.err x (by simp[HU.out,aH,tF,HS.out,H12.out,hr]) hg⟩
 have H14:=aN hr;clear hr;have:=AAD (Sq.facts 0 rfl);refine GR aMB Sq ?_;clear aMB Kx;exact Bq):p:=h
def Zg{p:Prop}(h:p:=by
 go_simp;refine(Sq.Yp (aZ (Cb aD H14.out) aD)).mono ?_;rintro e w15 ⟨a15,hl15,rfl,Sq⟩;have:=AAD (Sq.facts 0 rfl);obtain⟨_,_,_,_,_,_,_,_,_,_,_,_,_,_,_,_,_,_,_,_⟩:=aGX (Sq.aqY 1 rfl);refine GR aMB Sq ?_;clear aMB Kx;exact Bq):p:=h
def avA{p:Prop}(h:p:=by
 go_simp;refine aMB _ _ ?_;clear aMB Kx;exact Bq):p:=h
def aCr{p:Prop}(h:p:=by
 have S16:=((((Sq.put 1 rfl 0 (iq 40) aI).put 1 rfl 1 (iq 0) aI).put 1 rfl 2 (iq a15) aI).put 1 rfl 3 (.string ⟨#[]⟩) aI).put 1 rfl 4 (.slice o14 l14.length c14) aI
 go_wp2
 go_meet
 case rel=>exact⟨l14,j14,a15,o14,c14,S16,H14.out⟩):p:=h
theorem Bq{p:Prop}(h:p:=by
 first
 | (refine Gk ?_;exact aCr)
 | (refine tZ 0 ?_;exact Bq)
 | (refine tZ 2 ?_;exact Bq)
 | (refine tZ 3 ?_;exact Bq)
 | (refine tZ 6 ?_;exact Bq)
 | (refine kL [1,4] ?_;refine qP (λKx aMB=>?_) (qP (λKx aMB=>?_) .nil);exact On;exact Zo)
 | (refine kL [4] ?_;refine qP (λKx aMB=>?_) .nil;exact Zo)
 | (refine kL [5] ?_;refine qP (λKx aMB=>?_) .nil;exact Zg)
 | (refine kL [7] ?_;refine qP (λKx aMB=>?_) .nil;exact avA)
 | (refine kL [1,5] ?_;refine qP (λKx aMB=>?_) (qP (λKx aMB=>?_) .nil);exact On;exact Zg)
 | (refine kL [1] ?_;refine qP (λKx aMB=>?_) .nil;exact On)):p:=h
def Kf{p:Prop}(h:p:=by
 go_simp;refine GR aMB Sq ?_;clear aMB Kx;exact Af):p:=h
def XU{p:Prop}(h:p:=by
 go_simp;refine GR aMB Sq ?_;clear aMB Kx;exact Af):p:=h
def Zh{p:Prop}(h:p:=by
 go_simp;have hM:=rK _ ahH pb L 0 (uZ (lk L)) (anW pb L hX) (Ws (lk L)) 32 aD aD j15 (aS _) _ Sq.ps;refine(Sq.GQ hM).mono ?_;rintro e w17 (⟨x,hr,rfl,hg⟩|⟨l17,j17,o17,c17,hr,rfl,Sq⟩)
 ·unfold gM;exact⟨rfl,aU.err x (by simp[HU.out,aH,tF,HS.out,H12.out,H13.out,H14.out,HS2.out,H15.out,hr]) hg⟩
 have H17:=aN hr;clear hr;have:=AAD (Sq.facts 0 rfl);refine GR aMB Sq ?_;clear aMB Kx;exact Af):p:=h
def ZB{p:Prop}(h:p:=by
 go_simp;refine(Sq.Yp (aZ (Cb aD H17.out) aD)).mono ?_;rintro e w18 ⟨a18,hl18,rfl,Sq⟩;have:=AAD (Sq.facts 0 rfl);obtain⟨_,_,_,_,_,_,_,_,_,_,_,_,_,_,_,_,_,_,_,_⟩:=aGX (Sq.aqY 1 rfl);refine GR aMB Sq ?_;clear aMB Kx;exact Af):p:=h
def axE{p:Prop}(h:p:=by
 go_simp;refine aMB _ _ ?_;clear aMB Kx;exact Af):p:=h
def aDt{p:Prop}(h:p:=by
 have S19:=((((Sq.put 1 rfl 5 (iq 40) aI).put 1 rfl 6 (iq 0) aI).put 1 rfl 7 (iq a18) aI).put 1 rfl 8 (.string ⟨#[]⟩) aI).put 1 rfl 9 (.slice o17 l17.length c17) aI;go_upto_region 17 with fail;generalize World.setCell _ (AAF B4 9) _=w19 at S19 ⊢;go_upto_block 17 with fail;refine(S19.kG dA).mono ?_;rintro e w20 (⟨x,hr,rfl,hg⟩|⟨j20,hr,rfl,S20⟩)
 ·unfold gM;go_wp2_with fail;exact⟨rfl,aU.err x (by simp[HU.out,aH,tF,HS.out,H12.out,H13.out,H14.out,HS2.out,H15.out,H17.out,hr]) hg⟩
 have H20:=aN hr;clear hr
 go_wp2
 go_meet
 case rel => exact ⟨gQ l, gQ l17, j20, _, _, _, _, _, _, _, _, _, _, _, _, _, _, ⟨S20.ok, S20.hp, S20.tv, S20.pw, λp hp => S20.tr p (by
   rcases bO.1 hp with rfl | hp
   · exact .tail _ (.head _)
   · rcases bO.1 hp with rfl | hp
     · exact .head _
     · cases hp)⟩, by simp [HU.out, aH, tF, HS.out, H12.out, H13.out, H14.out, HS2.out, H15.out, H17.out, H20.out]⟩) : p := h
theorem Af{p:Prop}(h:p:=by
 first
 | (refine Gk ?_;exact aDt)
 | (refine tZ 0 ?_;exact Af)
 | (refine tZ 2 ?_;exact Af)
 | (refine tZ 3 ?_;exact Af)
 | (refine tZ 7 ?_;exact Af)
 | (refine kL [1,4] ?_;refine qP (λKx aMB=>?_) (qP (λKx aMB=>?_) .nil);exact Kf;exact XU)
 | (refine kL [4] ?_;refine qP (λKx aMB=>?_) .nil;exact XU)
 | (refine kL [5] ?_;refine qP (λKx aMB=>?_) .nil;exact Zh)
 | (refine kL [6] ?_;refine qP (λKx aMB=>?_) .nil;exact ZB)
 | (refine kL [8] ?_;refine qP (λKx aMB=>?_) .nil;exact axE)
 | (refine kL [1,5] ?_;refine qP (λKx aMB=>?_) (qP (λKx aMB=>?_) .nil);exact Kf;exact Zh)
 | (refine kL [1,6] ?_;refine qP (λKx aMB=>?_) (qP (λKx aMB=>?_) .nil);exact Kf;exact ZB)
 | (refine kL [1] ?_;refine qP (λKx aMB=>?_) .nil;exact Kf)):p:=h
def VA(K:FuncId)(hK:∀ args w,(callFunc K args).run Tryz.prog w=.ok (.enter K args) w)(pb:Nat)(L:List T3)(hX:qZ L)(item:Nat->R T)(hr:Reads K pb L 0 item)(up:∀ i,Up (i+1) (item i))(k:Int)(a i:Nat)(w:World)(h:PS w pb L i):AAA 213 #[pq pb,k,a,.func (.func K) #[pq pb] #[]] w (aU pb L w (jT (lk L) k a item i)):=by
 have HU:=aN (alM (lk L) k a item i);go_in;go_upto_region 1 with fail;have S1:=SV.new h;generalize World.alloc w _=w1 at S1 ⊢;go_upto_block 1 with fail;refine S1.Mn.mono ?_;rintro e w2 ⟨rfl,S2⟩;go_upto_block 1 with fail;refine S2.Mn.mono ?_;rintro e w3 ⟨rfl,S3⟩;have S4:=(S3.less (ts':=[]) (λ_ h=>by cases h)).oF aHC #[.int .i64 10,.int .i64 0,.int .i64 0,.string ⟨#[]⟩,.slice none 0 0,.int .i64 10,.int .i64 0,.int .i64 0,.string ⟨#[]⟩,.slice none 0 0] rfl _ rfl;go_upto_block 1 with fail;generalize World.alloc w3 _=w4 at S4 ⊢;generalize w3.heap.size=B4 at S4 ⊢;refine gU (S4.eT (E:=λe=>e=_) (yM k a _ 2 2 w4)) λw5 S5=>?_;go_upto_region 2 with fail;have S6:=S5.EU (tg k 0 a ⟨#[]⟩ (some (AAF B4 0)) 2 2);generalize World.alloc w5 _=w6 at S6 ⊢;generalize w5.heap.size=B6 at S6 ⊢;clear S1 S2 S3 S4 S5;have hC:=S6.GJ [gR] aI #[.string ⟨#[70,73,76,69]⟩] rfl 1 rfl _ rfl;go_upto_if 19 with (go_at_call 143;refine hC.mono ?_;rintro e w7 ⟨rfl,S7⟩);clear hC S6;go_cut [] (λwx=>∃ (wd:dL) (j:Nat),SV pb L w wx j [(B6,tg k 0 a wd (some (AAF B4 0)) 2 2),(B4,aHC),(w.heap.size,Cg)] []/\jT (lk L) k a item i=Cx (lk L) k a item wd j)
 case first=>
  cases hs:iT (lk L) i [gR] with
  | true=>
   have HS:=aN hs;clear hs;go_upto_block 3 with fail;refine(S7.Bn (xM pb L i w7 S7.ps)).mono ?_;rintro e w8 (⟨x,hr,rfl,hg⟩|⟨s8,j8,hr,rfl,S8⟩)
   ·exact rV
   have H8:=aN hr;clear hr;have:=AAD (S8.facts 0 rfl)
   go_wp2
   go_meet
   case rel=>exact⟨s8,j8,S8.put 0 rfl 3 (.string s8) aI,by rw[HU.out,aF HS.out,H8.out];rfl⟩
  | false=>
   have HS:=aN hs;clear hs
   go_wp2
   go_meet
   case rel=>exact⟨e0,i,S7,by rw[HU.out,aC (by rw[HS.out];decide)];rfl⟩
 case rest=>
  clear S7;obtain⟨wd,j,S7,hq⟩:=hcut;have HU:=aN hq;clear hq;have hC:=S7.Li [sV] aI #[.string ⟨#[83,75,73,80]⟩] rfl 1 rfl _ rfl;go_upto_if 25 with (go_at_call 124;refine hC.mono ?_;rintro e w8 ⟨rfl,S8⟩);clear hC S7;go_cut [] (λwx=>∃ (n:Int) (j:Nat),SV pb L w wx j [(B6,tg k n a wd (some (AAF B4 0)) 2 2),(B4,aHC),(w.heap.size,Cg)] []/\jT (lk L) k a item i=tF (lk L) k a item wd n j)
  case first=>
   cases hs:iT (lk L) j [sV] with
   | true=>
    rw[hs]at S8;replace S8:SV pb L w w8 (j+1) _ _:=S8;have HS:=aN hs;clear hs;go_upto_block 5 with fail;refine(S8.kG cJ).mono ?_;rintro e w9 (⟨x,hr,rfl,hg⟩|⟨j9,hr,rfl,S9⟩)
    ·unfold gM;go_wp2_with fail;exact⟨rfl,aU.err x (by simp[HU.out,aH,Cx,HS.out,hr]) hg⟩
    have H9:=aN hr;clear hr;go_upto_block 6 with fail;refine(S9.JM hX 1 99).mono ?_;rintro e w10 (⟨x,hr,rfl,hg⟩|⟨n10,j10,hr,rfl,S10⟩)
    ·unfold gM;go_wp2_with fail;exact⟨rfl,aU.err x (by simp[HU.out,aH,Cx,HS.out,H9.out,hr]) hg⟩
    have H10:=aN hr;clear hr;have:=AAD (S10.facts 0 rfl);have S11:=S10.put 0 rfl 1 (iq n10) aI;go_upto_region 7 with fail;generalize World.setCell w10 (AAF B6 1) _=w11 at S11 ⊢;go_upto_block 7 with fail;refine(S11.kG dA).mono ?_;rintro e w12 (⟨x,hr,rfl,hg⟩|⟨j12,hr,rfl,S12⟩)
    ·unfold gM;go_wp2_with fail;exact⟨rfl,aU.err x (by simp[HU.out,aH,Cx,HS.out,H9.out,H10.out,hr]) hg⟩
    have H12:=aN hr;clear hr
    go_wp2
    go_meet
    case rel=>exact⟨n10,j12,S12,by simp[HU.out,aH,Cx,HS.out,H9.out,H10.out,H12.out]⟩
   | false=>
    rw[hs]at S8;replace S8:SV pb L w w8 j _ _:=S8;have HS:=aN hs;clear hs
    go_wp2
    go_meet
    case rel=>exact⟨0,j,S8,by simp[HU.out,aH,Cx,HS.out]⟩
  case rest=>
   clear S8;obtain⟨n,j,S8,hq⟩:=hcut;have HU:=aN hq;clear hq;have hC:=S8.GJ [wQ,rX] aI #[.string ⟨#[76,73,83,84]⟩,.string ⟨#[69,68,73,84]⟩] rfl 2 rfl _ rfl;go_upto_if 35 with (go_at_call 143;refine hC.mono ?_;rintro e w9 ⟨rfl,S9⟩);clear hC S8
   go_cut [] (λwx=>∃ (x y:T) (j':Nat) (k1 n1 a1:Int) (s1:dL) (o1:iD) (m1 c1:Nat) (k2 n2 a2:Int) (s2:dL) (o2:iD) (m2 c2:Nat),
    SV pb L w wx j' [(B6,tg k n a wd (some (AAF B4 0)) 2 2),(B4,c10 k1 n1 a1 s1 o1 m1 c1 k2 n2 a2 s2 o2 m2 c2),(w.heap.size,Cg)] [(x,vT k1 n1 a1 s1 o1 m1 c1),(y,vT k2 n2 a2 s2 o2 m2 c2)]/\jT (lk L) k a item i=bK (lk L) (.mk k n a wd [x,y]) j')
   case first=>
    cases hs:iT (lk L) j [wQ,rX] with
    | false=>
     have HS:=aN hs;clear hs
     go_wp2
     go_meet
     case rel=>exact⟨none_,none_,j,_,_,_,_,_,_,_,_,_,_,_,_,_,_,(S9.leaf 10 0 0 e0).leaf 10 0 0 e0,by simp[HU.out,aH,tF,HS.out]⟩
    | true=>
     have hjl:=VD hs;have hbd:=S9.ps.bd;have HS:=aN hs;clear hs;have hC:=S9.GJ [rX] aI #[.string ⟨#[69,68,73,84]⟩] rfl 1 rfl _ rfl;go_upto_region 10 with (go_at_call 143;refine hC.mono ?_;rintro e w10 ⟨rfl,S10⟩);clear hC S9;obtain⟨c1,f1⟩:=S10.ps.cells;go_upto_region 11 with fail;have S11:=S10.step ⟨mN w10 pb 1 (iq ((j:Int)+1)),S10.ps.set (j+1) aB⟩;generalize World.setCell w10 _ _=w11 at S11 ⊢;clear c1 f1 S10;go_upto_block 11 with fail;refine(S11.kG cJ).mono ?_;rintro e w12 (⟨x,hr,rfl,hg⟩|⟨j12,hr,rfl,S12⟩)
     ·unfold gM;go_wp2_with fail;exact⟨rfl,aU.err x (by simp[HU.out,aH,tF,HS.out,hr]) hg⟩
     have H12:=aN hr;clear hr;go_upto_region 12 with fail;go_cut [] (λwx=>∃ (l:List T) (j':Nat) (a1:Int) (o1:iD) (c1:Nat),SV pb L w wx j' [(B6,tg k n a wd (some (AAF B4 0)) 2 2),(B4,c10 40 0 a1 e0 o1 l.length c1 10 0 0 e0 none 0 0),(w.heap.size,Cg)] [(gQ l,vT 40 0 a1 e0 o1 l.length c1)]/\eR (lk L) 16 item j12=.ok (l,j'))
     case first=>
      refine qW aQ ?_;change wpAny _ _ _ _ _ _ _ (World.drew _);have Sq:=S12.drew;generalize World.drew w12=w13 at Sq ⊢;have:=AAD (Sq.facts 0 rfl);exact Bq
     case rest=>
      obtain⟨l,j13,a1,o1,c1,S13,hq⟩:=hcut;have H13:=aN hq;clear hq S12 S11;go_upto_block 13 with fail;refine(S13.kG dA).mono ?_;rintro e w14 (⟨x,hr,rfl,hg⟩|⟨j14,hr,rfl,S14⟩)
      ·unfold gM;go_wp2_with fail;exact⟨rfl,aU.err x (by simp[HU.out,aH,tF,HS.out,H12.out,H13.out,hr]) hg⟩
      have H14:=aN hr;clear hr
      cases hs:iT (lk L) j [rX] with
      | false=>
       have HS2:=aN hs;clear hs
       go_wp2
       go_meet
       case rel => exact ⟨gQ l, none_, j14, _, _, _, _, _, _, _, _, _, _, _, _, _, _, ⟨S14.ok, S14.hp, S14.tv, S14.pw, λp hp => by
         rcases bO.1 hp with rfl | hp
         · exact S14.tr _ (.head _)
         · rcases bO.1 hp with rfl | hp
           · exact (S14.leaf 10 0 0 e0).tr _ (.head _)
           · cases hp⟩, by simp [HU.out, aH, tF, HS.out, H12.out, H13.out, H14.out, HS2.out]⟩
      | true=>
       have HS2:=aN hs;clear hs;go_upto_block 15 with fail;refine(S14.kG cJ).mono ?_;rintro e w15 (⟨x,hr,rfl,hg⟩|⟨j15,hr,rfl,S15⟩)
       ·unfold gM;go_wp2_with fail;exact⟨rfl,aU.err x (by simp[HU.out,aH,tF,HS.out,H12.out,H13.out,H14.out,HS2.out,hr]) hg⟩
       have H15:=aN hr;clear hr;go_upto_region 16 with fail;refine qW aQ ?_;change wpAny _ _ _ _ _ _ _ (World.drew _);have Sq:=S15.drew;generalize World.drew w15=w16 at Sq ⊢;have:=AAD (Sq.facts 0 rfl);exact Af
   case rest=>
    clear S9;obtain⟨x,y,j',k1,n1,a1,s1,o1,m1,c1,k2,n2,a2,s2,o2,m2,c2,S9,hq⟩:=hcut;have HU:=aN hq;clear hq;have:=AAD (S9.facts 0 rfl);go_upto_block 18 with fail;refine(S9.sR k n a wd (some (AAF B4 0)) 2 2).mono ?_;rintro e wz (⟨x,hr,rfl,hg⟩|⟨jz,hr,rfl,Sz⟩)
    ·exact iU
    have Hz:=aN hr;clear hr;have Sy:=Sz.aLO (dO.two (Sz.tr _ (.head _)) (Sz.tr _ (.tail _ (.head _)))) k n a wd 2 2 rfl;have:=AAD (Sy.facts 1 rfl);go_wp2_with fail;have Sx:=Sy.fY 1 rfl k n a wd (.slice (some (AAF B4 0)) 2 2);refine nX (Sx.facts 1 rfl) Tryz.results213 ?_;exact Sx.res (.head _) Sk rfl
def ahZ: ∀ args w,(callFunc 134 args).run Tryz.prog w=.ok (.enter 134 args) w:=
 enters_of Tryz.func134 aD rfl
def BD: ∀ args w,(callFunc 45 args).run Tryz.prog w=.ok (.enter 45 args) w:=
 enters_of Tryz.func45 aD rfl
section
variable(pb:Nat)(L:List T3)(hX:qZ L)(a:Nat)(lab:dL)(i:Nat)(w:World)(h:PS w pb L i)
include pb L hX a lab i w h
theorem aEJ:AAA 184 #[pq pb,a,lab] w (aU pb L w (jT (lk L) 38 a (yZ (lk L)) i)):=by
 have HU:=aN (show jT (lk L) 38 a (yZ (lk L)) i=jT (lk L) 38 a (yZ (lk L)) i from rfl);go_in;go_upto_region 1 with fail;have S1:=SV.new h;generalize World.alloc w _=w1 at S1 ⊢;go_upto_block 1 with fail;refine(S1.eK (VA _ ahZ pb L hX (yZ (lk L)) (Jj pb L) (Br (lk L)) 38 a i w1 S1.ps)).mono ?_;rintro e w3 (⟨x,hr,rfl,hg⟩|⟨t3,j3,k3,n3,a3,s3,o3,m3,c3,hr,rfl,S3⟩)
 ·exact jQ
 have H3:=aN hr;clear hr;have:=AAD (S3.facts 0 rfl);go_wp2_with fail;have S4:=S3.fY 0 rfl k3 n3 a3 s3 (.slice o3 m3 c3);refine nX (S4.facts 0 rfl) Tryz.results184 ?_;exact DQ
theorem aFZ:AAA 185 #[pq pb,a,lab] w (aU pb L w (jT (lk L) 39 a (dB (lk L)) i)):=by
 have HU:=aN (show jT (lk L) 39 a (dB (lk L)) i=jT (lk L) 39 a (dB (lk L)) i from rfl);go_in;go_upto_region 1 with fail;have S1:=SV.new h;generalize World.alloc w _=w1 at S1 ⊢;go_upto_block 1 with fail;refine(S1.eK (VA _ BD pb L hX (dB (lk L)) (fA pb L) (fI (lk L)) 39 a i w1 S1.ps)).mono ?_;rintro e w3 (⟨x,hr,rfl,hg⟩|⟨t3,j3,k3,n3,a3,s3,o3,m3,c3,hr,rfl,S3⟩)
 ·exact jQ
 have H3:=aN hr;clear hr;have:=AAD (S3.facts 0 rfl);go_wp2_with fail;have S4:=S3.fY 0 rfl k3 n3 a3 s3 (.slice o3 m3 c3);refine nX (S4.facts 0 rfl) Tryz.results185 ?_;exact DQ
end
def apY(pb:Nat)(L:List T3)(label:dL)(i:Nat)(w:World)(h:PS w pb L i):AAA 126 #[pq pb,label] w (Ao pb L w (BP (lk L) label i)):=by
 have HU:=aN (show BP (lk L) label i=aH (fV (lk L) i [sO]) λ_ j=>aW (lk L) (if label.size≠0/\iT (lk L) j [label]=true then j+1 else j) aT from rfl);have S1:=SV.begin h;go_in;go_upto_block 0 with fail;refine(S1.El [sO] aI _ rfl 1 rfl).mono ?_;rintro e w2 (⟨x,hr,rfl,hg⟩|⟨j2,hr,rfl,S2⟩)
 ·unfold gM;go_wp2_with fail;exact⟨rfl,Ao.err x Ar hg⟩
 have H1:=aN hr;clear hr
 by_cases hl:label=⟨#[]⟩
 ·subst hl;have HE:=aN (show BP (lk L) ⟨#[]⟩ i=aW (lk L) j2 aT by rw[HU.out,H1.out];show aW (lk L) (if _ then _ else _) aT=_;rw[aC (λh=>h.1 rfl)]);go_upto_block 3 with fail;refine(S2.kG aT).mono ?_;rintro e w3 (⟨x,hr,rfl,hg⟩|⟨j3,hr,rfl,S3⟩)
  ·exact afP
  have H3:=aN hr;clear hr
  go_wp2
  go_end0;exact Ao.ok (by rw[HE.out,H3.out]) S3.ok
 ·have hs1:(label.toList == [])=false:=dR.2 λe=>hl Dv
  have hs2:decide (label=⟨#[]⟩)=false:=bX hl
  have hsz:label.size≠0:=λe=>hl (by
   obtain⟨⟨d⟩⟩:=label
   have:d.length=0:=e
   rw[nN]at this
   rw[this])
  have HS:=aN hsz;clear hsz hl
  cases hw:iT (lk L) j2 [label] with
  | true=>
   have HE:=aN (show BP (lk L) label i=aW (lk L) (j2+1) aT by rw[HU.out,H1.out];show aW (lk L) (if _ then _ else _) aT=_;rw[aF ⟨HS.out,hw⟩]);have hC:=S2.aaQ [label] aI #[.string label] rfl 1 rfl hw;exact Te
  | false=>
   have HE:=aN (show BP (lk L) label i=aW (lk L) j2 aT by rw[HU.out,H1.out];show aW (lk L) (if _ then _ else _) aT=_;rw[aC (λh=>by rw[hw]at h;cases h.2)]);have hC:=S2.abQ [label] aI #[.string label] rfl 1 rfl hw;exact Te
def Gq(L:List Tk)(stmt:Nat->R T)(label:dL)(f:Nat)(acc:List T)(i:Nat):jE L stmt label (f+1) acc i =
 if keyword L i [sO]then aH (BP L label i) λ_ j=>.ok (acc,j)else aH (stmt i) λx j=>jE L stmt label f (acc++[x]) j:=by conv=>lhs;unfold jE
def BZ(pb:Nat)(L:List T3)(lo:Nat)(stmt:Nat->R T)(hS:Reads 46 pb L lo stmt)(up:∀ i,Up (i+1) (stmt i))(label:dL)(i:Nat)(hi:lo<=i)(w:World)(h:PS w pb L i):AAA 90 #[pq pb,label] w (An pb L w (iO (lk L) stmt label i)):=by
 have HU:=aN (show iO (lk L) stmt label i=jE (lk L) stmt label ((lk L).length+1) [] i from rfl);have hpl:=h.lt;have hbd:=h.bd;have hle:=h.le;go_in;go_upto_region 2 with fail
 go_loopg [5] (L.length - i) (λg v wr=>∃ (l:List T) (jj q:Nat),FG w wr v l/\Ok pb L jj w wr/\i<=jj/\g=L.length - jj/\L.length+1<=q+jj/\l.length+i<=jj/\iO (lk L) stmt label i=jE (lk L) stmt label q l jj)
 case atStart=>exact⟨[],i,L.length+1,FG.nil w w,⟨bS _ (bH _ _),h⟩,aG _,rfl,by omega,by simp,by rw[HU.out,bN]⟩
 case round=>
  obtain⟨l,jj,q,hL,hO,hij,hg,hq0,hlen,hq⟩:=hrel;have HQ:=aN hq;have HG:=aN hg;clear hq hg HU;obtain⟨bo,cap,rfl⟩:=hL.form;have hjL:=hO.2.le;obtain⟨q,rfl⟩:∃ q',q=q'+1:=⟨q - 1,by omega⟩
  have S0:=SV.begin hO.2
  cases hs:keyword (lk L) jj [sO] with
  | true=>
   have HQ2:=aN (show iO (lk L) stmt label i=aH (BP (lk L) label jj) λ_ j=>.ok (l,j)by rw[HQ.out,Gq,aF hs]);have hC:=S0.kwC [sO] aI #[.string ⟨#[69,78,68]⟩] rfl 1 rfl true hs;clear HQ hs;go_upto_block 4 with (go_at_call 125;refine hC.mono ?_;rintro e w3 ⟨rfl,S3⟩);refine(S3.apV (apY pb L label jj w3 S3.ps)).mono ?_;rintro e w4 (⟨x,hr,rfl,hg⟩|⟨j4,hr,rfl,S4⟩)
   ·unfold gM;go_wp2_with fail;exact⟨rfl,An.err x (by rw[HQ2.out,hr];rfl) (hO.1.trans hg)⟩
   have H4:=aN hr;clear hr;go_wp2_with fail;go_ret;exact An.ok (by rw[HQ2.out,H4.out];rfl) (hL.step hpl S4.ok.1) (hO.trans S4.ok)
  | false=>
   have HQ2:=aN (show iO (lk L) stmt label i=aH (stmt jj) λx j=>jE (lk L) stmt label q (l++[x]) j by rw[HQ.out,Gq,aC AD]);have hC:=S0.kwC [sO] aI #[.string ⟨#[69,78,68]⟩] rfl 1 rfl false hs;clear HQ hs;go_upto_block 3 with (go_at_call 125;refine hC.mono ?_;rintro e w3 ⟨rfl,S3⟩);have hO3:=hO.trans S3.ok;have hL3:=hL.step hpl S3.ok.1;refine(hS jj w3 aB S3.ps).mono ?_;intro e w4 hp
   rcases hp.split with ⟨t',j',k',n',a',s',ao',m',c',hr1,rfl,ht,hok⟩|⟨a',hr1,rfl,hg4⟩
   ·have hL4:=hL3.step hpl hok.1;have ht4:=iB.beside hL3 hO3.1.size ht;have hO4:=hO3.trans hok;have hj':jj+1<=j':=up jj t' j' hr1;have hjl':=hok.2.le;have HQ3:=aN (show iO (lk L) stmt label i=jE (lk L) stmt label q (l++[t']) j' by rw[HQ2.out,hr1];rfl);clear HQ2 hr1 hp hL3 hO3 hok ht S3 hC;go_wp2_with (at_builtin;go_loud (refine qJ rfl _ _ rfl w w4 (.slice bo l.length cap) l rfl hL4 t' (vT k' n' a' s' ao' m' c') ht4 rfl ?dd1 ?dd2 ?_))
    case dd1=>exact hO4.1.size
    case dd2=>omega
    intro v5 w5 hL5 hb5;have hO5:=hO4.new hpl hb5;clear hL4 ht4 hO4;go_wp2_with fail
    go_roundg (L.length - j')
    case measure=>rw[HG.out];omega
    case rel=>exact⟨l++[t'],j',q,hL5,hO5,by omega,rfl,by omega,by rw[aO];simp;omega,HQ3.out⟩
   exact IU
section
variable{L:List Tk}{stmt:Nat->R T}{label:dL}(up:∀ i,Up (i+1) (stmt i))
include L stmt label up
theorem Fi:∀ (f:Nat) (acc:List T) (i:Nat) (l:List T) (j:Nat),jE L stmt label f acc i=.ok (l,j)->l.length+i<=acc.length+j:=by
 intro f
 induction f with
 | zero=>intro acc i l j h;unfold jE at h;cases h
 | succ f ih=>
  intro acc i l j h;rw[Gq]at h
  split at h
  ·cases hr:BP L label i with
   | error a=>rw[hr]at h;cases h
   | ok xj=>
    obtain⟨x,j1⟩:=xj;rw[hr]at h
    cases h
    have:=Gn L label i _ _ hr;omega
  ·cases hr:stmt i with
   | error a=>rw[hr]at h;cases h
   | ok xj=>
    obtain⟨x,j1⟩:=xj;rw[hr]at h;have h1:=ih _ _ _ _ h;have h2:=up i _ _ hr;rw[aO]at h1
    simp at h1;omega
theorem FR{i:Nat}{l:List T}{j:Nat}(h:iO L stmt label i=.ok (l,j)):l.length<=j:=by
 have:=Fi up _ _ _ _ _ h
 simp at this;omega
end
def axT(pb:Nat)(L:List T3)(lo:Nat)(stmt:Nat->R T)(hS:Reads 46 pb L lo stmt)(up:∀ i,Up (i+1) (stmt i))(a:Nat)(lab:dL)(i:Nat)(hi:lo<=i)(w:World)(h:PS w pb L i):AAA 168 #[pq pb,a,lab] w (aU pb L w (aH (aW (lk L) i aT) λ_ j=>aH (iO (lk L) stmt lab j) λg j1=>.ok (node 16 a g,j1))):=by
 have HU:=aN (show (aH (aW (lk L) i aT) λ_ j=>aH (iO (lk L) stmt lab j) λg j1=>.ok (node 16 a g,j1))=(aH (aW (lk L) i aT) λ_ j=>aH (iO (lk L) stmt lab j) λg j1=>.ok (node 16 a g,j1):R T)from rfl);go_in;go_upto_region 1 with fail;have S1:=SV.new h;generalize World.alloc w _=w1 at S1 ⊢;go_upto_block 1 with fail;refine(S1.kG aT).mono ?_;rintro e w2 (⟨x,hr,rfl,hg⟩|⟨j2,hr,rfl,S2⟩)
 ·exact jQ
 have H2:=aN hr;clear hr;have hj2:=bM (lk L) i aT _ _ H2.out;go_upto_block 2 with fail;refine(S2.GQ (BZ pb L lo stmt hS up lab j2 aB w2 S2.ps)).mono ?_;rintro e w3 (⟨x,hr,rfl,hg⟩|⟨l3,j3,o3,c3,hr,rfl,S3⟩)
 ·exact Hc
 have H3:=aN hr;clear hr;go_upto_block 2 with fail;refine gU (S3.pG 16 a) λw4 S4=>?_;have:=AAD (S4.facts 0 rfl);go_wp2_with fail;have S5:=S4.fY 0 rfl (iq 16) (iq 0) a (.string ⟨#[]⟩) (.slice o3 l3.length c3);refine nX (S5.facts 0 rfl) Tryz.results168 ?_;exact S5.res (.head _) (by simp[HU.out,aH,H2.out,H3.out]<;>rfl) rfl
end
