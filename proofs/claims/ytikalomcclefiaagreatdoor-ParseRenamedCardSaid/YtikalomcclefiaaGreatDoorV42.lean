/- Part 42. -/
import Derived.Test.YtikalomcclefiaaGreatDoorV37
import Derived.Test.YtikalomcclefiaaGreatDoorV41
set_option linter.all false
set_option maxHeartbeats 0
set_option maxRecDepth 100000
namespace Go.Proofs.YtikalomcclefiaaGreatDoor
section
open Go.RowKit Lx Px
def aLI(pb:Nat)(L:List T3)(s:dL)(a:Nat)(lab:dL)(i:Nat)(r:Option (R T)):Prop:=match r with
 | none=>hZ s kwM=none
 | some r=>∃ K,hZ s kwM=some (.func (.func K) #[] #[])/\(∀ args w,(callFunc K args).run Tryz.prog w=.ok (.enter K args) w)/\
  ∀ w,PS w pb L i->AAA K #[pq pb,iq a,.string lab] w (aU pb L w r)
def Xn: ∀ args w,(callFunc 167 args).run Tryz.prog w=.ok (.enter 167 args) w:=
 enters_of Tryz.func167 aD rfl
def awQ: ∀ args w,(callFunc 168 args).run Tryz.prog w=.ok (.enter 168 args) w:=
 enters_of Tryz.func168 aD rfl
def aIi: ∀ args w,(callFunc 169 args).run Tryz.prog w=.ok (.enter 169 args) w:=
 enters_of Tryz.func169 aD rfl
def anT: ∀ args w,(callFunc 170 args).run Tryz.prog w=.ok (.enter 170 args) w:=
 enters_of Tryz.func170 aD rfl
def akE: ∀ args w,(callFunc 171 args).run Tryz.prog w=.ok (.enter 171 args) w:=
 enters_of Tryz.func171 aD rfl
def aBP: ∀ args w,(callFunc 172 args).run Tryz.prog w=.ok (.enter 172 args) w:=
 enters_of Tryz.func172 aD rfl
def azX: ∀ args w,(callFunc 173 args).run Tryz.prog w=.ok (.enter 173 args) w:=
 enters_of Tryz.func173 aD rfl
def aCI: ∀ args w,(callFunc 174 args).run Tryz.prog w=.ok (.enter 174 args) w:=
 enters_of Tryz.func174 aD rfl
def aCP: ∀ args w,(callFunc 175 args).run Tryz.prog w=.ok (.enter 175 args) w:=
 enters_of Tryz.func175 aD rfl
def asA: ∀ args w,(callFunc 176 args).run Tryz.prog w=.ok (.enter 176 args) w:=
 enters_of Tryz.func176 aD rfl
def adD: ∀ args w,(callFunc 177 args).run Tryz.prog w=.ok (.enter 177 args) w:=
 enters_of Tryz.func177 aD rfl
def aAa: ∀ args w,(callFunc 178 args).run Tryz.prog w=.ok (.enter 178 args) w:=
 enters_of Tryz.func178 aD rfl
def aHm: ∀ args w,(callFunc 179 args).run Tryz.prog w=.ok (.enter 179 args) w:=
 enters_of Tryz.func179 aD rfl
def akA: ∀ args w,(callFunc 180 args).run Tryz.prog w=.ok (.enter 180 args) w:=
 enters_of Tryz.func180 aD rfl
def amK: ∀ args w,(callFunc 181 args).run Tryz.prog w=.ok (.enter 181 args) w:=
 enters_of Tryz.func181 aD rfl
def abZ: ∀ args w,(callFunc 182 args).run Tryz.prog w=.ok (.enter 182 args) w:=
 enters_of Tryz.func182 aD rfl
def aAK: ∀ args w,(callFunc 183 args).run Tryz.prog w=.ok (.enter 183 args) w:=
 enters_of Tryz.func183 aD rfl
def aFm: ∀ args w,(callFunc 184 args).run Tryz.prog w=.ok (.enter 184 args) w:=
 enters_of Tryz.func184 aD rfl
def aEE: ∀ args w,(callFunc 185 args).run Tryz.prog w=.ok (.enter 185 args) w:=
 enters_of Tryz.func185 aD rfl
def aBV: ∀ args w,(callFunc 186 args).run Tryz.prog w=.ok (.enter 186 args) w:=
 enters_of Tryz.func186 aD rfl
def avK: ∀ args w,(callFunc 187 args).run Tryz.prog w=.ok (.enter 187 args) w:=
 enters_of Tryz.func187 aD rfl
def ahS: ∀ args w,(callFunc 188 args).run Tryz.prog w=.ok (.enter 188 args) w:=
 enters_of Tryz.func188 aD rfl
def alN: ∀ args w,(callFunc 189 args).run Tryz.prog w=.ok (.enter 189 args) w:=
 enters_of Tryz.func189 aD rfl
def agA: ∀ args w,(callFunc 190 args).run Tryz.prog w=.ok (.enter 190 args) w:=
 enters_of Tryz.func190 aD rfl
def aIV(pb:Nat)(L:List T3)(hX:qZ L)(lo:Nat)(stmt inner:Nat->R T)(hS:Reads 46 pb L lo stmt)(hI:Reads 208 pb L lo inner)(upS:∀ i,Up (i+1) (stmt i))(upI:∀ i,Up (i+1) (inner i))(s:dL)(a:Nat)(lab:dL)(i:Nat)(hi:lo<=i):aLI pb L s a lab i (bL (lk L) stmt inner s a lab i):=by
 unfold bL
 by_cases h1:s=bB\/s=jL
 ·rw[aF h1];rcases h1 with rfl|rfl
  ·exact OI
  ·exact OI
 rw[aC h1]
 by_cases h2:s=Bg
 ·rw[aF h2];subst h2;exact⟨168,by kernel_rfl,awQ,λw h=>axT pb L lo stmt hS upS a lab i hi w h⟩
 rw[aC h2]
 by_cases h3:s=LJ
 ·rw[aF h3];subst h3;exact⟨169,by kernel_rfl,aIi,λw h=>aIK pb L lo stmt hS upS a lab i hi w h⟩
 rw[aC h3]
 by_cases h4:s=qB
 ·rw[aF h4];subst h4;exact⟨170,by kernel_rfl,anT,λw h=>ajV pb L lo inner hI upI a lab i hi w h⟩
 rw[aC h4]
 by_cases h5:s=Nq
 ·rw[aF h5];subst h5;exact⟨171,by kernel_rfl,akE,λw h=>ajC pb L lo inner hI upI a lab i hi w h⟩
 rw[aC h5]
 by_cases h6:s=Ch
 ·rw[aF h6];subst h6;exact⟨172,by kernel_rfl,aBP,λw h=>aCi pb L a lab i w h⟩
 rw[aC h6]
 by_cases h7:s=lM
 ·rw[aF h7];subst h7;exact⟨173,by kernel_rfl,azX,λw h=>aCz pb L a lab i w h⟩
 rw[aC h7]
 by_cases h8:s=wGO
 ·rw[aF h8];subst h8;exact⟨174,by kernel_rfl,aCI,λw h=>aCp pb L a lab i w h⟩
 rw[aC h8]
 by_cases h9:s=aeU
 ·rw[aF h9];subst h9;exact⟨175,by kernel_rfl,aCP,λw h=>agF pb L a lab i w h⟩
 rw[aC h9]
 by_cases h10:s=pM
 ·rw[aF h10];subst h10;exact⟨176,by kernel_rfl,asA,λw h=>axL pb L a lab i w h⟩
 rw[aC h10]
 by_cases h11:s=jO
 ·rw[aF h11];subst h11;exact⟨177,by kernel_rfl,adD,λw h=>adB pb L a lab i w h⟩
 rw[aC h11]
 by_cases h12:s=DN
 ·rw[aF h12];subst h12;exact⟨178,by kernel_rfl,aAa,λw h=>aAH pb L a lab i w h⟩
 rw[aC h12]
 by_cases h13:s=wON
 ·rw[aF h13];subst h13;exact⟨179,by kernel_rfl,aHm,λw h=>aIu pb L lo inner hI upI a lab i hi w h⟩
 rw[aC h13]
 by_cases h14:s=rD
 ·rw[aF h14];subst h14;exact⟨180,by kernel_rfl,akA,λw h=>akZ pb L a lab i w h⟩
 rw[aC h14]
 by_cases h15:s=rC
 ·rw[aF h15];subst h15;exact⟨181,by kernel_rfl,amK,λw h=>ajB pb L a lab i w h⟩
 rw[aC h15]
 by_cases h16:s=iR\/s=rL
 ·rw[aF h16];rcases h16 with rfl|rfl
  ·exact OK
  ·exact OK
 rw[aC h16]
 by_cases h17:s=CA
 ·rw[aF h17];subst h17;exact⟨183,by kernel_rfl,aAK,λw h=>azH pb L a lab i w h⟩
 rw[aC h17]
 by_cases h18:s=FA
 ·rw[aF h18];subst h18;exact⟨184,by kernel_rfl,aFm,λw h=>aEJ pb L hX a lab i w h⟩
 rw[aC h18]
 by_cases h19:s=FC
 ·rw[aF h19];subst h19;exact⟨185,by kernel_rfl,aEE,λw h=>aFZ pb L hX a lab i w h⟩
 rw[aC h19]
 by_cases h20:s=Bj
 ·rw[aF h20];subst h20;exact⟨186,by kernel_rfl,aBV,λw h=>aCQ pb L a lab i w h⟩
 rw[aC h20]
 by_cases h21:s=uM
 ·rw[aF h21];subst h21;exact⟨187,by kernel_rfl,avK,λw h=>auF pb L a lab i w h⟩
 rw[aC h21]
 by_cases h22:s=nZ
 ·rw[aF h22];subst h22;exact⟨188,by kernel_rfl,ahS,λw h=>aeJ pb L a lab i w h⟩
 rw[aC h22]
 by_cases h23:s=sC
 ·rw[aF h23];subst h23;exact⟨189,by kernel_rfl,alN,λw h=>alB pb L a lab i w h⟩
 rw[aC h23]
 by_cases h24:s=fK\/s=uP
 ·rw[aF h24];rcases h24 with rfl|rfl
  ·exact OG
  ·exact OG
 rw[aC h24]
 show hZ s kwM=none
 unfold kwM;unfold hZ;rw[aC (λe=>h1 (.inl e))];unfold hZ;rw[aC (λe=>h1 (.inr e))];unfold hZ;rw[aC h2];unfold hZ;rw[aC h3];unfold hZ;rw[aC h4];unfold hZ;rw[aC h5];unfold hZ;rw[aC h6];unfold hZ;rw[aC h7];unfold hZ;rw[aC h8];unfold hZ;rw[aC h9];unfold hZ;rw[aC h10];unfold hZ;rw[aC h11];unfold hZ;rw[aC h12];unfold hZ;rw[aC h13];unfold hZ;rw[aC h14];unfold hZ;rw[aC h15];unfold hZ;rw[aC (λe=>h16 (.inl e))];unfold hZ;rw[aC (λe=>h16 (.inr e))];unfold hZ;rw[aC h17];unfold hZ;rw[aC h18];unfold hZ;rw[aC h19];unfold hZ;rw[aC h20];unfold hZ;rw[aC h21];unfold hZ;rw[aC h22];unfold hZ;rw[aC h23];unfold hZ;rw[aC (λe=>h24 (.inl e))];unfold hZ;rw[aC (λe=>h24 (.inr e))];rfl
end
section
open Go.RowKit Lx Px
structure SVT (pb:Nat) (L:List T3) (w0 w:World) (j:Nat) (rv:List (Nat×List Value)) (ts:List (T×List Value)) (b:Nat) (us:Array Value):Prop where
 s:SV pb L w0 w j rv ts
 n:w.heap[b]?=some (.cells us 47 (0,0))
theorem SVT.drew{pb:Nat}{L:List T3}{w0 w:World}{j:Nat}{rv ts}{b:Nat}{us:Array Value}(S:SVT pb L w0 w j rv ts b us):SVT pb L w0 w.drew j rv ts b us:=⟨S.s.drew,S.n⟩
theorem SVT.below{pb:Nat}{L:List T3}{w0 w w':World}{j:Nat}{rv ts}{b:Nat}{us:Array Value}(S:SVT pb L w0 w j rv ts b us)(h:iY w w'):SVT pb L w0 w' j rv ts b us:=
 ⟨S.s.below h,(h.block b (aX.1 S.n).1).trans S.n⟩
def SVT.GJ{pb:Nat}{L:List T3}{w0 w:World}{j:Nat}{rv ts}{b:Nat}{us:Array Value}(S:SVT pb L w0 w j rv ts b us)(ss:List ByteArray)(hl:ss.length<=1000)(cs:Array Value)(hc:cs=(ss.map Value.string).toArray)(n:Nat)(hn:n=ss.length)(r:Bool)(hb:iT (lk L) j ss=r):AAA 143 #[pq pb,.slice (some (AAF w.heap.size 0)) n n] (w.alloc (.cells cs 9)) λe w'=>e=.returned (.bool r)/\SVT pb L w0 w' j rv ts b us:=by
 have S':=S.below (aJ w (.cells cs 9));refine(Ew pb L j _ ss hl _ S'.s.ps (fM.Ol w ss cs hc n hn)).mono ?_;exact DO
section
variable (L:List Tk) (stmt inner:Nat->R T) (inr:Bool) (label:dL) (i:Nat)
def amB(h:cD L i [aT]=true):mS L stmt inner inr label i=.ok (node 31 i [],i+1):=by unfold mS;rw[aF h]
def ZI(h:cD L i [aT]=false)(ha:(eF L i&&!pQ L i)=true):mS L stmt inner inr label i=aH (yZ L i) λr j=>aH (aW L j tV) λ_ j1=>aH (dB L j1) λx j2=>aH (aW L j2 aT) λ_ j3=>.ok (node 24 i [r,x],j3):=by
 unfold mS;rw[aC qC,aF ha]
def aKa: Prop:=isName L i=false\/(inr=true/\(iT L i [bB,jL]=true\/iT L i [fK,uP]=true))\/(iT L i [bB,jL]=true/\label.size=0)
section
variable(h:cD L i [aT]=false)(ha:(eF L i&&!pQ L i)=false)
include h ha
theorem JF(hb:aKa L inr label i):mS L stmt inner inr label i=.error i:=by
 unfold mS;rw[aC qC,aC DL];exact aF hb
theorem aiS(hd:bL L stmt inner (tok L i).text i label (i+1)=none):mS L stmt inner inr label i=.error i:=by
 unfold mS;rw[aC qC,aC DL];simp only
 split
 ·rfl
 ·rw[hd]
theorem Lo(hb:¬ aKa L inr label i)(r:R T)(hd:bL L stmt inner (tok L i).text i label (i+1)=some r):mS L stmt inner inr label i=r:=by
 unfold mS;rw[aC qC,aC DL];simp only
 rw[aC (show ¬ (isName L i=false\/(inr=true/\(iT L i [bB,jL]=true\/iT L i [fK,uP]=true))\/(iT L i [bB,jL]=true/\label.size=0))from hb),hd]
end
end
def arO{s:dL}(h:s.size=0):s=⟨#[]⟩:=by
 exact Sf
def aBB(W:World):Sem.run Tryz.prog (binOp BinOp.eql 177 .nilFunc .nilFunc) W=.ok (.bool true) W:=by kernel_rfl
def awH(K:FuncId)(W:World):Sem.run Tryz.prog (binOp BinOp.eql 177 (.func (.func K) #[] #[]) .nilFunc) W=.ok (.bool false) W:=by kernel_rfl
def atX(pb:Nat)(L:List T3)(hX:qZ L)(lo:Nat)(stmt inner:Nat->R T)(hS:Reads 46 pb L lo stmt)(hI:Reads 208 pb L lo inner)(upS:∀ i,Up (i+1) (stmt i))(upI:∀ i,Up (i+1) (inner i))(inr:Bool)(label:dL)(i:Nat)(hi:lo<=i+1)(w:World)(h:PS w pb L i):AAA 137 #[pq pb,.bool inr,label] w (aU pb L w (mS (lk L) stmt inner inr label i)):=by
 have hbd:=h.bd;have hf0:=Eo;have hf1:=aCR;have hE0:=aBB;have hE1:=awH;have hnot:∀ (x:Bool) (w:World),(Op.unary .not (.bool x)).run Tryz.prog w=.ok (.bool (!x)) w:=λ_ _=>rfl
 cases hs:cD (lk L) i [aT] with
 | true=>
  have HU:=aN (amB (lk L) stmt inner inr label i hs);go_in;go_upto_region 1 with fail;have S1:=SV.new h;generalize World.alloc w _=w1 at S1 ⊢;obtain⟨c1,_⟩:=S1.ps.cells;go_upto_region 2 with fail;clear c1;have hC:=S1.LW aT hs;clear hs;go_upto_region 3 with (go_at_call 123;refine hC.mono ?_;rintro e w2 ⟨rfl,S2⟩);have S3:=S2.leaf 31 0 i e0;go_upto_block 3 with fail;refine gU (S3.pG 31 i) λw4 S4=>?_;have:=AAD (S4.facts 0 rfl);go_wp2_with fail;have S5:=S4.fY 0 rfl (iq 31) (iq 0) i (.string ⟨#[]⟩) (.slice none 0 0);refine nX (S5.facts 0 rfl) Tryz.results137 ?_;exact S5.res (.head _) (by simp[HU.out,aH]<;>rfl) rfl
 | false=>
  have HS:=aN hs;have hC:∀ {w1:World} {rv ts},SV pb L w w1 i rv ts->_:=λS=>S.Ma aT hs
  clear hs;generalize hc:(eF (lk L) i&&!pQ (lk L) i)=c;have HC:=aN hc;clear hc;go_in;go_upto_region 1 with fail;have S1:=SV.new h;generalize World.alloc w _=w1 at S1 ⊢;obtain⟨c1,_⟩:=S1.ps.cells;go_upto_region 2 with fail;clear c1;have hC:=hC S1;go_upto_region 4 with (go_at_call 123;refine hC.mono ?_;rintro e w2 ⟨rfl,S2⟩);clear hC S1;go_cut [27] (λv27 wx=>v27=.bool c/\SV pb L w wx i [(w.heap.size,Cg)] [])
  case first=>
   have hA:=DU pb L i w2 S2.ps
   cases ha:eF (lk L) i with
   | false=>
    rw[ha]at hA;have hcc:=HC.out;rw[ha]at hcc;simp only[FL]at hcc
    exact Pn
   | true=>
    rw[ha]at hA;have hcc:=HC.out;rw[ha]at hcc;simp only[qV]at hcc
    subst hcc;clear ha;go_wp2_with (first|(go_at_call 135;refine(S2.eT (E:=λe=>e=_) hA).mono ?_;rintro e w3 ⟨rfl,S3⟩)|(go_at_call 150;refine(S3.eT (E:=λe=>e=_) (ajW pb L i w3 S3.ps)).mono ?_;rintro e w4 ⟨rfl,S4⟩));exact IL
  case rest=>
   obtain⟨rfl,S3⟩:=hcut;clear S2
   cases c with
   | true=>
    have HU:=aN (ZI (lk L) stmt inner inr label i HS.out HC.out);go_upto_block 5 with fail;refine(S3.eK (Jj pb L i wc (aS _) S3.ps)).mono ?_;rintro e w4 (⟨x,hr,rfl,hg⟩|⟨t4,j4,k4,n4,a4,s4,o4,m4,c4,hr,rfl,S4⟩)
    ·exact jQ
    have H4:=aN hr;clear hr;go_upto_region 6 with fail;have S5:=S4.EU (tg k4 n4 a4 s4 o4 m4 c4);generalize World.alloc w4 _=w5 at S5 ⊢;generalize w4.heap.size=B5 at S5 ⊢;go_upto_block 6 with fail;refine(S5.kG tV).mono ?_;rintro e w6 (⟨x,hr,rfl,hg⟩|⟨j6,hr,rfl,S6⟩)
    ·unfold gM;go_wp2_with fail;exact⟨rfl,aU.err x (by simp[HU.out,aH,H4.out,hr]) hg⟩
    have H6:=aN hr;clear hr;go_upto_block 7 with fail;refine(S6.eK (fA pb L j6 w6 (aS _) S6.ps)).mono ?_;rintro e w7 (⟨x,hr,rfl,hg⟩|⟨t7,j7,k7,n7,a7,s7,o7,m7,c7,hr,rfl,S7⟩)
    ·unfold gM;go_wp2_with fail;exact⟨rfl,aU.err x (by simp[HU.out,aH,H4.out,H6.out,hr]) hg⟩
    have H7:=aN hr;clear hr;go_upto_region 8 with fail;have S8:=S7.EU (tg k7 n7 a7 s7 o7 m7 c7);generalize World.alloc w7 _=w8 at S8 ⊢;generalize w7.heap.size=B8 at S8 ⊢;go_upto_block 8 with fail;refine(S8.kG aT).mono ?_;rintro e w9 (⟨x,hr,rfl,hg⟩|⟨j9,hr,rfl,S9⟩)
    ·unfold gM;go_wp2_with fail;exact⟨rfl,aU.err x (by simp[HU.out,aH,H4.out,H6.out,H7.out,hr]) hg⟩
    have H9:=aN hr;clear hr;have:=AAD (S9.facts 0 rfl);have:=AAD (S9.facts 1 rfl);have S10:=S9.lit (dO.two (S9.tr (t4,vT k4 n4 a4 s4 o4 m4 c4) (.tail _ (.head _))) (S9.tr (t7,vT k7 n7 a7 s7 o7 m7 c7) (.head _))) #[.int .i64 k4,.int .i64 n4,.int .i64 a4,.string s4,.slice o4 m4 c4,.int .i64 k7,.int .i64 n7,.int .i64 a7,.string s7,.slice o7 m7 c7] rfl 24 0 i e0 2 2 rfl;go_upto_block 9 with fail;refine gU (S10.pG 24 i) λw11 S11=>?_;have:=AAD (S11.facts 2 rfl);go_wp2_with fail;have S12:=S11.fY 2 rfl (iq 24) (iq 0) i (.string ⟨#[]⟩) (.slice (some (AAF w9.heap.size 0)) 2 2);refine nX (S12.facts 2 rfl) Tryz.results137 ?_;exact S12.res (.head _) (by simp[HU.out,aH,H4.out,H6.out,H7.out,H9.out]<;>rfl) rfl
   | false=>
    have hT:=fS pb L i 0 aD wc S3.ps;generalize hkk:(tok (lk L) i).kind=tk;generalize htt:(tok (lk L) i).text=tx;rw[show (tok (L.map T3.tk) (i+0)).kind=tk from hkk,show (tok (L.map T3.tk) (i+0)).text=tx from htt]at hT;have HK:=aN hkk;have HT:=aN htt;clear hkk htt;go_upto_region 11 with (go_at_call 113;refine(S3.eT (E:=λe=>∃ p:Int,e=_) hT).mono ?_;rintro e w5 ⟨⟨p,rfl⟩,S5⟩);have S6:SVT pb L w _ i _ _ w5.heap.size #[.int .i64 tk,.string tx,.int .i64 p]:=⟨S5.below (aJ w5 (.cells #[iq tk,.string tx,iq p] 47)),aP w5 _⟩
    generalize World.alloc w5 _=w6 at S6 ⊢;generalize w5.heap.size=BT at S6 ⊢;clear S5 S3 hT;go_cut [11] (λv11 wx=>v11=(hZ tx kwM).getD .nilFunc/\SVT pb L w wx i [(w.heap.size,Cg)] [] BT #[.int .i64 tk,.string tx,.int .i64 p])
    case first=>
     refine qW aQ ?_;change wpAny _ _ _ _ _ _ _ (World.drew _);have S7:=S6.drew;generalize World.drew w6=w7 at S7 ⊢;have k1:w7.cell? (AAF BT 1)=some (.string tx):=aK w7 BT 1 _ _ _ S7.n;refine tkA 1 ?_;refine rdA [0,2] ?_;refine qP (λKx aMB=>?_) ?_
     ·go_simp;refine(Mp _).mono ?_;rintro e w8 ⟨rfl,hv8,hb8⟩;have S8:=S7.below hb8;have k2:w8.cell? (AAF BT 1)=some (.string tx):=aK w8 BT 1 _ _ _ S8.n;have hL:=Zy w8 w7.heap.size hv8 tx;refine aMB _ _ ?_;clear aMB Kx;refine aIU 2 λKx aMB=>?_;go_simp;exact Pu
     refine qP (λKx aMB=>?_) AllReady.nil;go_simp;refine aMB _ _ ?_;clear aMB Kx;refine aIU 0 λKx aMB=>?_;go_simp;refine(Mp _).mono ?_;rintro e w8 ⟨rfl,hv8,hb8⟩;have S8:=S7.below hb8;have k2:w8.cell? (AAF BT 1)=some (.string tx):=aK w8 BT 1 _ _ _ S8.n;have hL:=Zy w8 w7.heap.size hv8 tx;exact Pu
    case rest=>
     obtain⟨rfl,S7⟩:=hcut;clear S6;have hkw:=aIV pb L hX lo stmt inner hS hI upS upI tx i label (i+1) hi;generalize hpr:iT (lk L) i [bB,jL]=pr;have hC:=S7.GJ [bB,jL] aI #[.string ⟨#[80,82,79,67,69,68,85,82,69]⟩,.string ⟨#[80,82,79,67]⟩] rfl 2 rfl pr hpr;have HP:=aN hpr;clear hpr;go_upto_region 13 with (go_at_call 143;refine hC.mono ?_;rintro e w8 ⟨rfl,S8⟩);clear hC S7;have k0:w8.cell? (AAF BT 0)=some (.int .i64 tk):=aK w8 BT 0 _ _ _ S8.n;have S8s:=S8.s
     by_cases hk:tk=1
     ·subst hk;have HN:isName (lk L) i=true:=by unfold isName;rw[HK.out];rfl
      cases hd:bL (lk L) stmt inner tx i label (i+1) with
      | none=>
       rw[hd]at hkw;have hkw:hZ tx kwM=none:=hkw;have HU:=aN (aiS (lk L) stmt inner inr label i HS.out HC.out (by rw[HT.out];exact hd));rw[hkw];clear hkw hd;exact DH
      | some r=>
       rw[hd]at hkw;obtain⟨K,hkv,hK,hcall⟩:=hkw;have HD:=aN (show bL (lk L) stmt inner (tok (lk L) i).text i label (i+1)=some r by rw[HT.out];exact hd);rw[hkv];clear hkv hd
       cases inr with
       | true=>
        cases pr with
        | true=>
         have HU:=aN (JF (lk L) stmt inner true label i HS.out HC.out (.inr (.inl ⟨rfl,.inl HP.out⟩)));exact DH
        | false=>
         generalize hdd:iT (lk L) i [fK,uP]=dd;have hC:=S8.s.GJ [fK,uP] aI #[.string ⟨#[68,69,67,76,65,82,69]⟩,.string ⟨#[68,67,76]⟩] rfl 2 rfl dd hdd
         cases dd with
         | true=>
          have HU:=aN (JF (lk L) stmt inner true label i HS.out HC.out (.inr (.inl ⟨rfl,.inr hdd⟩)));clear hdd;go_upto_region 14 with (go_at_call 143;refine hC.mono ?_;rintro e w9 ⟨rfl,S9⟩);go_upto_block 14 with fail;refine S9.QW.mono ?_;rintro e wf ⟨rfl,hg⟩;unfold gM;go_wp2_with fail;exact⟨rfl,aU.err _ (by simp[HU.out,aH]) hg⟩
         | false=>
          have HU := aN (Lo (lk L) stmt inner true label i HS.out HC.out (by
            rintro (h | ⟨_, h | h⟩ | ⟨h, _⟩)
            · rw [HN] at h; cases h
            · rw [HP.out] at h; cases h
            · rw [hdd] at h; cases h
            · rw [HP.out] at h; cases h) r HD.out)
          have hlt:=FO (L:=L) (i:=i) GU;clear hdd;go_upto_region 15 with (go_at_call 143;refine hC.mono ?_;rintro e w9 ⟨rfl,S9⟩);obtain⟨c1,f1⟩:=S9.ps.cells;go_upto_region 16 with fail;have S10:=S9.go (i+1) aB (iq ((i:Int)+1)) rfl;generalize World.setCell w9 _ _=w10 at S10 ⊢;clear c1 f1;go_upto_block 16 with fail;refine(S10.eK (hcall w10 S10.ps)).mono ?_;rintro e w11 (⟨x,hr,rfl,hg⟩|⟨t11,j11,k11,n11,a11,s11,o11,m11,c11,hr,rfl,S11⟩)
          ·exact jQ
          have H11:=aN hr;clear hr;have:=AAD (S11.facts 0 rfl);go_wp2_with fail;have S12:=S11.fY 0 rfl k11 n11 a11 s11 (.slice o11 m11 c11);refine nX (S12.facts 0 rfl) Tryz.results137 ?_;exact S12.res (.head _) (by simp[HU.out,aH,H11.out]<;>rfl) rfl
       | false=>
        cases pr with
        | true=>
         by_cases hl:label=⟨#[]⟩
         ·subst hl;have HU:=aN (JF (lk L) stmt inner false ⟨#[]⟩ i HS.out HC.out (.inr (.inr ⟨HP.out,rfl⟩)));exact DH
         ·have hs1:(label.toList == [])=false:=dR.2 λe=>hl Dv
          have hs2:decide (label=⟨#[]⟩)=false:=bX hl
          have HU := aN (Lo (lk L) stmt inner false label i HS.out HC.out (by
            rintro (h | ⟨h, _⟩ | ⟨_, h⟩)
            · rw [HN] at h; cases h
            · cases h
            · exact hl (arO h)) r HD.out)
          have hlt:=FO (L:=L) (i:=i) GU;clear hl;exact Ry
        | false=>
         have HU := aN (Lo (lk L) stmt inner false label i HS.out HC.out (by
           rintro (h | ⟨h, _⟩ | ⟨h, _⟩)
           · rw [HN] at h; cases h
           · cases h
           · rw [HP.out] at h; cases h) r HD.out)
         have hlt:=FO (L:=L) (i:=i) GU;exact Ry
     ·have HU:=aN (JF (lk L) stmt inner inr label i HS.out HC.out (.inl (by unfold isName;rw[HK.out];simpa using hk)));clear hkw;exact DH
end
