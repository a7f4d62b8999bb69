/- Part 38. -/
import Derived.Test.YtikalomcclefiaaGreatDoorV34
set_option linter.all false
set_option maxHeartbeats 0
set_option maxRecDepth 100000
namespace Go.Proofs.YtikalomcclefiaaGreatDoor
section
open Go.RowKit Lx Px
def Mg(w:World)(b:Nat)(ks:List (ByteArray×Value)):Prop:=
 ∃ es clk,w.heap[b]?=some (.map es clk)/\es.toList.map (λe=>(e.key,e.val))=ks.map (λs=>(Value.string s.1,s.2))
def hZ(k:dL):List (ByteArray×Value)->Option Value
 | []=>none
 | (s,v)::r=>if k=s then some v else hZ k r
def Ye(k:dL):∀ (es:List MapEntry) (ks:List (ByteArray×Value)) (i:Nat),es.map (λe=>(e.key,e.val))=ks.map (λs=>(Value.string s.1,s.2))->
 match hZ k ks with
 | none=>Instr.findNow .string (.string k) es i=some none
 | some v=>∃ j,Instr.findNow .string (.string k) es i=some (some (j,v)):=by
 intro es
 induction es with
 | nil=>intro ks i h;match ks,h with | [],_=>rfl
 | cons e es ih=>
  intro ks i h
  match ks,h with
  | (s,v)::ks,h=>
   simp only[dC,fL,pB]at h
   unfold hZ
   by_cases he:k=s
   ·rw[aF he];have:(k==s)=true:=by rw[Wb];simpa using he
    refine⟨i,?_⟩;unfold Instr.findNow;rw[h.1.1,h.1.2];simp only[Instr.sameNow,this]
   ·rw[aC he];have:(k==s)=false:=by rw[Wb];simpa using he
    have h2:=ih ks (i+1) h.2;unfold Instr.findNow;rw[h.1.1];simp only[Instr.sameNow,this]
    exact h2
def Mg.new(w:World):Mg (w.alloc (.map #[] 0)) w.heap.size []:=⟨#[],0,aP w _,rfl⟩
def acT(w0 w:World)(b:Nat)(ks:List (ByteArray×Value)):Prop:=Mg w b ks/\Below b w0 w
def AZ{P:Program}(w0 w:World){ops:Array Oper}{rest:List Oper}{o:Oper}{a:Act}{Q:Exit->Act->World->Prop}(hg:o.guard=none)(m x v:Operand)(t:TypeId)(hop:o.op=Op.insert t m x v)(k e:TypeId)(ht:P.underlying t=some (.map k e))(hk:P.underlying k=some .string)(b:Nat)(ks:List (ByteArray×Value))(hm:a.eval m=.map (some b))(hmap:acT w0 w b ks)(key:dL)(val:Value)(hx:a.eval x=.string key)(hv:a.eval v=val)(hnew:hZ key ks=none)(hK:∀ w',acT w0 w' b (ks++[(key,val)])->wpList P ops Q rest (a.put o.dst undef) w'):wpList P ops Q (o::rest) a w:=by
 refine wpList_plain hg λK' hK'=>?_;obtain⟨⟨es,clk,hb,hes⟩,hbel⟩:=hmap;have hf:=Ye key es.toList ks 0 hes;rw[hnew]at hf;have hrun:(Instr.mapUpdate t (.map (some b)) (.string key) val).run P w=.ok () { w with heap:=w.heap.setIfInBounds b (.map (es.push { key:=.string key,val:=val,born:=clk }) (clk+1)) }:=by
  exact SE
 have hlt:b<w.heap.size:=(aX.1 hb).1;have hg2:w.grownBy { w with heap:=w.heap.setIfInBounds b (.map (es.push { key:=.string key,val:=val,born:=clk }) (clk+1)) } (some b):=
  ⟨rfl, rfl, rfl, by simp, λj _ hne => by
    have : b ≠ j := λh => hne (by rw [h])
    simp [this]⟩
 have hres:=hK { w with heap:=w.heap.setIfInBounds b (.map (es.push { key:=.string key,val:=val,born:=clk }) (clk+1)) }
  ⟨⟨es.push { key:=.string key,val:=val,born:=clk },clk+1,by simp[hlt],by simp[hes]⟩,hbel.grown hg2 (iH hlt) (λj hj=>by cases hj;exact aG _)⟩
 exact RO
def Fz{P:Program}(w:World)(t k e:TypeId)(ht:P.underlying t=some (.map k e))(hk:P.underlying k=some .string)(z:Value)(hz:∀ W,(zeroValue e).run P W=.ok z W)(b:Nat)(ks:List (ByteArray×Value))(hmap:Mg w b ks)(key:dL):(Instr.lookup t (.map (some b)) (.string key) false).run P w=.ok ((hZ key ks).getD z) w:=by
 obtain⟨es,clk,hb,hes⟩:=hmap;have hc:(Instr.checkKey es.isEmpty 10000 k (.string key)).run P w=.ok () w:=Gu (k:=.string key) hk wZ es.isEmpty 9999;have hf:=Ye key es.toList ks 0 hes
 cases hv:hZ key ks with
 | some v=>
  rw[hv]at hf;obtain⟨j,hf⟩:=hf
  simp[Instr.lookup,vH ht,vX hb,hc,vO hk hf,Result.andThen]
 | none=>
  rw[hv]at hf
  simp[Instr.lookup,vH ht,vX hb,hc,vO hk hf,Result.andThen,hz]
def Cp: List (ByteArray×Value):=[(VQ,.string vY),(akB,.string Db),(anX,.string FF),(amG,.string iC),(akX,.string Cw),(Vk,.string Cq),(ajI,.string Cv),(We,.string vU),(akT,.string tM),(alQ,.string CW)]
def asM(s:dL):(∃ r,(hZ s Cp).getD (.string ⟨#[]⟩)=.string r/\¬ r=⟨#[]⟩/\nG s=r)\/((hZ s Cp).getD (.string ⟨#[]⟩)=.string ⟨#[]⟩/\nG s=s):=by
 unfold Cp hZ hZ hZ hZ hZ hZ hZ hZ hZ hZ hZ nG
 by_cases h1:s=VQ
 ·left;rw[aF h1,aF h1];exact oR
 rw[aC h1,aC h1]
 by_cases h2:s=akB
 ·left;rw[aF h2,aF h2];exact oR
 rw[aC h2,aC h2]
 by_cases h3:s=anX
 ·left;rw[aF h3,aF h3];exact oR
 rw[aC h3,aC h3]
 by_cases h4:s=amG
 ·left;rw[aF h4,aF h4];exact oR
 rw[aC h4,aC h4]
 by_cases h5:s=akX
 ·left;rw[aF h5,aF h5];exact oR
 rw[aC h5,aC h5]
 by_cases h6:s=Vk
 ·left;rw[aF h6,aF h6];exact oR
 rw[aC h6,aC h6]
 by_cases h7:s=ajI
 ·left;rw[aF h7,aF h7];exact oR
 rw[aC h7,aC h7]
 by_cases h8:s=We
 ·left;rw[aF h8,aF h8];exact oR
 rw[aC h8,aC h8]
 by_cases h9:s=akT
 ·left;rw[aF h9,aF h9];exact oR
 rw[aC h9,aC h9]
 by_cases h10:s=alQ
 ·left;rw[aF h10,aF h10];exact oR
 rw[aC h10,aC h10];exact .inr ⟨rfl,rfl⟩
def LL: Tryz.prog.underlying 136=some (.map 9 9):=by kernel_rfl
def NY: Tryz.prog.underlying 9=some .string:=by kernel_rfl
def aqB(W:World):(zeroValue 9).run Tryz.prog W=.ok (.string ⟨#[]⟩) W:=by kernel_rfl
def doL(L:List Tk)(stmt:Nat->R T)(a:Nat)(label:dL)(i:Nat):R T:=
 aH (yZ L i) λr j=>aH (aW L j tV) λ_ j1=>aH (dB L j1) λx j2=>aH (jK L Fj j2) λt j3=>aH (jK L Xd j3) λb j4=>
  aH (gL L gF j4) λwh j5=>aH (gL L gA j5) λun j6=>aH (aW L j6 aT) λ_ j7=>aH (iO L stmt label j7) λg j8=>.ok (node 19 a (r::x::t::b::wh::un::g),j8)
def doW(L:List Tk)(stmt:Nat->R T)(a:Nat)(label:dL)(i:Nat):R T:=
 if iT L i [gF,gA]then
  aH (gL L gF i) λwh j=>aH (gL L gA j) λun j1=>aH (aW L j1 aT) λ_ j2=>aH (iO L stmt label j2) λg j3=>.ok (node 18 a (wh::un::g),j3)
 else .error i
def aHv(L:List Tk)(stmt:Nat->R T)(a:Nat)(label:dL)(i:Nat):doP L stmt a label i =
 if cD L i [aT]then aH (iO L stmt label (i+1)) λg j=>.ok (node 17 a g,j)else if eF L i then doL L stmt a label i else doW L stmt a label i:=rfl
def aIK(pb:Nat)(L:List T3)(lo:Nat)(stmt:Nat->R T)(hS:Reads 46 pb L lo stmt)(up:∀ i,Up (i+1) (stmt i))(a:Nat)(lab:dL)(i:Nat)(hi:lo<=i)(w:World)(h:PS w pb L i):AAA 169 #[pq pb,a,lab] w (aU pb L w (doP (lk L) stmt a lab i)):=by
 have HU:=aN (aHv (lk L) stmt a lab i);have hbd:=h.bd;go_in;go_upto_region 1 with fail;have S1:=SV.new h;generalize World.alloc w _=w1 at S1 ⊢
 cases hs:cD (lk L) i [aT] with
 | true=>
  have hC:=S1.LW aT hs;have HS:=aN hs;clear hs;go_upto_block 2 with (go_at_call 123;refine hC.mono ?_;rintro e w2 ⟨rfl,S2⟩);refine(S2.GQ (BZ pb L lo stmt hS up lab (i+1) aB w2 S2.ps)).mono ?_;rintro e w3 (⟨x,hr,rfl,hg⟩|⟨l3,j3,o3,c3,hr,rfl,S3⟩)
  ·exact rV
  have H3:=aN hr;clear hr;go_upto_block 2 with fail;refine gU (S3.pG 17 a) λw4 S4=>?_;have:=AAD (S4.facts 0 rfl);go_wp2_with fail;have S5:=S4.fY 0 rfl (iq 17) (iq 0) a (.string ⟨#[]⟩) (.slice o3 l3.length c3);refine nX (S5.facts 0 rfl) Tryz.results169 ?_;exact S5.res (.head _) (by simp[HU.out,aH,HS.out,H3.out]<;>rfl) rfl
 | false=>
  have hC:=S1.Ma aT hs;have HS:=aN hs;clear hs;go_upto_region 3 with (go_at_call 123;refine hC.mono ?_;rintro e w2 ⟨rfl,S2⟩);have hA:=DU pb L i w2 S2.ps
  cases hs:eF (lk L) i with
  | true=>
   rw[hs]at hA;have HA:=aN hs;clear hs hC S1;go_upto_block 4 with (go_at_call 135;refine(S2.eT (E:=λe=>e=_) hA).mono ?_;rintro e w3 ⟨rfl,S3⟩);refine(S3.eK (Jj pb L i w3 (aS _) S3.ps)).mono ?_;rintro e w4 (⟨x,hr,rfl,hg⟩|⟨t4,j4,k4,n4,a4,s4,o4,m4,c4,hr,rfl,S4⟩)
   ·unfold gM;go_wp2_with fail;exact⟨rfl,aU.err x (by simp[HU.out,aH,doL,HS.out,HA.out,hr]) hg⟩
   have H4:=aN hr;clear hr;go_upto_region 5 with fail;have S5:=S4.EU (tg k4 n4 a4 s4 o4 m4 c4);generalize World.alloc w4 _=w5 at S5 ⊢;generalize w4.heap.size=B5 at S5 ⊢;go_upto_block 5 with fail;refine(S5.kG tV).mono ?_;rintro e w6 (⟨x,hr,rfl,hg⟩|⟨j6,hr,rfl,S6⟩)
   ·unfold gM;go_wp2_with fail;exact⟨rfl,aU.err x (by simp[HU.out,aH,doL,HS.out,HA.out,H4.out,hr]) hg⟩
   have H6:=aN hr;clear hr;go_upto_region 6 with fail;have S7:=S6.drew;refine fW (S:=(λw'=>TV w' B5 k4 n4 a4 s4 (.slice o4 m4 c4))) aQ (S7.facts 0 rfl) (λaMA=>?_);generalize World.drew w6=w7 at *;refine BH 0 ?_;refine BH 1 ?_;refine BH 3 ?_;refine BH 5 ?_;refine BH 7 ?_;refine BH 9 ?_;refine gZ 2 λKx aMB=>?_;go_simp;refine(S7.eK (fA pb L j6 _ (aS _) S7.ps)).mono ?_;rintro e w8 (⟨x,hr,rfl,hg⟩|⟨t8,j8,k8,n8,a8,s8,o8,m8,c8,hr,rfl,S8⟩)
   ·unfold gM;exact⟨rfl,aU.err x (by simp[HU.out,aH,doL,HS.out,HA.out,H4.out,H6.out,hr]) hg⟩
   have H8:=aN hr;clear hr;refine kX aMB (S8.facts 0 rfl) λaMA=>?_;clear aMB Kx;refine gZ 4 λKx aMB=>?_;go_simp;refine(S8.eK (GH pb L Fj j8 _ S8.ps)).mono ?_;rintro e w9 (⟨x,hr,rfl,hg⟩|⟨t9,j9,k9,n9,a9,s9,o9,m9,c9,hr,rfl,S9⟩)
   ·unfold gM;exact⟨rfl,aU.err x (by simp[HU.out,aH,doL,HS.out,HA.out,H4.out,H6.out,H8.out,hr]) hg⟩
   have H9:=aN hr;clear hr;refine kX aMB (S9.facts 0 rfl) λaMA=>?_;clear aMB Kx;refine gZ 6 λKx aMB=>?_;go_simp;refine(S9.eK (GH pb L Xd j9 _ S9.ps)).mono ?_;rintro e w10 (⟨x,hr,rfl,hg⟩|⟨t10,j10,k10,n10,a10,s10,o10,m10,c10,hr,rfl,S10⟩)
   ·unfold gM;exact⟨rfl,aU.err x (by simp[HU.out,aH,doL,HS.out,HA.out,H4.out,H6.out,H8.out,H9.out,hr]) hg⟩
   have H10:=aN hr;clear hr;refine kX aMB (S10.facts 0 rfl) λaMA=>?_;clear aMB Kx;refine gZ 8 λKx aMB=>?_;go_simp;refine(S10.eK (zZ pb L gF j10 _ S10.ps)).mono ?_;rintro e w11 (⟨x,hr,rfl,hg⟩|⟨t11,j11,k11,n11,a11,s11,o11,m11,c11,hr,rfl,S11⟩)
   ·unfold gM;exact⟨rfl,aU.err x (by simp[HU.out,aH,doL,HS.out,HA.out,H4.out,H6.out,H8.out,H9.out,H10.out,hr]) hg⟩
   have H11:=aN hr;clear hr;refine kX aMB (S11.facts 0 rfl) λaMA=>?_;clear aMB Kx;refine gZ 10 λKx aMB=>?_;go_simp;refine(S11.eK (zZ pb L gA j11 _ S11.ps)).mono ?_;rintro e w12 (⟨x,hr,rfl,hg⟩|⟨t12,j12,k12,n12,a12,s12,o12,m12,c12,hr,rfl,S12⟩)
   ·unfold gM;exact⟨rfl,aU.err x (by simp[HU.out,aH,doL,HS.out,HA.out,H4.out,H6.out,H8.out,H9.out,H10.out,H11.out,hr]) hg⟩
   have H12:=aN hr;clear hr;refine kX aMB (S12.facts 0 rfl) λaMA=>?_;clear aMB Kx;refine gZ 11 λKx aMB=>?_;have S13:=S12.lit ((dO.two (S12.tr (t4,vT k4 n4 a4 s4 o4 m4 c4) aI) (S12.tr (t8,vT k8 n8 a8 s8 o8 m8 c8) aI)).app ((dO.two (S12.tr (t9,vT k9 n9 a9 s9 o9 m9 c9) aI) (S12.tr (t10,vT k10 n10 a10 s10 o10 m10 c10) aI)).app (dO.two (S12.tr (t11,vT k11 n11 a11 s11 o11 m11 c11) aI) (S12.tr (t12,vT k12 n12 a12 s12 o12 m12 c12) aI)))) #[.int .i64 k4,.int .i64 n4,.int .i64 a4,.string s4,.slice o4 m4 c4,.int .i64 k8,.int .i64 n8,.int .i64 a8,.string s8,.slice o8 m8 c8,.int .i64 k9,.int .i64 n9,.int .i64 a9,.string s9,.slice o9 m9 c9,.int .i64 k10,.int .i64 n10,.int .i64 a10,.string s10,.slice o10 m10 c10,.int .i64 k11,.int .i64 n11,.int .i64 a11,.string s11,.slice o11 m11 c11,.int .i64 k12,.int .i64 n12,.int .i64 a12,.string s12,.slice o12 m12 c12] rfl 40 0 0 e0 6 6 rfl;go_simp;refine kX aMB (S13.facts 0 rfl) λaMA=>?_;clear aMB Kx;refine BH 12 ?_;refine pP ?_;have h6:=bM (lk L) _ tV _ _ H6.out;have h4:=Br (lk L) _ _ _ H4.out;have h8:=fI (lk L) _ _ _ H8.out;have h9:=rY (lk L) _ _ _ _ H9.out;have h10:=rY (lk L) _ _ _ _ H10.out;have h11:=mQ (lk L) _ _ _ _ H11.out;have h12:=mQ (lk L) _ _ _ _ H12.out;go_upto_block 7 with fail;refine(S13.kG aT).mono ?_;rintro e w14 (⟨x,hr,rfl,hg⟩|⟨j14,hr,rfl,S14⟩)
   ·unfold gM;go_wp2_with fail;exact⟨rfl,aU.err x (by simp[HU.out,aH,doL,HS.out,HA.out,H4.out,H6.out,H8.out,H9.out,H10.out,H11.out,H12.out,hr]) hg⟩
   have H14:=aN hr;clear hr;have h14:=bM (lk L) _ aT _ _ H14.out;go_upto_block 8 with fail;refine(S14.GQ (BZ pb L lo stmt hS up lab j14 aB w14 S14.ps)).mono ?_;rintro e w15 (⟨x,hr,rfl,hg⟩|⟨l15,j15,o15,c15,hr,rfl,S15⟩)
   ·unfold gM;go_wp2_with fail;exact⟨rfl,aU.err x (by simp[HU.out,aH,doL,HS.out,HA.out,H4.out,H6.out,H8.out,H9.out,H10.out,H11.out,H12.out,H14.out,hr]) hg⟩
   have H15:=aN hr;clear hr;go_upto_block 8 with (at_builtin;go_loud (refine IV rfl _ _ rfl S15 (.tail _ (.head _)) (.head _) aD (by have:=FR up H15.out;have:=S15.ps.le;omega) 19 0 a e0 aD rfl rfl (λao16 c16 w16 S16=>?_)));refine gU (S16.pG 19 a) λw17 S17=>?_;have:=AAD (S17.facts 1 rfl);go_wp2_with fail;have S18:=S17.fY 1 rfl (iq 19) (iq 0) a (.string ⟨#[]⟩) (.slice ao16 (6+l15.length) c16);refine nX (S18.facts 1 rfl) Tryz.results169 ?_;exact S18.res (.head _) (by simp[HU.out,aH,doL,HS.out,HA.out,H4.out,H6.out,H8.out,H9.out,H10.out,H11.out,H12.out,H14.out,H15.out]<;>rfl) rfl
  | false=>
   rw[hs]at hA;have HA:=aN hs;clear hs hC S1
   cases hs:iT (lk L) i [gF,gA] with
   | false=>
    have HW:=aN hs;go_upto_region 9 with (go_at_call 135;refine(S2.eT (E:=λe=>e=_) hA).mono ?_;rintro e w3 ⟨rfl,S3⟩);have hC:=S3.GJ [gF,gA] aI #[.string ⟨#[87,72,73,76,69]⟩,.string ⟨#[85,78,84,73,76]⟩] rfl 2 rfl false hs;clear hs;go_upto_block 10 with (go_at_call 143;refine hC.mono ?_;rintro e w4 ⟨rfl,S4⟩);refine S4.QW.mono ?_;rintro e wf ⟨rfl,hg⟩;unfold gM;go_wp2_with fail;exact⟨rfl,aU.err _ (by simp[HU.out,aH,doW,HS.out,HA.out,HW.out]) hg⟩
   | true=>
    have HW:=aN hs;go_upto_region 9 with (go_at_call 135;refine(S2.eT (E:=λe=>e=_) hA).mono ?_;rintro e w3 ⟨rfl,S3⟩);have hC:=S3.GJ [gF,gA] aI #[.string ⟨#[87,72,73,76,69]⟩,.string ⟨#[85,78,84,73,76]⟩] rfl 2 rfl true hs;clear hs;go_upto_block 11 with (go_at_call 143;refine hC.mono ?_;rintro e w4 ⟨rfl,S4⟩);refine(S4.eK (zZ pb L gF i w4 S4.ps)).mono ?_;rintro e w5 (⟨x,hr,rfl,hg⟩|⟨t5,j5,k5,n5,a5,s5,o5,m5,c5,hr,rfl,S5⟩)
    ·unfold gM;go_wp2_with fail;exact⟨rfl,aU.err x (by simp[HU.out,aH,doW,HS.out,HA.out,HW.out,hr]) hg⟩
    have H5:=aN hr;clear hr;go_upto_block 11 with fail;refine(S5.eK (zZ pb L gA j5 w5 S5.ps)).mono ?_;rintro e w6 (⟨x,hr,rfl,hg⟩|⟨t6,j6,k6,n6,a6,s6,o6,m6,c6,hr,rfl,S6⟩)
    ·unfold gM;go_wp2_with fail;exact⟨rfl,aU.err x (by simp[HU.out,aH,doW,HS.out,HA.out,HW.out,H5.out,hr]) hg⟩
    have H6:=aN hr;clear hr;have S7:=S6.lit (dO.two (S6.tr _ (.tail _ (.head _))) (S6.tr _ (.head _))) #[.int .i64 k5,.int .i64 n5,.int .i64 a5,.string s5,.slice o5 m5 c5,.int .i64 k6,.int .i64 n6,.int .i64 a6,.string s6,.slice o6 m6 c6] rfl 40 0 0 e0 2 2 rfl;go_upto_block 12 with fail;refine(S7.kG aT).mono ?_;rintro e w8 (⟨x,hr,rfl,hg⟩|⟨j8,hr,rfl,S8⟩)
    ·unfold gM;go_wp2_with fail;exact⟨rfl,aU.err x (by simp[HU.out,aH,doW,HS.out,HA.out,HW.out,H5.out,H6.out,hr]) hg⟩
    have H8:=aN hr;clear hr;have h5:=mQ (lk L) _ _ _ _ H5.out;have h6:=mQ (lk L) _ _ _ _ H6.out;have h8:=bM (lk L) _ aT _ _ H8.out;go_upto_block 13 with fail;refine(S8.GQ (BZ pb L lo stmt hS up lab j8 aB w8 S8.ps)).mono ?_;rintro e w15 (⟨x,hr,rfl,hg⟩|⟨l15,j15,o15,c15,hr,rfl,S15⟩)
    ·unfold gM;go_wp2_with fail;exact⟨rfl,aU.err x (by simp[HU.out,aH,doW,HS.out,HA.out,HW.out,H5.out,H6.out,H8.out,hr]) hg⟩
    have H15:=aN hr;clear hr;go_upto_block 13 with (at_builtin;go_loud (refine IV rfl _ _ rfl S15 (.tail _ (.head _)) (.head _) aD (by have:=FR up H15.out;have:=S15.ps.le;omega) 18 0 a e0 aD rfl rfl (λao16 c16 w16 S16=>?_)));refine gU (S16.pG 18 a) λw17 S17=>?_;have:=AAD (S17.facts 0 rfl);go_wp2_with fail;have S18:=S17.fY 0 rfl (iq 18) (iq 0) a (.string ⟨#[]⟩) (.slice ao16 (2+l15.length) c16);refine nX (S18.facts 0 rfl) Tryz.results169 ?_;exact S18.res (.head _) (by simp[HU.out,aH,doW,HS.out,HA.out,HW.out,H5.out,H6.out,H8.out,H15.out]<;>rfl) rfl
def kwM: List (ByteArray×Value):=[(bB,.func (.func 167) #[] #[]),(jL,.func (.func 167) #[] #[]),(Bg,.func (.func 168) #[] #[]),(LJ,.func (.func 169) #[] #[]),(qB,.func (.func 170) #[] #[]),(Nq,.func (.func 171) #[] #[]),(Ch,.func (.func 172) #[] #[]),(lM,.func (.func 173) #[] #[]),(wGO,.func (.func 174) #[] #[]),(aeU,.func (.func 175) #[] #[]),(pM,.func (.func 176) #[] #[]),(jO,.func (.func 177) #[] #[]),(DN,.func (.func 178) #[] #[]),(wON,.func (.func 179) #[] #[]),(rD,.func (.func 180) #[] #[]),(rC,.func (.func 181) #[] #[]),(iR,.func (.func 182) #[] #[]),(rL,.func (.func 182) #[] #[]),(CA,.func (.func 183) #[] #[]),(FA,.func (.func 184) #[] #[]),(FC,.func (.func 185) #[] #[]),(Bj,.func (.func 186) #[] #[]),(uM,.func (.func 187) #[] #[]),(nZ,.func (.func 188) #[] #[]),(sC,.func (.func 189) #[] #[]),(fK,.func (.func 190) #[] #[]),(uP,.func (.func 190) #[] #[])]
def ahC: Tryz.prog.underlying 178=some (.map 9 177):=by kernel_rfl
def aJI(W:World):(zeroValue 177).run Tryz.prog W=.ok .nilFunc W:=by kernel_rfl
def Mp(w:World):AAA 151 #[] w λe w'=>e=.returned (.map (some w.heap.size))/\Mg w' w.heap.size kwM/\iY w w':=by
 have hmm:=@run_makeMap Tryz.prog;have h0:acT w (w.alloc (.map #[] 0)) w.heap.size []:=⟨Mg.new w,(bH _ _).alloc (aG _) _⟩
 go_in;go_wp2_with (refine AZ w _ rfl _ _ _ _ rfl _ _ ahC NY w.heap.size _ rfl iS _ _ rfl rfl aQ ?_;clear h0;intro w' h0);go_ret;exact⟨rfl,(λks (e:ks=kwM) (h:Mg w' w.heap.size ks)=>e ▸ h) _ aQ h0.1,h0.2⟩
def Zy(w:World)(b:Nat)(h:Mg w b kwM)(s:dL):(Instr.lookup 178 (.map (some b)) (.string s) false).run Tryz.prog w=.ok ((hZ s kwM).getD .nilFunc) w:=
 Fz (P:=Tryz.prog) w 178 9 177 ahC NY .nilFunc aJI b kwM h s
end
