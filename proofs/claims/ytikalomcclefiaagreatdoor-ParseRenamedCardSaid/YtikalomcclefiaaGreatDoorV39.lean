/- Part 39. -/
import Derived.Test.YtikalomcclefiaaGreatDoorV36
import Derived.Test.YtikalomcclefiaaGreatDoorV38
set_option linter.all false
set_option maxHeartbeats 0
set_option maxRecDepth 100000
namespace Go.Proofs.YtikalomcclefiaaGreatDoor
section
open Go.RowKit Lx Px
def aqC: ∀ args w,(callFunc 225 args).run Tryz.prog w=.ok (.enter 225 args) w:=
 enters_of Tryz.func225 aD rfl
def KB{L:List Tk}{i j:Nat}{s0 s:dL}(h:iN L i=.ok (s0,j))(hs:nG s0=s):dS L i =
 if s=iC then(if (tok L j).kind=4 then aH (cQ L j) λx j'=>.ok (.mk 50 0 i s [x],j')else .error j)
 else if s=uH then aH (mG L (dB L) j) λx j'=>.ok (.mk 50 0 i s [x],j')
 else if cD L j [cJ]then
  (if cD L (j+1) [dA]then .ok (.mk 50 1 i s [],j+2)
   else aH (eR L 60 (eC L) (j+1)) λl j'=>aH (aW L j' dA) λ_ j2=>.ok (.mk 50 1 i s l,j2))
 else .ok (.mk 50 0 i s [],j):=by subst hs;unfold dS;rw[h];rfl
def NM{s:dL}{l:List UInt8}(h:¬ s=⟨l.toArray⟩):(s.toList==l)=false/\decide (s=⟨l.toArray⟩)=false:=by
 refine⟨dR.2 λe=>h ?_,bX h⟩;rw[<- Le,e,sH]
section
variable(pb:Nat)(L:List T3)(hX:qZ L)(i:Nat)(w:World)(h:PS w pb L i)
include pb L hX i w h
theorem WU(s0 s:dL)(j2:Nat)(hn:iN (lk L) i=.ok (s0,j2))(hl:nG s0=s)(hf:(hZ s0 Cp).getD (.string ⟨#[]⟩)=.string s)(hne:¬ s=⟨#[]⟩):AAA 203 #[pq pb] w (aU pb L w (dS (lk L) i)):=by
 have HU:=aN (KB hn hl);have hmm:=@run_makeMap Tryz.prog;have hf0:=Eo;have HF:=aN hf;have HN:=aN hn;clear hf hn;have hs3:(s.toList == [])=false:=(NM (l:=[]) hne).1;have hs4:decide (s=⟨#[]⟩)=false:=(NM (l:=[]) hne).2;go_in;go_upto_region 1 with fail;have S1:=SV.new h;generalize World.alloc w _=w1 at S1 ⊢;obtain⟨k1,_⟩:=S1.ps.cells;go_upto_block 2 with fail;refine(S1.Bn (rM pb L i w1 S1.ps)).mono ?_;rintro e w2 (⟨x,hr,rfl,hg⟩|⟨s2,j',hr,rfl,S2⟩)
 ·rw[HN.out]at hr;cases hr
 obtain⟨rfl,rfl⟩:s0=s2/\j2=j':=by rw[HN.out]at hr;cases hr;exact⟨rfl,rfl⟩
 clear hr k1;go_upto_region 3 with fail;have S3:=S2.EU (tg 50 0 i s0 none 0 0);generalize World.alloc w2 _=w3 at S3 ⊢;generalize w2.heap.size=B3 at S3 ⊢;have h0:acT w3 (w3.alloc (.map #[] 0)) w3.heap.size []:=⟨Mg.new w3,(bH _ _).alloc (aG _) _⟩
 go_upto_region 4 with (refine AZ w3 _ rfl _ _ _ _ rfl _ _ LL NY w3.heap.size _ rfl iS _ _ rfl rfl aQ ?_;clear h0;intro w4 h0);have S4:=S3.below h0.2;have h0m:Mg w4 w3.heap.size Cp:=(λks (e:ks=Cp) (h:Mg w4 w3.heap.size ks)=>e ▸ h) _ aQ h0.1;have hL:=Fz (P:=Tryz.prog) w4 136 9 9 LL NY (.string ⟨#[]⟩) aqB w3.heap.size Cp h0m s0;rw[HF.out]at hL;clear h0m;clear h0;have:=AAD (S4.facts 0 rfl);go_upto_region 7 with fail;have S5:=S4.put 0 rfl 3 (.string s) aI;generalize World.setCell w4 (AAF B3 3) _=w5 at S5 ⊢;have h5:True:=trivial;have:=AAD (S5.facts 0 rfl)
 by_cases hp:s=⟨#[80,73,67,84,85,82,69]⟩
 ·subst hp;have hT:=fS pb L j2 0 aD w5 S5.ps
  exact Ss
 obtain⟨n1,n2⟩:=NM (l:=[80,73,67,84,85,82,69]) hp;have HP:=aN (show ¬ s=iC from hp);clear hp
 by_cases hq:s=⟨#[76,73,75,69]⟩
 ·subst hq;have HQ:=aN (show (⟨#[76,73,75,69]⟩:ByteArray)=uH from rfl);have HPL:=aN (show ¬ uH=iC by decide +kernel);go_upto_block 12 with fail;refine(S5.eK (Oq pb L 0 (dB (lk L)) (fI (lk L)) (λi w _ h=>fA pb L i w (aS _) h) j2 w5 (aS _) S5.ps)).mono ?_;exact Ql
 obtain⟨n3,n4⟩:=NM (l:=[76,73,75,69]) hq;have HQ:=aN (show ¬ s=uH from hq);clear hq
 cases hs:cD (lk L) j2 [cJ] with
 | true=>
  have hC:=S5.LW cJ hs;have HS:=aN hs;clear hs;go_upto_region 15 with (go_at_call 123;refine hC.mono ?_;rintro e w6 ⟨rfl,S6⟩;have:=AAD (S6.facts 0 rfl));have S7:=S6.put 0 rfl 1 (iq 1) aI;generalize World.setCell w6 (AAF B3 1) _=w7 at S7 ⊢
  cases ht:cD (lk L) (j2+1) [dA] with
  | true=>
   have hC:=S7.LW dA ht;have HT:=aN ht;clear ht;go_upto_region 18 with (go_at_call 123;refine hC.mono ?_;rintro e w8 ⟨rfl,S8⟩);have:=AAD (S8.facts 0 rfl);have:=AAD (S8.facts 1 rfl);go_wp2_with fail;have S9:=(S8.fY 1 rfl (iq 50) (iq 1) i s (.slice none 0 0)).leaf 50 1 i s;exact QK
  | false=>
   have hC:=S7.Ma dA ht;have HT:=aN ht;clear ht;go_upto_block 16 with (go_at_call 123;refine hC.mono ?_;rintro e w8 ⟨rfl,S8⟩);refine(S8.GQ (rK _ aqC pb L 0 (eC (lk L)) (λi w _ h=>XL pb L hX i w h) (Oo (lk L)) 60 aD aD (j2+1) (aS _) w8 S8.ps)).mono ?_;rintro e w9 (⟨x,hr,rfl,hg⟩|⟨l9,j9,o9,c9,hr,rfl,S9⟩)
   ·exact Qj
   have H9:=aN hr;clear hr;have:=AAD (S9.facts 0 rfl);have S10:=(S9.put 0 rfl 4 (.slice o9 l9.length c9) aI).OV 50 1 i s;go_upto_region 17 with fail;generalize World.setCell _ (AAF B3 4) _=w10 at S10 ⊢;go_upto_block 17 with fail;refine(S10.kG dA).mono ?_;rintro e w11 (⟨x,hr,rfl,hg⟩|⟨j11,hr,rfl,S11⟩)
   ·exact RX
   have H11:=aN hr;clear hr;have:=AAD (S11.facts 0 rfl);have:=AAD (S11.facts 1 rfl);go_wp2_with fail;have S12:=S11.fY 1 rfl (iq 50) (iq 1) i s (.slice o9 l9.length c9);exact Rx
 | false=>
  have hC:=S5.Ma cJ hs;have HS:=aN hs;clear hs;go_upto_region 18 with (go_at_call 123;refine hC.mono ?_;rintro e w6 ⟨rfl,S6⟩);have:=AAD (S6.facts 0 rfl);have:=AAD (S6.facts 1 rfl);go_wp2_with fail;have S9:=(S6.fY 1 rfl (iq 50) (iq 0) i s (.slice none 0 0)).leaf 50 0 i s;exact SL
theorem WM(s0:dL)(j2:Nat)(hn:iN (lk L) i=.ok (s0,j2))(hl:nG s0=s0)(hf:(hZ s0 Cp).getD (.string ⟨#[]⟩)=.string ⟨#[]⟩):AAA 203 #[pq pb] w (aU pb L w (dS (lk L) i)):=by
 have HU:=aN (KB hn hl);have hmm:=@run_makeMap Tryz.prog;have hf0:=Eo;have HF:=aN hf;have HN:=aN hn;clear hf hn;go_in;go_upto_region 1 with fail;have S1:=SV.new h;generalize World.alloc w _=w1 at S1 ⊢;obtain⟨k1,_⟩:=S1.ps.cells;go_upto_block 2 with fail;refine(S1.Bn (rM pb L i w1 S1.ps)).mono ?_;rintro e w2 (⟨x,hr,rfl,hg⟩|⟨s2,j',hr,rfl,S2⟩)
 ·rw[HN.out]at hr;cases hr
 obtain⟨rfl,rfl⟩:s0=s2/\j2=j':=by rw[HN.out]at hr;cases hr;exact⟨rfl,rfl⟩
 clear hr k1;go_upto_region 3 with fail;have S3:=S2.EU (tg 50 0 i s0 none 0 0);generalize World.alloc w2 _=w3 at S3 ⊢;generalize w2.heap.size=B3 at S3 ⊢;have h0:acT w3 (w3.alloc (.map #[] 0)) w3.heap.size []:=⟨Mg.new w3,(bH _ _).alloc (aG _) _⟩
 go_upto_region 4 with (refine AZ w3 _ rfl _ _ _ _ rfl _ _ LL NY w3.heap.size _ rfl iS _ _ rfl rfl aQ ?_;clear h0;intro w4 h0);have S4:=S3.below h0.2;have h0m:Mg w4 w3.heap.size Cp:=(λks (e:ks=Cp) (h:Mg w4 w3.heap.size ks)=>e ▸ h) _ aQ h0.1;have hL:=Fz (P:=Tryz.prog) w4 136 9 9 LL NY (.string ⟨#[]⟩) aqB w3.heap.size Cp h0m s0;rw[HF.out]at hL;clear h0m;clear h0;have:=AAD (S4.facts 0 rfl);go_upto_region 7 with fail;have S5:=S4;have:=AAD (S5.facts 0 rfl)
 by_cases hp:s0=⟨#[80,73,67,84,85,82,69]⟩
 ·subst hp;have hT:=fS pb L j2 0 aD w4 S5.ps
  exact Ss
 obtain⟨n1,n2⟩:=NM (l:=[80,73,67,84,85,82,69]) hp;have HP:=aN (show ¬ s0=iC from hp);clear hp
 by_cases hq:s0=⟨#[76,73,75,69]⟩
 ·subst hq;have HQ:=aN (show (⟨#[76,73,75,69]⟩:ByteArray)=uH from rfl);have HPL:=aN (show ¬ uH=iC by decide +kernel);go_upto_block 12 with fail;refine(S5.eK (Oq pb L 0 (dB (lk L)) (fI (lk L)) (λi w _ h=>fA pb L i w (aS _) h) j2 w4 (aS _) S5.ps)).mono ?_;exact Ql
 obtain⟨n3,n4⟩:=NM (l:=[76,73,75,69]) hq;have HQ:=aN (show ¬ s0=uH from hq);clear hq
 cases hs:cD (lk L) j2 [cJ] with
 | true=>
  have hC:=S5.LW cJ hs;have HS:=aN hs;clear hs;go_upto_region 15 with (go_at_call 123;refine hC.mono ?_;rintro e w6 ⟨rfl,S6⟩;have:=AAD (S6.facts 0 rfl));have S7:=S6.put 0 rfl 1 (iq 1) aI;generalize World.setCell w6 (AAF B3 1) _=w7 at S7 ⊢
  cases ht:cD (lk L) (j2+1) [dA] with
  | true=>
   have hC:=S7.LW dA ht;have HT:=aN ht;clear ht;go_upto_region 18 with (go_at_call 123;refine hC.mono ?_;rintro e w8 ⟨rfl,S8⟩);have:=AAD (S8.facts 0 rfl);have:=AAD (S8.facts 1 rfl);go_wp2_with fail;have S9:=(S8.fY 1 rfl (iq 50) (iq 1) i s0 (.slice none 0 0)).leaf 50 1 i s0;exact QK
  | false=>
   have hC:=S7.Ma dA ht;have HT:=aN ht;clear ht;go_upto_block 16 with (go_at_call 123;refine hC.mono ?_;rintro e w8 ⟨rfl,S8⟩);refine(S8.GQ (rK _ aqC pb L 0 (eC (lk L)) (λi w _ h=>XL pb L hX i w h) (Oo (lk L)) 60 aD aD (j2+1) (aS _) w8 S8.ps)).mono ?_;rintro e w9 (⟨x,hr,rfl,hg⟩|⟨l9,j9,o9,c9,hr,rfl,S9⟩)
   ·exact Qj
   have H9:=aN hr;clear hr;have:=AAD (S9.facts 0 rfl);have S10:=(S9.put 0 rfl 4 (.slice o9 l9.length c9) aI).OV 50 1 i s0;go_upto_region 17 with fail;generalize World.setCell _ (AAF B3 4) _=w10 at S10 ⊢;go_upto_block 17 with fail;refine(S10.kG dA).mono ?_;rintro e w11 (⟨x,hr,rfl,hg⟩|⟨j11,hr,rfl,S11⟩)
   ·exact RX
   have H11:=aN hr;clear hr;have:=AAD (S11.facts 0 rfl);have:=AAD (S11.facts 1 rfl);go_wp2_with fail;have S12:=S11.fY 1 rfl (iq 50) (iq 1) i s0 (.slice o9 l9.length c9);exact Rx
 | false=>
  have hC:=S5.Ma cJ hs;have HS:=aN hs;clear hs;go_upto_region 18 with (go_at_call 123;refine hC.mono ?_;rintro e w6 ⟨rfl,S6⟩);have:=AAD (S6.facts 0 rfl);have:=AAD (S6.facts 1 rfl);go_wp2_with fail;have S9:=(S6.fY 1 rfl (iq 50) (iq 0) i s0 (.slice none 0 0)).leaf 50 0 i s0;exact SL
end
def Wk(pb:Nat)(L:List T3)(i:Nat)(w:World)(h:PS w pb L i)(x:Nat)(hn:iN (lk L) i=.error x):AAA 203 #[pq pb] w (aU pb L w (dS (lk L) i)):=by
 have HU:=aN (show dS (lk L) i=.error x by unfold dS;rw[hn];rfl);have HN:=aN hn;clear hn;go_in;go_upto_region 1 with fail;have S1:=SV.new h;generalize World.alloc w _=w1 at S1 ⊢;obtain⟨k1,_⟩:=S1.ps.cells;go_upto_block 2 with fail;refine(S1.Bn (rM pb L i w1 S1.ps)).mono ?_;rintro e w2 (⟨y,hr,rfl,hg⟩|⟨s2,j',hr,rfl,S2⟩)
 ·rw[HN.out]at hr
  cases hr
  unfold gM;go_wp2_with fail;exact⟨rfl,aU.err x HU.out hg⟩
 ·rw[HN.out]at hr;cases hr
def Ky(pb:Nat)(L:List T3)(hX:qZ L)(i:Nat)(w:World)(h:PS w pb L i):AAA 203 #[pq pb] w (aU pb L w (dS (lk L) i)):=by
 cases hn:iN (lk L) i with
 | error x=>exact Wk pb L i w h x hn
 | ok sj=>
  obtain⟨s0,j⟩:=sj
  rcases asM s0 with ⟨r,h1,h2,h3⟩|⟨h1,h2⟩
  ·exact WU pb L hX i w h s0 r j hn h3 h1 h2
  ·exact WM pb L hX i w h s0 j hn h2 h1
def Gf(L:List Tk)(n:Nat)(acc:List T)(j:Nat):jC L (n+1) acc j=if isName L j then aH (dS L j) λx j'=>jC L n (acc++[x]) j' else .ok (acc,j):=by conv=>lhs;unfold jC
def Hu(pb:Nat)(L:List T3)(hX:qZ L)(most:Nat)(hm:most<=1000)(i:Nat)(w:World)(h:PS w pb L i):AAA 204 #[pq pb,most] w (An pb L w (pR (lk L) most i)):=by
 have HU:=aN (show pR (lk L) most i=jC (lk L) most [] i from rfl);have hpl:=h.lt;have hbd:=h.bd;have hle:=h.le;have hf0:=Eo;go_in;go_upto_region 2 with fail
 go_loopg [5] most (λg v wr=>∃ (l:List T) (jj:Nat),FG w wr v l/\Ok pb L jj w wr/\i<=jj/\g=most - l.length/\l.length<=most/\pR (lk L) most i=jC (lk L) (most - l.length) l jj)
 case atStart=>exact⟨[],i,FG.nil w w,⟨bS _ (bH _ _),h⟩,aG _,rfl,aS _,HU.out⟩
 case round=>
  obtain⟨l,jj,hL,hO,hij,hg,hlm,hq⟩:=hrel;have HQ:=aN hq;have HG:=aN hg;clear hq hg HU;obtain⟨bo,cap,rfl⟩:=hL.form;have hjL:=hO.2.le;have S0:=SV.begin hO.2
  by_cases hlt:l.length<most
  ·have hlt':(l.length:Int)<(most:Int):=by omega
   obtain⟨q,hq⟩:∃ q,most - l.length=q+1:=⟨most - l.length - 1,by omega⟩
   have hT:=fS pb L jj 0 aD wr hO.2
   by_cases hk:(tok (lk L) jj).kind=1
   ·have HQ2:=aN (show pR (lk L) most i=aH (dS (lk L) jj) λx j'=>jC (lk L) q (l++[x]) j' by rw[HQ.out,hq,Gf,aF (by unfold isName;rw[hk];rfl)]);rw[show (tok (L.map T3.tk) (jj+0)).kind=1 from hk]at hT;have HQQ:=aN hq;clear HQ hk hq;go_upto_block 3 with (go_at_call 113;refine(S0.eT (E:=λe=>∃ p:Int,e=_) hT).mono ?_;rintro e w3 ⟨⟨p,rfl⟩,S3⟩);have hO3:=hO.trans S3.ok;have hL3:=hL.step hpl S3.ok.1;refine(Ky pb L hX jj w3 S3.ps).mono ?_;intro e w4 hp
    rcases hp.split with ⟨t',j',k',n',a',s',ao',m',c',hr1,rfl,ht,hok⟩|⟨a',hr1,rfl,hg4⟩
    ·have hL4:=hL3.step hpl hok.1;have ht4:=iB.beside hL3 hO3.1.size ht;have hO4:=hO3.trans hok;have hj':jj+1<=j':=uV (lk L) jj t' j' hr1;have hjl':=hok.2.le;have HQ3:=aN (show pR (lk L) most i=jC (lk L) q (l++[t']) j' by rw[HQ2.out,hr1];rfl);clear HQ2 hr1 hp hL3 hO3 hok ht S3 hT;go_wp2_with (at_builtin;go_loud (refine qJ rfl _ _ rfl w w4 (.slice bo l.length cap) l rfl hL4 t' (vT k' n' a' s' ao' m' c') ht4 rfl ?dd1 ?dd2 ?_))
     case dd1=>exact hO4.1.size
     case dd2=>omega
     intro v5 w5 hL5 hb5;have hO5:=hO4.new hpl hb5;clear hL4 ht4 hO4;go_wp2_with fail
     go_roundg q
     case measure=>rw[HG.out];have:=HQQ.out;omega
     case rel=>exact⟨l++[t'],j',hL5,hO5,by omega,by rw[aO];have:=HQQ.out;simp;omega,by rw[aO];simp;omega,by rw[HQ3.out,aO];congr 1;have:=HQQ.out;simp;omega⟩
    exact IU
   ·have HQ2:=aN (show pR (lk L) most i=.ok (l,jj)by rw[HQ.out,hq,Gf,aC (by unfold isName;simpa using hk)]);generalize hkk:(tok (lk L) jj).kind=tk at hk;rw[show (tok (L.map T3.tk) (jj+0)).kind=tk from hkk]at hT;clear hkk HQ hq;go_wp2_with (go_at_call 113;refine(S0.eT (E:=λe=>∃ p:Int,e=_) hT).mono ?_;rintro e w3 ⟨⟨p,rfl⟩,S3⟩);go_ret;exact An.ok HQ2.out (hL.step hpl S3.ok.1) (hO.trans S3.ok)
  ·have hlt':¬ (l.length:Int)<(most:Int):=by omega
   have HQ2:=aN (show pR (lk L) most i=.ok (l,jj)by rw[HQ.out,show most - l.length=0 from by omega];unfold jC;rfl);exact ON
def YW{p:Prop}(h:p:=by
 try have:=AAD (Sq.facts 1 rfl)
 go_simp;refine GR aMB Sq ?_;clear aMB Kx;exact DG):p:=h
def YJ{p:Prop}(h:p:=by
 try have:=AAD (Sq.facts 1 rfl)
 go_simp;refine(Sq.eK (fA pb L (j2+1) _ (aS _) Sq.ps)).mono ?_;rintro e w7 (⟨x,hr,rfl,hg⟩|⟨t7,j7,k7,n7,a7,s7,o7,m7,c7,hr,rfl,Sq⟩)
 ·unfold gM;exact⟨rfl,aU.err x (by simp[HU.out,aH,H2.out,HS.out,hr]) hg⟩
 have H7:=aN hr;clear hr;have:=AAD (Sq.facts 0 rfl);refine GR aMB Sq ?_;clear aMB Kx;exact DG):p:=h
def auS{p:Prop}(h:p:=by
 try have:=AAD (Sq.facts 1 rfl)
 go_simp;have Sq:=Sq.lit (dO.two (Sq.tr _ (.tail _ (.head _))) (Sq.tr _ (.head _))) #[.int .i64 k2,.int .i64 n2,.int .i64 a2,.string s2,.slice o2 m2 c2,.int .i64 k7,.int .i64 n7,.int .i64 a7,.string s7,.slice o7 m7 c7] rfl 49 0 i e0 2 2 rfl;refine GR aMB Sq ?_;clear aMB Kx;exact DG):p:=h
def atW{p:Prop}(h:p:=by
 try have:=AAD (Sq.facts 1 rfl)
 go_simp;refine gU (Sq.pG 49 i) λw9 Sq=>?_;refine GR aMB Sq ?_;clear aMB Kx;exact DG):p:=h
def awA{p:Prop}(h:p:=by
 try have:=AAD (Sq.facts 1 rfl)
 go_simp;refine aMB _ _ ?_;clear aMB Kx;exact DG):p:=h
def aBm{p:Prop}(h:p:=by
 go_wp2_with fail;have S10:=Sq.fY 1 rfl (iq 49) (iq 0) i (.string ⟨#[]⟩) (.slice (some (AAF w7.heap.size 0)) 2 2);refine nX (S10.facts 1 rfl) Tryz.results228 ?_;exact S10.res (.head _) (by simp[HU.out,aH,H2.out,HS.out,H7.out]<;>rfl) rfl):p:=h
theorem DG{p:Prop}(h:p:=by
 first
 | (refine Gk ?_;exact aBm)
 | (refine tZ 0 ?_;exact DG)
 | (refine tZ 2 ?_;exact DG)
 | (refine kL [1,3] ?_;refine qP (λKx aMB=>?_) (qP (λKx aMB=>?_) .nil);exact YW;exact YJ)
 | (refine kL [3] ?_;refine qP (λKx aMB=>?_) .nil;exact YJ)
 | (refine kL [4] ?_;refine qP (λKx aMB=>?_) .nil;exact auS)
 | (refine kL [5] ?_;refine qP (λKx aMB=>?_) .nil;exact atW)
 | (refine kL [6] ?_;refine qP (λKx aMB=>?_) .nil;exact awA)
 | (refine kL [1] ?_;refine qP (λKx aMB=>?_) .nil;exact YW)):p:=h
def Yx{p:Prop}(h:p:=by
 try have:=AAD (Sq.facts 1 rfl)
 go_simp;refine gU (Sq.Mn) λw7 Sq=>?_;have:=AAD (Sq.facts 0 rfl);refine GR aMB Sq ?_;clear aMB Kx;exact Gl):p:=h
def Zs{p:Prop}(h:p:=by
 try have:=AAD (Sq.facts 1 rfl)
 go_simp;refine GR aMB Sq ?_;clear aMB Kx;exact Gl):p:=h
def arY{p:Prop}(h:p:=by
 try have:=AAD (Sq.facts 1 rfl)
 go_simp;have Sq:=Sq.lit (dO.two (Sq.tr _ (.head _)) (Sq.tr _ (.tail _ (.head _)))) #[.int .i64 10,.int .i64 0,.int .i64 0,.string ⟨#[]⟩,.slice none 0 0,.int .i64 k2,.int .i64 n2,.int .i64 a2,.string s2,.slice o2 m2 c2] rfl 49 0 i e0 2 2 rfl;refine GR aMB Sq ?_;clear aMB Kx;exact Gl):p:=h
def arT{p:Prop}(h:p:=by
 try have:=AAD (Sq.facts 1 rfl)
 go_simp;refine gU (Sq.pG 49 i) λw9 Sq=>?_;refine GR aMB Sq ?_;clear aMB Kx;exact Gl):p:=h
def auW{p:Prop}(h:p:=by
 try have:=AAD (Sq.facts 1 rfl)
 go_simp;refine aMB _ _ ?_;clear aMB Kx;exact Gl):p:=h
def ayO{p:Prop}(h:p:=by
 go_wp2_with fail;have S10:=Sq.fY 1 rfl (iq 49) (iq 0) i (.string ⟨#[]⟩) (.slice (some (AAF w7.heap.size 0)) 2 2);refine nX (S10.facts 1 rfl) Tryz.results228 ?_;exact S10.res (.head _) (by simp[HU.out,aH,H2.out,HS.out]<;>rfl) rfl):p:=h
theorem Gl{p:Prop}(h:p:=by
 first
 | (refine Gk ?_;exact ayO)
 | (refine tZ 0 ?_;exact Gl)
 | (refine kL [1,2] ?_;refine qP (λKx aMB=>?_) (qP (λKx aMB=>?_) .nil);exact Yx;exact Zs)
 | (refine kL [2] ?_;refine qP (λKx aMB=>?_) .nil;exact Zs)
 | (refine kL [3] ?_;refine qP (λKx aMB=>?_) .nil;exact arY)
 | (refine kL [4] ?_;refine qP (λKx aMB=>?_) .nil;exact arT)
 | (refine kL [5] ?_;refine qP (λKx aMB=>?_) .nil;exact auW)
 | (refine kL [1] ?_;refine qP (λKx aMB=>?_) .nil;exact Yx)):p:=h
def avI(pb:Nat)(L:List T3)(i:Nat)(w:World)(h:PS w pb L i):AAA 228 #[pq pb] w (aU pb L w (pS (lk L) i)):=by
 have HU:=aN (show pS (lk L) i=aH (dB (lk L) i) λx j=>if cD (lk L) j [cU]then aH (dB (lk L) (j+1)) λy j'=>.ok (node 49 i [x,y],j')else .ok (node 49 i [none_,x],j)from rfl);go_in;go_upto_region 1 with fail;have S1:=SV.new h;generalize World.alloc w _=w1 at S1 ⊢;obtain⟨c1,_⟩:=S1.ps.cells;go_upto_region 2 with fail;clear c1;go_upto_block 2 with fail;refine(S1.eK (fA pb L i w1 (aS _) S1.ps)).mono ?_;rintro e w2 (⟨x,hr,rfl,hg⟩|⟨t2,j2,k2,n2,a2,s2,o2,m2,c2,hr,rfl,S2⟩)
 ·exact jQ
 have H2:=aN hr;clear hr;go_upto_region 3 with fail;have S3:=S2.EU (tg k2 n2 a2 s2 o2 m2 c2);generalize World.alloc w2 _=w3 at S3 ⊢;generalize w2.heap.size=B3 at S3 ⊢
 cases hs:cD (lk L) j2 [cU] with
 | true=>
  have hC:=S3.LW cU hs;have HS:=aN hs;clear hs;go_upto_region 4 with (go_at_call 123;refine hC.mono ?_;rintro e w4 ⟨rfl,S4⟩);refine qW aQ ?_;change wpAny _ _ _ _ _ _ _ (World.drew _);have Sq:=S4.drew;generalize World.drew w4=w5 at Sq ⊢;have:=AAD (Sq.facts 0 rfl);exact DG
 | false=>
  have hC:=S3.Ma cU hs;have HS:=aN hs;clear hs;go_upto_region 5 with (go_at_call 123;refine hC.mono ?_;rintro e w4 ⟨rfl,S4⟩);refine qW aQ ?_;change wpAny _ _ _ _ _ _ _ (World.drew _);have Sq:=S4.drew;generalize World.drew w4=w5 at Sq ⊢;have:=AAD (Sq.facts 0 rfl);exact Gl
end
