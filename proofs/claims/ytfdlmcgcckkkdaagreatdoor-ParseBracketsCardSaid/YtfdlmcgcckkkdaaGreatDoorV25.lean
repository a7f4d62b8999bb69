/- ParseWhole, part 25: what it stands on. -/
import Derived.Test.YtfdlmcgcckkkdaaGreatDoorV23
import Derived.Test.YtfdlmcgcckkkdaaGreatDoorV24
import Derived.Test.YtfdlmcgcckkkdaaGreatDoorV22
set_option linter.all false
set_option maxHeartbeats 40000000
set_option maxRecDepth 100000
namespace Go.Proofs.YtfdlmcgcckkkdaaGreatDoor
section
open Go.RowKit Lx Px
theorem Dh(wB:World)(hTab:eJ wB)(qb:Nat)(t:T)(D:PD wB qb t)(w:World)(v:Value)(lk:List Tk)(k n a:Int)(s:ByteArray)(ao:Option Addr)(m c:Nat)(h:Pt wB qb w v lk)(ht:Tr wB t (vT k n a s ao m c))(hl:lk.length+(simple false a k n s t.l (t.l.map (prO false)) (t.l.map (prB false))).length+1≤dK):Calls Tryz.prog 159 #[pq qb,tg k n a s ao m c] w (PrQ wB qb w v lk (simple false a k n s t.l (t.l.map (prO false)) (t.l.map (prB false)))):=by
 have hnr : -9223372036854775808≤n∧n≤9223372036854775807:=by rw[ht.split.2.1];exact D.r
 have hm5:=ht.split.2.2.2.2
 by_cases hk24:k=24
 ·subst hk24;have e:simple false a 24 n s t.l (t.l.map (prO false)) (t.l.map (prB false))=prO false (Px.part t.l 0)++([sEQ].map O++(prO false (Px.part t.l 1))):=by
   show ct (t.l.map (prO false)) 0++O sEQ::ct (t.l.map (prO false)) 1=_
   exact ctA
  rw[e]at hl ⊢;exact Qw wB hTab qb t D w v lk n a s ao m c  h ht leA
 by_cases hk25:k=25
 ·subst hk25;have e:simple false a 25 n s t.l (t.l.map (prO false)) (t.l.map (prB false))=[Al].map W++(prO false (Px.part t.l 0)):=by
   show W Al::ct (t.l.map (prO false)) 0=_
   exact ctA
  rw[e]at hl ⊢;exact Qo wB hTab qb t D w v lk n a s ao m c  h ht leA
 by_cases hk26:k=26
 ·subst hk26
  by_cases hnil:t.l=[]
  ·have e:simple false a 26 n s t.l (t.l.map (prO false)) (t.l.map (prB false))=[fZ].map W:=by
    show W fZ::(if t.l=[]then []else cD (t.l.map (prO false)))=_
    rw[if_pos hnil];rfl
   rw[e]at hl ⊢;obtain rfl:m=0:=by rw[hm5,hnil];rfl
   exact Pk wB hTab qb t D w v lk n a s ao c h ht leA
  ·have e:simple false a 26 n s t.l (t.l.map (prO false)) (t.l.map (prB false))=[fZ].map W++(cD (t.l.map (prO false))):=by
    show W fZ::(if t.l=[]then []else cD (t.l.map (prO false)))=_
    rw[if_neg hnil];rfl
   rw[e]at hl ⊢;have:t.l.length≠0:=fun e=>hnil (List.length_eq_zero_iff.1 e)
   exact Pq wB hTab qb t D w v lk n a s ao m c (by omega) h ht leA
 by_cases hk27:k=27
 ·subst hk27;have e:simple false a 27 n s t.l (t.l.map (prO false)) (t.l.map (prB false))=[wGO,wTO,s].map W:=by
   show [W wGO,W wTO,W s]=_
   exact ctA
  rw[e]at hl ⊢;exact QC wB hTab qb t D w v lk n a s ao m c  h ht leA
 by_cases hk28:k=28
 ·subst hk28;have e:simple false a 28 n s t.l (t.l.map (prO false)) (t.l.map (prB false))=eQ mS s:=by
   show eQ mS s=_
   exact ctA
  rw[e]at hl ⊢;have hlt:1≤(eQ mS s).length:=by unfold eQ;simp
  exact Rd wB hTab qb t D w v lk n a s ao m c (by omega) h ht leA
 by_cases hk29:k=29
 ·subst hk29;have e:simple false a 29 n s t.l (t.l.map (prO false)) (t.l.map (prB false))=eQ gG s:=by
   show eQ gG s=_
   exact ctA
  rw[e]at hl ⊢;have hlt:1≤(eQ gG s).length:=by unfold eQ;simp
  exact Rc wB hTab qb t D w v lk n a s ao m c (by omega) h ht leA
 by_cases hk30:k=30
 ·subst hk30;have e:simple false a 30 n s t.l (t.l.map (prO false)) (t.l.map (prB false))=[AW].map W:=by
   show [W AW]=_
   exact ctA
  rw[e]at hl ⊢;exact Rb wB hTab qb t D w v lk n a s ao m c  h ht leA
 by_cases hk34:k=34
 ·subst hk34;have e:simple false a 34 n s t.l (t.l.map (prO false)) (t.l.map (prB false))=[mK].map W++((t.l.map (prO false)).flatten):=by
   show W mK::(t.l.map (prO false)).flatten=_
   exact ctA
  rw[e]at hl ⊢;exact Qv wB hTab qb t D w v lk n a s ao m c  h ht leA
 by_cases hk35:k=35
 ·subst hk35;have e:simple false a 35 n s t.l (t.l.map (prO false)) (t.l.map (prB false))=[lQ].map W++((t.l.map (prO false)).flatten):=by
   show W lQ::(t.l.map (prO false)).flatten=_
   exact ctA
  rw[e]at hl ⊢;exact QT wB hTab qb t D w v lk n a s ao m c  h ht leA
 by_cases hk36:k=36
 ·subst hk36;have e:simple false a 36 n s t.l (t.l.map (prO false)) (t.l.map (prB false))=[iB,s].map W++(opt Jw (Px.part t.l 0) (prO false (Px.part t.l 0))++(opt wIN (Px.part t.l 1) (prO false (Px.part t.l 1)))):=by
   show W (kw false a iB BB)::W s::(opt Jw (Px.part t.l 0) (ct (t.l.map (prO false)) 0)++opt wIN (Px.part t.l 1) (ct (t.l.map (prO false)) 1))=_
   exact ctA
  rw[e]at hl ⊢;exact QJ wB hTab qb t D w v lk n a s ao m c  h ht leA
 by_cases hk37:k=37
 ·subst hk37;have e:simple false a 37 n s t.l (t.l.map (prO false)) (t.l.map (prB false))=[Ab].map W++(prO false (Px.part t.l 0)++(opt wIN (Px.part t.l 1) (prO false (Px.part t.l 1)))):=by
   show W Ab::(ct (t.l.map (prO false)) 0++opt wIN (Px.part t.l 1) (ct (t.l.map (prO false)) 1))=_
   exact ctA
  rw[e]at hl ⊢;exact QV wB hTab qb t D w v lk n a s ao m c  h ht leA
 by_cases hk38:k=38
 ·subst hk38;have e:simple false a 38 n s t.l (t.l.map (prO false)) (t.l.map (prB false))=[Hw].map W++(lS s++(mW n++(pF (Px.part t.l 0) (Px.part t.l 1)))):=by
   show W (if (38:Int)=38 then Hw else JZ)::((if s.size=0 then []else [W gZ,O sLP,W s,O sRP])++((if n=0 then []else [W xK,O sLP,Nm n,O sRP])++(if (Px.part t.l 1).kind≠10 then W rV::(cb (t.l.map (prB false)) 0++cb (t.l.map (prB false)) 1)else if (Px.part t.l 0).kind≠10 then W xI::cb (t.l.map (prB false)) 0 else [])))=_
   exact ctA
  rw[e]at hl ⊢;exact Qx wB hTab qb t D w v lk n a s ao m c ([Hw].map W++(lS s++(mW n++(pF (Px.part t.l 0) (Px.part t.l 1))))) (fun w' v' l' h' hl'=>Rl wB hTab qb t D w' v' l' n a s ao m c 38 Hw (.inl ⟨rfl,rfl⟩) hnr h' ht hl') h ht leA
 by_cases hk39:k=39
 ·subst hk39;have e:simple false a 39 n s t.l (t.l.map (prO false)) (t.l.map (prB false))=[JZ].map W++(lS s++(mW n++(pF (Px.part t.l 0) (Px.part t.l 1)))):=by
   show W (if (39:Int)=38 then Hw else JZ)::((if s.size=0 then []else [W gZ,O sLP,W s,O sRP])++((if n=0 then []else [W xK,O sLP,Nm n,O sRP])++(if (Px.part t.l 1).kind≠10 then W rV::(cb (t.l.map (prB false)) 0++cb (t.l.map (prB false)) 1)else if (Px.part t.l 0).kind≠10 then W xI::cb (t.l.map (prB false)) 0 else [])))=_
   exact ctA
  rw[e]at hl ⊢;exact QA wB hTab qb t D w v lk n a s ao m c ([JZ].map W++(lS s++(mW n++(pF (Px.part t.l 0) (Px.part t.l 1))))) (fun w' v' l' h' hl'=>Rl wB hTab qb t D w' v' l' n a s ao m c 39 JZ (.inr ⟨rfl,rfl⟩) hnr h' ht hl') h ht leA
 by_cases hk43:k=43
 ·subst hk43;have e:simple false a 43 n s t.l (t.l.map (prO false)) (t.l.map (prB false))=([Ai,gZ].map W++([sLP].map O++([s].map W++[sRP].map O)))++(opt wW (Px.part t.l 0) (prO false (Px.part t.l 0))++(opt pM (Px.part t.l 1) (prO false (Px.part t.l 1)))):=by
   show uE Ai s++(opt wW (Px.part t.l 0) (ct (t.l.map (prO false)) 0)++opt pM (Px.part t.l 1) (ct (t.l.map (prO false)) 1))=_
   exact ctA
  rw[e]at hl ⊢;exact Qj wB hTab qb t D w v lk n a s ao m c  h ht leA
 by_cases hk44:k=44
 ·subst hk44;have e:simple false a 44 n s t.l (t.l.map (prO false)) (t.l.map (prB false))=([sB,gZ].map W++([sLP].map O++([s].map W++[sRP].map O)))++(opt kP (Px.part t.l 0) (prO false (Px.part t.l 0))++(opt hZ (Px.part t.l 1) (prO false (Px.part t.l 1)))):=by
   show uE sB s++(opt kP (Px.part t.l 0) (ct (t.l.map (prO false)) 0)++opt hZ (Px.part t.l 1) (ct (t.l.map (prO false)) 1))=_
   exact ctA
  rw[e]at hl ⊢;exact Qz wB hTab qb t D w v lk n a s ao m c  h ht leA
 by_cases hk45:k=45
 ·subst hk45;have e:simple false a 45 n s t.l (t.l.map (prO false)) (t.l.map (prB false))=([jD,gZ].map W++([sLP].map O++([s].map W++[sRP].map O)))++(opt kP (Px.part t.l 0) (prO false (Px.part t.l 0))++(opt pM (Px.part t.l 1) (prO false (Px.part t.l 1)))):=by
   show uE jD s++(opt kP (Px.part t.l 0) (ct (t.l.map (prO false)) 0)++opt pM (Px.part t.l 1) (ct (t.l.map (prO false)) 1))=_
   exact ctA
  rw[e]at hl ⊢;exact QG wB hTab qb t D w v lk n a s ao m c  h ht leA
 by_cases hk46:k=46
 ·subst hk46;have e:simple false a 46 n s t.l (t.l.map (prO false)) (t.l.map (prB false))=([mM,gZ].map W++([sLP].map O++([s].map W++[sRP].map O)))++(opt pM (Px.part t.l 0) (prO false (Px.part t.l 0))):=by
   show uE mM s++(opt pM (Px.part t.l 0) (ct (t.l.map (prO false)) 0))=_
   exact ctA
  rw[e]at hl ⊢;exact QO wB hTab qb t D w v lk n a s ao m c  h ht leA
 by_cases hk47:k=47
 ·subst hk47;have e:simple false a 47 n s t.l (t.l.map (prO false)) (t.l.map (prB false))=[fI].map W++(aO (t.l.map (prO false))):=by
   show W (kw false a fI Ki)::aO (t.l.map (prO false))=_
   exact ctA
  rw[e]at hl ⊢;exact QH wB hTab qb t D w v lk n a s ao m c  h ht leA
 have e:simple false a k n s t.l (t.l.map (prO false)) (t.l.map (prB false))=[]:=by
  unfold Px.simple
  iterate 11 rw[if_neg (by assumption)]
  rw[if_neg (fun h=>h.elim hk38 hk39)]
  iterate 5 rw[if_neg (by assumption)]
 rw[e]at hl ⊢;exact Ng wB hTab qb t D w v lk k n a s ao m c hk24 hk25 hk26 hk27 hk28 hk29 hk30 hk34 hk35 hk36 hk37 hk38 hk39 hk43 hk44 hk45 hk46 hk47 h ht leA
theorem QU: PG 143 18 fun t n a s=>[wDO].map W++(opt eM (Px.part t.l 0) (prO false (Px.part t.l 0))++(opt eL (Px.part t.l 1) (prO false (Px.part t.l 1))++(Px.group ((t.l.drop 2).map (prO false))))):=oT
theorem Pf(wB:World)(hTab:eJ wB)(qb:Nat)(t:T)(D:PD wB qb t)(w:World)(v:Value)(l:List Tk)(n a:Int)(s:ByteArray)(ao:Option Addr)(m c:Nat)(hk0:(Px.part t.l 0).kind=10)(h:Pt wB qb w v l)(ht:Tr wB t (vT 20 n a s ao m c))(hl:l.length+([fY].map W++(Px.group ((t.l.drop 1).map (prO false)))).length≤dK) :
 Calls Tryz.prog 143 #[pq qb,tg 20 n a s ao m c] w (PrQ wB qb w v l ([fY].map W++(Px.group ((t.l.drop 1).map (prO false))))):=cM
theorem OJ(wB:World)(hTab:eJ wB)(qb:Nat)(t:T)(D:PD wB qb t)(w:World)(v:Value)(l:List Tk)(n a:Int)(s:ByteArray)(ao:Option Addr)(m c:Nat)(hk0:¬ (Px.part t.l 0).kind=10)(h:Pt wB qb w v l)(ht:Tr wB t (vT 20 n a s ao m c))(hl:l.length+([fY].map W++(cD ([Px.part t.l 0].map (prO false))++(Px.group ((t.l.drop 1).map (prO false))))).length≤dK) :
 Calls Tryz.prog 143 #[pq qb,tg 20 n a s ao m c] w (PrQ wB qb w v l ([fY].map W++(cD ([Px.part t.l 0].map (prO false))++(Px.group ((t.l.drop 1).map (prO false)))))):=cM
theorem QL(wB:World)(hTab:eJ wB)(qb:Nat)(t:T)(D:PD wB qb t)(w:World)(v:Value)(l:List Tk)(n a:Int)(s:ByteArray)(ao:Option Addr)(m c:Nat)(nn:Nat)(hnn:nn=t.l.length - 1)(h:Pt wB qb w v l)(ht:Tr wB t (vT 21 n a s ao m c))(hl:l.length+([sR].map W++(cD ((t.l.take nn).map (prO false))++(((t.l.drop nn).map (prO false)).flatten))).length≤dK):Calls Tryz.prog 143 #[pq qb,tg 21 n a s ao m c] w (PrQ wB qb w v l ([sR].map W++(cD ((t.l.take nn).map (prO false))++(((t.l.drop nn).map (prO false)).flatten)))):=by
 obtain⟨b1,n1,h1,ho,hq,hz⟩:=gT h (tg 21 n a s ao m c);go_enter Tryz.func143,Tryz.ntmps143;go_upto_region 1 with fail;generalize World.alloc w _=w1 at b1 n1 h1 hz ⊢;generalize w.heap.size=B3 at n1 ho hq hz ⊢;obtain⟨KT,S0,HZ,HN⟩:=kt1 h1 hz hq ho n1;have hmm:=ht.split.2.2.2.2;have hnm:nn≤m:=by omega
 have hmx:max ((m:Int) - 1) 0=(nn:Int):=by omega
 have HMX:=hdq hmx;have hcp:nn≤c:=by have:=ht.cap;omega
 clear hmm hnn;have:=tvk KT S0;have hmx2:=HMX.out;have hmD:=D.n;have hmm2:m≤1000000:=by have:=ht.split.2.2.2.2;omega
 have:=tvk KT S0;go_upto_block 33 with fail;refine m2q (S0.aL [sR] aJ #[.string ⟨#[87,72,69,78]⟩] rfl 1 rfl) fun x1 S1=>?_;have:=tvk KT S1;go_upto_block 34 with fail;refine m2q (S1.aU ((eF.tree S1.low ht).take nn (by omega) _) (by have:=D.n;rw[List.length_take];omega) (fun y hy=>D.l y (List.mem_of_mem_take hy)) aJ) fun x2 S2=>?_;have:=tvk KT S2;go_upto_block 35 with fail;refine(S2.iD ht nn).mono ?_;rintro e x3 ⟨⟨y3,rfl,hx3⟩,S3⟩;go_upto_block 35 with fail;refine m2q (S3.dV hx3 (by have:=D.n;rw[List.length_drop];omega) (fun y hy=>D.l y (List.mem_of_mem_drop hy)) aJ) fun x4 S4=>?_;have P:=eS S4 b1 l ([sR].map W++(cD ((t.l.take nn).map (prO false))++(((t.l.drop nn).map (prO false)).flatten)));clear hl h h1 b1 S0 S1 S2 S3 S4
 go_wp2
 go_end0;exact P
theorem QW: PG 143 22 fun t n a s=>[eZ].map W++((t.l.map (prO false)).flatten):=oT
theorem OT(wB:World)(hTab:eJ wB)(qb:Nat)(t:T)(D:PD wB qb t)(w:World)(v:Value)(l:List Tk)(n a:Int)(s:ByteArray)(ao:Option Addr)(m c:Nat)(hm:¬ (2:Int)<(m:Int))(h:Pt wB qb w v l)(ht:Tr wB t (vT 23 n a s ao m c))(hl:l.length+([wIF].map W++(prO false (Px.part t.l 0)++([kY].map W++(prO false (Px.part t.l 1))))).length≤dK) :
 Calls Tryz.prog 143 #[pq qb,tg 23 n a s ao m c] w (PrQ wB qb w v l ([wIF].map W++(prO false (Px.part t.l 0)++([kY].map W++(prO false (Px.part t.l 1)))))):=cM
theorem PB(wB:World)(hTab:eJ wB)(qb:Nat)(t:T)(D:PD wB qb t)(w:World)(v:Value)(l:List Tk)(n a:Int)(s:ByteArray)(ao:Option Addr)(m c:Nat)(hm:(2:Int)<(m:Int))(h:Pt wB qb w v l)(ht:Tr wB t (vT 23 n a s ao m c))(hl:l.length+([wIF].map W++(prO false (Px.part t.l 0)++([kY].map W++(prO false (Px.part t.l 1)++([sY].map W++(((t.l.drop 2).map (prO false)).flatten)))))).length≤dK) :
 Calls Tryz.prog 143 #[pq qb,tg 23 n a s ao m c] w (PrQ wB qb w v l ([wIF].map W++(prO false (Px.part t.l 0)++([kY].map W++(prO false (Px.part t.l 1)++([sY].map W++(((t.l.drop 2).map (prO false)).flatten))))))):=cM
theorem QS: PG 143 32 fun t n a s=>[wON].map W++(prO false (Px.part t.l 0)++(((t.l.drop 1).map (prO false)).flatten)):=oT
theorem Qk: PG 143 33 fun t n a s=>[jQ].map W++([aS].map O):=oT
theorem Rf: PG 143 31 fun t n a s=>[aS].map O:=oT
theorem Ny(wB:World)(hTab:eJ wB)(qb:Nat)(t:T)(D:PD wB qb t)(w:World)(v:Value)(l:List Tk)(k n a:Int)(s:ByteArray)(ao:Option Addr)(m c:Nat)(h18:¬ k=18)(h19:¬ k=19)(h20:¬ k=20)(h21:¬ k=21)(h22:¬ k=22)(h23:¬ k=23)(h32:¬ k=32)(h33:¬ k=33)(h31:¬ k=31)(X:List Tk)(hX:∀ w v l,Pt wB qb w v l→l.length+X.length+1≤dK→Calls Tryz.prog 159 #[pq qb,tg k n a s ao m c] w (PrQ wB qb w v l X))(h:Pt wB qb w v l)(ht:Tr wB t (vT k n a s ao m c))(hl:l.length+(X++([aS].map O)).length≤dK) :
 Calls Tryz.prog 143 #[pq qb,tg k n a s ao m c] w (PrQ wB qb w v l (X++([aS].map O))):=cM
theorem QI: PG 143 19 fun t n a s=>[wDO].map W++(prO false (Px.part t.l 0)++([sEQ].map O++(prO false (Px.part t.l 1)++(qX wTO (Px.part t.l 2) (prO false (Px.part t.l 2))++(qX wBY (Px.part t.l 3) (prO false (Px.part t.l 3))++(opt eM (Px.part t.l 4) (prO false (Px.part t.l 4))++(opt eL (Px.part t.l 5) (prO false (Px.part t.l 5))++(Px.group ((t.l.drop 6).map (prO false)))))))))):=by
 intro wB hTab qb t D w v l n a s ao m c h ht hl;obtain⟨b1,n1,h1,ho,hq,hz⟩:=gT h (tg 19 n a s ao m c);go_enter Tryz.func143,Tryz.ntmps143;go_upto_region 1 with fail;generalize World.alloc w _=w1 at b1 n1 h1 hz ⊢;generalize w.heap.size=B3 at n1 ho hq hz ⊢;obtain⟨KT,S0,HZ,HN⟩:=kt1 h1 hz hq ho n1;have:=tvk KT S0;go_upto_block 10 with fail;refine m2q (S0.aL [wDO] aJ #[.string ⟨#[68,79]⟩] rfl 1 rfl) fun x1 S1=>?_;have:=tvk KT S1;go_upto_block 11 with fail;refine(S1.aY ht 0).mono ?_;rintro e x2 ⟨⟨k2,n2,a2,s2,o2,m2,c2,rfl,hx2⟩,S2⟩;go_upto_block 11 with fail;refine m2q (S2.aN (D.p 0) hx2 aJ) fun x3 S3=>?_;have:=tvk KT S3;go_upto_block 12 with fail;refine m2q (S3.opC [sEQ] aJ #[.string ⟨#[61]⟩] rfl 1 rfl) fun x4 S4=>?_;have:=tvk KT S4;go_upto_block 13 with fail;refine(S4.aY ht 1).mono ?_;rintro e x5 ⟨⟨k5,n5,a5,s5,o5,m5,c5,rfl,hx5⟩,S5⟩;go_upto_block 13 with fail;refine m2q (S5.aN (D.p 1) hx5 aJ) fun x6 S6=>?_;obtain⟨v5,P5,M5,_⟩:=S6.ex;have bb:=aC x6 (.cells #[.string ⟨#[84,79]⟩,.string ⟨#[66,89]⟩] 9);have nx:=heap_alloc_new x6 (.cells #[.string ⟨#[84,79]⟩,.string ⟨#[66,89]⟩] 9);have hbq:x6.heap.size≠qb:=by have:=P5.lt;omega
 have hbo:v5.ownBlock≠some x6.heap.size:=fun e=>by have:=(P5.own.lt _ e).2;omega
 have P6:=P5.below bb;have M6:=M5.below bb;have t6:=KT.out _ _ _ (S6.below bb);have hx6:x6.heap.size<(x6.alloc (.cells #[.string ⟨#[84,79]⟩,.string ⟨#[66,89]⟩] 9)).heap.size:=by simp
 have ho6:v5.ownBlock≠some B3:=fun e=>by
  rcases M5.own _ e with h|h
  ·exact ho h
  ·have:=HZ.out;omega
 have:=tvk KT S6;go_wp2_with fail;generalize World.alloc x6 _=wz at bb nx P6 M6 t6 hx6 ⊢;generalize x6.heap.size=Bx at nx hbq hbo hx6 ⊢;have kt2:∀ (w':World) (l':List Tk) (rv:List (Nat×List Value)),SP wB qb wz v5 w' l' rv→TV w' B3 (.int .i64 19) n a s (.slice ao m c):=fun _ _ _ S=>(S.old t6.lt hq ho6).trans t6
 have kr:∀ (w':World) (l':List Tk) (rv:List (Nat×List Value)),SP wB qb wz v5 w' l' rv→w'.heap[Bx]?=some (.cells #[.string ⟨#[84,79]⟩,.string ⟨#[66,89]⟩] 9 (0,0)):=fun _ _ _ S=>(S.old hx6 hbq hbo).trans nx
 have S6a:SP wB qb wz v5 wz (l++([wDO].map W++(prO false (Px.part t.l 0)++([sEQ].map O++(prO false (Px.part t.l 1)))))) []:=SP.begin (by simpa only[List.append_assoc]using P6);clear KT;have KT:=hdq kt2;have KR:=hdq kr;have HM6:=hdq M6;clear kt2 kr M6 M5 P5 P6 t6 nx bb S0 S1 S2 S3 S4 S5 S6
 go_loopg [52] 2 (fun g tt wr=>(tt=.int .i64 0∧g=2∧SP wB qb wz v5 wr (l++([wDO].map W++(prO false (Px.part t.l 0)++([sEQ].map O++(prO false (Px.part t.l 1)))))) [])∨(tt=.int .i64 1∧g=1∧SP wB qb wz v5 wr ((l++([wDO].map W++(prO false (Px.part t.l 0)++([sEQ].map O++(prO false (Px.part t.l 1))))))++qX wTO (Px.part t.l 2) (prO false (Px.part t.l 2))) [])∨(tt=.int .i64 2∧g=0∧SP wB qb wz v5 wr ((l++([wDO].map W++(prO false (Px.part t.l 0)++([sEQ].map O++(prO false (Px.part t.l 1))))))++(qX wTO (Px.part t.l 2) (prO false (Px.part t.l 2))++qX wBY (Px.part t.l 3) (prO false (Px.part t.l 3)))) []))
 case atStart=>exact .inl ⟨rfl,rfl,S6a⟩
 case round=>
  clear S6a
  rcases hrel with ⟨rfl,hg,S20⟩|⟨rfl,hg,S20⟩|⟨rfl,hg,S20⟩
  ·have HG:=hdq hg;clear hg
   by_cases hk2:(Px.part t.l 2).kind=10
   ·have HP:=hdq (show qX wTO (Px.part t.l 2) (prO false (Px.part t.l 2))=[]by unfold qX;rw[if_pos hk2]);have kr1:=KR.out _ _ _ S20;have c0:wr.cell? ⟨Bx,0,none⟩=some (.string ⟨#[84,79]⟩):=cell_of_row _ _ 0 _ _ _ kr1;clear kr1;have:=tvk KT S20;go_upto_block 17 with fail;refine(S20.aY ht 2).mono ?_;rintro e x21 ⟨⟨k21,n21,a21,s21,o21,m21,c21,rfl,hx21⟩,S21⟩;have:=tvk KT S21;go_upto_region 18 with fail;have S22:=S21.cX (vT k21 n21 a21 s21 o21 m21 c21) (tg k21 n21 a21 s21 o21 m21 c21) rfl _ rfl;generalize World.alloc x21 _=x22 at S22 ⊢;have hz0:k21=10:=hx21.split.1.trans hk2;subst hz0;clear hk2;have:=TV.facts (S22.facts 0 rfl);have SZ:=S22.less (rv':=[]) (fun _ h=>by cases h);clear S20 S21 S22;go_wp2_with fail
    go_roundg 1
    case measure=>rw[HG.out];omega
    case rel=>exact .inr (.inl ⟨by go_num,rfl,by rw[HP.out];simpa only[List.append_assoc,List.append_nil]using SZ⟩)
   ·have HP:=hdq (show qX wTO (Px.part t.l 2) (prO false (Px.part t.l 2))=[wTO].map W++prO false (Px.part t.l 2)by unfold qX;rw[if_neg hk2];rfl);have hpl:(qX wTO (Px.part t.l 2) (prO false (Px.part t.l 2))).length=1+(prO false (Px.part t.l 2)).length:=by rw[HP.out];simp only[List.length_append,List.length_map,List.length_cons,List.length_nil]
    have kr1:=KR.out _ _ _ S20;have c0:wr.cell? ⟨Bx,0,none⟩=some (.string ⟨#[84,79]⟩):=cell_of_row _ _ 0 _ _ _ kr1;clear kr1;have:=tvk KT S20;go_upto_block 17 with fail;refine(S20.aY ht 2).mono ?_;rintro e x21 ⟨⟨k21,n21,a21,s21,o21,m21,c21,rfl,hx21⟩,S21⟩;have:=tvk KT S21;go_upto_region 18 with fail;have S22:=S21.cX (vT k21 n21 a21 s21 o21 m21 c21) (tg k21 n21 a21 s21 o21 m21 c21) rfl _ rfl;generalize World.alloc x21 _=x22 at S22 ⊢;have hz0:¬ k21=10:=fun e=>hk2 (hx21.split.1.symm.trans e)
    clear hk2;have:=TV.facts (S22.facts 0 rfl);have:=tvk KT S22;go_upto_block 19 with fail;refine m2q (S22.aL [wTO] aJ #[.string ⟨#[84,79]⟩] rfl 1 rfl) fun x23 S23=>?_;have:=TV.facts (S23.facts 0 rfl);go_upto_block 20 with fail;refine m2q (S23.aN (D.p 2) hx21 aJ) fun x24 S24=>?_;have SZ:=S24.less (rv':=[]) (fun _ h=>by cases h);clear S20 S21 S22 S23 S24;go_wp2_with fail
    go_roundg 1
    case measure=>rw[HG.out];omega
    case rel=>exact .inr (.inl ⟨by go_num,rfl,by rw[HP.out];simpa only[List.append_assoc,List.append_nil]using SZ⟩)
  ·have HG:=hdq hg;clear hg
   by_cases hk2:(Px.part t.l 3).kind=10
   ·have HP:=hdq (show qX wBY (Px.part t.l 3) (prO false (Px.part t.l 3))=[]by unfold qX;rw[if_pos hk2]);have kr1:=KR.out _ _ _ S20;have c0:wr.cell? ⟨Bx,1,none⟩=some (.string ⟨#[66,89]⟩):=cell_of_row _ _ 1 _ _ _ kr1;clear kr1;have:=tvk KT S20;go_upto_block 17 with fail;refine(S20.aY ht 3).mono ?_;rintro e x21 ⟨⟨k21,n21,a21,s21,o21,m21,c21,rfl,hx21⟩,S21⟩;have:=tvk KT S21;go_upto_region 18 with fail;have S22:=S21.cX (vT k21 n21 a21 s21 o21 m21 c21) (tg k21 n21 a21 s21 o21 m21 c21) rfl _ rfl;generalize World.alloc x21 _=x22 at S22 ⊢;have hz0:k21=10:=hx21.split.1.trans hk2;subst hz0;clear hk2;have:=TV.facts (S22.facts 0 rfl);have SZ:=S22.less (rv':=[]) (fun _ h=>by cases h);clear S20 S21 S22;go_wp2_with fail
    go_roundg 0
    case measure=>rw[HG.out];omega
    case rel=>exact .inr (.inr ⟨by go_num,rfl,by rw[HP.out];simpa only[List.append_assoc,List.append_nil]using SZ⟩)
   ·have HP:=hdq (show qX wBY (Px.part t.l 3) (prO false (Px.part t.l 3))=[wBY].map W++prO false (Px.part t.l 3)by unfold qX;rw[if_neg hk2];rfl);have hpl:(qX wBY (Px.part t.l 3) (prO false (Px.part t.l 3))).length=1+(prO false (Px.part t.l 3)).length:=by rw[HP.out];simp only[List.length_append,List.length_map,List.length_cons,List.length_nil]
    have kr1:=KR.out _ _ _ S20;have c0:wr.cell? ⟨Bx,1,none⟩=some (.string ⟨#[66,89]⟩):=cell_of_row _ _ 1 _ _ _ kr1;clear kr1;have:=tvk KT S20;go_upto_block 17 with fail;refine(S20.aY ht 3).mono ?_;rintro e x21 ⟨⟨k21,n21,a21,s21,o21,m21,c21,rfl,hx21⟩,S21⟩;have:=tvk KT S21;go_upto_region 18 with fail;have S22:=S21.cX (vT k21 n21 a21 s21 o21 m21 c21) (tg k21 n21 a21 s21 o21 m21 c21) rfl _ rfl;generalize World.alloc x21 _=x22 at S22 ⊢;have hz0:¬ k21=10:=fun e=>hk2 (hx21.split.1.symm.trans e)
    clear hk2;have:=TV.facts (S22.facts 0 rfl);have:=tvk KT S22;go_upto_block 19 with fail;refine m2q (S22.aL [wBY] aJ #[.string ⟨#[66,89]⟩] rfl 1 rfl) fun x23 S23=>?_;have:=TV.facts (S23.facts 0 rfl);go_upto_block 20 with fail;refine m2q (S23.aN (D.p 3) hx21 aJ) fun x24 S24=>?_;have SZ:=S24.less (rv':=[]) (fun _ h=>by cases h);clear S20 S21 S22 S23 S24;go_wp2_with fail
    go_roundg 0
    case measure=>rw[HG.out];omega
    case rel=>exact .inr (.inr ⟨by go_num,rfl,by rw[HP.out];simpa only[List.append_assoc,List.append_nil]using SZ⟩)
  ·clear hg;have:=tvk KT S20;go_upto_block 22 with fail;refine(S20.aY ht 4).mono ?_;rintro e x21 ⟨⟨k21,n21,a21,s21,o21,m21,c21,rfl,hx21⟩,S21⟩;go_upto_block 22 with fail;refine m2q (S21.gY eM hx21 (fun _=>D.p 4) aJ) fun x22 S22=>?_;have:=tvk KT S22;go_upto_block 23 with fail;refine(S22.aY ht 5).mono ?_;rintro e x23 ⟨⟨k23,n23,a23,s23,o23,m23,c23,rfl,hx23⟩,S23⟩;go_upto_block 23 with fail;refine m2q (S23.gY eL hx23 (fun _=>D.p 5) aJ) fun x24 S24=>?_;have:=tvk KT S24;go_upto_block 24 with fail;refine(S24.iD ht 6).mono ?_;rintro e x25 ⟨⟨y25,rfl,hx25⟩,S25⟩;go_upto_block 24 with fail;refine m2q (S25.iF hx25 (by have:=D.n;rw[List.length_drop];omega) (fun y hy=>D.l y (List.mem_of_mem_drop hy)) aJ) fun x26 S26=>?_;have P:PrQ wB qb w v l ([wDO].map W++(prO false (Px.part t.l 0)++([sEQ].map O++(prO false (Px.part t.l 1)++(qX wTO (Px.part t.l 2) (prO false (Px.part t.l 2))++(qX wBY (Px.part t.l 3) (prO false (Px.part t.l 3))++(opt eM (Px.part t.l 4) (prO false (Px.part t.l 4))++(opt eL (Px.part t.l 5) (prO false (Px.part t.l 5))++(Px.group ((t.l.drop 6).map (prO false))))))))))) (.returned (.tuple #[])) _:=PrQ.pre (by obtain⟨vz,g1,g2,_⟩:=S26.ex;exact⟨rfl,vz,by simpa only[List.append_assoc]using g1,HM6.out.trans g2⟩) b1;clear hl h h1 b1 S20 S21 S22 S23 S24 S25 S26
   go_wp2
   go_end0;exact P
end
end Go.Proofs.YtfdlmcgcckkkdaaGreatDoor
