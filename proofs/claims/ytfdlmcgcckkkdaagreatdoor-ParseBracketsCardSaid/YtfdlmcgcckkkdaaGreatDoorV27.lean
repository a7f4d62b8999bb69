/- ParseWhole, part 27: what it stands on. -/
import Derived.Test.YtfdlmcgcckkkdaaGreatDoorV25
import Derived.Test.YtfdlmcgcckkkdaaGreatDoorV26
import Derived.Test.YtfdlmcgcckkkdaaGreatDoorV23
import Derived.Test.YtfdlmcgcckkkdaaGreatDoorV22
import Derived.Test.YtfdlmcgcckkkdaaGreatDoorV15
set_option linter.all false
set_option maxHeartbeats 40000000
set_option maxRecDepth 100000
namespace Go.Proofs.YtfdlmcgcckkkdaaGreatDoor
section
open Go.RowKit Lx Px
theorem CA(wB:World)(hTab:eJ wB)(qb:Nat)(t:T)(D:PD wB qb t)(w:World)(v:Value)(lk:List Tk)(k n a:Int)(s:ByteArray)(ao:Option Addr)(m c:Nat)(h:Pt wB qb w v lk)(ht:Tr wB t (vT k n a s ao m c))(hl:lk.length+(gQ false a k n s t.l (t.l.map (prO false)) (t.l.map (prB false))).length≤dK):Calls Tryz.prog 143 #[pq qb,tg k n a s ao m c] w (PrQ wB qb w v lk (gQ false a k n s t.l (t.l.map (prO false)) (t.l.map (prB false)))):=by
 have hnr : -9223372036854775808≤n∧n≤9223372036854775807:=by rw[ht.split.2.1];exact D.r
 have hm5:=ht.split.2.2.2.2
 by_cases hk18:k=18
 ·subst hk18;have e:gQ false a 18 n s t.l (t.l.map (prO false)) (t.l.map (prB false))=[wDO].map W++(opt eM (Px.part t.l 0) (prO false (Px.part t.l 0))++(opt eL (Px.part t.l 1) (prO false (Px.part t.l 1))++(Px.group ((t.l.drop 2).map (prO false))))):=by
   show W wDO::(opt eM (Px.part t.l 0) (ct (t.l.map (prO false)) 0)++(opt eL (Px.part t.l 1) (ct (t.l.map (prO false)) 1)++Px.group ((t.l.map (prO false)).drop 2)))=_
   exact ctA
  rw[e]at hl ⊢;exact QU wB hTab qb t D w v lk n a s ao m c  h ht hl
 by_cases hk19:k=19
 ·subst hk19;have e:gQ false a 19 n s t.l (t.l.map (prO false)) (t.l.map (prB false))=[wDO].map W++(prO false (Px.part t.l 0)++([sEQ].map O++(prO false (Px.part t.l 1)++(qX wTO (Px.part t.l 2) (prO false (Px.part t.l 2))++(qX wBY (Px.part t.l 3) (prO false (Px.part t.l 3))++(opt eM (Px.part t.l 4) (prO false (Px.part t.l 4))++(opt eL (Px.part t.l 5) (prO false (Px.part t.l 5))++(Px.group ((t.l.drop 6).map (prO false)))))))))):=by
   show W wDO::(ct (t.l.map (prO false)) 0++O sEQ::(ct (t.l.map (prO false)) 1++(qX wTO (Px.part t.l 2) (ct (t.l.map (prO false)) 2)++(qX wBY (Px.part t.l 3) (ct (t.l.map (prO false)) 3)++(opt eM (Px.part t.l 4) (ct (t.l.map (prO false)) 4)++(opt eL (Px.part t.l 5) (ct (t.l.map (prO false)) 5)++Px.group ((t.l.map (prO false)).drop 6)))))))=_
   exact ctA
  rw[e]at hl ⊢;exact QI wB hTab qb t D w v lk n a s ao m c  h ht hl
 by_cases hk20:k=20
 ·subst hk20
  by_cases hcd:(Px.part t.l 0).kind=10
  ·have e:gQ false a 20 n s t.l (t.l.map (prO false)) (t.l.map (prB false))=[fY].map W++(Px.group ((t.l.drop 1).map (prO false))):=by
    show W fY::((if (Px.part t.l 0).kind=10 then []else cD [ct (t.l.map (prO false)) 0])++Px.group ((t.l.map (prO false)).drop 1))=_
    rw[if_pos hcd];exact ctA
   rw[e]at hl ⊢;exact Pf wB hTab qb t D w v lk n a s ao m c hcd h ht hl
  ·have e:gQ false a 20 n s t.l (t.l.map (prO false)) (t.l.map (prB false))=[fY].map W++(cD ([Px.part t.l 0].map (prO false))++(Px.group ((t.l.drop 1).map (prO false)))):=by
    show W fY::((if (Px.part t.l 0).kind=10 then []else cD [ct (t.l.map (prO false)) 0])++Px.group ((t.l.map (prO false)).drop 1))=_
    rw[if_neg hcd];exact ctA
   rw[e]at hl ⊢;exact OJ wB hTab qb t D w v lk n a s ao m c hcd h ht hl
 by_cases hk21:k=21
 ·subst hk21;have e:gQ false a 21 n s t.l (t.l.map (prO false)) (t.l.map (prB false))=[sR].map W++(cD ((t.l.take (t.l.length - 1)).map (prO false))++(((t.l.drop (t.l.length - 1)).map (prO false)).flatten)):=by
   show W sR::(cD ((t.l.map (prO false)).take (t.l.length - 1))++((t.l.map (prO false)).drop (t.l.length - 1)).flatten)=_
   exact ctA
  rw[e]at hl ⊢;exact QL wB hTab qb t D w v lk n a s ao m c _ rfl h ht hl
 by_cases hk22:k=22
 ·subst hk22;have e:gQ false a 22 n s t.l (t.l.map (prO false)) (t.l.map (prB false))=[eZ].map W++((t.l.map (prO false)).flatten):=by
   show W (kw false a eZ yK)::(t.l.map (prO false)).flatten=_
   exact ctA
  rw[e]at hl ⊢;exact QW wB hTab qb t D w v lk n a s ao m c  h ht hl
 by_cases hk23:k=23
 ·subst hk23
  by_cases hcd:2<t.l.length
  ·have e:gQ false a 23 n s t.l (t.l.map (prO false)) (t.l.map (prB false))=[wIF].map W++(prO false (Px.part t.l 0)++([kY].map W++(prO false (Px.part t.l 1)++([sY].map W++(((t.l.drop 2).map (prO false)).flatten))))):=by
    show W wIF::(ct (t.l.map (prO false)) 0++W kY::(ct (t.l.map (prO false)) 1++(if 2<t.l.length then W sY::((t.l.map (prO false)).drop 2).flatten else [])))=_
    rw[if_pos hcd];exact ctA
   rw[e]at hl ⊢;exact PB wB hTab qb t D w v lk n a s ao m c (by omega) h ht hl
  ·have e:gQ false a 23 n s t.l (t.l.map (prO false)) (t.l.map (prB false))=[wIF].map W++(prO false (Px.part t.l 0)++([kY].map W++(prO false (Px.part t.l 1)))):=by
    show W wIF::(ct (t.l.map (prO false)) 0++W kY::(ct (t.l.map (prO false)) 1++(if 2<t.l.length then W sY::((t.l.map (prO false)).drop 2).flatten else [])))=_
    rw[if_neg hcd];exact ctA
   rw[e]at hl ⊢;exact OT wB hTab qb t D w v lk n a s ao m c (by omega) h ht hl
 by_cases hk32:k=32
 ·subst hk32;have e:gQ false a 32 n s t.l (t.l.map (prO false)) (t.l.map (prB false))=[wON].map W++(prO false (Px.part t.l 0)++(((t.l.drop 1).map (prO false)).flatten)):=by
   show W wON::(ct (t.l.map (prO false)) 0++((t.l.map (prO false)).drop 1).flatten)=_
   exact ctA
  rw[e]at hl ⊢;exact QS wB hTab qb t D w v lk n a s ao m c  h ht hl
 by_cases hk33:k=33
 ·subst hk33;have e:gQ false a 33 n s t.l (t.l.map (prO false)) (t.l.map (prB false))=[jQ].map W++([aS].map O):=by
   show [W jQ,O aS]=_
   exact ctA
  rw[e]at hl ⊢;exact Qk wB hTab qb t D w v lk n a s ao m c  h ht hl
 by_cases hk31:k=31
 ·subst hk31;have e:gQ false a 31 n s t.l (t.l.map (prO false)) (t.l.map (prB false))=[aS].map O:=by
   show [O aS]=_
   exact ctA
  rw[e]at hl ⊢;exact Rf wB hTab qb t D w v lk n a s ao m c  h ht hl
 have e:gQ false a k n s t.l (t.l.map (prO false)) (t.l.map (prB false))=simple false a k n s t.l (t.l.map (prO false)) (t.l.map (prB false))++[aS].map O:=by
  unfold Px.gQ
  iterate 9 rw[if_neg (by assumption)]
  rfl
 rw[e]at hl ⊢;exact Ny wB hTab qb t D w v lk k n a s ao m c hk18 hk19 hk20 hk21 hk22 hk23 hk32 hk33 hk31 _ (fun w' v' l' h' hl'=>Dh wB hTab qb t D w' v' l' k n a s ao m c h' ht hl') h ht hl
theorem xM(wB:World)(hTab:eJ wB)(qb:Nat)(t:T)(D:PD wB qb t)(w:World)(v:Value)(lk:List Tk)(k n a:Int)(s:ByteArray)(ao:Option Addr)(m c:Nat)(h:Pt wB qb w v lk)(ht:Tr wB t (vT k n a s ao m c))(hl:lk.length+(Px.eA false a k n s t.l (t.l.map (prO false)) (t.l.map (prB false)) (t.l.map (prS false))).length≤dK):Calls Tryz.prog 122 #[pq qb,tg k n a s ao m c] w (PrQ wB qb w v lk (Px.eA false a k n s t.l (t.l.map (prO false)) (t.l.map (prB false)) (t.l.map (prS false)))):=by
 have hnr : -9223372036854775808≤n∧n≤9223372036854775807:=by rw[ht.split.2.1];exact D.r
 have hm5:=ht.split.2.2.2.2
 by_cases hk13:k=13
 ·subst hk13;have e:Px.eA false a 13 n s t.l (t.l.map (prO false)) (t.l.map (prB false)) (t.l.map (prS false))=cD ((t.l.take (t.l.length - 1)).map (prO false))++([bY].map O++(((t.l.drop (t.l.length - 1)).map (prO false)).flatten)):=by
   show cD ((t.l.map (prO false)).take (t.l.length - 1))++O bY::((t.l.map (prO false)).drop (t.l.length - 1)).flatten=_
   exact ctA
  rw[e]at hl ⊢;exact QQ wB hTab qb t D w v lk n a s ao m c _ rfl h ht hl
 by_cases hk14:k=14
 ·subst hk14;have e:Px.eA false a 14 n s t.l (t.l.map (prO false)) (t.l.map (prB false)) (t.l.map (prS false))=[s].map W++([bY].map O++((t.l.map (prO false)).flatten)):=by
   show W s::O bY::(t.l.map (prO false)).flatten=_
   exact ctA
  rw[e]at hl ⊢;exact Ra wB hTab qb t D w v lk n a s ao m c  h ht hl
 by_cases hk15:k=15
 ·subst hk15;have hz:(Px.part t.l 0).l=[]↔(Px.part t.l 0).l.length=0:=List.length_eq_zero_iff.symm;have e0:Px.eA false a 15 n s t.l (t.l.map (prO false)) (t.l.map (prB false)) (t.l.map (prS false))=W (kw false a aE pT)::((if (Px.part t.l 0).l=[]then []else cb (t.l.map (prB false)) 0)++((if n=1 then [W bZ,O sLP,W iV,O sRP]else if n=2 then [W bB]else [])++((if (Px.part t.l 1).kind=10 then []else W bI::O sLP::((t.l.map (prS false)).getD 1 []++[O sRP]))++Px.group ((t.l.map (prO false)).drop 2)))):=rfl;rw[kwF,wY,DC,← List.map_drop]at e0;rw[e0]at hl ⊢
  by_cases ha:(Px.part t.l 0).l.length=0
  ·rw[if_pos (hz.2 ha)]at hl ⊢
   by_cases hn1:n=1
   ·subst hn1;rw[if_pos rfl]at hl ⊢
    by_cases hk1:(Px.part t.l 1).kind=10
    ·rw[if_pos hk1]at hl ⊢;have X:=He wB hTab qb t D w v lk a s ao m c ha hk1 h ht;simp only[List.map_cons,List.map_nil,List.cons_append,List.nil_append,List.append_assoc,List.length_cons,List.length_nil,List.length_append]at X hl ⊢
     exact X (by omega)
    ·rw[if_neg hk1]at hl ⊢;have X:=Jo wB hTab qb t D w v lk a s ao m c ha hk1 h ht;simp only[List.map_cons,List.map_nil,List.cons_append,List.nil_append,List.append_assoc,List.length_cons,List.length_nil,List.length_append]at X hl ⊢
     exact X (by omega)
   rw[if_neg hn1]at hl ⊢
   by_cases hn2:n=2
   ·subst hn2;rw[if_pos rfl]at hl ⊢
    by_cases hk1:(Px.part t.l 1).kind=10
    ·rw[if_pos hk1]at hl ⊢;have X:=IY wB hTab qb t D w v lk a s ao m c ha hk1 h ht;simp only[List.map_cons,List.map_nil,List.cons_append,List.nil_append,List.append_assoc,List.length_cons,List.length_nil,List.length_append]at X hl ⊢
     exact X (by omega)
    ·rw[if_neg hk1]at hl ⊢;have X:=JA wB hTab qb t D w v lk a s ao m c ha hk1 h ht;simp only[List.map_cons,List.map_nil,List.cons_append,List.nil_append,List.append_assoc,List.length_cons,List.length_nil,List.length_append]at X hl ⊢
     exact X (by omega)
   ·rw[if_neg hn2]at hl ⊢
    by_cases hk1:(Px.part t.l 1).kind=10
    ·rw[if_pos hk1]at hl ⊢;have X:=JG wB hTab qb t D w v lk n a s ao m c ha hn1 hn2 hk1 h ht;simp only[List.map_cons,List.map_nil,List.cons_append,List.nil_append,List.append_assoc,List.length_cons,List.length_nil,List.length_append]at X hl ⊢
     exact X (by omega)
    ·rw[if_neg hk1]at hl ⊢;have X:=JW wB hTab qb t D w v lk n a s ao m c ha hn1 hn2 hk1 h ht;simp only[List.map_cons,List.map_nil,List.cons_append,List.nil_append,List.append_assoc,List.length_cons,List.length_nil,List.length_append]at X hl ⊢
     exact X (by omega)
  ·rw[if_neg (fun q=>ha (hz.1 q))]at hl ⊢
   by_cases hn1:n=1
   ·subst hn1;rw[if_pos rfl]at hl ⊢
    by_cases hk1:(Px.part t.l 1).kind=10
    ·rw[if_pos hk1]at hl ⊢;have X:=GX wB hTab qb t D w v lk a s ao m c (by omega) hk1 h ht;simp only[List.map_cons,List.map_nil,List.cons_append,List.nil_append,List.append_assoc,List.length_cons,List.length_nil,List.length_append]at X hl ⊢
     exact X (by omega)
    ·rw[if_neg hk1]at hl ⊢;have X:=Jy wB hTab qb t D w v lk a s ao m c (by omega) hk1 h ht;simp only[List.map_cons,List.map_nil,List.cons_append,List.nil_append,List.append_assoc,List.length_cons,List.length_nil,List.length_append]at X hl ⊢
     exact X (by omega)
   rw[if_neg hn1]at hl ⊢
   by_cases hn2:n=2
   ·subst hn2;rw[if_pos rfl]at hl ⊢
    by_cases hk1:(Px.part t.l 1).kind=10
    ·rw[if_pos hk1]at hl ⊢;have X:=Hm wB hTab qb t D w v lk a s ao m c (by omega) hk1 h ht;simp only[List.map_cons,List.map_nil,List.cons_append,List.nil_append,List.append_assoc,List.length_cons,List.length_nil,List.length_append]at X hl ⊢
     exact X (by omega)
    ·rw[if_neg hk1]at hl ⊢;have X:=Hv wB hTab qb t D w v lk a s ao m c (by omega) hk1 h ht;simp only[List.map_cons,List.map_nil,List.cons_append,List.nil_append,List.append_assoc,List.length_cons,List.length_nil,List.length_append]at X hl ⊢
     exact X (by omega)
   ·rw[if_neg hn2]at hl ⊢
    by_cases hk1:(Px.part t.l 1).kind=10
    ·rw[if_pos hk1]at hl ⊢;have X:=Ja wB hTab qb t D w v lk n a s ao m c (by omega) hn1 hn2 hk1 h ht;simp only[List.map_cons,List.map_nil,List.cons_append,List.nil_append,List.append_assoc,List.length_cons,List.length_nil,List.length_append]at X hl ⊢
     exact X (by omega)
    ·rw[if_neg hk1]at hl ⊢;have X:=JL wB hTab qb t D w v lk n a s ao m c (by omega) hn1 hn2 hk1 h ht;simp only[List.map_cons,List.map_nil,List.cons_append,List.nil_append,List.append_assoc,List.length_cons,List.length_nil,List.length_append]at X hl ⊢
     exact X (by omega)
 by_cases hk16:k=16
 ·subst hk16;have e:Px.eA false a 16 n s t.l (t.l.map (prO false)) (t.l.map (prB false)) (t.l.map (prS false))=[qM].map W++(Px.group (t.l.map (prO false))):=by
   show W qM::Px.group (t.l.map (prO false))=_
   exact ctA
  rw[e]at hl ⊢;exact Qu wB hTab qb t D w v lk n a s ao m c  h ht hl
 by_cases hk17:k=17
 ·subst hk17;have e:Px.eA false a 17 n s t.l (t.l.map (prO false)) (t.l.map (prB false)) (t.l.map (prS false))=[wDO].map W++(Px.group (t.l.map (prO false))):=by
   show W wDO::Px.group (t.l.map (prO false))=_
   exact ctA
  rw[e]at hl ⊢;exact Qi wB hTab qb t D w v lk n a s ao m c  h ht hl
 have e:Px.eA false a k n s t.l (t.l.map (prO false)) (t.l.map (prB false)) (t.l.map (prS false))=gQ false a k n s t.l (t.l.map (prO false)) (t.l.map (prB false)):=by
  unfold Px.eA
  iterate 5 rw[if_neg (by assumption)]
 rw[e]at hl ⊢;exact NF wB hTab qb t D w v lk k n a s ao m c hk13 hk14 hk15 hk16 hk17 _ (fun w' v' l' h' hl'=>CA wB hTab qb t D w' v' l' k n a s ao m c h' ht hl') h ht hl
theorem Rz: PG 82 1 fun t n a s=>[(⟨n,s⟩:Tk)]:=by
 intro wB hTab qb t D w v l n a s ao m c h ht hl;obtain⟨b1,n1,h1,ho,hq,hz⟩:=gT h (tg 1 n a s ao m c);go_enter Tryz.func82,Tryz.ntmps82;go_upto_region 1 with fail;generalize World.alloc w _=w1 at b1 n1 h1 hz ⊢;generalize w.heap.size=B3 at n1 ho hq hz ⊢;obtain⟨KT,S0,HZ,HN⟩:=kt1 h1 hz hq ho n1;have:=tvk KT S0;go_upto_block 4 with fail;refine m2q (S0.call fun v' hv=>uK wB qb _ v' _ n s hv aJ) fun x1 S1=>?_;have P:=eS S1 b1 l ([(⟨n,s⟩:Tk)]);clear hl h h1 b1 S0 S1
 go_wp2
 go_end0;exact P
theorem MT(wB:World)(hTab:eJ wB)(qb:Nat)(t:T)(D:PD wB qb t)(w:World)(v:Value)(l:List Tk)(n a:Int)(s:ByteArray)(ao:Option Addr)(m:Nat)(c:Nat)(hn:¬ n=1)  (h:Pt wB qb w v l)(ht:Tr wB t (vT 3 n a s ao m c))(hl:l.length+([s].map W++(aO (t.l.map (prO false)))).length≤dK) :
 Calls Tryz.prog 82 #[pq qb,tg 3 n a s ao m c] w (PrQ wB qb w v l ([s].map W++(aO (t.l.map (prO false))))):=cM
theorem Oj(wB:World)(hTab:eJ wB)(qb:Nat)(t:T)(D:PD wB qb t)(w:World)(v:Value)(l:List Tk)(a:Int)(s:ByteArray)(ao:Option Addr)(m:Nat)(c:Nat)  (h:Pt wB qb w v l)(ht:Tr wB t (vT 3 1 a s ao m c))(hl:l.length+([s].map W++(cD (t.l.map (prO false)))).length≤dK):Calls Tryz.prog 82 #[pq qb,tg 3 1 a s ao m c] w (PrQ wB qb w v l ([s].map W++(cD (t.l.map (prO false))))):=by
 obtain⟨b1,n1,h1,ho,hq,hz⟩:=gT h (tg 3 1 a s ao m c);go_enter Tryz.func82,Tryz.ntmps82;go_upto_region 1 with fail;generalize World.alloc w _=w1 at b1 n1 h1 hz ⊢;generalize w.heap.size=B3 at n1 ho hq hz ⊢;obtain⟨KT,S0,HZ,HN⟩:=kt1 h1 hz hq ho n1;have:=tvk KT S0;go_upto_block 16 with fail;refine m2q (S0.aL [s] aJ #[.string s] rfl 1 rfl) fun x1 S1=>?_;have:=tvk KT S1;have:=tvk KT S1;go_upto_block 18 with fail;refine m2q (S1.aU (eF.tree S1.low ht) D.n D.l aJ) fun x2 S2=>?_;have P:=eS S2 b1 l ([s].map W++(cD (t.l.map (prO false))));clear hl h h1 b1 S0 S1 S2
 go_wp2
 go_end0;exact P
theorem LA(wB:World)(hTab:eJ wB)(qb:Nat)(t:T)(D:PD wB qb t)(w:World)(v:Value)(l:List Tk)(n a:Int)(s:ByteArray)(ao:Option Addr)(m:Nat)(c:Nat)(hn:¬ n=1)  (h:Pt wB qb w v l)(ht:Tr wB t (vT 50 n a s ao m c))(hl:l.length+([s].map W++(aO (t.l.map (prO false)))).length≤dK) :
 Calls Tryz.prog 82 #[pq qb,tg 50 n a s ao m c] w (PrQ wB qb w v l ([s].map W++(aO (t.l.map (prO false))))):=cM
theorem Md(wB:World)(hTab:eJ wB)(qb:Nat)(t:T)(D:PD wB qb t)(w:World)(v:Value)(l:List Tk)(a:Int)(s:ByteArray)(ao:Option Addr)(m:Nat)(c:Nat)  (h:Pt wB qb w v l)(ht:Tr wB t (vT 50 1 a s ao m c))(hl:l.length+([s].map W++(cD (t.l.map (prO false)))).length≤dK):Calls Tryz.prog 82 #[pq qb,tg 50 1 a s ao m c] w (PrQ wB qb w v l ([s].map W++(cD (t.l.map (prO false))))):=by
 obtain⟨b1,n1,h1,ho,hq,hz⟩:=gT h (tg 50 1 a s ao m c);go_enter Tryz.func82,Tryz.ntmps82;go_upto_region 1 with fail;generalize World.alloc w _=w1 at b1 n1 h1 hz ⊢;generalize w.heap.size=B3 at n1 ho hq hz ⊢;obtain⟨KT,S0,HZ,HN⟩:=kt1 h1 hz hq ho n1;have:=tvk KT S0;go_upto_block 16 with fail;refine m2q (S0.aL [s] aJ #[.string s] rfl 1 rfl) fun x1 S1=>?_;have:=tvk KT S1;have:=tvk KT S1;go_upto_block 18 with fail;refine m2q (S1.aU (eF.tree S1.low ht) D.n D.l aJ) fun x2 S2=>?_;have P:=eS S2 b1 l ([s].map W++(cD (t.l.map (prO false))));clear hl h h1 b1 S0 S1 S2
 go_wp2
 go_end0;exact P
theorem Kj(wB:World)(hTab:eJ wB)(qb:Nat)(t:T)(D:PD wB qb t)(w:World)(v:Value)(l:List Tk)(n a:Int)(ao:Option Addr)(m:Nat)(c:Nat)(hn:¬ n=1)  (h:Pt wB qb w v l)(ht:Tr wB t (vT 41 n a ⟨#[80]⟩ ao m c))(hl:l.length+([⟨#[80]⟩].map W++(aO (t.l.map (prO false)))).length≤dK) :
 Calls Tryz.prog 82 #[pq qb,tg 41 n a ⟨#[80]⟩ ao m c] w (PrQ wB qb w v l ([⟨#[80]⟩].map W++(aO (t.l.map (prO false))))):=cM
theorem JS(wB:World)(hTab:eJ wB)(qb:Nat)(t:T)(D:PD wB qb t)(w:World)(v:Value)(l:List Tk)(n a:Int)(s:ByteArray)(ao:Option Addr)(c:Nat)(hn:¬ n=1)(hs:¬ s=⟨#[80]⟩)  (h:Pt wB qb w v l)(ht:Tr wB t (vT 41 n a s ao 0 c))(hl:l.length+([s].map W++(aO (t.l.map (prO false)))).length≤dK) :
 Calls Tryz.prog 82 #[pq qb,tg 41 n a s ao 0 c] w (PrQ wB qb w v l ([s].map W++(aO (t.l.map (prO false))))):=cM
theorem Kl(wB:World)(hTab:eJ wB)(qb:Nat)(t:T)(D:PD wB qb t)(w:World)(v:Value)(l:List Tk)(n a:Int)(s:ByteArray)(ao:Option Addr)(m:Nat)(c:Nat)(hn:¬ n=1)(hs:¬ s=⟨#[80]⟩)(hm:(0:Int)<(m:Int))  (h:Pt wB qb w v l)(ht:Tr wB t (vT 41 n a s ao m c))(hl:l.length+([s].map W++(cD (t.l.map (prO false)))).length≤dK) :
 Calls Tryz.prog 82 #[pq qb,tg 41 n a s ao m c] w (PrQ wB qb w v l ([s].map W++(cD (t.l.map (prO false))))):=cM
theorem KM(wB:World)(hTab:eJ wB)(qb:Nat)(t:T)(D:PD wB qb t)(w:World)(v:Value)(l:List Tk)(a:Int)(ao:Option Addr)(m:Nat)(c:Nat)  (h:Pt wB qb w v l)(ht:Tr wB t (vT 41 1 a ⟨#[80]⟩ ao m c))(hl:l.length+([⟨#[80]⟩].map W++(aO (t.l.map (prO false)))).length≤dK) :
 Calls Tryz.prog 82 #[pq qb,tg 41 1 a ⟨#[80]⟩ ao m c] w (PrQ wB qb w v l ([⟨#[80]⟩].map W++(aO (t.l.map (prO false))))):=cM
theorem Hb(wB:World)(hTab:eJ wB)(qb:Nat)(t:T)(D:PD wB qb t)(w:World)(v:Value)(l:List Tk)(a:Int)(s:ByteArray)(ao:Option Addr)(c:Nat)(hs:¬ s=⟨#[80]⟩)  (h:Pt wB qb w v l)(ht:Tr wB t (vT 41 1 a s ao 0 c))(hl:l.length+([s].map W++(aO (t.l.map (prO false)))).length≤dK) :
 Calls Tryz.prog 82 #[pq qb,tg 41 1 a s ao 0 c] w (PrQ wB qb w v l ([s].map W++(aO (t.l.map (prO false))))):=cM
theorem Lj(wB:World)(hTab:eJ wB)(qb:Nat)(t:T)(D:PD wB qb t)(w:World)(v:Value)(l:List Tk)(a:Int)(s:ByteArray)(ao:Option Addr)(m:Nat)(c:Nat)(hs:¬ s=⟨#[80]⟩)(hm:(0:Int)<(m:Int))  (h:Pt wB qb w v l)(ht:Tr wB t (vT 41 1 a s ao m c))(hl:l.length+([s].map W++(cD (t.l.map (prO false)))).length≤dK) :
 Calls Tryz.prog 82 #[pq qb,tg 41 1 a s ao m c] w (PrQ wB qb w v l ([s].map W++(cD (t.l.map (prO false))))):=cM
theorem RH: PG 82 4 fun t n a s=>prO false (Px.part t.l 0)++([hJ].map O++(prO false (Px.part t.l 1))):=oT
theorem Rs: PG 82 5 fun t n a s=>[s].map O++(operand (Px.part t.l 0) (prO false (Px.part t.l 0)) 6):=by
 intro wB hTab qb t D w v l n a s ao m c h ht hl;obtain⟨b1,n1,h1,ho,hq,hz⟩:=gT h (tg 5 n a s ao m c);go_enter Tryz.func82,Tryz.ntmps82;go_upto_region 1 with fail;generalize World.alloc w _=w1 at b1 n1 h1 hz ⊢;generalize w.heap.size=B3 at n1 ho hq hz ⊢;obtain⟨KT,S0,HZ,HN⟩:=kt1 h1 hz hq ho n1;have:=tvk KT S0;go_upto_block 25 with fail;refine m2q (S0.opC [s] aJ #[.string s] rfl 1 rfl) fun x1 S1=>?_;have:=tvk KT S1;go_upto_block 26 with fail;refine(S1.aY ht 0).mono ?_;rintro e x2 ⟨⟨k2,n2,a2,s2,o2,m2,c2,rfl,hx2⟩,S2⟩;go_upto_block 26 with fail;refine(S2.aQ (E:=fun e=>∃ v0 v1 v2 v3 v4 v5,e=.returned (.agg #[v0,v1,v2,v3,v4,v5])) ((jI _).mono fun e w' h=>⟨by obtain⟨v0,v1,v2,v3,v4,v5,h,_⟩:=h.1;exact⟨v0,v1,v2,v3,v4,v5,h⟩,h.2⟩)).mono ?_;rintro e x3 ⟨⟨v0,v1,v2,v3,v4,v5,rfl⟩,S3⟩;go_upto_block 26 with fail;refine m2q (S3.AL 6 hx2 (D.p 0) aJ) fun x4 S4=>?_;have P:=eS S4 b1 l ([s].map O++(operand (Px.part t.l 0) (prO false (Px.part t.l 0)) 6));clear hl h h1 b1 S0 S1 S2 S3 S4
 go_wp2
 go_end0;exact P
theorem SP.Mr{wB:World}{qb:Nat}{w0 w:World}{v0:Value}{l:List Tk}{rv}(S:SP wB qb w0 v0 w l rv)(s:ByteArray)(lv:Int)(h:Px.level s=lv) :
 Calls Tryz.prog 117 #[s] w fun e w'=>e=.returned (.int .i64 lv)∧SP wB qb w0 v0 w' l rv:=h ▸ S.Hp s
theorem RB(wB:World)(hTab:eJ wB)(qb:Nat)(t:T)(D:PD wB qb t)(w:World)(v:Value)(l:List Tk)(n a:Int)(s:ByteArray)(ao:Option Addr)(m c:Nat)(lv:Int)(hlv:Px.level s=lv)(hlb : -1≤lv∧lv≤6)(h:Pt wB qb w v l)(ht:Tr wB t (vT 6 n a s ao m c))(hl:l.length+(operand (Px.part t.l 0) (prO false (Px.part t.l 0)) lv++([s].map O++(operand (Px.part t.l 1) (prO false (Px.part t.l 1)) (lv+1)))).length≤dK):Calls Tryz.prog 82 #[pq qb,tg 6 n a s ao m c] w (PrQ wB qb w v l (operand (Px.part t.l 0) (prO false (Px.part t.l 0)) lv++([s].map O++(operand (Px.part t.l 1) (prO false (Px.part t.l 1)) (lv+1))))):=by
 obtain⟨b1,n1,h1,ho,hq,hz⟩:=gT h (tg 6 n a s ao m c);go_enter Tryz.func82,Tryz.ntmps82;go_upto_region 1 with fail;generalize World.alloc w _=w1 at b1 n1 h1 hz ⊢;generalize w.heap.size=B3 at n1 ho hq hz ⊢;obtain⟨KT,S0,HZ,HN⟩:=kt1 h1 hz hq ho n1;have HLV:=hdq hlv;clear hlv;obtain⟨hlb1,hlb2⟩:=hlb;have hwr:IntKind.i64.wrap (lv+1)=lv+1:=IntWalk.i64_in _ (by omega);have:=tvk KT S0;go_upto_region 28 with fail;have S1:=S0.drew;refine wp_region_held_drew (S:=(fun w'=>TV w' B3 (.int .i64 6) n a s (.slice ao m c))) (by kernel_rfl) (KT.out _ _ _ S1) (fun RY=>?_);generalize World.drew _=y1 at *;refine tkH 0 ?_;refine tkH 1 ?_;refine tkH 3 ?_;refine tkH 4 ?_;refine bA 2 fun Kx RZ=>?_;go_simp;refine(S1.aY ht 0).mono ?_;rintro e x2 ⟨⟨k2,n2,a2,s2,o2,m2,c2,rfl,hx2⟩,S2⟩;refine goH RZ (KT.out _ _ _ S2) fun RY=>?_;clear RZ Kx;refine bA 5 fun Kx RZ=>?_;go_simp;refine m2q (S2.Mr s lv HLV.out) fun x3 S3=>?_;refine goH RZ (KT.out _ _ _ S3) fun RY=>?_;clear RZ Kx;refine bA 6 fun Kx RZ=>?_;go_simp;refine m2q (S3.AL lv hx2 (D.p 0) aJ) fun x4 S4=>?_;refine goH RZ (KT.out _ _ _ S4) fun RY=>?_;clear RZ Kx;refine cW ?_;have:=tvk KT S4;go_upto_block 29 with fail;refine m2q (S4.opC [s] aJ #[.string s] rfl 1 rfl) fun x5 S5=>?_;have:=tvk KT S5;go_upto_region 30 with fail;have S6:=S5.drew;refine wp_region_held_drew (S:=(fun w'=>TV w' B3 (.int .i64 6) n a s (.slice ao m c))) (by kernel_rfl) (KT.out _ _ _ S6) (fun RY=>?_);generalize World.drew _=y6 at *;refine tkH 0 ?_;refine tkH 1 ?_;refine tkH 3 ?_;refine tkH 4 ?_;refine bA 2 fun Kx RZ=>?_;go_simp;refine(S6.aY ht 1).mono ?_;rintro e x7 ⟨⟨k7,n7,a7,s7,o7,m7,c7,rfl,hx7⟩,S7⟩;refine goH RZ (KT.out _ _ _ S7) fun RY=>?_;clear RZ Kx;refine bA 5 fun Kx RZ=>?_;go_simp;refine m2q (S7.Mr s lv HLV.out) fun x8 S8=>?_;refine goH RZ (KT.out _ _ _ S8) fun RY=>?_;clear RZ Kx;refine tkH 6 ?_;refine bA 7 fun Kx RZ=>?_;go_simp;refine m2q (S8.AL (lv+1) hx7 (D.p 1) aJ) fun x9 S9=>?_;refine goH RZ (KT.out _ _ _ S9) fun RY=>?_;clear RZ Kx;refine cW ?_;have P:=eS S9 b1 l (operand (Px.part t.l 0) (prO false (Px.part t.l 0)) lv++([s].map O++(operand (Px.part t.l 1) (prO false (Px.part t.l 1)) (lv+1))));clear hl h h1 b1 S0 S1 S2 S3 S4 S5 S6 S7 S8 S9
 go_wp2
 go_end0;exact P
theorem Rr: PG 82 7 fun t n a s=>[uF].map O:=oT
theorem Qt: PG 82 11 fun t n a s=>[s].map W:=oT
theorem OL(wB:World)(hTab:eJ wB)(qb:Nat)(t:T)(D:PD wB qb t)(w:World)(v:Value)(l:List Tk)(n a:Int)(s:ByteArray)(ao:Option Addr)(c:Nat)  (h:Pt wB qb w v l)(ht:Tr wB t (vT 12 n a s ao 0 c))(hl:l.length+([s].map W).length≤dK) :
 Calls Tryz.prog 82 #[pq qb,tg 12 n a s ao 0 c] w (PrQ wB qb w v l ([s].map W)):=cM
theorem OZ(wB:World)(hTab:eJ wB)(qb:Nat)(t:T)(D:PD wB qb t)(w:World)(v:Value)(l:List Tk)(n a:Int)(s:ByteArray)(ao:Option Addr)(m c:Nat)(hm:(0:Int)<(m:Int))(h:Pt wB qb w v l)(ht:Tr wB t (vT 12 n a s ao m c))(hl:l.length+([s].map W++(cD (t.l.map (prO false)))).length≤dK) :
 Calls Tryz.prog 82 #[pq qb,tg 12 n a s ao m c] w (PrQ wB qb w v l ([s].map W++(cD (t.l.map (prO false))))):=cM
end
end Go.Proofs.YtfdlmcgcckkkdaaGreatDoor
