/- ParseWhole, part 29: what it stands on. -/
import Derived.Test.YtfdlmcgcckkkdaaGreatDoorV27
import Derived.Test.YtfdlmcgcckkkdaaGreatDoorV28
import Derived.Test.YtfdlmcgcckkkdaaGreatDoorV26
import Derived.Test.YtfdlmcgcckkkdaaGreatDoorV11
set_option linter.all false
set_option maxHeartbeats 40000000
set_option maxRecDepth 100000
namespace Go.Proofs.YtfdlmcgcckkkdaaGreatDoor
section
open Go.RowKit Lx Px
theorem KH(w:ByteArray):∀ k,-1≤vX w k∧vX w k≤6:=by
 intro k
 induction k with
 | zero=>show (-1:Int)≤-1∧(-1:Int)≤6;decide
 | succ k ih=>
  unfold vX
  split
  ·exact⟨by omega,by omega⟩
  ·exact ih
theorem JX(wB:World)(hTab:eJ wB)(qb:Nat)(t:T)(D:PD wB qb t)(w:World)(v:Value)(lk:List Tk)(k n a:Int)(s:ByteArray)(ao:Option Addr)(m c:Nat)(h:Pt wB qb w v lk)(ht:Tr wB t (vT k n a s ao m c))(hl:lk.length+(comb false a k n s t.l (t.l.map (prO false)) (t.l.map (prB false)) (t.l.map (prS false))).length≤dK):Calls Tryz.prog 82 #[pq qb,tg k n a s ao m c] w (PrQ wB qb w v lk (comb false a k n s t.l (t.l.map (prO false)) (t.l.map (prB false)) (t.l.map (prS false)))):=by
 have hnr : -9223372036854775808≤n∧n≤9223372036854775807:=by rw[ht.split.2.1];exact D.r
 have hm5:=ht.split.2.2.2.2
 by_cases hk1:k=1
 ·subst hk1;have e:comb false a 1 n s t.l (t.l.map (prO false)) (t.l.map (prB false)) (t.l.map (prS false))=[(⟨n,s⟩:Tk)]:=by
   show [(⟨n,s⟩:Tk)]=_
   exact ctA
  rw[e]at hl ⊢;exact Rz wB hTab qb t D w v lk n a s ao m c  h ht hl
 by_cases hk2:k=2
 ·subst hk2;have e:comb false a 2 n s t.l (t.l.map (prO false)) (t.l.map (prB false)) (t.l.map (prS false))=sG (t.l.map (prO false)):=by
   show sG (t.l.map (prO false))=_
   exact ctA
  rw[e]at hl ⊢;exact RG wB hTab qb t D w v lk n a s ao m c  h ht hl
 by_cases hk3:k=3
 ·subst hk3;have e0:comb false a 3 n s t.l (t.l.map (prO false)) (t.l.map (prB false)) (t.l.map (prS false))=W s::(if (n=1∧(3:Int)≠41)∨((3:Int)=41∧s≠wP∧t.l≠[])then cD (t.l.map (prO false))else aO (t.l.map (prO false))):=by
   show W (if (3:Int)=50 then kw false a s (yH s)else s)::_=_
   rw[if_neg (by decide)]
  by_cases hn:n=1
  ·have e:comb false a 3 n s t.l (t.l.map (prO false)) (t.l.map (prB false)) (t.l.map (prS false))=[s].map W++(cD (t.l.map (prO false))):=by rw[e0,if_pos (.inl ⟨hn,by decide⟩)];rfl
   rw[e]at hl ⊢;subst hn;exact Oj wB hTab qb t D w v lk a s ao m c h ht hl
  ·have e:comb false a 3 n s t.l (t.l.map (prO false)) (t.l.map (prB false)) (t.l.map (prS false))=[s].map W++(aO (t.l.map (prO false))):=by rw[e0,if_neg (fun q=>q.elim (fun z=>hn z.1) (fun z=>absurd z.1 (by decide)))];rfl
   rw[e]at hl ⊢;exact MT wB hTab qb t D w v lk n a s ao m c hn h ht hl
 by_cases hk50:k=50
 ·subst hk50;have e0:comb false a 50 n s t.l (t.l.map (prO false)) (t.l.map (prB false)) (t.l.map (prS false))=W s::(if (n=1∧(50:Int)≠41)∨((50:Int)=41∧s≠wP∧t.l≠[])then cD (t.l.map (prO false))else aO (t.l.map (prO false))):=by
   show W (if (50:Int)=50 then kw false a s (yH s)else s)::_=_
   rw[if_pos rfl,kwF]
  by_cases hn:n=1
  ·have e:comb false a 50 n s t.l (t.l.map (prO false)) (t.l.map (prB false)) (t.l.map (prS false))=[s].map W++(cD (t.l.map (prO false))):=by rw[e0,if_pos (.inl ⟨hn,by decide⟩)];rfl
   rw[e]at hl ⊢;subst hn;exact Md wB hTab qb t D w v lk a s ao m c h ht hl
  ·have e:comb false a 50 n s t.l (t.l.map (prO false)) (t.l.map (prB false)) (t.l.map (prS false))=[s].map W++(aO (t.l.map (prO false))):=by rw[e0,if_neg (fun q=>q.elim (fun z=>hn z.1) (fun z=>absurd z.1 (by decide)))];rfl
   rw[e]at hl ⊢;exact LA wB hTab qb t D w v lk n a s ao m c hn h ht hl
 by_cases hk41:k=41
 ·subst hk41;have e0:comb false a 41 n s t.l (t.l.map (prO false)) (t.l.map (prB false)) (t.l.map (prS false))=W s::(if (n=1∧(41:Int)≠41)∨((41:Int)=41∧s≠wP∧t.l≠[])then cD (t.l.map (prO false))else aO (t.l.map (prO false))):=by
   show W (if (41:Int)=50 then kw false a s (yH s)else s)::_=_
   rw[if_neg (by decide)]
  by_cases hs:s=⟨#[80]⟩
  ·have e:comb false a 41 n s t.l (t.l.map (prO false)) (t.l.map (prB false)) (t.l.map (prS false))=[s].map W++(aO (t.l.map (prO false))):=by rw[e0,if_neg (fun q=>q.elim (fun z=>z.2 rfl) (fun z=>z.2.1 hs))];rfl
   rw[e]at hl ⊢;subst hs
   by_cases hn:n=1
   ·subst hn;exact KM wB hTab qb t D w v lk a ao m c h ht hl
   ·exact Kj wB hTab qb t D w v lk n a ao m c hn h ht hl
  ·by_cases hnil:t.l=[]
   ·have e:comb false a 41 n s t.l (t.l.map (prO false)) (t.l.map (prB false)) (t.l.map (prS false))=[s].map W++(aO (t.l.map (prO false))):=by rw[e0,if_neg (fun q=>q.elim (fun z=>z.2 rfl) (fun z=>z.2.2 hnil))];rfl
    rw[e]at hl ⊢;obtain rfl:m=0:=by rw[hm5,hnil];rfl
    by_cases hn:n=1
    ·subst hn;exact Hb wB hTab qb t D w v lk a s ao c hs h ht hl
    ·exact JS wB hTab qb t D w v lk n a s ao c hn hs h ht hl
   ·have e:comb false a 41 n s t.l (t.l.map (prO false)) (t.l.map (prB false)) (t.l.map (prS false))=[s].map W++(cD (t.l.map (prO false))):=by rw[e0,if_pos (.inr ⟨rfl,hs,hnil⟩)];rfl
    rw[e]at hl ⊢;have hm0:t.l.length≠0:=fun e=>hnil (List.length_eq_zero_iff.1 e)
    by_cases hn:n=1
    ·subst hn;exact Lj wB hTab qb t D w v lk a s ao m c hs (by omega) h ht hl
    ·exact Kl wB hTab qb t D w v lk n a s ao m c hn hs (by omega) h ht hl
 by_cases hk4:k=4
 ·subst hk4;have e:comb false a 4 n s t.l (t.l.map (prO false)) (t.l.map (prB false)) (t.l.map (prS false))=prO false (Px.part t.l 0)++([hJ].map O++(prO false (Px.part t.l 1))):=by
   show ct (t.l.map (prO false)) 0++O hJ::ct (t.l.map (prO false)) 1=_
   exact ctA
  rw[e]at hl ⊢;exact RH wB hTab qb t D w v lk n a s ao m c  h ht hl
 by_cases hk5:k=5
 ·subst hk5;have e:comb false a 5 n s t.l (t.l.map (prO false)) (t.l.map (prB false)) (t.l.map (prS false))=[s].map O++(operand (Px.part t.l 0) (prO false (Px.part t.l 0)) 6):=by
   show O s::operand (Px.part t.l 0) (ct (t.l.map (prO false)) 0) 6=_
   exact ctA
  rw[e]at hl ⊢;exact Rs wB hTab qb t D w v lk n a s ao m c  h ht hl
 by_cases hk6:k=6
 ·subst hk6;have e:comb false a 6 n s t.l (t.l.map (prO false)) (t.l.map (prB false)) (t.l.map (prS false))=operand (Px.part t.l 0) (prO false (Px.part t.l 0)) (level s)++([s].map O++(operand (Px.part t.l 1) (prO false (Px.part t.l 1)) (level s+1))):=by
   show operand (Px.part t.l 0) (ct (t.l.map (prO false)) 0) (level s)++O s::operand (Px.part t.l 1) (ct (t.l.map (prO false)) 1) (level s+1)=_
   exact ctA
  rw[e]at hl ⊢;exact RB wB hTab qb t D w v lk n a s ao m c (level s) rfl (KH s 6) h ht hl
 by_cases hk7:k=7
 ·subst hk7;have e:comb false a 7 n s t.l (t.l.map (prO false)) (t.l.map (prB false)) (t.l.map (prS false))=[uF].map O:=by
   show [O uF]=_
   exact ctA
  rw[e]at hl ⊢;exact Rr wB hTab qb t D w v lk n a s ao m c  h ht hl
 by_cases hk11:k=11
 ·subst hk11;have e:comb false a 11 n s t.l (t.l.map (prO false)) (t.l.map (prB false)) (t.l.map (prS false))=[s].map W:=by
   show [W s]=_
   exact ctA
  rw[e]at hl ⊢;exact Qt wB hTab qb t D w v lk n a s ao m c  h ht hl
 by_cases hk12:k=12
 ·subst hk12
  by_cases hnil:t.l=[]
  ·have e:comb false a 12 n s t.l (t.l.map (prO false)) (t.l.map (prB false)) (t.l.map (prS false))=[s].map W:=by
    show W s::(if t.l=[]then []else cD (t.l.map (prO false)))=_
    rw[if_pos hnil];rfl
   rw[e]at hl ⊢;obtain rfl:m=0:=by rw[hm5,hnil];rfl
   exact OL wB hTab qb t D w v lk n a s ao c h ht hl
  ·have e:comb false a 12 n s t.l (t.l.map (prO false)) (t.l.map (prB false)) (t.l.map (prS false))=[s].map W++(cD (t.l.map (prO false))):=by
    show W s::(if t.l=[]then []else cD (t.l.map (prO false)))=_
    rw[if_neg hnil];rfl
   rw[e]at hl ⊢;have:t.l.length≠0:=fun e=>hnil (List.length_eq_zero_iff.1 e)
   exact OZ wB hTab qb t D w v lk n a s ao m c (by omega) h ht hl
 by_cases hk42:k=42
 ·subst hk42;have e0:comb false a 42 n s t.l (t.l.map (prO false)) (t.l.map (prB false)) (t.l.map (prS false))=(if isConst (Px.part t.l 0)then O sLP::Nm n::O sRP::aO (t.l.map (prO false))else Nm n::cD (t.l.map (prO false))):=rfl
  cases hc:isConst (Px.part t.l 0) with
  | true=>
   have e:comb false a 42 n s t.l (t.l.map (prO false)) (t.l.map (prB false)) (t.l.map (prS false))=[sLP].map O++([Nm n]++([sRP].map O++(aO (t.l.map (prO false))))):=by rw[e0,hc];rfl
   rw[e]at hl ⊢;exact Oy wB hTab qb t D w v lk n a s ao m c hnr hc h ht hl
  | false=>
   have e:comb false a 42 n s t.l (t.l.map (prO false)) (t.l.map (prB false)) (t.l.map (prS false))=[Nm n]++(cD (t.l.map (prO false))):=by rw[e0,hc];rfl
   rw[e]at hl ⊢;exact NN wB hTab qb t D w v lk n a s ao m c hnr hc h ht hl
 by_cases hk49:k=49
 ·subst hk49;have e0:comb false a 49 n s t.l (t.l.map (prO false)) (t.l.map (prB false)) (t.l.map (prS false))=(if (Px.part t.l 0).kind=10 then []else ct (t.l.map (prO false)) 0++[O bY])++ct (t.l.map (prO false)) 1:=rfl;rw[vB,vB]at e0
  by_cases hc:(Px.part t.l 0).kind=10
  ·have e:comb false a 49 n s t.l (t.l.map (prO false)) (t.l.map (prB false)) (t.l.map (prS false))=prO false (Px.part t.l 1):=by rw[e0,if_pos hc];rfl
   rw[e]at hl ⊢;exact Pu wB hTab qb t D w v lk n a s ao m c hc h ht hl
  ·have e:comb false a 49 n s t.l (t.l.map (prO false)) (t.l.map (prB false)) (t.l.map (prS false))=prO false (Px.part t.l 0)++([bY].map O++(prO false (Px.part t.l 1))):=by rw[e0,if_neg hc,List.append_assoc];rfl
   rw[e]at hl ⊢;exact OP wB hTab qb t D w v lk n a s ao m c hc h ht hl
 by_cases hk48:k=48
 ·subst hk48;have hz:(Px.part t.l 1).l=[]↔(Px.part t.l 1).l.length=0:=List.length_eq_zero_iff.symm;have e0:comb false a 48 n s t.l (t.l.map (prO false)) (t.l.map (prB false)) (t.l.map (prS false))=(if n=0 then []else [Nm n])++((if (Px.part t.l 0).kind=40 then cb (t.l.map (prB false)) 0 else ct (t.l.map (prO false)) 0)++((if (Px.part t.l 1).l=[]then []else cb (t.l.map (prB false)) 1)++((t.l.map (prO false)).drop 2).flatten)):=rfl;rw[wY,wY,vB,← List.map_drop]at e0;rw[e0]at hl ⊢
  by_cases hn:n=0
  ·subst hn;rw[if_pos rfl,List.nil_append]at hl ⊢
   by_cases hk0:(Px.part t.l 0).kind=40
   ·rw[if_pos hk0]at hl ⊢
    by_cases ha:(Px.part t.l 1).l.length=0
    ·rw[if_pos (hz.2 ha),List.nil_append]at hl ⊢;exact JK wB hTab qb t D w v lk a s ao m c hk0 ha h ht hl
    ·rw[if_neg (fun q=>ha (hz.1 q))]at hl ⊢;exact ID wB hTab qb t D w v lk a s ao m c hk0 (by omega) h ht hl
   ·rw[if_neg hk0]at hl ⊢
    by_cases ha:(Px.part t.l 1).l.length=0
    ·rw[if_pos (hz.2 ha),List.nil_append]at hl ⊢;exact Jf wB hTab qb t D w v lk a s ao m c hk0 ha h ht hl
    ·rw[if_neg (fun q=>ha (hz.1 q))]at hl ⊢;exact IS wB hTab qb t D w v lk a s ao m c hk0 (by omega) h ht hl
  ·rw[if_neg hn]at hl ⊢
   by_cases hk0:(Px.part t.l 0).kind=40
   ·rw[if_pos hk0]at hl ⊢
    by_cases ha:(Px.part t.l 1).l.length=0
    ·rw[if_pos (hz.2 ha),List.nil_append]at hl ⊢;exact Iw wB hTab qb t D w v lk n a s ao m c hnr hn hk0 ha h ht hl
    ·rw[if_neg (fun q=>ha (hz.1 q))]at hl ⊢;exact JV wB hTab qb t D w v lk n a s ao m c hnr hn hk0 (by omega) h ht hl
   ·rw[if_neg hk0]at hl ⊢
    by_cases ha:(Px.part t.l 1).l.length=0
    ·rw[if_pos (hz.2 ha),List.nil_append]at hl ⊢;exact Jm wB hTab qb t D w v lk n a s ao m c hnr hn hk0 ha h ht hl
    ·rw[if_neg (fun q=>ha (hz.1 q))]at hl ⊢;exact GY wB hTab qb t D w v lk n a s ao m c hnr hn hk0 (by omega) h ht hl
 have e:comb false a k n s t.l (t.l.map (prO false)) (t.l.map (prB false)) (t.l.map (prS false))=Px.eA false a k n s t.l (t.l.map (prO false)) (t.l.map (prB false)) (t.l.map (prS false)):=by
  unfold Px.comb;rw[if_neg hk1,if_neg hk2,if_neg (fun h=>h.elim hk3 (fun h=>h.elim hk50 hk41))]
  iterate 9 rw[if_neg (by assumption)]
 rw[e]at hl ⊢;exact Nu wB hTab qb t D w v lk k n a s ao m c hk1 hk2 hk3 hk50 hk41 hk4 hk5 hk6 hk7 hk11 hk12 hk42 hk49 hk48 _ (fun w' v' l' h' hl'=>xM wB hTab qb t D w' v' l' k n a s ao m c h' ht hl') h ht hl
theorem RV(wB:World)(hTab:eJ wB)(qb:Nat)(t:T)(w:World)(v:Value)(l:List Tk)(k n a:Int)(s:ByteArray)(ao:Option Addr)(m c:Nat)(h24:¬ k=24)(h25:¬ k=25)(h26:¬ k=26)(h27:¬ k=27)(h28:¬ k=28)(h29:¬ k=29)(h30:¬ k=30)(h34:¬ k=34)(h35:¬ k=35)(h36:¬ k=36)(h37:¬ k=37)(h38:¬ k=38)(h39:¬ k=39)(h43:¬ k=43)(h44:¬ k=44)(h45:¬ k=45)(h46:¬ k=46)(h47:¬ k=47)(h:Pt wB qb w v l)(ht:Tr wB t (vT k n a s ao m c))(hl:l.length+(([]:List Tk)).length≤dK):Calls Tryz.prog 159 #[pq qb,tg k n a s ao m c] w (PrQ wB qb w v l (([]:List Tk))):=by
 try simp only[List.length_append,List.length_map,List.length_cons,List.length_nil]at hl
 have b1:Below w.heap.size w ((w.alloc (.cells #[pq qb] 113)).alloc (.cells (tg k n a s ao m c) 24)):=(aC w (.cells #[pq qb] 113)).trans ((aC (w.alloc (.cells #[pq qb] 113)) (.cells (tg k n a s ao m c) 24)).mono (by simp));have n2:((w.alloc (.cells #[pq qb] 113)).alloc (.cells (tg k n a s ao m c) 24)).heap[w.heap.size]?=some (.cells #[pq qb] 113 (0,0)):=(Below.heap_alloc _ _ _ (by simp)).trans (heap_alloc_new w _);have n1:((w.alloc (.cells #[pq qb] 113)).alloc (.cells (tg k n a s ao m c) 24)).heap[w.heap.size+1]?=some (.cells (tg k n a s ao m c) 24 (0,0)):=by
  have:=heap_alloc_new (w.alloc (.cells #[pq qb] 113)) (.cells (tg k n a s ao m c) 24)
  rwa[show (w.alloc (.cells #[pq qb] 113)).heap.size=w.heap.size+1 by simp]at this
 have h1:=h.below b1;have ho2:v.ownBlock≠some w.heap.size:=fun e=>by have:=(h.own.lt _ e).2;omega
 have hq2:w.heap.size≠qb:=by have:=h.lt;omega
 have ho:v.ownBlock≠some (w.heap.size+1):=fun e=>by have:=(h.own.lt _ e).2;omega
 have hq:w.heap.size+1≠qb:=by have:=h.lt;omega
 have hz2:w.heap.size<((w.alloc (.cells #[pq qb] 113)).alloc (.cells (tg k n a s ao m c) 24)).heap.size:=by simp;omega
 have hz:w.heap.size+1<((w.alloc (.cells #[pq qb] 113)).alloc (.cells (tg k n a s ao m c) 24)).heap.size:=by simp
 go_enter Tryz.func159,Tryz.ntmps159;go_upto_region 1 with fail;generalize World.alloc (World.alloc w _) _=w1 at b1 n1 n2 h1 hz hz2 ⊢;generalize w.heap.size+1=B3 at n1 ho hq hz ⊢;generalize w.heap.size=B2 at n2 ho2 hq2 hz2 ⊢;have kt:∀ (w':World) (l':List Tk) (rv:List (Nat×List Value)),SP wB qb w1 v w' l' rv→TV w' B3 k n a s (.slice ao m c):=fun _ _ _ S=>(S.old hz hq ho).trans n1
 have kp:∀ (w':World) (l':List Tk) (rv:List (Nat×List Value)),SP wB qb w1 v w' l' rv→w'.cell? ⟨B2,0,none⟩=some (.pointer (some ⟨qb,0,none⟩)):=fun _ _ _ S=>cell_of_row _ _ 0 _ _ _ ((S.old hz2 hq2 ho2).trans n2)
 have KT:=hdq kt;have KP:=hdq kp;have S0:=SP.begin h1;clear kt kp;have HZ:=hdq hz;have HN:=hdq n1;have HP2:=hdq n2;have:=TV.facts (KT.out _ _ _ S0);have kq0:=KP.out _ _ _ S0;have P:PrQ wB qb w v l (([]:List Tk)) (.returned (.tuple #[])) _:=PrQ.pre (SP.Da (by simpa only[List.append_assoc,List.append_nil]using S0)) b1;clear hl h h1 b1 S0
 go_wp2
 go_end0;exact P
theorem RS(wB:World)(hTab:eJ wB)(qb:Nat)(t:T)(w:World)(v:Value)(l:List Tk)(k n a:Int)(s:ByteArray)(ao:Option Addr)(m c:Nat)(h18:¬ k=18)(h19:¬ k=19)(h20:¬ k=20)(h21:¬ k=21)(h22:¬ k=22)(h23:¬ k=23)(h32:¬ k=32)(h33:¬ k=33)(h31:¬ k=31)(h24:¬ k=24)(h25:¬ k=25)(h26:¬ k=26)(h27:¬ k=27)(h28:¬ k=28)(h29:¬ k=29)(h30:¬ k=30)(h34:¬ k=34)(h35:¬ k=35)(h36:¬ k=36)(h37:¬ k=37)(h38:¬ k=38)(h39:¬ k=39)(h43:¬ k=43)(h44:¬ k=44)(h45:¬ k=45)(h46:¬ k=46)(h47:¬ k=47)(h:Pt wB qb w v l)(ht:Tr wB t (vT k n a s ao m c))(hl:l.length+([aS].map O).length≤dK):Calls Tryz.prog 143 #[pq qb,tg k n a s ao m c] w (PrQ wB qb w v l ([aS].map O)):=by
 try simp only[List.length_append,List.length_map,List.length_cons,List.length_nil]at hl
 have b1:=aC w (.cells (tg k n a s ao m c) 24);have n1:=heap_alloc_new w (.cells (tg k n a s ao m c) 24);have h1:=h.below b1;have ho:v.ownBlock≠some w.heap.size:=fun e=>by have:=(h.own.lt _ e).2;omega
 have hq:w.heap.size≠qb:=by have:=h.lt;omega
 have hz:w.heap.size<(w.alloc (.cells (tg k n a s ao m c) 24)).heap.size:=by simp
 go_enter Tryz.func143,Tryz.ntmps143;go_upto_region 1 with fail;generalize World.alloc w _=w1 at b1 n1 h1 hz ⊢;generalize w.heap.size=B3 at n1 ho hq hz ⊢;have kt:∀ (w':World) (l':List Tk) (rv:List (Nat×List Value)),SP wB qb w1 v w' l' rv→TV w' B3 k n a s (.slice ao m c):=fun _ _ _ S=>(S.old hz hq ho).trans n1
 have KT:=hdq kt;have S0:=SP.begin h1;clear kt;have HZ:=hdq hz;have HN:=hdq n1;have:=TV.facts (KT.out _ _ _ S0);go_upto_block 2 with fail;refine m2q (S0.call fun v' hv=>RV wB hTab qb t _ v' _ k n a s ao m c h24 h25 h26 h27 h28 h29 h30 h34 h35 h36 h37 h38 h39 h43 h44 h45 h46 h47 hv ht (by first|omega|(simp only[List.length_append,List.length_map,List.length_cons,List.length_nil];omega))) fun x1 S1=>?_;have:=TV.facts (KT.out _ _ _ S1);go_upto_block 3 with fail;refine m2q (S1.opC [aS] (by first|omega|(simp only[List.length_append,List.length_map,List.length_cons,List.length_nil];omega)) #[.string ⟨#[59]⟩] rfl 1 rfl) fun x2 S2=>?_;have P:PrQ wB qb w v l ([aS].map O) (.returned (.tuple #[])) _:=PrQ.pre (SP.Da (by simpa only[List.append_assoc,List.append_nil]using S2)) b1;clear hl h h1 b1 S0 S1 S2
 go_wp2
 go_end0;exact P
theorem Rq(wB:World)(hTab:eJ wB)(qb:Nat)(t:T)(w:World)(v:Value)(l:List Tk)(k n a:Int)(s:ByteArray)(ao:Option Addr)(m c:Nat)(h13:¬ k=13)(h14:¬ k=14)(h15:¬ k=15)(h16:¬ k=16)(h17:¬ k=17)(h18:¬ k=18)(h19:¬ k=19)(h20:¬ k=20)(h21:¬ k=21)(h22:¬ k=22)(h23:¬ k=23)(h32:¬ k=32)(h33:¬ k=33)(h31:¬ k=31)(h24:¬ k=24)(h25:¬ k=25)(h26:¬ k=26)(h27:¬ k=27)(h28:¬ k=28)(h29:¬ k=29)(h30:¬ k=30)(h34:¬ k=34)(h35:¬ k=35)(h36:¬ k=36)(h37:¬ k=37)(h38:¬ k=38)(h39:¬ k=39)(h43:¬ k=43)(h44:¬ k=44)(h45:¬ k=45)(h46:¬ k=46)(h47:¬ k=47)(h:Pt wB qb w v l)(ht:Tr wB t (vT k n a s ao m c))(hl:l.length+([aS].map O).length≤dK):Calls Tryz.prog 122 #[pq qb,tg k n a s ao m c] w (PrQ wB qb w v l ([aS].map O)):=by
 try simp only[List.length_append,List.length_map,List.length_cons,List.length_nil]at hl
 have b1:=aC w (.cells (tg k n a s ao m c) 24);have n1:=heap_alloc_new w (.cells (tg k n a s ao m c) 24);have h1:=h.below b1;have ho:v.ownBlock≠some w.heap.size:=fun e=>by have:=(h.own.lt _ e).2;omega
 have hq:w.heap.size≠qb:=by have:=h.lt;omega
 have hz:w.heap.size<(w.alloc (.cells (tg k n a s ao m c) 24)).heap.size:=by simp
 go_enter Tryz.func122,Tryz.ntmps122;go_upto_region 1 with fail;generalize World.alloc w _=w1 at b1 n1 h1 hz ⊢;generalize w.heap.size=B3 at n1 ho hq hz ⊢;have kt:∀ (w':World) (l':List Tk) (rv:List (Nat×List Value)),SP wB qb w1 v w' l' rv→TV w' B3 k n a s (.slice ao m c):=fun _ _ _ S=>(S.old hz hq ho).trans n1
 have KT:=hdq kt;have S0:=SP.begin h1;clear kt;have HZ:=hdq hz;have HN:=hdq n1;have:=TV.facts (KT.out _ _ _ S0);go_upto_block 2 with fail;refine m2q (S0.call fun v' hv=>RS wB hTab qb t _ v' _ k n a s ao m c h18 h19 h20 h21 h22 h23 h32 h33 h31 h24 h25 h26 h27 h28 h29 h30 h34 h35 h36 h37 h38 h39 h43 h44 h45 h46 h47 hv ht (by first|omega|(simp only[List.length_append,List.length_map,List.length_cons,List.length_nil];omega))) fun x1 S1=>?_;have P:PrQ wB qb w v l ([aS].map O) (.returned (.tuple #[])) _:=PrQ.pre (SP.Da (by simpa only[List.append_assoc,List.append_nil]using S1)) b1;clear hl h h1 b1 S0 S1
 go_wp2
 go_end0;exact P
theorem RD(wB:World)(hTab:eJ wB)(qb:Nat)(t:T)(w:World)(v:Value)(l:List Tk)(k n a:Int)(s:ByteArray)(ao:Option Addr)(m c:Nat)(h1:¬ k=1)(h2:¬ k=2)(h3:¬ k=3)(h50:¬ k=50)(h41:¬ k=41)(h4:¬ k=4)(h5:¬ k=5)(h6:¬ k=6)(h7:¬ k=7)(h11:¬ k=11)(h12:¬ k=12)(h42:¬ k=42)(h49:¬ k=49)(h48:¬ k=48)(h13:¬ k=13)(h14:¬ k=14)(h15:¬ k=15)(h16:¬ k=16)(h17:¬ k=17)(h18:¬ k=18)(h19:¬ k=19)(h20:¬ k=20)(h21:¬ k=21)(h22:¬ k=22)(h23:¬ k=23)(h32:¬ k=32)(h33:¬ k=33)(h31:¬ k=31)(h24:¬ k=24)(h25:¬ k=25)(h26:¬ k=26)(h27:¬ k=27)(h28:¬ k=28)(h29:¬ k=29)(h30:¬ k=30)(h34:¬ k=34)(h35:¬ k=35)(h36:¬ k=36)(h37:¬ k=37)(h38:¬ k=38)(h39:¬ k=39)(h43:¬ k=43)(h44:¬ k=44)(h45:¬ k=45)(h46:¬ k=46)(h47:¬ k=47)(h:Pt wB qb w v l)(ht:Tr wB t (vT k n a s ao m c))(hl:l.length+([aS].map O).length≤dK):Calls Tryz.prog 82 #[pq qb,tg k n a s ao m c] w (PrQ wB qb w v l ([aS].map O)):=by
 try simp only[List.length_append,List.length_map,List.length_cons,List.length_nil]at hl
 have b1:=aC w (.cells (tg k n a s ao m c) 24);have n1:=heap_alloc_new w (.cells (tg k n a s ao m c) 24);have h1:=h.below b1;have ho:v.ownBlock≠some w.heap.size:=fun e=>by have:=(h.own.lt _ e).2;omega
 have hq:w.heap.size≠qb:=by have:=h.lt;omega
 have hz:w.heap.size<(w.alloc (.cells (tg k n a s ao m c) 24)).heap.size:=by simp
 go_enter Tryz.func82,Tryz.ntmps82;go_upto_region 1 with fail;generalize World.alloc w _=w1 at b1 n1 h1 hz ⊢;generalize w.heap.size=B3 at n1 ho hq hz ⊢;have kt:∀ (w':World) (l':List Tk) (rv:List (Nat×List Value)),SP wB qb w1 v w' l' rv→TV w' B3 k n a s (.slice ao m c):=fun _ _ _ S=>(S.old hz hq ho).trans n1
 have KT:=hdq kt;have S0:=SP.begin h1;clear kt;have HZ:=hdq hz;have HN:=hdq n1;have:=TV.facts (KT.out _ _ _ S0);go_upto_block 2 with fail;refine m2q (S0.call fun v' hv=>Rq wB hTab qb t _ v' _ k n a s ao m c h13 h14 h15 h16 h17 h18 h19 h20 h21 h22 h23 h32 h33 h31 h24 h25 h26 h27 h28 h29 h30 h34 h35 h36 h37 h38 h39 h43 h44 h45 h46 h47 hv ht (by first|omega|(simp only[List.length_append,List.length_map,List.length_cons,List.length_nil];omega))) fun x1 S1=>?_;have P:PrQ wB qb w v l ([aS].map O) (.returned (.tuple #[])) _:=PrQ.pre (SP.Da (by simpa only[List.append_assoc,List.append_nil]using S1)) b1;clear hl h h1 b1 S0 S1
 go_wp2
 go_end0;exact P
theorem Oi(wB:World)(hTab:eJ wB)(qb:Nat):TP wB qb none_:=by
 intro w v l k n a s ao m c h ht hl;have hk:k=10:=ht.split.1;have e:prO false none_=[aS].map O:=by decide +kernel
 rw[e]at hl ⊢;exact RD wB hTab qb none_ w v l k n a s ao m c (by omega) (by omega) (by omega) (by omega) (by omega) (by omega) (by omega) (by omega) (by omega) (by omega) (by omega) (by omega) (by omega) (by omega) (by omega) (by omega) (by omega) (by omega) (by omega) (by omega) (by omega) (by omega) (by omega) (by omega) (by omega) (by omega) (by omega) (by omega) (by omega) (by omega) (by omega) (by omega) (by omega) (by omega) (by omega) (by omega) (by omega) (by omega) (by omega) (by omega) (by omega) (by omega) (by omega) (by omega) (by omega) (by omega) h ht hl
mutual
def okT: T→Prop
 | .mk _ n _ _ l=>(-9223372036854775808≤n∧n≤9223372036854775807)∧l.length≤1000000∧Hn l
def Hn: List T→Prop
 | []=>True
 | t::r=>okT t∧Hn r
end
theorem Kk: ∀ {l:List T},Hn l→∀ x,x∈l→okT x:=by
 intro l
 induction l with
 | nil=>intro _ x h;cases h
 | cons t r ih=>
  intro h x hx;unfold Hn at h
  rcases List.mem_cons.1 hx with rfl|hx
  ·exact h.1
  ·exact ih h.2 x hx
theorem It{t:T}(h:okT t):t.l.length≤1000000∧∀ x,x∈t.l→okT x:=by
 obtain⟨k,n,a,w,l⟩:=t;unfold okT at h;exact⟨h.2.1,Kk h.2.2⟩
theorem QZ{t:T}(h:okT t) : -9223372036854775808≤t.n∧t.n≤9223372036854775807:=by
 obtain⟨k,n,a,w,l⟩:=t;unfold okT at h;exact h.1
theorem Ks(l:List T)(i:Nat):Px.part l i=none_∨Px.part l i∈l:=by
 unfold Px.part;rw[List.getD_eq_getElem?_getD]
 cases h:l[i]? with
 | none=>exact .inl rfl
 | some x=>exact .inr (List.mem_of_getElem? h)
theorem zY{t x:T}(h:x∈t.l):depth x<depth t:=by
 obtain⟨k,n,a,w,l⟩:=t;have h1:=Cd (show x∈l from h);have e2:depth (T.mk k n a w l)=1+fG l:=by rw[depth]
 omega
theorem PR(wB:World)(hTab:eJ wB)(qb:Nat):∀ d (t:T),depth t≤d→okT t→TP wB qb t:=by
 have H0:=Oi wB hTab qb;intro d
 induction d using Nat.strongRecOn with
 | _ d ih=>
  intro t hd ho w v lk k n a s ao m c h ht hl;have hm:∀ x,x∈t.l→okT x∧TP wB qb x:=fun x hx=>by
   have:=zY hx;exact⟨(It ho).2 x hx,ih (depth x) (by omega) x (Nat.le_refl _) ((It ho).2 x hx)⟩
  have hm2:∀ x,x∈t.l→∀ y,y∈x.l→TP wB qb y:=fun x hx y hy=>by
   have:=zY hx;have:=zY hy;exact ih (depth y) (by omega) y (Nat.le_refl _) ((It (hm x hx).1).2 y hy)
  have hp:∀ i,Px.part t.l i=none_∨Px.part t.l i∈t.l:=Ks t.l
  have D : PD wB qb t := {
    p := fun i => by rcases hp i with e | e; · rw [e]; exact H0
                     · exact (hm _ e).2
    l := fun y hy => (hm y hy).2
    ll := fun i y hy => by
      rcases hp i with e | e
      · rw [e] at hy; cases hy
      · exact hm2 _ e y hy
    n := (It ho).1
    nn := fun i => by
      rcases hp i with e | e
      · rw [e]; exact Nat.zero_le _
      · exact (It (hm _ e).1).1
    r := QZ ho }
  obtain⟨e1,e2,e3,e4,e5⟩:=ht.split;have e:prO false t=Px.comb false a k n s t.l (t.l.map (prO false)) (t.l.map (prB false)) (t.l.map (prS false)):=by
   rw[e1,e2,e3,e4];obtain⟨k',n',a',w',l'⟩:=t;exact MH false k' n' a' w' l'
  rw[e]at hl ⊢;exact JX wB hTab qb t D w v lk k n a s ao m c h ht hl
end
end Go.Proofs.YtfdlmcgcckkkdaaGreatDoor
