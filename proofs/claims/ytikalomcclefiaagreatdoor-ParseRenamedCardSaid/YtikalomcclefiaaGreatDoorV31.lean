/- Part 31. -/
import Derived.Test.YtikalomcclefiaaGreatDoorV29
import Derived.Test.YtikalomcclefiaaGreatDoorV30
import Derived.Test.YtikalomcclefiaaGreatDoorV13
set_option linter.all false
set_option maxHeartbeats 0
set_option maxRecDepth 100000
namespace Go.Proofs.YtikalomcclefiaaGreatDoor
section
open Go.RowKit Lx Px
def aDI(w:dL):∀ k,-1<=wU w k/\wU w k<=6:=by
 intro k
 induction k with
 | zero=>show (-1:Int)<=-1/\(-1:Int)<=6;decide
 | succ k ih=>
  unfold wU
  split
  ·exact⟨by omega,by omega⟩
  ·exact ih
def asP(wB:World)(hTab:fQ wB)(qb:Nat)(t:T)(D:PD wB qb t)(w:World)(v:Value)(lk:List Tk)(k n a:Int)(s:dL)(ao:iD)(m c:Nat)(h:Pt wB qb w v lk)(ht:Tr wB t (vT k n a s ao m c))(hl:lk.length+(comb false a k n s t.l (t.l.map (aL false)) (t.l.map (lY false)) (t.l.map (wI false))).length<=fG):AAA 67 #[pq qb,tg k n a s ao m c] w (lJ wB qb w v lk (comb false a k n s t.l (t.l.map (aL false)) (t.l.map (lY false)) (t.l.map (wI false)))):=by
 have hnr : -9223372036854775808<=n/\n<=9223372036854775807:=by rw[ht.split.2.1];exact D.r
 have hm5:=ht.split.2.2.2.2
 by_cases hk1:k=1
 ·subst hk1;have e:comb false a 1 n s t.l (t.l.map (aL false)) (t.l.map (lY false)) (t.l.map (wI false))=[(⟨n,s⟩:Tk)]:=by
   show [(⟨n,s⟩:Tk)]=_
   exact Fp
  rw[e]at hl ⊢;exact aLM wB hTab qb t D w v lk n a s ao m c  h ht hl
 by_cases hk2:k=2
 ·subst hk2;have e:comb false a 2 n s t.l (t.l.map (aL false)) (t.l.map (lY false)) (t.l.map (wI false))=jN (t.l.map (aL false)):=by
   show jN (t.l.map (aL false))=_
   exact Fp
  rw[e]at hl ⊢;exact aLe wB hTab qb t D w v lk n a s ao m c  h ht hl
 by_cases hk3:k=3
 ·subst hk3;have e0:comb false a 3 n s t.l (t.l.map (aL false)) (t.l.map (lY false)) (t.l.map (wI false))=W s::(if (n=1/\(3:Int)≠41)\/((3:Int)=41/\s≠wP/\t.l≠[])then bI (t.l.map (aL false))else aR (t.l.map (aL false))):=by
   show W (if (3:Int)=50 then kw false a s (mJ s)else s)::_=_
   rw[aC aD]
  by_cases hn:n=1
  ·have e:comb false a 3 n s t.l (t.l.map (aL false)) (t.l.map (lY false)) (t.l.map (wI false))=[s].map W++(bI (t.l.map (aL false))):=by rw[e0,aF (.inl ⟨hn,by decide⟩)];rfl
   rw[e]at hl ⊢;subst hn;exact aEL wB hTab qb t D w v lk a s ao m c h ht hl
  ·have e:comb false a 3 n s t.l (t.l.map (aL false)) (t.l.map (lY false)) (t.l.map (wI false))=[s].map W++(aR (t.l.map (aL false))):=by rw[e0,aC (λq=>q.elim (λz=>hn z.1) (λz=>absurd z.1 aD))];rfl
   rw[e]at hl ⊢;exact aGn wB hTab qb t D w v lk n a s ao m c hn h ht hl
 by_cases hk50:k=50
 ·subst hk50;have e0:comb false a 50 n s t.l (t.l.map (aL false)) (t.l.map (lY false)) (t.l.map (wI false))=W s::(if (n=1/\(50:Int)≠41)\/((50:Int)=41/\s≠wP/\t.l≠[])then bI (t.l.map (aL false))else aR (t.l.map (aL false))):=by
   show W (if (50:Int)=50 then kw false a s (mJ s)else s)::_=_
   rw[aF rfl,kwF]
  by_cases hn:n=1
  ·have e:comb false a 50 n s t.l (t.l.map (aL false)) (t.l.map (lY false)) (t.l.map (wI false))=[s].map W++(bI (t.l.map (aL false))):=by rw[e0,aF (.inl ⟨hn,by decide⟩)];rfl
   rw[e]at hl ⊢;subst hn;exact aCH wB hTab qb t D w v lk a s ao m c h ht hl
  ·have e:comb false a 50 n s t.l (t.l.map (aL false)) (t.l.map (lY false)) (t.l.map (wI false))=[s].map W++(aR (t.l.map (aL false))):=by rw[e0,aC (λq=>q.elim (λz=>hn z.1) (λz=>absurd z.1 aD))];rfl
   rw[e]at hl ⊢;exact ayT wB hTab qb t D w v lk n a s ao m c hn h ht hl
 by_cases hk41:k=41
 ·subst hk41;have e0:comb false a 41 n s t.l (t.l.map (aL false)) (t.l.map (lY false)) (t.l.map (wI false))=W s::(if (n=1/\(41:Int)≠41)\/((41:Int)=41/\s≠wP/\t.l≠[])then bI (t.l.map (aL false))else aR (t.l.map (aL false))):=by
   show W (if (41:Int)=50 then kw false a s (mJ s)else s)::_=_
   rw[aC aD]
  by_cases hs:s=⟨#[80]⟩
  ·have e:comb false a 41 n s t.l (t.l.map (aL false)) (t.l.map (lY false)) (t.l.map (wI false))=[s].map W++(aR (t.l.map (aL false))):=by rw[e0,aC (λq=>q.elim (λz=>z.2 rfl) (λz=>z.2.1 hs))];rfl
   rw[e]at hl ⊢;subst hs
   by_cases hn:n=1
   ·subst hn;exact aCv wB hTab qb t D w v lk a ao m c h ht hl
   ·exact aAQ wB hTab qb t D w v lk n a ao m c hn h ht hl
  ·by_cases hnil:t.l=[]
   ·have e:comb false a 41 n s t.l (t.l.map (aL false)) (t.l.map (lY false)) (t.l.map (wI false))=[s].map W++(aR (t.l.map (aL false))):=by rw[e0,aC (λq=>q.elim (λz=>z.2 rfl) (λz=>z.2.2 hnil))];rfl
    rw[e]at hl ⊢;obtain rfl:m=0:=by rw[hm5,hnil];rfl
    by_cases hn:n=1
    ·subst hn;exact axR wB hTab qb t D w v lk a s ao c hs h ht hl
    ·exact asH wB hTab qb t D w v lk n a s ao c hn hs h ht hl
   ·have e:comb false a 41 n s t.l (t.l.map (aL false)) (t.l.map (lY false)) (t.l.map (wI false))=[s].map W++(bI (t.l.map (aL false))):=by rw[e0,aF (.inr ⟨rfl,hs,hnil⟩)];rfl
    rw[e]at hl ⊢;have hm0:t.l.length≠0:=λe=>hnil (nN.1 e)
    by_cases hn:n=1
    ·subst hn;exact aAu wB hTab qb t D w v lk a s ao m c hs aB h ht hl
    ·exact aAh wB hTab qb t D w v lk n a s ao m c hn hs aB h ht hl
 by_cases hk4:k=4
 ·subst hk4;have e:comb false a 4 n s t.l (t.l.map (aL false)) (t.l.map (lY false)) (t.l.map (wI false))=aL false (Px.part t.l 0)++([fT].map O++(aL false (Px.part t.l 1))):=by
   show ct (t.l.map (aL false)) 0++O fT::ct (t.l.map (aL false)) 1=_
   exact Fp
  rw[e]at hl ⊢;exact aLo wB hTab qb t D w v lk n a s ao m c  h ht hl
 by_cases hk5:k=5
 ·subst hk5;have e:comb false a 5 n s t.l (t.l.map (aL false)) (t.l.map (lY false)) (t.l.map (wI false))=[s].map O++(operand (Px.part t.l 0) (aL false (Px.part t.l 0)) 6):=by
   show O s::operand (Px.part t.l 0) (ct (t.l.map (aL false)) 0) 6=_
   exact Fp
  rw[e]at hl ⊢;exact aLK wB hTab qb t D w v lk n a s ao m c  h ht hl
 by_cases hk6:k=6
 ·subst hk6;have e:comb false a 6 n s t.l (t.l.map (aL false)) (t.l.map (lY false)) (t.l.map (wI false))=operand (Px.part t.l 0) (aL false (Px.part t.l 0)) (level s)++([s].map O++(operand (Px.part t.l 1) (aL false (Px.part t.l 1)) (level s+1))):=by
   show operand (Px.part t.l 0) (ct (t.l.map (aL false)) 0) (level s)++O s::operand (Px.part t.l 1) (ct (t.l.map (aL false)) 1) (level s+1)=_
   exact Fp
  rw[e]at hl ⊢;exact aLd wB hTab qb t D w v lk n a s ao m c (level s) rfl (aDI s 6) h ht hl
 by_cases hk7:k=7
 ·subst hk7;have e:comb false a 7 n s t.l (t.l.map (aL false)) (t.l.map (lY false)) (t.l.map (wI false))=[Cn].map O:=by
   show [O Cn]=_
   exact Fp
  rw[e]at hl ⊢;exact aLr wB hTab qb t D w v lk n a s ao m c  h ht hl
 by_cases hk11:k=11
 ·subst hk11;have e:comb false a 11 n s t.l (t.l.map (aL false)) (t.l.map (lY false)) (t.l.map (wI false))=[s].map W:=by
   show [W s]=_
   exact Fp
  rw[e]at hl ⊢;exact aJQ wB hTab qb t D w v lk n a s ao m c  h ht hl
 by_cases hk12:k=12
 ·subst hk12
  by_cases hnil:t.l=[]
  ·have e:comb false a 12 n s t.l (t.l.map (aL false)) (t.l.map (lY false)) (t.l.map (wI false))=[s].map W:=by
    show W s::(if t.l=[]then []else bI (t.l.map (aL false)))=_
    rw[aF hnil];rfl
   rw[e]at hl ⊢;obtain rfl:m=0:=by rw[hm5,hnil];rfl
   exact aIP wB hTab qb t D w v lk n a s ao c h ht hl
  ·have e:comb false a 12 n s t.l (t.l.map (aL false)) (t.l.map (lY false)) (t.l.map (wI false))=[s].map W++(bI (t.l.map (aL false))):=by
    show W s::(if t.l=[]then []else bI (t.l.map (aL false)))=_
    rw[aC hnil];rfl
   rw[e]at hl ⊢;have:t.l.length≠0:=λe=>hnil (nN.1 e)
   exact aHr wB hTab qb t D w v lk n a s ao m c aB h ht hl
 by_cases hk42:k=42
 ·subst hk42;have e0:comb false a 42 n s t.l (t.l.map (aL false)) (t.l.map (lY false)) (t.l.map (wI false))=(if isConst (Px.part t.l 0)then O cJ::Nm n::O dA::aR (t.l.map (aL false))else Nm n::bI (t.l.map (aL false))):=rfl
  cases hc:isConst (Px.part t.l 0) with
  | true=>
   have e:comb false a 42 n s t.l (t.l.map (aL false)) (t.l.map (lY false)) (t.l.map (wI false))=[cJ].map O++([Nm n]++([dA].map O++(aR (t.l.map (aL false))))):=by rw[e0,hc];rfl
   rw[e]at hl ⊢;exact aGc wB hTab qb t D w v lk n a s ao m c hnr hc h ht hl
  | false=>
   have e:comb false a 42 n s t.l (t.l.map (aL false)) (t.l.map (lY false)) (t.l.map (wI false))=[Nm n]++(bI (t.l.map (aL false))):=by rw[e0,hc];rfl
   rw[e]at hl ⊢;exact aEg wB hTab qb t D w v lk n a s ao m c hnr hc h ht hl
 by_cases hk49:k=49
 ·subst hk49;have e0:comb false a 49 n s t.l (t.l.map (aL false)) (t.l.map (lY false)) (t.l.map (wI false))=(if (Px.part t.l 0).kind=10 then []else ct (t.l.map (aL false)) 0++[O cU])++ct (t.l.map (aL false)) 1:=rfl;rw[Mf,Mf]at e0
  by_cases hc:(Px.part t.l 0).kind=10
  ·have e:comb false a 49 n s t.l (t.l.map (aL false)) (t.l.map (lY false)) (t.l.map (wI false))=aL false (Px.part t.l 1):=by rw[e0,aF hc];rfl
   rw[e]at hl ⊢;exact aHW wB hTab qb t D w v lk n a s ao m c hc h ht hl
  ·have e:comb false a 49 n s t.l (t.l.map (aL false)) (t.l.map (lY false)) (t.l.map (wI false))=aL false (Px.part t.l 0)++([cU].map O++(aL false (Px.part t.l 1))):=by rw[e0,aC hc,bT];rfl
   rw[e]at hl ⊢;exact aHi wB hTab qb t D w v lk n a s ao m c hc h ht hl
 by_cases hk48:k=48
 ·subst hk48;have hz:(Px.part t.l 1).l=[]↔(Px.part t.l 1).l.length=0:=nN.symm;have e0:comb false a 48 n s t.l (t.l.map (aL false)) (t.l.map (lY false)) (t.l.map (wI false))=(if n=0 then []else [Nm n])++((if (Px.part t.l 0).kind=40 then cb (t.l.map (lY false)) 0 else ct (t.l.map (aL false)) 0)++((if (Px.part t.l 1).l=[]then []else cb (t.l.map (lY false)) 1)++((t.l.map (aL false)).drop 2).flatten)):=rfl;rw[Mr,Mr,Mf,<- vF]at e0;rw[e0]at hl ⊢
  by_cases hn:n=0
  ·subst hn;rw[aF rfl,dI]at hl ⊢
   by_cases hk0:(Px.part t.l 0).kind=40
   ·rw[aF hk0]at hl ⊢
    by_cases ha:(Px.part t.l 1).l.length=0
    ·rw[aF (hz.2 ha),dI]at hl ⊢;exact avL wB hTab qb t D w v lk a s ao m c hk0 ha h ht hl
    ·rw[aC (λq=>ha (hz.1 q))]at hl ⊢;exact awR wB hTab qb t D w v lk a s ao m c hk0 aB h ht hl
   ·rw[aC hk0]at hl ⊢
    by_cases ha:(Px.part t.l 1).l.length=0
    ·rw[aF (hz.2 ha),dI]at hl ⊢;exact awL wB hTab qb t D w v lk a s ao m c hk0 ha h ht hl
    ·rw[aC (λq=>ha (hz.1 q))]at hl ⊢;exact auK wB hTab qb t D w v lk a s ao m c hk0 aB h ht hl
  ·rw[aC hn]at hl ⊢
   by_cases hk0:(Px.part t.l 0).kind=40
   ·rw[aF hk0]at hl ⊢
    by_cases ha:(Px.part t.l 1).l.length=0
    ·rw[aF (hz.2 ha),dI]at hl ⊢;exact asZ wB hTab qb t D w v lk n a s ao m c hnr hn hk0 ha h ht hl
    ·rw[aC (λq=>ha (hz.1 q))]at hl ⊢;exact awM wB hTab qb t D w v lk n a s ao m c hnr hn hk0 aB h ht hl
   ·rw[aC hk0]at hl ⊢
    by_cases ha:(Px.part t.l 1).l.length=0
    ·rw[aF (hz.2 ha),dI]at hl ⊢;exact axA wB hTab qb t D w v lk n a s ao m c hnr hn hk0 ha h ht hl
    ·rw[aC (λq=>ha (hz.1 q))]at hl ⊢;exact axO wB hTab qb t D w v lk n a s ao m c hnr hn hk0 aB h ht hl
 have e:comb false a k n s t.l (t.l.map (aL false)) (t.l.map (lY false)) (t.l.map (wI false))=Px.lZ false a k n s t.l (t.l.map (aL false)) (t.l.map (lY false)) (t.l.map (wI false)):=by
  unfold Px.comb;rw[aC hk1,aC hk2,aC (λh=>h.elim hk3 (λh=>h.elim hk50 hk41))]
  iterate 9 rw[aC iS]
 rw[e]at hl ⊢;exact aEi wB hTab qb t D w v lk k n a s ao m c hk1 hk2 hk3 hk50 hk41 hk4 hk5 hk6 hk7 hk11 hk12 hk42 hk49 hk48 _ (λw' v' l' h' hl'=>Wr wB hTab qb t D w' v' l' k n a s ao m c h' ht hl') h ht hl
section
variable(wB:World)(hTab:fQ wB)(qb:Nat)(t:T)(w:World)(v:Value)(l:List Tk)(k n a:Int)(s:dL)(ao:iD)(m c:Nat)
include wB hTab qb t w v l k n a s ao m c
theorem aLi(h24:¬ k=24)(h25:¬ k=25)(h26:¬ k=26)(h27:¬ k=27)(h28:¬ k=28)(h29:¬ k=29)(h30:¬ k=30)(h34:¬ k=34)(h35:¬ k=35)(h36:¬ k=36)(h37:¬ k=37)(h38:¬ k=38)(h39:¬ k=39)(h43:¬ k=43)(h44:¬ k=44)(h45:¬ k=45)(h46:¬ k=46)(h47:¬ k=47)(h:Pt wB qb w v l)(ht:Tr wB t (vT k n a s ao m c))(hl:l.length+(([]:List Tk)).length<=fG):AAA 147 #[pq qb,tg k n a s ao m c] w (lJ wB qb w v l (([]:List Tk))):=by
 try simp only[aO,bN,aV,dD]at hl
 have b1:iY w ((w.alloc (.cells #[pq qb] 100)).alloc (.cells (tg k n a s ao m c) 24)):=(aJ w (.cells #[pq qb] 100)).trans ((aJ (w.alloc (.cells #[pq qb] 100)) (.cells (tg k n a s ao m c) 24)).mono aI);have n2:((w.alloc (.cells #[pq qb] 100)).alloc (.cells (tg k n a s ao m c) 24)).heap[w.heap.size]?=some (.cells #[pq qb] 100 (0,0)):=(lP _ _ _ aI).trans (aP w _);have n1:((w.alloc (.cells #[pq qb] 100)).alloc (.cells (tg k n a s ao m c) 24)).heap[w.heap.size+1]?=some (.cells (tg k n a s ao m c) 24 (0,0)):=by
  have:=aP (w.alloc (.cells #[pq qb] 100)) (.cells (tg k n a s ao m c) 24)
  rwa[show (w.alloc (.cells #[pq qb] 100)).heap.size=w.heap.size+1 by simp]at this
 have h1:=h.below b1;have ho2:v.ownBlock≠some w.heap.size:=λe=>by have:=(h.own.lt _ e).2;omega
 have hq2:w.heap.size≠qb:=by have:=h.lt;omega
 have ho:v.ownBlock≠some (w.heap.size+1):=λe=>by have:=(h.own.lt _ e).2;omega
 have hq:w.heap.size+1≠qb:=by have:=h.lt;omega
 have hz2:w.heap.size<((w.alloc (.cells #[pq qb] 100)).alloc (.cells (tg k n a s ao m c) 24)).heap.size:=by simp;omega
 have hz:w.heap.size+1<((w.alloc (.cells #[pq qb] 100)).alloc (.cells (tg k n a s ao m c) 24)).heap.size:=by simp
 go_in;go_upto_region 1 with fail;generalize World.alloc (World.alloc w _) _=w1 at b1 n1 n2 h1 hz hz2 ⊢;generalize w.heap.size+1=B3 at n1 ho hq hz ⊢;generalize w.heap.size=B2 at n2 ho2 hq2 hz2 ⊢;have kt:∀ (w':World) (l':List Tk) (rv:List (Nat×List Value)),SP wB qb w1 v w' l' rv->TV w' B3 k n a s (.slice ao m c):=λ_ _ _ S=>(S.old hz hq ho).trans n1
 have kp:∀ (w':World) (l':List Tk) (rv:List (Nat×List Value)),SP wB qb w1 v w' l' rv->w'.cell? (AAF B2 0)=some (.pointer (some (AAF qb 0))):=λ_ _ _ S=>aK _ _ 0 _ _ _ ((S.old hz2 hq2 ho2).trans n2)
 have KT:=aN kt;have KP:=aN kp;have S0:=SP.begin h1;clear kt kp;have HZ:=aN hz;have HN:=aN n1;have HP2:=aN n2;have:=AAD (KT.out _ _ _ S0);have kq0:=KP.out _ _ _ S0;have P:lJ wB qb w v l (([]:List Tk)) (.returned (.tuple #[])) _:=lJ.pre (SP.KX (by simpa only[bT,bD]using S0)) b1;clear hl h h1 b1 S0
 go_wp2
 go_end0;exact P
theorem aLP(h18:¬ k=18)(h19:¬ k=19)(h20:¬ k=20)(h21:¬ k=21)(h22:¬ k=22)(h23:¬ k=23)(h32:¬ k=32)(h33:¬ k=33)(h31:¬ k=31)(h24:¬ k=24)(h25:¬ k=25)(h26:¬ k=26)(h27:¬ k=27)(h28:¬ k=28)(h29:¬ k=29)(h30:¬ k=30)(h34:¬ k=34)(h35:¬ k=35)(h36:¬ k=36)(h37:¬ k=37)(h38:¬ k=38)(h39:¬ k=39)(h43:¬ k=43)(h44:¬ k=44)(h45:¬ k=45)(h46:¬ k=46)(h47:¬ k=47)(h:Pt wB qb w v l)(ht:Tr wB t (vT k n a s ao m c))(hl:l.length+([aT].map O).length<=fG):AAA 131 #[pq qb,tg k n a s ao m c] w (lJ wB qb w v l ([aT].map O)):=by
 try simp only[aO,bN,aV,dD]at hl
 have b1:=aJ w (.cells (tg k n a s ao m c) 24);have n1:=aP w (.cells (tg k n a s ao m c) 24);have h1:=h.below b1;have ho:v.ownBlock≠some w.heap.size:=λe=>by have:=(h.own.lt _ e).2;omega
 have hq:w.heap.size≠qb:=by have:=h.lt;omega
 have hz:w.heap.size<(w.alloc (.cells (tg k n a s ao m c) 24)).heap.size:=by simp
 go_in;go_upto_region 1 with fail;generalize World.alloc w _=w1 at b1 n1 h1 hz ⊢;generalize w.heap.size=B3 at n1 ho hq hz ⊢;have kt:∀ (w':World) (l':List Tk) (rv:List (Nat×List Value)),SP wB qb w1 v w' l' rv->TV w' B3 k n a s (.slice ao m c):=λ_ _ _ S=>(S.old hz hq ho).trans n1
 have KT:=aN kt;have S0:=SP.begin h1;clear kt;have HZ:=aN hz;have HN:=aN n1;have:=AAD (KT.out _ _ _ S0);go_upto_block 2 with fail;refine gU (S0.call λv' hv=>aLi wB hTab qb t _ v' _ k n a s ao m c h24 h25 h26 h27 h28 h29 h30 h34 h35 h36 h37 h38 h39 h43 h44 h45 h46 h47 hv ht Di) λx1 S1=>?_;have:=AAD (KT.out _ _ _ S1);go_upto_block 3 with fail;refine gU (S1.opC [aT] Di #[.string ⟨#[59]⟩] rfl 1 rfl) λx2 S2=>?_;have P:lJ wB qb w v l ([aT].map O) (.returned (.tuple #[])) _:=lJ.pre (SP.KX (by simpa only[bT,bD]using S2)) b1;exact AS
theorem aLE(h13:¬ k=13)(h14:¬ k=14)(h15:¬ k=15)(h16:¬ k=16)(h17:¬ k=17)(h18:¬ k=18)(h19:¬ k=19)(h20:¬ k=20)(h21:¬ k=21)(h22:¬ k=22)(h23:¬ k=23)(h32:¬ k=32)(h33:¬ k=33)(h31:¬ k=31)(h24:¬ k=24)(h25:¬ k=25)(h26:¬ k=26)(h27:¬ k=27)(h28:¬ k=28)(h29:¬ k=29)(h30:¬ k=30)(h34:¬ k=34)(h35:¬ k=35)(h36:¬ k=36)(h37:¬ k=37)(h38:¬ k=38)(h39:¬ k=39)(h43:¬ k=43)(h44:¬ k=44)(h45:¬ k=45)(h46:¬ k=46)(h47:¬ k=47)(h:Pt wB qb w v l)(ht:Tr wB t (vT k n a s ao m c))(hl:l.length+([aT].map O).length<=fG):AAA 109 #[pq qb,tg k n a s ao m c] w (lJ wB qb w v l ([aT].map O)):=by
 try simp only[aO,bN,aV,dD]at hl
 have b1:=aJ w (.cells (tg k n a s ao m c) 24);have n1:=aP w (.cells (tg k n a s ao m c) 24);have h1:=h.below b1;have ho:v.ownBlock≠some w.heap.size:=λe=>by have:=(h.own.lt _ e).2;omega
 have hq:w.heap.size≠qb:=by have:=h.lt;omega
 have hz:w.heap.size<(w.alloc (.cells (tg k n a s ao m c) 24)).heap.size:=by simp
 go_in;go_upto_region 1 with fail;generalize World.alloc w _=w1 at b1 n1 h1 hz ⊢;generalize w.heap.size=B3 at n1 ho hq hz ⊢;have kt:∀ (w':World) (l':List Tk) (rv:List (Nat×List Value)),SP wB qb w1 v w' l' rv->TV w' B3 k n a s (.slice ao m c):=λ_ _ _ S=>(S.old hz hq ho).trans n1
 have KT:=aN kt;have S0:=SP.begin h1;clear kt;have HZ:=aN hz;have HN:=aN n1;have:=AAD (KT.out _ _ _ S0);go_upto_block 2 with fail;refine gU (S0.call λv' hv=>aLP wB hTab qb t _ v' _ k n a s ao m c h18 h19 h20 h21 h22 h23 h32 h33 h31 h24 h25 h26 h27 h28 h29 h30 h34 h35 h36 h37 h38 h39 h43 h44 h45 h46 h47 hv ht Di) λx1 S1=>?_;exact TG
theorem aLA(h1:¬ k=1)(h2:¬ k=2)(h3:¬ k=3)(h50:¬ k=50)(h41:¬ k=41)(h4:¬ k=4)(h5:¬ k=5)(h6:¬ k=6)(h7:¬ k=7)(h11:¬ k=11)(h12:¬ k=12)(h42:¬ k=42)(h49:¬ k=49)(h48:¬ k=48)(h13:¬ k=13)(h14:¬ k=14)(h15:¬ k=15)(h16:¬ k=16)(h17:¬ k=17)(h18:¬ k=18)(h19:¬ k=19)(h20:¬ k=20)(h21:¬ k=21)(h22:¬ k=22)(h23:¬ k=23)(h32:¬ k=32)(h33:¬ k=33)(h31:¬ k=31)(h24:¬ k=24)(h25:¬ k=25)(h26:¬ k=26)(h27:¬ k=27)(h28:¬ k=28)(h29:¬ k=29)(h30:¬ k=30)(h34:¬ k=34)(h35:¬ k=35)(h36:¬ k=36)(h37:¬ k=37)(h38:¬ k=38)(h39:¬ k=39)(h43:¬ k=43)(h44:¬ k=44)(h45:¬ k=45)(h46:¬ k=46)(h47:¬ k=47)(h:Pt wB qb w v l)(ht:Tr wB t (vT k n a s ao m c))(hl:l.length+([aT].map O).length<=fG):AAA 67 #[pq qb,tg k n a s ao m c] w (lJ wB qb w v l ([aT].map O)):=by
 try simp only[aO,bN,aV,dD]at hl
 have b1:=aJ w (.cells (tg k n a s ao m c) 24);have n1:=aP w (.cells (tg k n a s ao m c) 24);have h1:=h.below b1;have ho:v.ownBlock≠some w.heap.size:=λe=>by have:=(h.own.lt _ e).2;omega
 have hq:w.heap.size≠qb:=by have:=h.lt;omega
 have hz:w.heap.size<(w.alloc (.cells (tg k n a s ao m c) 24)).heap.size:=by simp
 go_in;go_upto_region 1 with fail;generalize World.alloc w _=w1 at b1 n1 h1 hz ⊢;generalize w.heap.size=B3 at n1 ho hq hz ⊢;have kt:∀ (w':World) (l':List Tk) (rv:List (Nat×List Value)),SP wB qb w1 v w' l' rv->TV w' B3 k n a s (.slice ao m c):=λ_ _ _ S=>(S.old hz hq ho).trans n1
 have KT:=aN kt;have S0:=SP.begin h1;clear kt;have HZ:=aN hz;have HN:=aN n1;have:=AAD (KT.out _ _ _ S0);go_upto_block 2 with fail;refine gU (S0.call λv' hv=>aLE wB hTab qb t _ v' _ k n a s ao m c h13 h14 h15 h16 h17 h18 h19 h20 h21 h22 h23 h32 h33 h31 h24 h25 h26 h27 h28 h29 h30 h34 h35 h36 h37 h38 h39 h43 h44 h45 h46 h47 hv ht Di) λx1 S1=>?_;exact TG
end
def aEp(wB:World)(hTab:fQ wB)(qb:Nat):TP wB qb none_:=by
 intro w v l k n a s ao m c h ht hl;have hk:k=10:=ht.split.1;have e:aL false none_=[aT].map O:=by decide +kernel
 rw[e]at hl ⊢;exact aLA wB hTab qb none_ w v l k n a s ao m c aB aB aB aB aB aB aB aB aB aB aB aB aB aB aB aB aB aB aB aB aB aB aB aB aB aB aB aB aB aB aB aB aB aB aB aB aB aB aB aB aB aB aB aB aB aB h ht hl
mutual
def TJ: T->Prop
 | .mk _ n _ _ l=>(-9223372036854775808<=n/\n<=9223372036854775807)/\l.length<=1000000/\Vl l
def Vl: List T->Prop
 | []=>True
 | t::r=>TJ t/\Vl r
end
def azD: ∀ {l:List T},Vl l->∀ x,x∈l->TJ x:=by
 intro l
 induction l with
 | nil=>intro _ x h;cases h
 | cons t r ih=>
  intro h x hx;unfold Vl at h
  rcases bO.1 hx with rfl|hx
  ·exact h.1
  ·exact ih h.2 x hx
def aeI{t:T}(h:TJ t):t.l.length<=1000000/\∀ x,x∈t.l->TJ x:=by
 obtain⟨k,n,a,w,l⟩:=t;unfold TJ at h;exact⟨h.2.1,azD h.2.2⟩
def aJj{t:T}(h:TJ t) : -9223372036854775808<=t.n/\t.n<=9223372036854775807:=by
 obtain⟨k,n,a,w,l⟩:=t;unfold TJ at h;exact h.1
def aAA(l:List T)(i:Nat):Px.part l i=none_\/Px.part l i∈l:=by
 unfold Px.part;rw[dH]
 cases h:l[i]? with
 | none=>exact .inl rfl
 | some x=>exact .inr (lN h)
def Ve{t x:T}(h:x∈t.l):depth x<depth t:=by
 exact QR
def aHA(wB:World)(hTab:fQ wB)(qb:Nat):∀ d (t:T),depth t<=d->TJ t->TP wB qb t:=by
 have H0:=aEp wB hTab qb;intro d
 induction d using Nat.strongRecOn with
 | _ d ih=>
  intro t hd ho w v lk k n a s ao m c h ht hl;have hm:∀ x,x∈t.l->TJ x/\TP wB qb x:=λx hx=>by
   have:=Ve hx;exact⟨(aeI ho).2 x hx,ih (depth x) aB x (aG _) ((aeI ho).2 x hx)⟩
  have hm2:∀ x,x∈t.l->∀ y,y∈x.l->TP wB qb y:=λx hx y hy=>by
   have:=Ve hx;have:=Ve hy;exact ih (depth y) aB y (aG _) ((aeI (hm x hx).1).2 y hy)
  have hp:∀ i,Px.part t.l i=none_\/Px.part t.l i∈t.l:=aAA t.l
  have D : PD wB qb t := {
    p := λi => by
      rcases hp i with e | e
      · rw [e]; exact H0
      · exact (hm _ e).2
    l := λy hy => (hm y hy).2
    ll := λi y hy => by
      rcases hp i with e | e
      · rw [e] at hy; cases hy
      · exact hm2 _ e y hy
    n := (aeI ho).1
    nn := λi => by
      rcases hp i with e | e
      · rw [e]; exact aS _
      · exact (aeI (hm _ e).1).1
    r := aJj ho }
  obtain⟨e1,e2,e3,e4,e5⟩:=ht.split;have e:aL false t=Px.comb false a k n s t.l (t.l.map (aL false)) (t.l.map (lY false)) (t.l.map (wI false)):=by
   rw[e1,e2,e3,e4];obtain⟨k',n',a',w',l'⟩:=t;exact eM false k' n' a' w' l'
  rw[e]at hl ⊢;exact asP wB hTab qb t D w v lk k n a s ao m c h ht hl
end
