/- Part 32. -/
import Derived.Test.YtikalomcclefiaaGreatDoorV31
set_option linter.all false
set_option maxHeartbeats 0
set_option maxRecDepth 100000
namespace Go.Proofs.YtikalomcclefiaaGreatDoor
section
open Go.RowKit Lx Px
def Ox(t:T):1<=nodes t:=by obtain⟨k,n,a,w,l⟩:=t;rw[nodes];omega
def lU: ∀ (l:List T),l.length<=bV l:=by
 intro l
 induction l with
 | nil=>exact aS _
 | cons x r ih=>have:=Ox x;rw[bV,aV];omega
def adR: ∀ (l:List T) (x:T),jX (l++[x])=max (jX l) (depth x):=by
 intro l x
 induction l with
 | nil=>rw[dI,jX];exact Nat.max_comm _ _
 | cons y r ih=>rw[kE,jX,jX,ih];omega
def Jw: ∀ d (t:T),depth t<=d->depth t<=nodes t:=by
 intro d
 induction d using Nat.strongRecOn with
 | _ d ih=>
  intro t hd;obtain⟨k,n,a,w,l⟩:=t;have hl:∀ m:List T,(∀ x,x∈m->depth x<=nodes x)->jX m<=bV m:=by
   intro m
   induction m with
   | nil=>intro _;exact aG _
   | cons x r ihr=>
    intro h;have h1:=h x (.head _);have h2:=ihr λy hy=>h y (.tail _ hy)
    rw[jX,bV];omega
  have h1:=hl l λx hx=>ih (depth x) (by have:=Px.sD (t:=T.mk k n a w l) hx;omega) x (aG _)
  rw[depth,nodes];omega
def Kd(l:List T)(k:Nat)(hk:k<l.length):bV (l.take (k+1))=bV (l.take k)+nodes (l[k]'hk):=by
 rw[jY hk,WE,bV,bV];rfl
def aEj(l:List T)(k:Nat)(hk:k<l.length):jX (l.take (k+1))=max (jX (l.take k)) (depth (l[k]'hk)):=by
 rw[jY hk,adR]
def agD(wB:World):∀ d (t:T),depth t<=d->nodes t<=1000000000->∀ (w:World),iY wB w->∀ (k n a:Int) (s:dL) (ao:iD) (m c:Nat),Tr wB t (vT k n a s ao m c)->AAA 37 #[tg k n a s ao m c] w λe w'=>e=.returned (.tuple #[iq (nodes t:Nat),iq (depth t:Nat)])/\iY w w':=by
 intro d
 induction d using Nat.strongRecOn with
 | _ d ih=>
  intro t hd hN w low k n a s ao m c ht;have e1:nodes t=1+bV t.l:=by obtain⟨k,n,a,w,l⟩:=t;rw[nodes];rfl
  have e2:depth t=1+jX t.l:=by obtain⟨k,n,a,w,l⟩:=t;rw[depth];rfl
  have e3:=Jw _ t (aG _);have e4:=lU t.l;have IH:=aN (λ(x:T) (hx:x∈t.l)=>ih (depth x) (by have:=Px.sD hx;omega) x (aG _));clear ih;obtain rfl:m=t.l.length:=ht.split.2.2.2.2;have HT:=aN ht;clear ht;have b1:=aJ w (.cells (tg k n a s ao t.l.length c) 24);have t1:=TV.new w k n a s (.slice ao t.l.length c);go_in;go_upto_region 1 with fail;generalize World.alloc w _=w1 at b1 t1 ⊢;have low1:=low.trans (b1.mono low.size);have:=AAD t1;go_wp2_with fail
  go_loopg [4,5,13] t.l.length (λg t4 t5 t13 wr=>∃ (q:Nat),t13=.int .i64 q/\q<=t.l.length/\g=t.l.length - q/\t4=.int .i64 ((1+bV (t.l.take q):Nat):Int)/\t5=.int .i64 (jX (t.l.take q):Nat)/\iY w1 wr)
  case atStart=>exact⟨0,rfl,aS _,rfl,rfl,rfl,bH _ _⟩
  case round=>
   obtain⟨q,rfl,hq,hg,rfl,rfl,hB⟩:=hrel;have HG:=aN hg;clear hg;have lowr:=low1.trans (hB.mono low1.size)
   by_cases hlt:q<t.l.length
   ·obtain⟨ao',c',vs',e,hTs,hrow⟩:=mH.tree (rv:=[]) lowr HT.out;obtain⟨b,off,rfl,_,hcell⟩:=hrow kF;simp only[dZ,fD]at e
    obtain⟨rfl,rfl⟩:=e;obtain⟨k1,n1,a1,s1,o1,m1,c1,hTr,d0,d1,d2,d3,d4⟩:=Tr.elem hTs hcell q hlt;have hC:=IH.out _ (eJ hlt);have nt:=Kd t.l q hlt;have dt:=aEj t.l q hlt;have td:=zQ t.l (q+1);generalize t.l[q]'hlt=y at hTr hC nt dt;have x1:(q:Int)<(t.l.length:Int):=by omega
    have hy:=Jw _ y (aG _);go_upto_region 5 with fail;have b2:=aJ wr (.cells (tg k1 n1 a1 s1 o1 m1 c1) 24);have t2:=TV.new wr k1 n1 a1 s1 (.slice o1 m1 c1);generalize World.alloc wr _=w2 at b2 t2 ⊢;clear d0 d1 d2 d3 d4 hcell;have:=AAD t2;go_upto_block 5 with fail;refine(hC aB w2 (lowr.trans (b2.mono lowr.size)) k1 n1 a1 s1 o1 m1 c1 hTr).mono ?_;rintro e w3 ⟨rfl,b3⟩;have hB3:=hB.trans ((b2.mono hB.size).trans (b3.mono (aZ hB.size b2.size)));have HN2:=aN nt;have hbd:1+bV (t.l.take (q+1))<=1000000000:=by omega
    have HD:=aN dt;clear dt nt td hC;go_wp2_with fail
    go_roundg (t.l.length - (q+1))
    case measure=>rw[HG.out];omega
    case rel=>exact⟨q+1,by go_num,hlt,rfl,by have:=HN2.out;exact congrArg _ (by rw[IntWalk.wrap64_in _ aB];omega),by rw[HD.out];exact congrArg _ aB,hB3⟩
   ·have hqe:q=t.l.length:=by omega
    have x1:¬ (q:Int)<(t.l.length:Int):=by omega
    rw[hqe,jP];go_wp2_with fail
    go_ret2
    refine⟨?_,b1.trans (hB.mono b1.size)⟩
    show Ending.returned (.tuple #[iq (1+(bV t.l:Int)),iq ((jX t.l:Int)+1)])=_
    rw[show ((jX t.l:Int)+1)=1+(jX t.l:Int)by omega]
def Fy: ∀ {l l':List T},dK l l'=true->l.length=l'.length/\∀ k (h:k<l.length) (hqq:k<l'.length),dM (l[k]'h) (l'[k]'hqq)=true:=by
 intro l
 induction l with
 | nil=>
  intro l' h
  cases l' with
  | nil=>exact⟨rfl,λk h=>absurd h (Nat.not_lt_zero _)⟩
  | cons y r=>exact oP
 | cons x r ih=>
  intro l' h
  cases l' with
  | nil=>exact oP
  | cons y r'=>
   unfold dK at h;rw[bA]at h;obtain⟨h1,h2⟩:=ih h.2;refine⟨by simp[h1],λk hk hk'=>?_⟩
   cases k with
   | zero=>exact h.1
   | succ k=>exact h2 k AI (by simpa using hk')
def YD: ∀ {l l':List T},l.length=l'.length->(∀ k (h:k<l.length) (hqq:k<l'.length),dM (l[k]'h) (l'[k]'hqq)=true)->dK l l'=true:=by
 intro l
 induction l with
 | nil=>
  intro l' h _
  cases l' with
  | nil=>unfold dK;rfl
  | cons y r=>simp at h
 | cons x r ih=>
  intro l' h H
  cases l' with
  | nil=>simp at h
  | cons y r'=>
   unfold dK;rw[bA];exact⟨H 0 (Nat.succ_pos _) (Nat.succ_pos _),ih qA λk hk hk'=>H (k+1) (Nat.succ_lt_succ hk) (Nat.succ_lt_succ hk')⟩
def aGS(wB:World)(t u:T):Prop:=∀ (w:World),iY wB w->∀ (k n a:Int) (s:dL) (ao:iD) (m c:Nat) (k' n' a':Int) (s':dL) (ao':iD) (m' c':Nat),Tr wB t (vT k n a s ao m c)->Tr wB u (vT k' n' a' s' ao' m' c')->
 AAA 13 #[tg k n a s ao m c,tg k' n' a' s' ao' m' c'] w λe w'=>e=.returned (.bool (dM t u))/\iY w w'
def aFz(wB:World)(t u:T)(hN:u.l.length<=1000000)(H:∀ x,x∈t.l->∀ y,y∈u.l->aGS wB x y)(w:World)(low:iY wB w)(k n a:Int)(s:dL)(ao:iD)(m c:Nat)(k' n' a':Int)(s':dL)(ao':iD)(m' c':Nat)(ht:Tr wB t (vT k n a s ao m c))(hu:Tr wB u (vT k' n' a' s' ao' m' c')):AAA 48 #[.slice ao m c,.slice ao' m' c',.func (.func 13) #[] #[]] w λe w'=>e=.returned (.bool (dK t.l u.l))/\iY w w':=by
 obtain rfl:m=t.l.length:=ht.split.2.2.2.2;obtain rfl:m'=u.l.length:=hu.split.2.2.2.2;have HT:=aN ht;have HU:=aN hu;have HH:=aN H;clear ht hu H
 by_cases hl:t.l.length=u.l.length
 ·obtain⟨N,hN1⟩:∃ N,t.l.length=N:=⟨_,rfl⟩
  have hN2:u.l.length=N:=by omega
  rw[hN1,hN2];have L1:=aN hN1;have L2:=aN hN2;have hNN:N<=1000000:=by omega
  clear hl hN1 hN2;go_in;go_wp2_with fail
  go_loopg [17] N (λg tt wr=>∃ q:Nat,tt=.int .i64 q/\q<=N/\g=N - q/\iY w wr/\Aside (∀ j (h:j<t.l.length) (hqq:j<u.l.length),j<q->dM (t.l[j]'h) (u.l[j]'hqq)=true))
  case atStart=>exact PU
  case round=>
   obtain⟨q,rfl,hq,hg,hB,A⟩:=hrel;have HG:=aN hg;clear hg;have lowr:=low.trans (hB.mono low.size)
   by_cases hln:q<N
   ·have hlt:q<t.l.length:=by rw[L1.out];exact hln
    have hlu:q<u.l.length:=by rw[L2.out];exact hln
    obtain⟨ao1,c1',vs1,e,hTs,hrow⟩:=mH.tree (rv:=[]) lowr HT.out;obtain⟨b,off,rfl,_,hcell⟩:=hrow kF;simp only[dZ,fD]at e
    obtain⟨rfl,rfl⟩:=e;obtain⟨k1,n1,a1,s1,o1,m1,c1,hTr,d0,d1,d2,d3,d4⟩:=Tr.elem hTs hcell q hlt;have hC:=HH.out _ (eJ hlt) _ (eJ hlu);have hno:dM (t.l[q]'hlt) (u.l[q]'hlu)=false->dK t.l u.l=false:=λh=>by
     cases e:dK t.l u.l with
     | false=>rfl
     | true=>exact absurd ((Fy e).2 q hlt hlu) qC
    have hyes:dM (t.l[q]'hlt) (u.l[q]'hlu)=true->∀ j (h:j<t.l.length) (hqq:j<u.l.length),j<q+1->dM (t.l[j]'h) (u.l[j]'hqq)=true:=λh j h1 h2 h3=>by
     exact Pj
    have HNO:=aN hno;have HYES:=aN hyes;clear hno hyes;have x1:(q:Int)<(N:Int):=by omega
    go_upto_region 6 with fail;have b2:=aJ wr (.cells (tg k1 n1 a1 s1 o1 m1 c1) 24);have t2:=TV.new wr k1 n1 a1 s1 (.slice o1 m1 c1);generalize World.alloc wr _=w2 at b2 t2 ⊢;clear d0 d1 d2 d3 d4 hcell;have low2:=lowr.trans (b2.mono lowr.size);have hB2:=hB.trans (b2.mono hB.size);obtain⟨ao3,c3,vs3,e,hTs3,hrow3⟩:=mH.tree (rv:=[]) low2 HU.out;obtain⟨b',off',rfl,_,hcell3⟩:=hrow3 (by intro e;rw[e]at hlu;simp at hlu);simp only[dZ,fD]at e
    obtain⟨rfl,rfl⟩:=e;obtain⟨k3,n3,a3,s3,o3,m3,c3,hTr3,d0,d1,d2,d3,d4⟩:=Tr.elem hTs3 hcell3 q hlu;go_upto_region 7 with fail;have b3:=aJ w2 (.cells (tg k3 n3 a3 s3 o3 m3 c3) 24);have t3:=TV.new w2 k3 n3 a3 s3 (.slice o3 m3 c3);have t2':=TV.below t2 b3;generalize World.alloc w2 _=w3 at b3 t3 t2' ⊢;clear d0 d1 d2 d3 d4 hcell3 t2;have low3:=low2.trans (b3.mono low2.size);have hB3:=hB2.trans (b3.mono hB2.size);have:=AAD t2';have:=AAD t3;have hCC:=hC w3 low3 k1 n1 a1 s1 o1 m1 c1 k3 n3 a3 s3 o3 m3 c3 hTr hTr3
    cases hsm:dM (t.l[q]'hlt) (u.l[q]'hlu) with
    | false=>
     rw[hsm]at hCC;have HN2:=aN (HNO.out hsm);clear hsm hC;go_upto_block 7 with fail;refine hCC.mono ?_;rintro e w4 ⟨rfl,b4⟩;go_wp2_with fail;go_ret;exact⟨by rw[HN2.out];rfl,hB3.trans (b4.mono hB3.size)⟩
    | true=>
     rw[hsm]at hCC;have HN2:=aN (HYES.out hsm);clear hsm hC;go_upto_block 7 with fail;refine hCC.mono ?_;rintro e w4 ⟨rfl,b4⟩;go_wp2_with fail
     go_roundg (N - (q+1))
     case measure=>rw[HG.out];omega
     case rel=>exact⟨q+1,by go_num,hln,rfl,hB3.trans (b4.mono hB3.size),HN2.out⟩
   ·have x1:¬ (q:Int)<(N:Int):=by omega
    have hr:dK t.l u.l=true:=YD (L1.out.trans L2.out.symm) λj h hqq=>A.out j h hqq (by have:=L1.out;omega)
    have HR:=aN hr;clear hr;go_wp2_with fail;go_ret;exact⟨by rw[HR.out];rfl,hB⟩
 ·have x0:(t.l.length:Int)≠(u.l.length:Int):=by omega
  have hr:dK t.l u.l=false:=by
   cases e:dK t.l u.l with
   | false=>rfl
   | true=>exact absurd (Fy e).1 hl
  rw[hr];go_in;go_wp2_with fail;go_ret;exact⟨rfl,bH _ _⟩
def PZ(t u:T):dM t u=(decide (t.kind=u.kind)&&decide (t.n=u.n)&&decide (t.word=u.word)&&dK t.l u.l):=by
 obtain⟨k,n,a,w,l⟩:=t;obtain⟨k',n',a',w',l'⟩:=u;rw[dM];rfl
def Cf(wB:World):∀ d (t:T),depth t<=d->∀ u,nodes u<=1000000->aGS wB t u:=by
 intro d
 induction d using Nat.strongRecOn with
 | _ d ih=>
  intro t hd u hN w low k n a s ao m c k' n' a' s' ao' m' c' ht hu;have e1:nodes u=1+bV u.l:=by obtain⟨k,n,a,w,l⟩:=u;rw[nodes];rfl
  have e4:=lU u.l;have hnm:∀ x,x∈u.l->nodes x<=1000000:=λx hx=>by
   have:∀ l:List T,x∈l->nodes x<=bV l:=by
    intro l
    induction l with
    | nil=>intro h;cases h
    | cons y r ihr=>
     intro h;rw[bV]
     rcases bO.1 h with rfl|h
     ·omega
     ·have:=ihr h;omega
   have:=this _ hx;omega
  have hE:=λ(W:World) (lowW:iY wB W)=>aFz wB t u aB (λx hx y hy=>ih (depth x) (by have:=Px.sD hx;omega) x (aG _) y (hnm y hy)) W lowW k n a s ao m c k' n' a' s' ao' m' c' ht hu
  have HE:=aN hE;obtain⟨f1,f2,f4,f3,f5⟩:=ht.split;obtain⟨g1,g2,g4,g3,g5⟩:=hu.split;have hsp:=PZ t u;rw[<- f1,<- f2,<- f3,<- g1,<- g2,<- g3]at hsp;have HSP:=aN hsp;clear hsp f1 f2 f3 f4 f5 g1 g2 g3 g4 g5 hE ih hnm e1 e4 ht hu;have b1:=aJ w (.cells (tg k n a s ao m c) 24);have t1:=TV.new w k n a s (.slice ao m c);generalize hw1:w.alloc (.cells (tg k n a s ao m c) 24)=w1 at b1 t1;have b2:=aJ w1 (.cells (tg k' n' a' s' ao' m' c') 24);have t2:=TV.new w1 k' n' a' s' (.slice ao' m' c');have t1':=TV.below t1 b2;have hz:w1.heap.size=w.heap.size+1:=by rw[<- hw1];simp
  rw[hz]at t2;clear hz;subst hw1;go_in;go_upto_region 1 with fail;generalize World.alloc (World.alloc w _) _=w2 at b2 t2 t1' ⊢;have low1:=low.trans (b1.mono low.size);have low2:=low1.trans (b2.mono low1.size);have hB2:=b1.trans (b2.mono b1.size);clear t1;have:=AAD t1';have:=AAD t2
  by_cases hk:k=k'
  ·by_cases hn:n=n'
   ·by_cases hs:s=s'
    ·have hfin:dM t u=dK t.l u.l:=by rw[HSP.out,hk,hn,hs];simp
     have HF:=aN hfin;clear hfin;subst hk hn hs;go_wp2_with (go_at_call 48;refine(HE.out _ low2).mono ?_;rintro e w3 ⟨rfl,b3⟩);go_ret;exact⟨by rw[HF.out];rfl,hB2.trans (b3.mono hB2.size)⟩
    exact Qo
   exact Td
  exact Th
def fvS(C F:Nat):Value:=.func (.func 64) #[] #[pq C,pq F]
def cI(v:Int):Obj:=.cells #[iq v] 3 (0,0)
def cF(x:Value):Obj:=.cells #[x] 98 (0,0)
def GO(t:T)(v dep:Nat):Bool:=decide (nodes t<=v)&&decide (dep+depth t<=61)
def afG(l:List T)(v dep:Nat):Prop:=bV l<=v/\∀ x,x∈l->dep+depth x<=61
def Yj: ∀ (l:List T) (m:Nat),jX l<=m↔∀ x,x∈l->depth x<=m:=by
 intro l m
 induction l with
 | nil=>exact⟨λ_ x h=>(nomatch h),λ_=>aS _⟩
 | cons y r ih=>
  rw[jX,Nat.max_le,ih];exact⟨λh x hx=>by rcases bO.1 hx with rfl|hx;exact h.1;exact h.2 x hx,λh=>⟨h y (.head _),λx hx=>h x (.tail _ hx)⟩⟩
def ahR(t:T)(v dep:Nat):GO t (v+1) dep=true↔dep<=60/\afG t.l v (dep+1):=by
 have e1:nodes t=1+bV t.l:=by obtain⟨k,n,a,w,l⟩:=t;rw[nodes];rfl
 have e2:depth t=1+jX t.l:=by obtain⟨k,n,a,w,l⟩:=t;rw[depth];rfl
 unfold GO afG;rw[bA,dX,dX,e1,e2];have:=Yj t.l (60 - dep)
 constructor
 ·rintro⟨h1,h2⟩;exact⟨by omega,by omega,λx hx=>by have:=this.1 aB x hx;omega⟩
 ·rintro⟨h1,h2,h3⟩;have:=this.2 (λx hx=>by have:=h3 x hx;omega);omega
def atB(t:T)(dep:Nat):GO t 0 dep=false:=by
 have:=Ox t;unfold GO;rw[show decide (nodes t<=0)=false from bX aB];rfl
def VG{w:World}{C:Nat}{v:Int}(h:w.heap[C]?=some (cI v))(u:Int):(w.setCell (AAF C 0) (iq u)).heap[C]?=some (cI u):=by
 unfold cI at *; simp[World.setCell,pK,h]
def vC{w:World}{C:Nat}{v:Int}(h:w.heap[C]?=some (cI v)):w.cell? (AAF C 0)=some (.int .i64 v):=aK w _ 0 _ _ _ h
def EZ{w:World}{C:Nat}{v:Int}(h:w.heap[C]?=some (cI v)):w.frozen? (AAF C 0)=false:=aY h 0
def apF{w:World}{F:Nat}{x:Value}(h:w.heap[F]?=some (cF x)):w.cell? (AAF F 0)=some x:=aK w _ 0 _ _ _ h
def nK{w:World}{b:Nat}{o:Obj}(h:w.heap[b]?=some o):b<w.heap.size:=(aX.1 h).1
def SmC(wB:World)(C F:Nat)(t:T):Prop:=∀ (w:World) (v dep:Nat),iY wB w->v<=4000->dep<=61->w.heap[C]?=some (cI v)->w.heap[F]?=some (cF (fvS C F))->∀ (k n a:Int) (s:dL) (ao:iD) (m c:Nat),Tr wB t (vT k n a s ao m c)->
 AAA 64 #[tg k n a s ao m c,dep,pq C,pq F] w λe w'=>
  e=.returned (.bool (GO t v dep))/\w.grownBy w' (some C)/\(GO t v dep=true->w'.heap[C]?=some (cI (v - nodes t:Nat)))
def aAG(wB:World)(C F D:Nat)(t:T)(hT:SmC wB C F t)(w:World)(v dep:Nat)(low:iY wB w)(hv:v<=4000)(hd:dep<=60)(hC:w.heap[C]?=some (cI v))(hF:w.heap[F]?=some (cF (fvS C F)))(hD:w.heap[D]?=some (cI dep))(k n a:Int)(s:dL)(ao:iD)(m c:Nat)(ht:Tr wB t (vT k n a s ao m c)):AAA 66 #[tg k n a s ao m c,pq F,pq D] w λe w'=>e=.returned (.bool (!GO t v (dep+1)))/\w.grownBy w' (some C)/\(GO t v (dep+1)=true->w'.heap[C]?=some (cI (v - nodes t:Nat))):=by
 obtain⟨r,hr⟩:∃ r,GO t v (dep+1)=r:=⟨_,rfl⟩
 rw[hr];have HR:=aN hr;clear hr;have lC:=nK hC;have b1:=aJ w (.cells (tg k n a s ao m c) 24);have t1:=TV.new w k n a s (.slice ao m c);go_in;go_upto_region 1 with fail;generalize World.alloc w _=w1 at b1 t1 ⊢;have hC1:=(b1.block _ lC).trans hC;have hF1:=(b1.block _ (nK hF)).trans hF;have hD1:=(b1.block _ (nK hD)).trans hD;have hh:=hT w1 v (dep+1) (low.trans (b1.mono low.size)) hv aB hC1 hF1 k n a s ao m c ht;have cf:=apF hF1;unfold fvS at cf;have cd:=vC hD1;have:=AAD t1;clear hT hC hF hD hC1 hF1 hD1 ht;have x1:IntKind.i64.wrap ((dep:Int)+1)=(dep:Int)+1:=iV _ aB;have x2:(((dep+1:Nat)):Int)=(dep:Int)+1:=by omega
 rw[x2,HR.out]at hh;clear x2;go_upto_block 1 with fail;refine hh.mono ?_;rintro e w2 ⟨rfl,g2,h2⟩;go_wp2_with fail;go_ret;exact⟨rfl,(bS _ b1).trans g2,h2⟩
def aLs(w:World)(C:Nat)(t:T)(v dep:Nat)(e:Ending)(w':World):Prop:=∃ b:Bool,∃ i:Int,e=.returned (.int .i64 i)/\(decide (i>=0))=b/\w.grownBy w' (some C)/\(b=true->¬ afG t.l v (dep+1))/\(b=false->afG t.l v (dep+1)/\w'.heap[C]?=some (cI (v - bV t.l:Nat)))
def CfQ(w:World)(C:Nat)(t:T)(v dep:Nat)(e:Ending)(w':World):Prop:=∃ b:Bool,e=.returned (.bool b)/\w.grownBy w' (some C)/\(b=true->¬ afG t.l v (dep+1))/\(b=false->afG t.l v (dep+1)/\w'.heap[C]?=some (cI (v - bV t.l:Nat)))
def JL{wB w w':World}{C:Nat}(low:iY wB w)(hC:wB.heap.size<=C)(g:w.grownBy w' (some C)):iY wB w':=low.grown g low.size (λj hj=>by cases hj;exact hC)
def CK{l:List T}{x:T}(h:x∈l):nodes x<=bV l:=by
 induction l with
 | nil=>cases h
 | cons y r ih=>
  rw[bV]
  exact IJ
section
variable(wB:World)(C F D:Nat)(t:T)(hCb:wB.heap.size<=C)(hFC:F≠C)(hDC:D≠C)(H:∀ x,x∈t.l->SmC wB C F x)(w:World)(v dep:Nat)(low:iY wB w)(hv:v<=4000)(hd:dep<=60)(hC:w.heap[C]?=some (cI v))(hF:w.heap[F]?=some (cF (fvS C F)))(hD:w.heap[D]?=some (cI dep))(k n a:Int)(s:dL)(ao:iD)(m c:Nat)(ht:Tr wB t (vT k n a s ao m c))
include wB C F D t hCb hFC hDC H w v dep low hv hd hC hF hD k n a s ao m c ht
theorem arZ:AAA 95 #[.slice ao m c,.func (.func 66) #[] #[pq F,pq D]] w (aLs w C t v dep):=by
 obtain rfl:m=t.l.length:=ht.split.2.2.2.2;have HT:=aN ht;have HH:=aN H;have HF:=aN hF;have HD:=aN hD;have HFC:=aN hFC;have HDC:=aN hDC;have lF:=nK hF;have lD:=nK hD;clear ht H hF hD hFC hDC;obtain⟨N,hN1⟩:∃ N,t.l.length=N:=⟨_,rfl⟩
 rw[hN1];have L1:=aN hN1;clear hN1;go_in;go_wp2_with fail
 go_loopg [8] N (λg tt wr=>∃ q:Nat,tt=.int .i64 q/\q<=N/\g=N - q/\w.grownBy wr (some C)/\bV (t.l.take q)<=v/\wr.heap[C]?=some (cI (v - bV (t.l.take q):Nat))/\Aside (∀ x,x∈t.l.take q->dep+1+depth x<=61))
 case atStart=>exact⟨0,rfl,aS _,rfl,World.grownBy.refl _ _,aS _,hC,λx h=>(nomatch h)⟩
 case round=>
  obtain⟨q,rfl,hq,hg,hB,hn,hCr,A⟩:=hrel;have HG:=aN hg;clear hg;have lowr:=JL low hCb hB
  by_cases hln:q<N
  ·have hlt:q<t.l.length:=by rw[L1.out];exact hln
   obtain⟨ao1,c1',vs1,e,hTs,hrow⟩:=mH.tree (rv:=[]) lowr HT.out;obtain⟨b,off,rfl,_,hcell⟩:=hrow kF;simp only[dZ,fD]at e
   obtain⟨rfl,rfl⟩:=e;obtain⟨k1,n1,a1,s1,o1,m1,c1,hTr,d0,d1,d2,d3,d4⟩:=Tr.elem hTs hcell q hlt;have hS:=HH.out _ (eJ hlt);have hFr:=(hB.block _ lF (λe=>HFC.out Dz)).trans HF.out;have hDr:=(hB.block _ lD (λe=>HDC.out Dz)).trans HD.out;have nt:=Kd t.l q hlt;have tk:=jY hlt;have hmem:=eJ hlt;have hqv:q<=v:=by have:=lU (t.l.take q);rw[jV]at this;omega
   generalize t.l[q]'hlt=y at hTr hS nt tk hmem;have hh:=aAG wB C F D y hS wr (v - bV (t.l.take q)) dep lowr aB hd hCr hFr hDr k1 n1 a1 s1 o1 m1 c1 hTr;have x1:(q:Int)<(N:Int):=by omega
   have NT:=aN nt;have TK:=aN tk;clear hS hFr hDr hCr nt tk
   cases hfit:GO y (v - bV (t.l.take q)) (dep+1) with
   | true=>
    rw[hfit]at hh;unfold GO at hfit;rw[bA,dX,dX]at hfit;have HFIT:=aN hfit;clear hfit;go_upto_block 4 with fail;refine hh.mono ?_;rintro e w2 ⟨rfl,g2,h2⟩;have h2':=h2 (by trivial);clear h2 hh;go_wp2_with fail
    go_roundg (N - (q+1))
    case measure=>rw[HG.out];omega
    case rel => exact ⟨q + 1, by go_num, hln, rfl, hB.trans g2, by rw [NT.out]; have := HFIT.out.1; omega, by rw [h2', NT.out]; exact congrArg _ (congrArg _ (by have := HFIT.out.1; omega)), λx hx => by
      rw [TK.out] at hx
      rcases fP.1 hx with hx | hx
      · exact A.out x hx
      · rw [cO.1 hx]; exact HFIT.out.2⟩
   | false=>
    rw[hfit]at hh
    have HNO:=aN (show ¬ afG t.l v (dep+1)from λh=>by
     have h1:=h.2 y hmem
     have h2:=zQ t.l (q+1)
     have h3:=h.1
     rw[NT.out]at h2
     unfold GO at hfit
     rw[eQ aB,eQ h1]at hfit
     cases hfit)
    clear hfit;go_upto_block 4 with fail;refine hh.mono ?_;rintro e w2 ⟨rfl,g2,h2⟩;clear h2 hh;go_wp2_with fail;go_ret;exact⟨true,_,rfl,eQ aB,hB.trans g2,λ_=>HNO.out,λh=>(nomatch h)⟩
  ·have x1:¬ (q:Int)<(N:Int):=by omega
   have htk:t.l.take q=t.l:=nQ (by rw[L1.out];omega);have AA:=A.out;rw[htk]at hn hCr AA;have HF2:=aN (show afG t.l v (dep+1) from⟨hn,AA⟩);clear htk A AA;go_wp2_with fail;go_ret;exact⟨false,_,rfl,by decide,hB,λh=>(nomatch h),λ_=>⟨HF2.out,hCr⟩⟩
theorem aBM:AAA 65 #[.slice ao m c,.func (.func 66) #[] #[pq F,pq D]] w (CfQ w C t v dep):=by
 have hh:=arZ wB C F D t hCb hFC hDC H w v dep low hv hd hC hF hD k n a s ao m c ht;clear H ht;go_in;go_upto_block 1 with fail;refine hh.mono ?_;rintro e w2 ⟨b,i,rfl,hb,g2,h1,h2⟩;have H1:=aN h1;have H2:=aN h2;clear hh h1 h2;go_wp2_with fail;go_ret;exact⟨b,by rw[<- hb];rfl,g2,H1.out,H2.out⟩
end
def aGH(wB:World)(C F:Nat)(hCb:wB.heap.size<=C)(hFC:F≠C):∀ d (t:T),depth t<=d->SmC wB C F t:=by
 intro d
 induction d using Nat.strongRecOn with
 | _ d ih=>
  intro t hd w v dep low hv hdep hC hF k n a s ao m c ht;have H:=aN (λ(x:T) (hx:x∈t.l)=>ih (depth x) (by have:=Px.sD hx;omega) x (aG _));clear ih hd;have lC:=nK hC;have lF:=nK hF;have b1:=aJ w (.cells (tg k n a s ao m c) 24);have t1:=TV.new w k n a s (.slice ao m c);have hz1:(w.alloc (.cells (tg k n a s ao m c) 24)).heap.size=w.heap.size+1:=by simp
  have n2:=aP (w.alloc (.cells (tg k n a s ao m c) 24)) (.cells #[iq dep] 3);have b2:=aJ (w.alloc (.cells (tg k n a s ao m c) 24)) (.cells #[iq dep] 3);have t2:=t1.below b2;have B2:=b1.trans (b2.mono b1.size);rw[hz1]at n2;clear hz1 b1 b2 t1
  by_cases hv0:v=0
  ·subst hv0;have HZ:=aN (atB t dep);go_in;go_upto_region 1 with fail;generalize World.alloc (World.alloc w _) _=w2 at n2 t2 B2 ⊢;have hC2:=(B2.block _ lC).trans hC;have c0:=vC hC2;have f0:=EZ hC2;have c1:(w2.setCell (AAF C 0) (iq (-1))).cell? (AAF C 0)=some (.int .i64 (-1)):=vC (VG hC2 (-1));have g3:=(bS (some C) B2).trans (mN w2 C 0 (iq (-1)));clear hC hC2 hF n2 t2;exact RC
  ·obtain⟨u,rfl⟩:∃ u,v=u+1:=⟨v - 1,by omega⟩
   clear hv0;have x0:((u+1:Nat):Int)=(u:Int)+1:=by omega
   rw[x0]at hC;have x1:IntKind.i64.wrap (u:Int)=(u:Int):=iV _ aB;have x2:¬ (u:Int)<0:=by omega
   clear x0;have hDF:w.heap.size+1≠C:=by omega
   go_in;go_upto_region 1 with fail;generalize World.alloc (World.alloc w _) _=w2 at n2 t2 B2 ⊢;have hC2:=(B2.block _ lC).trans hC;have hF2:=(B2.block _ lF).trans hF;have c0:=vC hC2;have f0:=EZ hC2;have hC3:=VG hC2 (u:Int);have hF3:=(dJ w2 (AAF C 0) (iq u) F hFC).trans hF2;have hD3:=(dJ w2 (AAF C 0) (iq u) _ hDF).trans n2;have t3:TV (w2.setCell (AAF C 0) (iq u)) _ _ _ _ _ _:=(dJ w2 (AAF C 0) (iq u) _ (show w.heap.size≠C by omega)).trans t2;have g3:=(bS (some C) B2).trans (mN w2 C 0 (iq u));clear hC hC2 hF hF2 n2 t2;go_upto_region 2 with fail;generalize World.setCell w2 _ _=w3 at hC3 hF3 hD3 t3 g3 ⊢;clear c0 f0;have c0:=vC hC3;have cd:=vC (show w3.heap[w.heap.size+1]?=some (cI dep)from hD3);have low3:=JL low hCb g3
   by_cases hd60:dep<=60
   ·have x3:¬ (60:Int)<(dep:Int):=by omega
    have hh:=aBM wB C F (w.heap.size+1) t hCb hFC hDF H.out w3 u dep low3 aB hd60 hC3 hF3 hD3 k n a s ao m c ht;clear ht hC3 hF3 hD3;have e1:nodes t=1+bV t.l:=by obtain⟨k,n,a,w,l⟩:=t;rw[nodes];rfl
    have HI:=aN (ahR t u dep);have E1:=aN e1;clear e1;have:=AAD t3;go_upto_block 4 with fail;refine hh.mono ?_;rintro e w4 ⟨b,rfl,g4,h1,h2⟩;have H1:=aN h1;have H2:=aN h2;clear hh h1 h2;go_wp2_with fail;go_ret;have hr:GO t (u+1) dep = !b:=by
     cases b with
     | true=>
      cases hf:GO t (u+1) dep with
      | false=>rfl
      | true=>exact absurd (HI.out.1 hf).2 (H1.out rfl)
     | false=>exact HI.out.2 ⟨hd60,(H2.out rfl).1⟩
    refine⟨by rw[hr];rfl,g3.trans g4,λh=>?_⟩;have hb:b=false:=by rw[hr]at h;cases b<;>simp_all
    rw[(H2.out hb).2,E1.out];exact congrArg _ (congrArg _ aB)
   ·have x3:(60:Int)<(dep:Int):=by omega
    have HZ:=aN (show GO t (u+1) dep=false from by
     cases hf:GO t (u+1) dep with
     | false=>rfl
     | true=>exact absurd ((ahR t u dep).1 hf).1 hd60)
    clear ht hC3 hF3 hD3;exact RC
def NW(w:World)(B:Nat)(e:TypeId):w.ownsRow B e 3 (.slice none 0 0) 0 (yI []):=⟨rfl,.inl ⟨rfl,rfl⟩⟩
def Wd(w:World)(hTab:fQ w)(t:T)(ho:TJ t)(k n a:Int)(s:dL)(ao:iD)(m c:Nat)(ht:Tr w t (vT k n a s ao m c))(hl:(aL false t).length<=fG):AAA 42 #[tg k n a s ao m c] w λe w'=>∃ v,e=.returned v/\w'.ownsRow w.heap.size 47 3 v (aL false t).length (yI (aL false t))/\iY w w':=by
 have b1:=aJ w (.cells (tg k n a s ao m c) 24);have n1:=aP w (.cells (tg k n a s ao m c) 24);have hz:(w.alloc (.cells (tg k n a s ao m c) 24)).heap.size=w.heap.size+1:=by simp
 go_in;go_upto_region 1 with fail;generalize World.alloc w _=w1 at b1 n1 hz ⊢;have b2:=aJ w1 (.cells #[.slice none 0 0] 102);have n2:=aP w1 (.cells #[.slice none 0 0] 102);have hB:=b2.block w.heap.size aB;rw[hz]at n2;go_upto_region 2 with fail;generalize World.alloc w1 _=w2 at b2 n2 hB ⊢;have P2:Pt w (w.heap.size+1) w2 (.slice none 0 0) []:=⟨b1.trans (b2.mono aB),n2,by omega,NW _ _ _,by simp[Value.ownBlock]⟩
 have t2:TV w2 w.heap.size k n a s (.slice ao m c):=hB.trans n1;have:=AAD t2;have hC:=aHA w hTab (w.heap.size+1) _ t (aG _) ho w2 (.slice none 0 0) [] k n a s ao m c P2 ht (by rw[dD,dT];exact hl);clear P2 t2 n1 n2 hB;go_upto_block 2 with fail;refine hC.mono ?_;rintro e w3 ⟨rfl,v',P3,_⟩;have k0:w3.cell? (AAF (w.heap.size+1) 0)=some v':=aK w3 (w.heap.size+1) 0 _ _ _ P3.blk;have hfin:=And.intro P3.own P3.low;rw[dI]at hfin;clear hC P3;go_wp2_with fail;go_ret;exact⟨v',rfl,hfin⟩
end
