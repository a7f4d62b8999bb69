/- ParseWhole, part 30: what it stands on. -/
import Derived.Test.YtfdlmcgcckkkdaaGreatDoorV29
import Derived.Test.YtfdlmcgcckkkdaaGreatDoorV11
set_option linter.all false
set_option maxHeartbeats 40000000
set_option maxRecDepth 100000
namespace Go.Proofs.YtfdlmcgcckkkdaaGreatDoor
section
open Go.RowKit Lx Px
theorem vM(t:T):1≤nodes t:=by obtain⟨k,n,a,w,l⟩:=t;rw[nodes];omega
theorem eY: ∀ (l:List T),l.length≤aH l:=by
 intro l
 induction l with
 | nil=>exact Nat.zero_le _
 | cons x r ih=>have:=vM x;rw[aH,List.length_cons];omega
theorem DL: ∀ (l:List T) (x:T),fG (l++[x])=max (fG l) (depth x):=by
 intro l x
 induction l with
 | nil=>rw[List.nil_append,fG];exact Nat.max_comm _ _
 | cons y r ih=>rw[List.cons_append,fG,fG,ih];omega
theorem pW: ∀ d (t:T),depth t≤d→depth t≤nodes t:=by
 intro d
 induction d using Nat.strongRecOn with
 | _ d ih=>
  intro t hd;obtain⟨k,n,a,w,l⟩:=t;have hl:∀ m:List T,(∀ x,x∈m→depth x≤nodes x)→fG m≤aH m:=by
   intro m
   induction m with
   | nil=>intro _;exact Nat.le_refl _
   | cons x r ihr=>
    intro h;have h1:=h x (.head _);have h2:=ihr fun y hy=>h y (.tail _ hy)
    rw[fG,aH];omega
  have h1:=hl l fun x hx=>ih (depth x) (by have:=Px.iQ (t:=T.mk k n a w l) hx;omega) x (Nat.le_refl _)
  rw[depth,nodes];omega
theorem sL(l:List T)(k:Nat)(hk:k<l.length):aH (l.take (k+1))=aH (l.take k)+nodes (l[k]'hk):=by
 rw[List.take_succ_eq_append_getElem hk,yW,aH,aH];rfl
theorem NB(l:List T)(k:Nat)(hk:k<l.length):fG (l.take (k+1))=max (fG (l.take k)) (depth (l[k]'hk)):=by
 rw[List.take_succ_eq_append_getElem hk,DL]
theorem Er(wB:World):∀ d (t:T),depth t≤d→nodes t≤1000000000→∀ (w:World),Below wB.heap.size wB w→∀ (k n a:Int) (s:ByteArray) (ao:Option Addr) (m c:Nat),Tr wB t (vT k n a s ao m c)→Calls Tryz.prog 45 #[tg k n a s ao m c] w fun e w'=>e=.returned (.tuple #[.int .i64 (nodes t:Nat),.int .i64 (depth t:Nat)])∧Below w.heap.size w w':=by
 intro d
 induction d using Nat.strongRecOn with
 | _ d ih=>
  intro t hd hN w low k n a s ao m c ht;have e1:nodes t=1+aH t.l:=by obtain⟨k,n,a,w,l⟩:=t;rw[nodes];rfl
  have e2:depth t=1+fG t.l:=by obtain⟨k,n,a,w,l⟩:=t;rw[depth];rfl
  have e3:=pW _ t (Nat.le_refl _);have e4:=eY t.l;have IH:=hdq (fun (x:T) (hx:x∈t.l)=>ih (depth x) (by have:=Px.iQ hx;omega) x (Nat.le_refl _));clear ih;obtain rfl:m=t.l.length:=ht.split.2.2.2.2;have HT:=hdq ht;clear ht;have b1:=aC w (.cells (tg k n a s ao t.l.length c) 24);have t1:=TV.new w k n a s (.slice ao t.l.length c);go_enter Tryz.func45,Tryz.ntmps45;go_upto_region 1 with fail;generalize World.alloc w _=w1 at b1 t1 ⊢;have low1:=low.trans (b1.mono low.size);have:=TV.facts t1;go_wp2_with fail
  go_loopg [4,5,13] t.l.length (fun g t4 t5 t13 wr=>∃ (q:Nat),t13=.int .i64 q∧q≤t.l.length∧g=t.l.length - q∧t4=.int .i64 ((1+aH (t.l.take q):Nat):Int)∧t5=.int .i64 (fG (t.l.take q):Nat)∧Below w1.heap.size w1 wr)
  case atStart=>exact⟨0,rfl,Nat.zero_le _,rfl,rfl,rfl,Below.refl _ _⟩
  case round=>
   obtain⟨q,rfl,hq,hg,rfl,rfl,hB⟩:=hrel;have HG:=hdq hg;clear hg;have lowr:=low1.trans (hB.mono low1.size)
   by_cases hlt:q<t.l.length
   ·obtain⟨ao',c',vs',e,hTs,hrow⟩:=eF.tree (rv:=[]) lowr HT.out;obtain⟨b,off,rfl,_,hcell⟩:=hrow (by intro e;rw[e]at hlt;simp at hlt);simp only[Value.slice.injEq,true_and]at e
    obtain⟨rfl,rfl⟩:=e;obtain⟨k1,n1,a1,s1,o1,m1,c1,hTr,d0,d1,d2,d3,d4⟩:=Tr.elem hTs hcell q hlt;have hC:=IH.out _ (List.getElem_mem hlt);have nt:=sL t.l q hlt;have dt:=NB t.l q hlt;have td:=jT t.l (q+1);generalize t.l[q]'hlt=y at hTr hC nt dt;have x1:(q:Int)<(t.l.length:Int):=by omega
    have hy:=pW _ y (Nat.le_refl _);go_upto_region 5 with fail;have b2:=aC wr (.cells (tg k1 n1 a1 s1 o1 m1 c1) 24);have t2:=TV.new wr k1 n1 a1 s1 (.slice o1 m1 c1);generalize World.alloc wr _=w2 at b2 t2 ⊢;clear d0 d1 d2 d3 d4 hcell;have:=TV.facts t2;go_upto_block 5 with fail;refine(hC (by omega) w2 (lowr.trans (b2.mono lowr.size)) k1 n1 a1 s1 o1 m1 c1 hTr).mono ?_;rintro e w3 ⟨rfl,b3⟩;have hB3:=hB.trans ((b2.mono hB.size).trans (b3.mono (Nat.le_trans hB.size b2.size)));have HN2:=hdq nt;have hbd:1+aH (t.l.take (q+1))≤1000000000:=by omega
    have HD:=hdq dt;clear dt nt td hC;go_wp2_with fail
    go_roundg (t.l.length - (q+1))
    case measure=>rw[HG.out];omega
    case rel=>exact⟨q+1,by go_num,hlt,rfl,by have:=HN2.out;exact congrArg _ (by rw[IntWalk.wrap64_in _ (by omega)];omega),by rw[HD.out];exact congrArg _ (by omega),hB3⟩
   ·have hqe:q=t.l.length:=by omega
    have x1:¬ (q:Int)<(t.l.length:Int):=by omega
    rw[hqe,List.take_length];go_wp2_with fail
    go_ret2
    refine⟨?_,b1.trans (hB.mono b1.size)⟩
    show Ending.returned (.tuple #[.int .i64 (1+(aH t.l:Int)),.int .i64 ((fG t.l:Int)+1)])=_
    rw[show ((fG t.l:Int)+1)=1+(fG t.l:Int)by omega]
theorem oS: ∀ {l l':List T},eG l l'=true→l.length=l'.length∧∀ k (h:k<l.length) (hqq:k<l'.length),fU (l[k]'h) (l'[k]'hqq)=true:=by
 intro l
 induction l with
 | nil=>
  intro l' h
  cases l' with
  | nil=>exact⟨rfl,fun k h=>absurd h (Nat.not_lt_zero _)⟩
  | cons y r=>unfold eG at h;cases h
 | cons x r ih=>
  intro l' h
  cases l' with
  | nil=>unfold eG at h;cases h
  | cons y r'=>
   unfold eG at h;rw[Bool.and_eq_true]at h;obtain⟨h1,h2⟩:=ih h.2;refine⟨by simp[h1],fun k hk hk'=>?_⟩
   cases k with
   | zero=>exact h.1
   | succ k=>exact h2 k (by simpa using hk) (by simpa using hk')
theorem BK: ∀ {l l':List T},l.length=l'.length→(∀ k (h:k<l.length) (hqq:k<l'.length),fU (l[k]'h) (l'[k]'hqq)=true)→eG l l'=true:=by
 intro l
 induction l with
 | nil=>
  intro l' h _
  cases l' with
  | nil=>unfold eG;rfl
  | cons y r=>simp at h
 | cons x r ih=>
  intro l' h H
  cases l' with
  | nil=>simp at h
  | cons y r'=>
   unfold eG;rw[Bool.and_eq_true];exact⟨H 0 (Nat.succ_pos _) (Nat.succ_pos _),ih (by simpa using h) fun k hk hk'=>H (k+1) (Nat.succ_lt_succ hk) (Nat.succ_lt_succ hk')⟩
def PL(wB:World)(t u:T):Prop:=∀ (w:World),Below wB.heap.size wB w→∀ (k n a:Int) (s:ByteArray) (ao:Option Addr) (m c:Nat) (k' n' a':Int) (s':ByteArray) (ao':Option Addr) (m' c':Nat),Tr wB t (vT k n a s ao m c)→Tr wB u (vT k' n' a' s' ao' m' c')→
 Calls Tryz.prog 16 #[tg k n a s ao m c,tg k' n' a' s' ao' m' c'] w fun e w'=>e=.returned (.bool (fU t u))∧Below w.heap.size w w'
theorem Ov(wB:World)(t u:T)(hN:u.l.length≤1000000)(H:∀ x,x∈t.l→∀ y,y∈u.l→PL wB x y)(w:World)(low:Below wB.heap.size wB w)(k n a:Int)(s:ByteArray)(ao:Option Addr)(m c:Nat)(k' n' a':Int)(s':ByteArray)(ao':Option Addr)(m' c':Nat)(ht:Tr wB t (vT k n a s ao m c))(hu:Tr wB u (vT k' n' a' s' ao' m' c')):Calls Tryz.prog 55 #[.slice ao m c,.slice ao' m' c',.func (.func 16) #[] #[]] w fun e w'=>e=.returned (.bool (eG t.l u.l))∧Below w.heap.size w w':=by
 obtain rfl:m=t.l.length:=ht.split.2.2.2.2;obtain rfl:m'=u.l.length:=hu.split.2.2.2.2;have HT:=hdq ht;have HU:=hdq hu;have HH:=hdq H;clear ht hu H
 by_cases hl:t.l.length=u.l.length
 ·obtain⟨N,hN1⟩:∃ N,t.l.length=N:=⟨_,rfl⟩
  have hN2:u.l.length=N:=by omega
  rw[hN1,hN2];have L1:=hdq hN1;have L2:=hdq hN2;have hNN:N≤1000000:=by omega
  clear hl hN1 hN2;go_enter Tryz.func55,Tryz.ntmps55;go_wp2_with fail
  go_loopg [17] N (fun g tt wr=>∃ q:Nat,tt=.int .i64 q∧q≤N∧g=N - q∧Below w.heap.size w wr∧Aside (∀ j (h:j<t.l.length) (hqq:j<u.l.length),j<q→fU (t.l[j]'h) (u.l[j]'hqq)=true))
  case atStart=>exact⟨0,rfl,Nat.zero_le _,rfl,Below.refl _ _,fun j _ _ h=>absurd h (Nat.not_lt_zero _)⟩
  case round=>
   obtain⟨q,rfl,hq,hg,hB,A⟩:=hrel;have HG:=hdq hg;clear hg;have lowr:=low.trans (hB.mono low.size)
   by_cases hln:q<N
   ·have hlt:q<t.l.length:=by rw[L1.out];exact hln
    have hlu:q<u.l.length:=by rw[L2.out];exact hln
    obtain⟨ao1,c1',vs1,e,hTs,hrow⟩:=eF.tree (rv:=[]) lowr HT.out;obtain⟨b,off,rfl,_,hcell⟩:=hrow (by intro e;rw[e]at hlt;simp at hlt);simp only[Value.slice.injEq,true_and]at e
    obtain⟨rfl,rfl⟩:=e;obtain⟨k1,n1,a1,s1,o1,m1,c1,hTr,d0,d1,d2,d3,d4⟩:=Tr.elem hTs hcell q hlt;have hC:=HH.out _ (List.getElem_mem hlt) _ (List.getElem_mem hlu);have hno:fU (t.l[q]'hlt) (u.l[q]'hlu)=false→eG t.l u.l=false:=fun h=>by
     cases e:eG t.l u.l with
     | false=>rfl
     | true=>exact absurd ((oS e).2 q hlt hlu) (by rw[h];decide)
    have hyes:fU (t.l[q]'hlt) (u.l[q]'hlu)=true→∀ j (h:j<t.l.length) (hqq:j<u.l.length),j<q+1→fU (t.l[j]'h) (u.l[j]'hqq)=true:=fun h j h1 h2 h3=>by
     by_cases e:j=q
     ·subst e;exact h
     ·exact A.out j h1 h2 (by omega)
    have HNO:=hdq hno;have HYES:=hdq hyes;clear hno hyes;have x1:(q:Int)<(N:Int):=by omega
    go_upto_region 6 with fail;have b2:=aC wr (.cells (tg k1 n1 a1 s1 o1 m1 c1) 24);have t2:=TV.new wr k1 n1 a1 s1 (.slice o1 m1 c1);generalize World.alloc wr _=w2 at b2 t2 ⊢;clear d0 d1 d2 d3 d4 hcell;have low2:=lowr.trans (b2.mono lowr.size);have hB2:=hB.trans (b2.mono hB.size);obtain⟨ao3,c3,vs3,e,hTs3,hrow3⟩:=eF.tree (rv:=[]) low2 HU.out;obtain⟨b',off',rfl,_,hcell3⟩:=hrow3 (by intro e;rw[e]at hlu;simp at hlu);simp only[Value.slice.injEq,true_and]at e
    obtain⟨rfl,rfl⟩:=e;obtain⟨k3,n3,a3,s3,o3,m3,c3,hTr3,d0,d1,d2,d3,d4⟩:=Tr.elem hTs3 hcell3 q hlu;go_upto_region 7 with fail;have b3:=aC w2 (.cells (tg k3 n3 a3 s3 o3 m3 c3) 24);have t3:=TV.new w2 k3 n3 a3 s3 (.slice o3 m3 c3);have t2':=TV.below t2 b3;generalize World.alloc w2 _=w3 at b3 t3 t2' ⊢;clear d0 d1 d2 d3 d4 hcell3 t2;have low3:=low2.trans (b3.mono low2.size);have hB3:=hB2.trans (b3.mono hB2.size);have:=TV.facts t2';have:=TV.facts t3;have hCC:=hC w3 low3 k1 n1 a1 s1 o1 m1 c1 k3 n3 a3 s3 o3 m3 c3 hTr hTr3
    cases hsm:fU (t.l[q]'hlt) (u.l[q]'hlu) with
    | false=>
     rw[hsm]at hCC;have HN2:=hdq (HNO.out hsm);clear hsm hC;go_upto_block 7 with fail;refine hCC.mono ?_;rintro e w4 ⟨rfl,b4⟩;go_wp2_with fail;go_ret;exact⟨by rw[HN2.out];rfl,hB3.trans (b4.mono hB3.size)⟩
    | true=>
     rw[hsm]at hCC;have HN2:=hdq (HYES.out hsm);clear hsm hC;go_upto_block 7 with fail;refine hCC.mono ?_;rintro e w4 ⟨rfl,b4⟩;go_wp2_with fail
     go_roundg (N - (q+1))
     case measure=>rw[HG.out];omega
     case rel=>exact⟨q+1,by go_num,hln,rfl,hB3.trans (b4.mono hB3.size),HN2.out⟩
   ·have x1:¬ (q:Int)<(N:Int):=by omega
    have hr:eG t.l u.l=true:=BK (L1.out.trans L2.out.symm) fun j h hqq=>A.out j h hqq (by have:=L1.out;omega)
    have HR:=hdq hr;clear hr;go_wp2_with fail;go_ret;exact⟨by rw[HR.out];rfl,hB⟩
 ·have x0:(t.l.length:Int)≠(u.l.length:Int):=by omega
  have hr:eG t.l u.l=false:=by
   cases e:eG t.l u.l with
   | false=>rfl
   | true=>exact absurd (oS e).1 hl
  rw[hr];go_enter Tryz.func55,Tryz.ntmps55;go_wp2_with fail;go_ret;exact⟨rfl,Below.refl _ _⟩
theorem xA(t u:T):fU t u=(decide (t.kind=u.kind)&&decide (t.n=u.n)&&decide (t.word=u.word)&&eG t.l u.l):=by
 obtain⟨k,n,a,w,l⟩:=t;obtain⟨k',n',a',w',l'⟩:=u;rw[fU];rfl
theorem uS(wB:World):∀ d (t:T),depth t≤d→∀ u,nodes u≤1000000→PL wB t u:=by
 intro d
 induction d using Nat.strongRecOn with
 | _ d ih=>
  intro t hd u hN w low k n a s ao m c k' n' a' s' ao' m' c' ht hu;have e1:nodes u=1+aH u.l:=by obtain⟨k,n,a,w,l⟩:=u;rw[nodes];rfl
  have e4:=eY u.l;have hnm:∀ x,x∈u.l→nodes x≤1000000:=fun x hx=>by
   have:∀ l:List T,x∈l→nodes x≤aH l:=by
    intro l
    induction l with
    | nil=>intro h;cases h
    | cons y r ihr=>
     intro h;rw[aH]
     rcases List.mem_cons.1 h with rfl|h
     ·omega
     ·have:=ihr h;omega
   have:=this _ hx;omega
  have hE:=fun (W:World) (lowW:Below wB.heap.size wB W)=>Ov wB t u (by omega) (fun x hx y hy=>ih (depth x) (by have:=Px.iQ hx;omega) x (Nat.le_refl _) y (hnm y hy)) W lowW k n a s ao m c k' n' a' s' ao' m' c' ht hu
  have HE:=hdq hE;obtain⟨f1,f2,f4,f3,f5⟩:=ht.split;obtain⟨g1,g2,g4,g3,g5⟩:=hu.split;have hsp:=xA t u;rw[← f1,← f2,← f3,← g1,← g2,← g3]at hsp;have HSP:=hdq hsp;clear hsp f1 f2 f3 f4 f5 g1 g2 g3 g4 g5 hE ih hnm e1 e4 ht hu;have b1:=aC w (.cells (tg k n a s ao m c) 24);have t1:=TV.new w k n a s (.slice ao m c);generalize hw1:w.alloc (.cells (tg k n a s ao m c) 24)=w1 at b1 t1;have b2:=aC w1 (.cells (tg k' n' a' s' ao' m' c') 24);have t2:=TV.new w1 k' n' a' s' (.slice ao' m' c');have t1':=TV.below t1 b2;have hz:w1.heap.size=w.heap.size+1:=by rw[← hw1];simp
  rw[hz]at t2;clear hz;subst hw1;go_enter Tryz.func16,Tryz.ntmps16;go_upto_region 1 with fail;generalize World.alloc (World.alloc w _) _=w2 at b2 t2 t1' ⊢;have low1:=low.trans (b1.mono low.size);have low2:=low1.trans (b2.mono low1.size);have hB2:=b1.trans (b2.mono b1.size);clear t1;have:=TV.facts t1';have:=TV.facts t2
  by_cases hk:k=k'
  ·by_cases hn:n=n'
   ·by_cases hs:s=s'
    ·have hfin:fU t u=eG t.l u.l:=by rw[HSP.out,hk,hn,hs];simp
     have HF:=hdq hfin;clear hfin;subst hk hn hs;go_wp2_with (go_at_call 55;refine(HE.out _ low2).mono ?_;rintro e w3 ⟨rfl,b3⟩);go_ret;exact⟨by rw[HF.out];rfl,hB2.trans (b3.mono hB2.size)⟩
    ·have HF:=hdq (show fU t u=false by rw[HSP.out];simp[hs]);have hs2:(s.toList==s'.toList)=false:=beq_eq_false_iff_ne.2 (by rw[ne_eq,kK];exact hs);have hs3:decide (s=s')=false:=decide_eq_false hs;subst hk hn;go_wp2_with fail;go_ret;exact⟨by rw[HF.out];rfl,hB2⟩
   ·have HF:=hdq (show fU t u=false by rw[HSP.out];simp[hn]);subst hk;go_wp2_with fail;go_ret;exact⟨by rw[HF.out];rfl,hB2⟩
  ·have HF:=hdq (show fU t u=false by rw[HSP.out];simp[hk]);go_wp2_with fail;go_ret;exact⟨by rw[HF.out];rfl,hB2⟩
def fvS(C F:Nat):Value:=.func (.func 79) #[] #[pq C,pq F]
def cI(v:Int):Obj:=.cells #[.int .i64 v] 3 (0,0)
def cF(x:Value):Obj:=.cells #[x] 71 (0,0)
def Ba(t:T)(v dep:Nat):Bool:=decide (nodes t≤v)&&decide (dep+depth t≤61)
def Mt(l:List T)(v dep:Nat):Prop:=aH l≤v∧∀ x,x∈l→dep+depth x≤61
theorem Bh: ∀ (l:List T) (m:Nat),fG l≤m↔∀ x,x∈l→depth x≤m:=by
 intro l m
 induction l with
 | nil=>exact⟨fun _ x h=>(nomatch h),fun _=>Nat.zero_le _⟩
 | cons y r ih=>
  rw[fG,Nat.max_le,ih];exact⟨fun h x hx=>by rcases List.mem_cons.1 hx with rfl|hx;exact h.1;exact h.2 x hx,fun h=>⟨h y (.head _),fun x hx=>h x (.tail _ hx)⟩⟩
theorem EJ(t:T)(v dep:Nat):Ba t (v+1) dep=true↔dep≤60∧Mt t.l v (dep+1):=by
 have e1:nodes t=1+aH t.l:=by obtain⟨k,n,a,w,l⟩:=t;rw[nodes];rfl
 have e2:depth t=1+fG t.l:=by obtain⟨k,n,a,w,l⟩:=t;rw[depth];rfl
 unfold Ba Mt;rw[Bool.and_eq_true,decide_eq_true_eq,decide_eq_true_eq,e1,e2];have:=Bh t.l (60 - dep)
 constructor
 ·rintro⟨h1,h2⟩;exact⟨by omega,by omega,fun x hx=>by have:=this.1 (by omega) x hx;omega⟩
 ·rintro⟨h1,h2,h3⟩;have:=this.2 (fun x hx=>by have:=h3 x hx;omega);omega
theorem IL(t:T)(dep:Nat):Ba t 0 dep=false:=by
 have:=vM t;unfold Ba;rw[show decide (nodes t≤0)=false from decide_eq_false (by omega)];rfl
theorem Ej{w:World}{C:Nat}{v:Int}(h:w.heap[C]?=some (cI v))(u:Int):(w.setCell ⟨C,0,none⟩ (.int .i64 u)).heap[C]?=some (cI u):=by
 unfold cI at *; simp[World.setCell,Array.getElem?_modify,h]
theorem kM{w:World}{C:Nat}{v:Int}(h:w.heap[C]?=some (cI v)):w.cell? ⟨C,0,none⟩=some (.int .i64 v):=cell_of_row w _ 0 _ _ _ h
theorem rK{w:World}{C:Nat}{v:Int}(h:w.heap[C]?=some (cI v)):w.frozen? ⟨C,0,none⟩=false:=Lib.frozen_of_heap h 0
theorem JE{w:World}{F:Nat}{x:Value}(h:w.heap[F]?=some (cF x)):w.cell? ⟨F,0,none⟩=some x:=cell_of_row w _ 0 _ _ _ h
theorem fP{w:World}{b:Nat}{o:Obj}(h:w.heap[b]?=some o):b<w.heap.size:=(Array.getElem?_eq_some_iff.1 h).1
def SmC(wB:World)(C F:Nat)(t:T):Prop:=∀ (w:World) (v dep:Nat),Below wB.heap.size wB w→v≤4000→dep≤61→w.heap[C]?=some (cI v)→w.heap[F]?=some (cF (fvS C F))→∀ (k n a:Int) (s:ByteArray) (ao:Option Addr) (m c:Nat),Tr wB t (vT k n a s ao m c)→
 Calls Tryz.prog 79 #[tg k n a s ao m c,dep,pq C,pq F] w fun e w'=>
  e=.returned (.bool (Ba t v dep))∧w.grownBy w' (some C)∧(Ba t v dep=true→w'.heap[C]?=some (cI (v - nodes t:Nat)))
theorem KL(wB:World)(C F D:Nat)(t:T)(hT:SmC wB C F t)(w:World)(v dep:Nat)(low:Below wB.heap.size wB w)(hv:v≤4000)(hd:dep≤60)(hC:w.heap[C]?=some (cI v))(hF:w.heap[F]?=some (cF (fvS C F)))(hD:w.heap[D]?=some (cI dep))(k n a:Int)(s:ByteArray)(ao:Option Addr)(m c:Nat)(ht:Tr wB t (vT k n a s ao m c)):Calls Tryz.prog 81 #[tg k n a s ao m c,pq F,pq D] w fun e w'=>e=.returned (.bool (!Ba t v (dep+1)))∧w.grownBy w' (some C)∧(Ba t v (dep+1)=true→w'.heap[C]?=some (cI (v - nodes t:Nat))):=by
 obtain⟨r,hr⟩:∃ r,Ba t v (dep+1)=r:=⟨_,rfl⟩
 rw[hr];have HR:=hdq hr;clear hr;have lC:=fP hC;have b1:=aC w (.cells (tg k n a s ao m c) 24);have t1:=TV.new w k n a s (.slice ao m c);go_enter Tryz.func81,Tryz.ntmps81;go_upto_region 1 with fail;generalize World.alloc w _=w1 at b1 t1 ⊢;have hC1:=(b1.block _ lC).trans hC;have hF1:=(b1.block _ (fP hF)).trans hF;have hD1:=(b1.block _ (fP hD)).trans hD;have hh:=hT w1 v (dep+1) (low.trans (b1.mono low.size)) hv (by omega) hC1 hF1 k n a s ao m c ht;have cf:=JE hF1;unfold fvS at cf;have cd:=kM hD1;have:=TV.facts t1;clear hT hC hF hD hC1 hF1 hD1 ht;have x1:IntKind.i64.wrap ((dep:Int)+1)=(dep:Int)+1:=IntWalk.i64_in _ (by omega);have x2:(((dep+1:Nat)):Int)=(dep:Int)+1:=by omega
 rw[x2,HR.out]at hh;clear x2;go_upto_block 1 with fail;refine hh.mono ?_;rintro e w2 ⟨rfl,g2,h2⟩;go_wp2_with fail;go_ret;exact⟨rfl,(aF _ b1).trans g2,h2⟩
def RP(w:World)(C:Nat)(t:T)(v dep:Nat)(e:Ending)(w':World):Prop:=∃ b:Bool,∃ i:Int,e=.returned (.int .i64 i)∧(decide (i≥0))=b∧w.grownBy w' (some C)∧(b=true→¬ Mt t.l v (dep+1))∧(b=false→Mt t.l v (dep+1)∧w'.heap[C]?=some (cI (v - aH t.l:Nat)))
def CfQ(w:World)(C:Nat)(t:T)(v dep:Nat)(e:Ending)(w':World):Prop:=∃ b:Bool,e=.returned (.bool b)∧w.grownBy w' (some C)∧(b=true→¬ Mt t.l v (dep+1))∧(b=false→Mt t.l v (dep+1)∧w'.heap[C]?=some (cI (v - aH t.l:Nat)))
theorem rS{wB w w':World}{C:Nat}(low:Below wB.heap.size wB w)(hC:wB.heap.size≤C)(g:w.grownBy w' (some C)):Below wB.heap.size wB w':=low.grown g low.size (fun j hj=>by cases hj;exact hC)
theorem tF{l:List T}{x:T}(h:x∈l):nodes x≤aH l:=by
 induction l with
 | nil=>cases h
 | cons y r ih=>
  rw[aH]
  rcases List.mem_cons.1 h with rfl|h
  ·omega
  ·have:=ih h;omega
theorem HY(wB:World)(C F D:Nat)(t:T)(hCb:wB.heap.size≤C)(hFC:F≠C)(hDC:D≠C)(H:∀ x,x∈t.l→SmC wB C F x)(w:World)(v dep:Nat)(low:Below wB.heap.size wB w)(hv:v≤4000)(hd:dep≤60)(hC:w.heap[C]?=some (cI v))(hF:w.heap[F]?=some (cF (fvS C F)))(hD:w.heap[D]?=some (cI dep))(k n a:Int)(s:ByteArray)(ao:Option Addr)(m c:Nat)(ht:Tr wB t (vT k n a s ao m c)):Calls Tryz.prog 108 #[.slice ao m c,.func (.func 81) #[] #[pq F,pq D]] w (RP w C t v dep):=by
 obtain rfl:m=t.l.length:=ht.split.2.2.2.2;have HT:=hdq ht;have HH:=hdq H;have HF:=hdq hF;have HD:=hdq hD;have HFC:=hdq hFC;have HDC:=hdq hDC;have lF:=fP hF;have lD:=fP hD;clear ht H hF hD hFC hDC;obtain⟨N,hN1⟩:∃ N,t.l.length=N:=⟨_,rfl⟩
 rw[hN1];have L1:=hdq hN1;clear hN1;go_enter Tryz.func108,Tryz.ntmps108;go_wp2_with fail
 go_loopg [8] N (fun g tt wr=>∃ q:Nat,tt=.int .i64 q∧q≤N∧g=N - q∧w.grownBy wr (some C)∧aH (t.l.take q)≤v∧wr.heap[C]?=some (cI (v - aH (t.l.take q):Nat))∧Aside (∀ x,x∈t.l.take q→dep+1+depth x≤61))
 case atStart=>exact⟨0,rfl,Nat.zero_le _,rfl,World.grownBy.refl _ _,Nat.zero_le _,hC,fun x h=>(nomatch h)⟩
 case round=>
  obtain⟨q,rfl,hq,hg,hB,hn,hCr,A⟩:=hrel;have HG:=hdq hg;clear hg;have lowr:=rS low hCb hB
  by_cases hln:q<N
  ·have hlt:q<t.l.length:=by rw[L1.out];exact hln
   obtain⟨ao1,c1',vs1,e,hTs,hrow⟩:=eF.tree (rv:=[]) lowr HT.out;obtain⟨b,off,rfl,_,hcell⟩:=hrow (by intro e;rw[e]at hlt;simp at hlt);simp only[Value.slice.injEq,true_and]at e
   obtain⟨rfl,rfl⟩:=e;obtain⟨k1,n1,a1,s1,o1,m1,c1,hTr,d0,d1,d2,d3,d4⟩:=Tr.elem hTs hcell q hlt;have hS:=HH.out _ (List.getElem_mem hlt);have hFr:=(hB.block _ lF (fun e=>HFC.out (by cases e;rfl))).trans HF.out;have hDr:=(hB.block _ lD (fun e=>HDC.out (by cases e;rfl))).trans HD.out;have nt:=sL t.l q hlt;have tk:=List.take_succ_eq_append_getElem hlt;have hmem:=List.getElem_mem hlt;have hqv:q≤v:=by have:=eY (t.l.take q);rw[List.length_take]at this;omega
   generalize t.l[q]'hlt=y at hTr hS nt tk hmem;have hh:=KL wB C F D y hS wr (v - aH (t.l.take q)) dep lowr (by omega) hd hCr hFr hDr k1 n1 a1 s1 o1 m1 c1 hTr;have x1:(q:Int)<(N:Int):=by omega
   have NT:=hdq nt;have TK:=hdq tk;clear hS hFr hDr hCr nt tk
   cases hfit:Ba y (v - aH (t.l.take q)) (dep+1) with
   | true=>
    rw[hfit]at hh;unfold Ba at hfit;rw[Bool.and_eq_true,decide_eq_true_eq,decide_eq_true_eq]at hfit;have HFIT:=hdq hfit;clear hfit;go_upto_block 4 with fail;refine hh.mono ?_;rintro e w2 ⟨rfl,g2,h2⟩;have h2':=h2 (by trivial);clear h2 hh;go_wp2_with fail
    go_roundg (N - (q+1))
    case measure=>rw[HG.out];omega
    case rel => exact ⟨q + 1, by go_num, hln, rfl, hB.trans g2, by rw [NT.out]; have := HFIT.out.1; omega, by rw [h2', NT.out]; exact congrArg _ (congrArg _ (by have := HFIT.out.1; omega)), fun x hx => by
      rw [TK.out] at hx
      rcases List.mem_append.1 hx with hx | hx
      · exact A.out x hx
      · rw [List.mem_singleton.1 hx]; exact HFIT.out.2⟩
   | false=>
    rw[hfit]at hh
    have HNO := hdq (show ¬ Mt t.l v (dep + 1) from fun h => by
      have h1 := h.2 y hmem
      have h2 := jT t.l (q + 1)
      have h3 := h.1
      rw [NT.out] at h2
      unfold Ba at hfit
      rw [decide_eq_true (by omega), decide_eq_true h1] at hfit
      cases hfit)
    clear hfit;go_upto_block 4 with fail;refine hh.mono ?_;rintro e w2 ⟨rfl,g2,h2⟩;clear h2 hh;go_wp2_with fail;go_ret;exact⟨true,_,rfl,decide_eq_true (by omega),hB.trans g2,fun _=>HNO.out,fun h=>(nomatch h)⟩
  ·have x1:¬ (q:Int)<(N:Int):=by omega
   have htk:t.l.take q=t.l:=List.take_of_length_le (by rw[L1.out];omega);have AA:=A.out;rw[htk]at hn hCr AA;have HF2:=hdq (show Mt t.l v (dep+1) from⟨hn,AA⟩);clear htk A AA;go_wp2_with fail;go_ret;exact⟨false,_,rfl,by decide,hB,fun h=>(nomatch h),fun _=>⟨HF2.out,hCr⟩⟩
theorem KW(wB:World)(C F D:Nat)(t:T)(hCb:wB.heap.size≤C)(hFC:F≠C)(hDC:D≠C)(H:∀ x,x∈t.l→SmC wB C F x)(w:World)(v dep:Nat)(low:Below wB.heap.size wB w)(hv:v≤4000)(hd:dep≤60)(hC:w.heap[C]?=some (cI v))(hF:w.heap[F]?=some (cF (fvS C F)))(hD:w.heap[D]?=some (cI dep))(k n a:Int)(s:ByteArray)(ao:Option Addr)(m c:Nat)(ht:Tr wB t (vT k n a s ao m c)):Calls Tryz.prog 80 #[.slice ao m c,.func (.func 81) #[] #[pq F,pq D]] w (CfQ w C t v dep):=by
 have hh:=HY wB C F D t hCb hFC hDC H w v dep low hv hd hC hF hD k n a s ao m c ht;clear H ht;go_enter Tryz.func80,Tryz.ntmps80;go_upto_block 1 with fail;refine hh.mono ?_;rintro e w2 ⟨b,i,rfl,hb,g2,h1,h2⟩;have H1:=hdq h1;have H2:=hdq h2;clear hh h1 h2;go_wp2_with fail;go_ret;exact⟨b,by rw[← hb];rfl,g2,H1.out,H2.out⟩
theorem Np(wB:World)(C F:Nat)(hCb:wB.heap.size≤C)(hFC:F≠C):∀ d (t:T),depth t≤d→SmC wB C F t:=by
 intro d
 induction d using Nat.strongRecOn with
 | _ d ih=>
  intro t hd w v dep low hv hdep hC hF k n a s ao m c ht;have H:=hdq (fun (x:T) (hx:x∈t.l)=>ih (depth x) (by have:=Px.iQ hx;omega) x (Nat.le_refl _));clear ih hd;have lC:=fP hC;have lF:=fP hF;have b1:=aC w (.cells (tg k n a s ao m c) 24);have t1:=TV.new w k n a s (.slice ao m c);have hz1:(w.alloc (.cells (tg k n a s ao m c) 24)).heap.size=w.heap.size+1:=by simp
  have n2:=heap_alloc_new (w.alloc (.cells (tg k n a s ao m c) 24)) (.cells #[.int .i64 dep] 3);have b2:=aC (w.alloc (.cells (tg k n a s ao m c) 24)) (.cells #[.int .i64 dep] 3);have t2:=t1.below b2;have B2:=b1.trans (b2.mono b1.size);rw[hz1]at n2;clear hz1 b1 b2 t1
  by_cases hv0:v=0
  ·subst hv0;have HZ:=hdq (IL t dep);go_enter Tryz.func79,Tryz.ntmps79;go_upto_region 1 with fail;generalize World.alloc (World.alloc w _) _=w2 at n2 t2 B2 ⊢;have hC2:=(B2.block _ lC).trans hC;have c0:=kM hC2;have f0:=rK hC2;have c1:(w2.setCell ⟨C,0,none⟩ (.int .i64 (-1))).cell? ⟨C,0,none⟩=some (.int .i64 (-1)):=kM (Ej hC2 (-1));have g3:=(aF (some C) B2).trans (dJ w2 C 0 (.int .i64 (-1)));clear hC hC2 hF n2 t2;go_wp2_with fail;go_ret;exact⟨by rw[HZ.out];rfl,g3,fun h=>by rw[HZ.out]at h;cases h⟩
  ·obtain⟨u,rfl⟩:∃ u,v=u+1:=⟨v - 1,by omega⟩
   clear hv0;have x0:((u+1:Nat):Int)=(u:Int)+1:=by omega
   rw[x0]at hC;have x1:IntKind.i64.wrap (u:Int)=(u:Int):=IntWalk.i64_in _ (by omega);have x2:¬ (u:Int)<0:=by omega
   clear x0;have hDF:w.heap.size+1≠C:=by omega
   go_enter Tryz.func79,Tryz.ntmps79;go_upto_region 1 with fail;generalize World.alloc (World.alloc w _) _=w2 at n2 t2 B2 ⊢;have hC2:=(B2.block _ lC).trans hC;have hF2:=(B2.block _ lF).trans hF;have c0:=kM hC2;have f0:=rK hC2;have hC3:=Ej hC2 (u:Int);have hF3:=(Below.heap_setCell w2 ⟨C,0,none⟩ (.int .i64 u) F hFC).trans hF2;have hD3:=(Below.heap_setCell w2 ⟨C,0,none⟩ (.int .i64 u) _ hDF).trans n2;have t3:TV (w2.setCell ⟨C,0,none⟩ (.int .i64 u)) _ _ _ _ _ _:=(Below.heap_setCell w2 ⟨C,0,none⟩ (.int .i64 u) _ (show w.heap.size≠C by omega)).trans t2;have g3:=(aF (some C) B2).trans (dJ w2 C 0 (.int .i64 u));clear hC hC2 hF hF2 n2 t2;go_upto_region 2 with fail;generalize World.setCell w2 _ _=w3 at hC3 hF3 hD3 t3 g3 ⊢;clear c0 f0;have c0:=kM hC3;have cd:=kM (show w3.heap[w.heap.size+1]?=some (cI dep)from hD3);have low3:=rS low hCb g3
   by_cases hd60:dep≤60
   ·have x3:¬ (60:Int)<(dep:Int):=by omega
    have hh:=KW wB C F (w.heap.size+1) t hCb hFC hDF H.out w3 u dep low3 (by omega) hd60 hC3 hF3 hD3 k n a s ao m c ht;clear ht hC3 hF3 hD3;have e1:nodes t=1+aH t.l:=by obtain⟨k,n,a,w,l⟩:=t;rw[nodes];rfl
    have HI:=hdq (EJ t u dep);have E1:=hdq e1;clear e1;have:=TV.facts t3;go_upto_block 4 with fail;refine hh.mono ?_;rintro e w4 ⟨b,rfl,g4,h1,h2⟩;have H1:=hdq h1;have H2:=hdq h2;clear hh h1 h2;go_wp2_with fail;go_ret;have hr:Ba t (u+1) dep = !b:=by
     cases b with
     | true=>
      cases hf:Ba t (u+1) dep with
      | false=>rfl
      | true=>exact absurd (HI.out.1 hf).2 (H1.out rfl)
     | false=>exact HI.out.2 ⟨hd60,(H2.out rfl).1⟩
    refine⟨by rw[hr];rfl,g3.trans g4,fun h=>?_⟩;have hb:b=false:=by rw[hr]at h;cases b<;>simp_all
    rw[(H2.out hb).2,E1.out];exact congrArg _ (congrArg _ (by omega))
   ·have x3:(60:Int)<(dep:Int):=by omega
    have HZ := hdq (show Ba t (u + 1) dep = false from by
      cases hf : Ba t (u + 1) dep with
      | false => rfl
      | true => exact absurd ((EJ t u dep).1 hf).1 hd60)
    clear ht hC3 hF3 hD3;go_wp2_with fail;go_ret;exact⟨by rw[HZ.out];rfl,g3,fun h=>by rw[HZ.out]at h;cases h⟩
theorem xB(w:World)(B:Nat)(e:TypeId):w.ownsRow B e 3 (.slice none 0 0) 0 (kI []):=⟨rfl,.inl ⟨rfl,rfl⟩⟩
theorem yJ(w:World)(hTab:eJ w)(t:T)(ho:okT t)(k n a:Int)(s:ByteArray)(ao:Option Addr)(m c:Nat)(ht:Tr w t (vT k n a s ao m c))(hl:(prO false t).length≤dK):Calls Tryz.prog 50 #[tg k n a s ao m c] w fun e w'=>∃ v,e=.returned v∧w'.ownsRow w.heap.size 43 3 v (prO false t).length (kI (prO false t))∧Below w.heap.size w w':=by
 have b1:=aC w (.cells (tg k n a s ao m c) 24);have n1:=heap_alloc_new w (.cells (tg k n a s ao m c) 24);have hz:(w.alloc (.cells (tg k n a s ao m c) 24)).heap.size=w.heap.size+1:=by simp
 go_enter Tryz.func50,Tryz.ntmps50;go_upto_region 1 with fail;generalize World.alloc w _=w1 at b1 n1 hz ⊢;have b2:=aC w1 (.cells #[.slice none 0 0] 115);have n2:=heap_alloc_new w1 (.cells #[.slice none 0 0] 115);have hB:=b2.block w.heap.size (by omega);rw[hz]at n2;go_upto_region 2 with fail;generalize World.alloc w1 _=w2 at b2 n2 hB ⊢;have P2:Pt w (w.heap.size+1) w2 (.slice none 0 0) []:=⟨b1.trans (b2.mono (by omega)),n2,by omega,xB _ _ _,by simp[Value.ownBlock]⟩
 have t2:TV w2 w.heap.size k n a s (.slice ao m c):=hB.trans n1;have:=TV.facts t2;have hC:=PR w hTab (w.heap.size+1) _ t (Nat.le_refl _) ho w2 (.slice none 0 0) [] k n a s ao m c P2 ht (by rw[List.length_nil,Nat.zero_add];exact hl);clear P2 t2 n1 n2 hB;go_upto_block 2 with fail;refine hC.mono ?_;rintro e w3 ⟨rfl,v',P3,_⟩;have k0:w3.cell? ⟨w.heap.size+1,0,none⟩=some v':=cell_of_row w3 (w.heap.size+1) 0 _ _ _ P3.blk;have hfin:=And.intro P3.own P3.low;rw[List.nil_append]at hfin;clear hC P3;go_wp2_with fail;go_ret;exact⟨v',rfl,hfin⟩
end
end Go.Proofs.YtfdlmcgcckkkdaaGreatDoor
