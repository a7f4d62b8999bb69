/- ParseBrackets, part 50: what it stands on. -/
import Derived.Test.YtfdlmcgcckkkdaaGreatDoorV11
import Derived.Test.YtfdlmcgcckkkdaaGreatDoorV10
set_option linter.all false
set_option maxHeartbeats 40000000
set_option maxRecDepth 100000
namespace Go.Proofs.YtfdlmcgcckkkdaaGreatDoor
section
namespace Px
open Lx
def Sta(L:List Tk)(i:Nat)(ts:List Tk):Prop:=∃ post,L.drop i=ts++post
theorem Sta.cons{L:List Tk}{i:Nat}{x:Tk}{ts:List Tk}(h:Sta L i (x::ts)):tok L i=x∧Sta L (i+1) ts∧i<L.length:=by
 obtain⟨post,h⟩:=h;have hi:i<L.length:=by
  rcases Nat.lt_or_ge i L.length with h'|h'
  ·exact h'
  ·rw[List.drop_of_length_le h']at h;cases h
 rw[List.drop_eq_getElem_cons hi]at h;simp only[List.cons_append,List.cons.injEq]at h
 refine⟨?_,⟨post,h.2⟩,hi⟩;unfold tok;rw[List.getD_eq_getElem?_getD,List.getElem?_eq_getElem hi,h.1];rfl
theorem Sta.app{L:List Tk}{i:Nat}{xs ys:List Tk}(h:Sta L i (xs++ys)):Sta L i xs∧Sta L (i+xs.length) ys:=by
 obtain⟨post,h⟩:=h;rw[List.append_assoc]at h;refine⟨⟨ys++post,h⟩,⟨post,?_⟩⟩;rw[← List.drop_drop,h,List.drop_left]
theorem Sta.one{L:List Tk}{i:Nat}{x:Tk}(h:Sta L i [x]):tok L i=x∧i<L.length:=⟨h.cons.1,h.cons.2.2⟩
theorem Sta.le{L:List Tk}{i:Nat}{ts:List Tk}(h:Sta L i ts)(hi:i≤L.length):i+ts.length≤L.length:=by
 obtain⟨post,h⟩:=h;have:=congrArg List.length h;rw[List.length_drop,List.length_append]at this;omega
theorem LY{L:List Tk}{i:Nat}{k:Int}{s:ByteArray}(h:tok L i=⟨k,s⟩)(ss:List ByteArray):sgn L i ss=(k==6&&mV s ss):=by unfold sgn;rw[h]
theorem Dy{L:List Tk}{i:Nat}{s:ByteArray}(h:tok L i=O s)(ss:List ByteArray):sgn L i ss=mV s ss:=by rw[LY h];rfl
theorem Wk{L:List Tk}{i:Nat}{s:ByteArray}(h:tok L i=W s)(ss:List ByteArray):sgn L i ss=false:=by rw[LY h];rfl
def Ve(t:Tk):Bool:=!(t.kind==6&&mV t.text [sLP,uM,hJ])
def GJ: Nat→Tk→Bool
 | 0,t=>Ve t
 | k+1,t=>GJ k t&&!(t.kind==6&&mV t.text (eO (5 - k)))
theorem Vp{k:Nat}{t:Tk}(h:GJ k t=true):Ve t=true:=by
 induction k with
 | zero=>exact h
 | succ k ih=>unfold GJ at h;simp only[Bool.and_eq_true]at h;exact ih h.1
theorem Mm{k m:Nat}(hm:m≤k){t:Tk}(h:GJ k t=true):GJ m t=true:=by
 induction k with
 | zero=>
  obtain rfl:m=0:=Nat.le_zero.1 hm;exact h
 | succ k ih=>
  rcases Nat.lt_or_ge m (k+1)with h'|h'
  ·unfold GJ at h;simp only[Bool.and_eq_true]at h;exact ih (by omega) h.1
  ·obtain rfl:m=k+1:=by omega
   exact h
theorem Sb{L:List Tk}{j k:Nat}(h:GJ (k+1) (tok L j)=true):sgn L j (eO (5 - k))=false:=by
 unfold GJ at h;simp only[Bool.and_eq_true,Bool.not_eq_true']at h
 exact h.2
theorem Vn{L:List Tk}{j:Nat}(h:Ve (tok L j)=true):sgn L j [sLP]=false∧sgn L j [uM]=false∧sgn L j [hJ]=false:=by
 unfold Ve at h;unfold sgn
 cases hk:(tok L j).kind==6 with
 | false=>simp
 | true=>
  rw[hk]at h
  simp[mV]at h ⊢
  exact⟨fun e=>h.1 e,fun e=>h.2.1 e,fun e=>h.2.2 e⟩
end Px
end
section
namespace Px
open Lx
theorem Ms(w:ByteArray)(h:0≤level w):∃ m:Nat,m≤5∧level w=m∧mV w (eO m)=true∧GJ (5 - m) (O w)=true:=by
 have hs:∀ m:Nat,m≤5→mV w (eO m)=true→GJ (5 - m) (O w)=true:=by
  intro m hm hw;rw[uR]at hw;have hall:∀ m:Fin 6,((eO m.val).all fun s=>GJ (5 - m.val) (O s))=true:=by decide +kernel
  exact List.all_eq_true.1 (hall ⟨m,by omega⟩) w hw
 unfold level at h ⊢;unfold vX at h ⊢
 split at h
 ·rename_i hm;rw[if_pos hm];exact⟨0,by decide,rfl,hm,hs 0 (by decide) hm⟩
 ·rename_i hn;rw[if_neg hn]
  unfold vX at h ⊢
  split at h
  ·rename_i hm;rw[if_pos hm];exact⟨1,by decide,rfl,hm,hs 1 (by decide) hm⟩
  ·rename_i hn;rw[if_neg hn]
   unfold vX at h ⊢
   split at h
   ·rename_i hm;rw[if_pos hm];exact⟨2,by decide,rfl,hm,hs 2 (by decide) hm⟩
   ·rename_i hn;rw[if_neg hn]
    unfold vX at h ⊢
    split at h
    ·rename_i hm;rw[if_pos hm];exact⟨3,by decide,rfl,hm,hs 3 (by decide) hm⟩
    ·rename_i hn;rw[if_neg hn]
     unfold vX at h ⊢
     split at h
     ·rename_i hm;rw[if_pos hm];exact⟨4,by decide,rfl,hm,hs 4 (by decide) hm⟩
     ·rename_i hn;rw[if_neg hn]
      unfold vX at h ⊢
      split at h
      ·rename_i hm;rw[if_pos hm];exact⟨5,by decide,rfl,hm,hs 5 (by decide) hm⟩
      ·unfold vX at h;exact absurd h (by decide)
theorem GO{t' t:T}(h:fU t' t=true):t'.kind=t.kind∧t'.n=t.n∧t'.word=t.word∧eG t'.l t.l=true:=by
 obtain⟨k,n,a,w,l⟩:=t;obtain⟨k',n',a',w',l'⟩:=t';unfold fU at h
 simp at h
 exact⟨h.1.1.1,h.1.1.2,h.1.2,h.2⟩
theorem BC{k n a a':Int}{w:ByteArray}{l l':List T}(h:eG l' l=true):fU (.mk k n a' w l') (.mk k n a w l)=true:=by
 unfold fU;simp[h]
theorem Aq: eG [] []=true:=by unfold eG;rfl
theorem zK{t t':T}{r r':List T}(h:fU t' t=true)(hr:eG r' r=true):eG (t'::r') (t::r)=true:=by
 unfold eG;rw[h,hr];rfl
theorem PK: ∀ {l l':List T},eG l' l=true→l'.length=l.length:=by
 intro l
 induction l with
 | nil=>intro l' h;cases l' with
  | nil=>rfl
  | cons _ _=>unfold eG at h;cases h
 | cons t l ih=>intro l' h;cases l' with
  | nil=>unfold eG at h;cases h
  | cons t' l'=>unfold eG at h;simp only[Bool.and_eq_true]at h;simp[ih h.2]
end Px
end
section
namespace Px
open Lx
def Og(t:Tk):Bool:=!(t.kind==6&&mV t.text [sLP,uM])
theorem Vo{L:List Tk}{j:Nat}(h:Og (tok L j)=true):sgn L j [sLP]=false∧sgn L j [uM]=false:=by
 unfold Og at h;unfold sgn
 cases hk:(tok L j).kind==6 with
 | false=>simp
 | true=>
  rw[hk]at h
  simp[mV]at h ⊢
  exact⟨fun e=>h.1 e,fun e=>h.2 e⟩
end Px
end
section
namespace Px
open Lx
theorem Ax{t:T}(h:V .expr t):t.kind=1∨t.kind=2∨t.kind=4∨t.kind=5∨t.kind=6:=by cases h<;>simp[T.kind]
end Px
end
section
namespace Px
open Lx
def Sd{α:Type}(P:α→Nat→Prop)(r:R α):Prop:=∀ x j,r=.ok (x,j)→P x j
theorem Sd.err{α:Type}{P:α→Nat→Prop}(a:Nat):Sd P (.error a:R α):=fun _ _ h=>by cases h
theorem Sd.ok{α:Type}{P:α→Nat→Prop}{x:α}{j:Nat}(h:P x j):Sd P (.ok (x,j):R α):=fun _ _ e=>by cases e;exact h
theorem Sd.any{α:Type}(r:R α):Sd (fun _ _=>True) r:=fun _ _ _=>trivial
theorem Sd.bind{α β:Type}{P:α→Nat→Prop}{Q:β→Nat→Prop}{r:R α}{f:α→Nat→R β}(h:Sd P r)(hf:∀ x j,P x j→Sd Q (f x j)):Sd Q (aB r f):=by
 intro y l e
 cases r with
 | error a=>cases e
 | ok xj=>obtain⟨x,j⟩:=xj;exact hf x j (h x j rfl) y l e
theorem Sd.then{α β:Type}{Q:β→Nat→Prop}{r:R α}{f:α→Nat→R β}(hf:∀ x j,Sd Q (f x j)):Sd Q (aB r f):=(Sd.any r).bind fun x j _=>hf x j
theorem Sd.ite{α:Type}{P:α→Nat→Prop}{c:Prop}[Decidable c]{r s:R α}(h:c→Sd P r)(g:¬ c→Sd P s):Sd P (if c then r else s):=by
 split
 ·exact h ‹_›
 ·exact g ‹_›
theorem Sd.mono{α:Type}{P Q:α→Nat→Prop}{r:R α}(h:Sd P r)(g:∀ x j,P x j→Q x j):Sd Q r:=fun x j e=>g x j (h x j e)
def OG(L:List Tk):Prop:=∀ i,i<L.length→bX (tok L i).kind (tok L i).text=true
theorem Vc{L:List Tk}{i:Nat}(h:L.length≤i):tok L i=⟨0,e0⟩:=by
 unfold tok;rw[List.getD_eq_getElem?_getD,List.getElem?_eq_none h];rfl
theorem Pn{L:List Tk}{i:Nat}(h:(tok L i).kind≠0):i<L.length:=by
 rcases Nat.lt_or_ge i L.length with h'|h'
 ·exact h'
 ·rw[Vc h']at h;exact absurd rfl h
section
variable {L:List Tk} (hX:OG L)
include hX
theorem Wj(i:Nat):Sd (fun s _=>nOK s) (fN L i):=by
 unfold fN;refine Sd.ite (fun h=>Sd.ok ?_) (fun _=>.err _);unfold isName at h;have hk:(tok L i).kind=1:=by simpa using h
 have:=hX i (Pn (by rw[hk];decide));rw[hk]at this;exact this
theorem Vy(i:Nat)(k:Int)(hk:(tok L i).kind=k)(h:k=2∨k=3∨k=4∨k=5):cOK k (tok L i).text:=by
 refine⟨h,?_⟩;have:=hX i (Pn (by rw[hk];omega));rw[hk]at this;exact this
theorem OB(i:Nat):Sd (fun t _=>∃ n a w,t=.mk 1 n a w []∧cOK n w∧n=(tok L i).kind) (bH L i):=by
 unfold bH;refine Sd.ite (fun h=>Sd.ok ⟨_,_,_,rfl,Vy hX i _ rfl ?_,rfl⟩) (fun _=>.err _);unfold bQ at h
 simp at h
 rcases h with ((h|h)|h)|h<;>simp[h]
theorem Wz(i:Nat):Sd (fun t _=>MR t) (bH L i):=(OB hX i).mono fun t _ h=>by obtain⟨n,a,w,e,h,_⟩:=h;exact⟨n,a,w,e,h⟩
end
theorem VC{L:List Tk}{read:Nat→R T}{P:T→Prop}(h:∀ i,Sd (fun t _=>P t) (read i)):∀ n acc j,(∀ x,x∈acc→P x)→Sd (fun l _=>(∀ x,x∈l→P x)∧acc.length≤l.length∧l.length≤acc.length+n) (gK L read n acc j):=by
 intro n
 induction n with
 | zero=>intro acc j hacc;unfold gK;exact .ok ⟨hacc,Nat.le_refl _,Nat.le_refl _⟩
 | succ n ih=>
  intro acc j hacc;unfold gK;refine Sd.ite (fun _=>(h (j+1)).bind fun x j' hx=>(ih (acc++[x]) j' ?_).mono fun l _ hl=>?_) (fun _=>.ok ⟨hacc,Nat.le_refl _,by omega⟩)
  ·intro y hy
   rcases List.mem_append.1 hy with hy|hy
   ·exact hacc y hy
   ·rw[List.mem_singleton.1 hy];exact hx
  ·obtain⟨h1,h2,h3⟩:=hl;rw[List.length_append,List.length_singleton]at h2 h3;exact⟨h1,by omega,by omega⟩
theorem VR{L:List Tk}{read:Nat→R T}{P:T→Prop}(h:∀ i,Sd (fun t _=>P t) (read i))(most:Nat)(h1:1≤most)(i:Nat):Sd (fun l _=>(∀ x,x∈l→P x)∧1≤l.length∧l.length≤most) (eD L most read i):=
 (h i).bind fun x j hx=>(VC h (most - 1) [x] j (fun y hy=>by rw[List.mem_singleton.1 hy];exact hx)).mono fun l _ hl=>⟨hl.1,hl.2.1,by have:=hl.2.2;simp at this;omega⟩
theorem Vs{w:ByteArray}{m:Nat}(hm:m≤5)(h:mV w (eO m)=true):0≤level w:=by
 unfold level;have go:∀ k,5 - m<k→k≤6→0≤vX w k:=by
  intro k
  induction k with
  | zero=>intro h _;omega
  | succ k ih=>
   intro h1 h2;unfold vX
   split
   ·omega
   ·rename_i hn
    refine ih ?_ (by omega)
    rcases Nat.lt_or_ge (5 - m) k with h'|h'
    ·exact h'
    ·exfalso
     have:5 - k=m:=by omega
     rw[this]at hn;exact hn h
 exact go 6 (by omega) (by omega)
section
variable {L:List Tk} (hX:OG L) {expr:Nat→R T} (hE:∀ i,Sd (fun t _=>V .expr t) (expr i))
include hX hE
omit hX in
theorem Pj(i:Nat):Sd (fun t _=>V .arg t) (aP L expr i):=Sd.ite (fun _=>.ok (V.star _)) (fun _=>(hE i).mono fun _ _ h=>V.arg _ h)
theorem Vk(i:Nat):Sd (fun t _=>V .part t) (nY L expr i):=
 (Wj hX i).bind fun s j hs => Sd.ite (fun _ => Sd.ite (fun _ => .ok (V.part1 _ _ _ hs (by simp) (by intro x hx; cases hx)))
   (fun _ => (VR (Pj hE) 16 (by decide) _).bind fun l j' hl => Sd.then fun _ j2 => .ok (V.part1 _ _ _ hs hl.2.2 hl.1))) (fun _ => .ok (V.part0 _ _ hs))
theorem Vl: ∀ n acc j,(∀ x,x∈acc→V .part x)→Sd (fun l _=>(∀ x,x∈l→V .part x)∧acc.length≤l.length∧l.length≤acc.length+n) (fS L expr n acc j):=by
 intro n
 induction n with
 | zero=>intro acc j hacc;unfold fS;exact .ok ⟨hacc,Nat.le_refl _,Nat.le_refl _⟩
 | succ n ih=>
  intro acc j hacc;unfold fS;refine Sd.ite (fun _=>(Vk hX hE (j+1)).bind fun x j' hx=>(ih (acc++[x]) j' ?_).mono fun l _ hl=>?_) (fun _=>.ok ⟨hacc,Nat.le_refl _,by omega⟩)
  ·intro y hy
   rcases List.mem_append.1 hy with hy|hy
   ·exact hacc y hy
   ·rw[List.mem_singleton.1 hy];exact hx
  ·obtain⟨h1,h2,h3⟩:=hl;rw[List.length_append,List.length_singleton]at h2 h3;exact⟨h1,by omega,by omega⟩
theorem Ql(i:Nat):Sd (fun t _=>V .expr t∧t.kind=2) (iN L expr i):=
 (Vk hX hE i).bind fun x j hx=>(Vl hX hE 7 [x] j (fun y hy=>by rw[List.mem_singleton.1 hy];exact hx)).bind fun l j' hl=>
  .ok ⟨V.ref _ _ hl.2.1 (by have:=hl.2.2;simp at this;omega) hl.1,rfl⟩
theorem Wd(a:Nat):∀ n x j,V .expr x→isRef x→Sd (fun t _=>V .expr t∧isRef t) (qG L expr a n x j):=by
 intro n
 induction n with
 | zero=>intro x j _ _;unfold qG;exact .err _
 | succ n ih=>
  intro x j hx hr;unfold qG;exact Sd.ite (fun _=>(Ql hX hE (j+1)).bind fun y j' hy=>ih _ j' (V.ptr _ _ _ hx hr hy.1 hy.2) (.inr rfl)) (fun _=>.ok ⟨hx,hr⟩)
theorem NX(i:Nat):Sd (fun t _=>V .expr t∧isRef t) (cU L expr i):=
 (Ql hX hE i).bind fun x j hx=>Wd hX hE i _ x j hx.1 (.inl hx.2)
end
theorem VU{L:List Tk}{sub:Nat→R T}(h:∀ i,Sd (fun t _=>V .expr t) (sub i)){m:Nat}(hm:m≤5)(a:Nat):∀ f x j,V .expr x→Sd (fun t _=>V .expr t) (nF L sub (eO m) a f x j):=by
 intro f
 induction f with
 | zero=>intro x j _;unfold nF;exact .err _
 | succ f ih=>
  intro x j hx;unfold nF;refine Sd.ite (fun hs=>(h (j+1)).bind fun y j' hy=>ih _ j' (V.bin _ _ _ _ ?_ hx hy)) (fun _=>.ok hx);unfold sgn at hs;simp only[Bool.and_eq_true]at hs
  exact Vs hm hs.2
theorem Vm{L:List Tk}{prim:Nat→R T}(h:∀ i,Sd (fun t _=>V .expr t) (prim i)):∀ k i,Sd (fun t _=>V .expr t) (tG L prim k i):=by
 intro k
 induction k with
 | zero=>intro i;exact h i
 | succ k ih=>intro i;exact(ih i).bind fun x j hx=>VU ih (by omega) _ _ x j hx
theorem Vx{t:T}(h:MR t):V .expr t:=by
 obtain⟨n,a,w,rfl,h⟩:=h;exact V.const _ _ _ h
theorem VD{L:List Tk}(hX:OG L):∀ f i,Sd (fun t _=>V .expr t) (eB L f i):=by
 intro f
 induction f with
 | zero=>intro i;unfold eB;exact .err _
 | succ f ih=>
  intro i;unfold eB;refine Sd.ite (fun hs=>(ih (i+1)).bind fun x j hx=>.ok (V.un _ _ _ ?_ hx)) fun _=>
   Sd.ite (fun _=>(Vm ih 6 (i+1)).bind fun x j hx=>Sd.then fun _ j'=>.ok hx) fun _=>
   Sd.ite (fun _=>(Wz hX i).mono fun t _ h=>Vx h) (fun _=>(NX hX (Vm ih 6) i).mono fun _ _ h=>h.1)
  unfold sgn at hs;simp only[Bool.and_eq_true]at hs
  have:=(uR _ _).1 hs.2
  simpa using this
theorem Wa{L:List Tk}(hX:OG L)(i:Nat):Sd (fun t _=>V .expr t) (bM L i):=Vm (VD hX _) 6 i
section
variable {L:List Tk} (hX:OG L)
include hX
end
section
variable {L:List Tk} (hX:OG L)
include hX
end
end Px
end
section
namespace Px
open Lx
theorem VY(L:List Tk):tok L L.length=⟨0,e0⟩:=Vc (Nat.le_refl _)
theorem Sta.all(L:List Tk):Sta L 0 L:=⟨[],by simp⟩
end Px
end
section
namespace Px
open Lx
theorem Gd.app{a b:List Tk}(ha:Gd a)(hb:Gd b):Gd (a++b):=fun y hy=>by
 rcases List.mem_append.1 hy with hy|hy
 ·exact ha y hy
 ·exact hb y hy
theorem Gd.aO: ∀ {ps:List (List Tk)},(∀ p,p∈ps→Gd p)→Gd (aO ps):=by
 intro ps
 induction ps with
 | nil=>intro _;exact Gd.nil
 | cons x r ih=>
  intro h
  cases r with
  | nil=>exact h x (List.mem_cons_self ..)
  | cons y r=>exact(h x (List.mem_cons_self ..)).app (Gd.cons (by decide +kernel) (ih fun p hp=>h p (List.mem_cons_of_mem _ hp)))
theorem Gd.sG: ∀ {ps:List (List Tk)},(∀ p,p∈ps→Gd p)→Gd (sG ps):=by
 intro ps
 induction ps with
 | nil=>intro _;exact Gd.nil
 | cons x r ih=>
  intro h
  cases r with
  | nil=>exact h x (List.mem_cons_self ..)
  | cons y r=>exact(h x (List.mem_cons_self ..)).app (Gd.cons (by decide +kernel) (ih fun p hp=>h p (List.mem_cons_of_mem _ hp)))
theorem Gd.flat: ∀ {ps:List (List Tk)},(∀ p,p∈ps→Gd p)→Gd ps.flatten:=by
 intro ps
 induction ps with
 | nil=>intro _;exact Gd.nil
 | cons x r ih=>intro h;exact(h x (List.mem_cons_self ..)).app (ih fun p hp=>h p (List.mem_cons_of_mem _ hp))
theorem Gd.one{x:Tk}(h:bX x.kind x.text=true):Gd [x]:=Gd.cons h Gd.nil
theorem Wx: bX (O sLP).kind (O sLP).text=true:=by decide +kernel
theorem WB: bX (O sRP).kind (O sRP).text=true:=by decide +kernel
theorem Gd.WE{ps:List (List Tk)}(h:∀ p,p∈ps→Gd p):Gd (cD ps):=Gd.cons Wx ((Gd.aO h).app (Gd.one WB))
theorem Gd.WC{p:List Tk}(h:Gd p):Gd (cD [p]):=Gd.WE (by intro q hq;rw[List.mem_singleton.1 hq];exact h)
theorem Gd.operand{c:T}{p:List Tk}{m:Int}(h:Gd p):Gd (operand c p m):=by
 unfold Px.operand
 split
 ·exact Gd.WC h
 ·exact h
theorem Gd.opt{w:ByteArray}{c:T}{p:List Tk}(hw:bX 1 w=true)(h:¬ isNone c→Gd p):Gd (opt w c p):=by
 unfold Px.opt
 split
 ·exact Gd.nil
 ·rename_i hk
  exact Gd.cons hw (Gd.WC (h fun⟨a,e⟩=>hk (by rw[e];rfl)))
theorem Gd.qX{w:ByteArray}{c:T}{p:List Tk}(hw:bX 1 w=true)(h:¬ isNone c→Gd p):Gd (qX w c p):=by
 unfold Px.qX
 split
 ·exact Gd.nil
 ·rename_i hk
  exact Gd.cons hw (h fun⟨a,e⟩=>hk (by rw[e];rfl))
theorem Gd.group{ps:List (List Tk)}(h:∀ p,p∈ps→Gd p):Gd (group ps):=
 Gd.cons (by decide +kernel) ((Gd.flat h).app (Gd.cons (by decide +kernel) (Gd.one (by decide +kernel))))
theorem Gd.ite{c:Prop}[Decidable c]{x y:List Tk}(h:c→Gd x)(g:¬ c→Gd y):Gd (if c then x else y):=by
 split
 ·exact h ‹_›
 ·exact g ‹_›
theorem Gd.W{w:ByteArray}{r:List Tk}(h:nOK w)(hr:Gd r):Gd (W w::r):=Gd.cons h hr
theorem VB{w:ByteArray}(h:0≤level w):bX 6 w=true:=by
 obtain⟨m,hm,_,h2,_⟩:=Ms w h;have h3:=(uR _ _).1 h2;have hall:∀ m:Fin 6,((eO m.val).all fun s=>bX 6 s)=true:=by decide +kernel
 exact List.all_eq_true.1 (hall ⟨m,by omega⟩) w h3
end Px
end
section
namespace Px
open Lx
mutual
def Nf: T→T
 | .mk k n _ w l=>.mk k n 0 w (BQ l)
def BQ: List T→List T
 | []=>[]
 | t::r=>Nf t::BQ r
end
mutual
theorem Bj: ∀ (a b:T),fU a b=true↔Nf a=Nf b
 | .mk k n a w l,.mk k' n' a' w' l'=>by
  unfold fU Nf;simp only[Bool.and_eq_true,decide_eq_true_eq,NL l l',T.mk.injEq,true_and]
  constructor
  ·rintro⟨⟨⟨h1,h2⟩,h3⟩,h4⟩;exact⟨h1,h2,h3,h4⟩
  ·rintro⟨h1,h2,h3,h4⟩;exact⟨⟨⟨h1,h2⟩,h3⟩,h4⟩
theorem NL: ∀ (a b:List T),eG a b=true↔BQ a=BQ b
 | [],[]=>by simp[eG,BQ]
 | t::r,t'::r'=>by
  unfold eG BQ;simp only[Bool.and_eq_true,Bj t t',NL r r',List.cons.injEq]
 | [],_::_=>by simp[eG,BQ]
 | _::_,[]=>by simp[eG,BQ]
end
theorem Vg{a b:T}(h:fU a b=true):fU b a=true:=(Bj b a).2 ((Bj a b).1 h).symm
theorem BZ{a b c:T}(h:fU a b=true)(g:fU b c=true):fU a c=true:=(Bj a c).2 (((Bj a b).1 h).trans ((Bj b c).1 g))
mutual
theorem Ez: ∀ (t:T),nodes (Nf t)=nodes t
 | .mk k n a w l=>by unfold Nf nodes;rw[JC l]
theorem JC: ∀ (l:List T),aH (BQ l)=aH l
 | []=>rfl
 | t::r=>by unfold BQ aH;rw[Ez t,JC r]
end
mutual
theorem Gx: ∀ (t:T),depth (Nf t)=depth t
 | .mk k n a w l=>by unfold Nf depth;rw[JY l]
theorem JY: ∀ (l:List T),fG (BQ l)=fG l
 | []=>rfl
 | t::r=>by unfold BQ fG;rw[Gx t,JY r]
end
theorem FY{a b:T}(h:fU a b=true):nodes a=nodes b:=by rw[← Ez a,(Bj a b).1 h,Ez]
theorem Lm{a b:T}(h:fU a b=true):depth a=depth b:=by rw[← Gx a,(Bj a b).1 h,Gx]
end Px
end
section
namespace Px
open Lx
theorem Gd.WG{L:List Tk}(h:Gd L):OG L:=fun i hi=>by
 have:tok L i=L[i]:=by unfold tok;rw[List.getD_eq_getElem?_getD,List.getElem?_eq_getElem hi];rfl
 rw[this];exact h _ (List.getElem_mem hi)
theorem VO(read:List Tk→Nat→R T)(L:List Tk)(t:T):okR read L t=true↔∃ t',Bb L (read L)=.ok t'∧fU t' t=true:=by
 unfold okR
 cases h:Bb L (read L) with
 | error a=>simp
 | ok t'=>simp
theorem KE{a b:T}(h:fU a b=true):lH a=lH b:=by unfold lH;rw[FY h,Lm h]
theorem PN{read:List Tk→Nat→R T}{L:List Tk}{t:T}(h1:L.length≤5000)(h2:Gd L)(h3:Bb L (read L)=.ok t)(h4:lH t=true):jS read L=(t,0,0):=by
 unfold lH at h4;simp only[Bool.and_eq_true,decide_eq_true_eq]at h4
 unfold jS;rw[if_neg (by omega),(At L 0).2 h2];simp only
 rw[h3];simp only
 rw[if_neg (by omega)]
end Px
end
section
namespace Px
open Lx
def bra(k:Int)(f:List Tk):List Tk:=if k=7 then [O uF]else O sLP::(f++[O sRP])
def UY(k n:Int)(w:ByteArray)(fl bl:List (List Tk)):List Tk:=
 if k=1 then [⟨n,w⟩]
 else if k=2 then sG fl
 else if k=3 then W w::(if n=1 then O sLP::(aO bl++[O sRP])else [])
 else if k=4 then ct fl 0++O hJ::ct fl 1
 else if k=5 then O w::ct bl 0
 else if k=6 then ct bl 0++O w::ct bl 1
 else []
mutual
def sV: T→List Tk
 | .mk k n _ w l=>UY k n w (Mz l) (Wq l)
def Mz: List T→List (List Tk)
 | []=>[]
 | t::r=>sV t::Mz r
def brT: T→List Tk
 | .mk k n _ w l=>bra k (UY k n w (Mz l) (Wq l))
def Wq: List T→List (List Tk)
 | []=>[]
 | t::r=>brT t::Wq r
end
theorem UT: ∀ (l:List T),Mz l=l.map sV:=by
 intro l
 induction l with
 | nil=>rfl
 | cons t r ih=>unfold Mz;rw[ih];rfl
theorem Vu: ∀ (l:List T),Wq l=l.map brT:=by
 intro l
 induction l with
 | nil=>rfl
 | cons t r ih=>unfold Wq;rw[ih];rfl
theorem tT(k n a:Int)(w:ByteArray)(l:List T):sV (.mk k n a w l)=UY k n w (l.map sV) (l.map brT):=by unfold sV;rw[UT,Vu]
theorem Kc(t:T):brT t=bra t.kind (sV t):=by obtain⟨k,n,a,w,l⟩:=t;unfold brT sV;rfl
theorem Of{t:T}(h:t.kind≠7):brT t=O sLP::(sV t++[O sRP]):=by rw[Kc];unfold bra;rw[if_neg h]
end Px
end
section
namespace Px
open Lx
theorem Vr{x:T}(h:V .arg x):(V .expr x∧x.kind≠7)∨∃ a,x=.mk 7 0 a e0 []:=by
 cases h with
 | arg x h=>exact .inl ⟨h,by rcases Ax h with e|e|e|e|e<;>omega⟩
 | star a=>exact .inr ⟨a,rfl⟩
theorem UZ: ∀ (t t':T),fU t' t=true→sV t'=sV t∧brT t'=brT t:=by
 have H:∀ d (t t':T),depth t≤d→fU t' t=true→sV t'=sV t:=by
  intro d
  induction d with
  | zero=>intro t t' h;obtain⟨k,n,a,w,l⟩:=t;unfold depth at h;omega
  | succ d ih=>
   intro t t' hd h;obtain⟨k,n,a,w,l⟩:=t;obtain⟨k',n',a',w',l'⟩:=t';obtain⟨e1,e2,e3,e4⟩:=GO h;simp only[T.kind,T.n,T.word,T.l]at e1 e2 e3 e4
   subst e1 e2 e3;have hm:∀ (r r':List T),eG r' r=true→(∀ x,x∈r→depth x≤d)→r'.map sV=r.map sV∧r'.map brT=r.map brT:=by
    intro r
    induction r with
    | nil=>intro r' h _;cases r' with
     | nil=>exact⟨rfl,rfl⟩
     | cons _ _=>unfold eG at h;cases h
    | cons x r ihr=>intro r' h hx;cases r' with
     | nil=>unfold eG at h;cases h
     | cons x' r'=>
      unfold eG at h;simp only[Bool.and_eq_true]at h
      have h1:=ih x x' (hx x (.head _)) h.1;have h2:=ihr r' h.2 fun y hy=>hx y (.tail _ hy)
      have h3:brT x'=brT x:=by rw[Kc,Kc,h1,(GO h.1).1]
      simp only[List.map_cons,h1,h2.1,h2.2,h3,and_self]
   have:=hm l l' e4 fun x hx=>by
    have:=Cd hx;unfold depth at hd;omega
   rw[tT,tT,this.1,this.2]
 intro t t' h;have h1:=H _ t t' (Nat.le_refl _) h;exact⟨h1,by rw[Kc,Kc,h1,(GO h).1]⟩
def lnE(x:T):Prop:=(sV x).length+3≤4*nodes x
def LnS: So→T→Prop
 | .expr,t=>lnE t
 | .part,t=>(sV t).length+1≤4*nodes t
 | .arg,t=>(brT t).length+1≤4*nodes t
 | _,_=>True
theorem Vi{l:List T}{f:T→List Tk}(h:∀ x,x∈l→(f x).length+1≤4*nodes x):(aO (l.map f)).length≤4*aH l:=by
 induction l with
 | nil=>simp[aO]
 | cons x r ih=>
  have h1:=h x (.head _);have h2:=ih fun y hy=>h y (.tail _ hy)
  unfold aH
  cases r with
  | nil=>show (f x).length≤_;omega
  | cons y r=>show (f x++O mU::aO ((y::r).map f)).length≤_;rw[List.length_append,List.length_cons];omega
theorem VS{l:List T}{f:T→List Tk}(h:∀ x,x∈l→(f x).length+1≤4*nodes x)(hl:l≠[]):(sG (l.map f)).length+1≤4*aH l:=by
 induction l with
 | nil=>exact absurd rfl hl
 | cons x r ih=>
  have h1:=h x (.head _);unfold aH
  cases r with
  | nil=>show (f x).length+1≤_;omega
  | cons y r=>
   have h2:=ih (fun y hy=>h y (.tail _ hy)) (by simp)
   show (f x++O uM::sG ((y::r).map f)).length+1≤_
   rw[List.length_append,List.length_cons];omega
theorem yI(k n a:Int)(w:ByteArray)(l:List T):nodes (.mk k n a w l)=1+aH l:=by rw[nodes]
theorem Vb(x:T):aH [x]=nodes x:=by simp[aH]
theorem Mg(x y:T):aH [x,y]=nodes x+nodes y:=by simp[aH]
theorem Mn{x:T}(h:V .expr x):(brT x).length=(sV x).length+2:=by
 rw[Of (by rcases Ax h with e|e|e|e|e<;>omega)];simp
theorem PE{s:So}{t:T}(h:V s t):LnS s t:=by
 induction h with
 | const n a w h=>show lnE _;unfold lnE;rw[tT,yI];simp[UY,aH]
 | ref a ps h1 h8 h ih=>
  show lnE _
  unfold lnE;rw[tT,yI];have:=VS (f:=sV) (l:=ps) (fun x hx=>ih x hx) (by intro e;rw[e]at h1;simp at h1)
  show (sG (ps.map sV)).length+3≤_
  omega
 | ptr a x y hx hr hy h2 ihx ihy=>
  have ihx:lnE x:=ihx;have ihy:lnE y:=ihy
  show lnE _
  unfold lnE at ihx ihy ⊢;rw[tT,yI,Mg]
  show (sV x++O hJ::sV y).length+3≤_
  rw[List.length_append,List.length_cons];omega
 | un a w x hw hx ih=>
  have ih:lnE x:=ih
  show lnE _
  have:=Mn hx;unfold lnE at ih ⊢;rw[tT,yI,Vb]
  show (O w::brT x).length+3≤_
  rw[List.length_cons];omega
 | bin a w x y hw hx hy ihx ihy=>
  have ihx:lnE x:=ihx;have ihy:lnE y:=ihy
  show lnE _
  have:=Mn hx;have:=Mn hy;unfold lnE at ihx ihy ⊢;rw[tT,yI,Mg]
  show (brT x++O w::brT y).length+3≤_
  rw[List.length_append,List.length_cons];omega
 | part0 a w h=>show (sV _).length+1≤_;rw[tT,yI];simp[UY,aH]
 | part1 a w l h h16 hl ih=>
  show (sV _).length+1≤_
  have:=Vi (f:=brT) (l:=l) (fun x hx=>ih x hx);rw[tT,yI]
  show (W w::O sLP::(aO (l.map brT)++[O sRP])).length+1≤_
  simp only[List.length_cons,List.length_append,List.length_nil];omega
 | arg x h ih=>
  have ih:lnE x:=ih
  show (brT x).length+1≤_
  rw[Mn h];unfold lnE at ih;omega
 | star a=>show (brT _).length+1≤_;rw[Kc,yI];simp[bra,T.kind,aH]
 | _=>trivial
def GdS: So→T→Prop
 | .expr,t=>Gd (sV t)
 | .part,t=>Gd (sV t)
 | .arg,t=>Gd (brT t)
 | _,_=>True
theorem VN{s:ByteArray}{r:List Tk}(h:bX 6 s=true)(hr:Gd r):Gd (O s::r):=Gd.cons h hr
theorem Vh{x:T}(h:V .expr x)(g:Gd (sV x)):Gd (brT x):=by
 rw[Of (by rcases Ax h with e|e|e|e|e<;>omega)];exact VN (by decide +kernel) (g.app (VN (by decide +kernel) Gd.nil))
theorem VQ{s:So}{t:T}(h:V s t):GdS s t:=by
 induction h with
 | const n a w h=>show Gd _;rw[tT];exact Gd.one h.2
 | ref a ps h1 h8 h ih=>
  show Gd _
  rw[tT];refine Gd.sG fun p hp=>?_;obtain⟨x,hx,rfl⟩:=List.mem_map.1 hp;exact ih x hx
 | ptr a x y hx hr hy h2 ihx ihy=>show Gd _;rw[tT];exact Gd.app ihx (VN (by decide +kernel) ihy)
 | un a w x hw hx ih=>show Gd _;rw[tT];exact VN (by rcases hw with e|e|e<;>(rw[e];decide +kernel)) (Vh hx ih)
 | bin a w x y hw hx hy ihx ihy=>show Gd _;rw[tT];exact Gd.app (Vh hx ihx) (VN (VB hw) (Vh hy ihy))
 | part0 a w h=>show Gd _;rw[tT];exact Gd.W h Gd.nil
 | part1 a w l h h16 hl ih=>
  show Gd _
  rw[tT];refine Gd.W h (VN (by decide +kernel) (Gd.app (Gd.aO fun p hp=>?_) (VN (by decide +kernel) Gd.nil)));obtain⟨x,hx,rfl⟩:=List.mem_map.1 hp;exact ih x hx
 | arg x h ih=>exact Vh h ih
 | star a=>show Gd _;rw[Kc];exact VN (by decide +kernel) Gd.nil
 | _=>trivial
end Px
end
section
namespace Px
open Lx
theorem OV(f:T→List Tk):∀ (r:List T) (x:T),aO ((x::r).map f)=f x++(r.map fun y=>O mU::f y).flatten:=by
 intro r
 induction r with
 | nil=>intro x;simp[aO]
 | cons y r ih=>intro x;show f x++O mU::aO ((y::r).map f)=_;rw[ih y];simp
theorem Vj(f:T→List Tk):∀ (r:List T) (x:T),sG ((x::r).map f)=f x++(r.map fun y=>O uM::f y).flatten:=by
 intro r
 induction r with
 | nil=>intro x;simp[sG]
 | cons y r ih=>intro x;show f x++O uM::sG ((y::r).map f)=_;rw[ih y];simp
theorem nxt{L:List Tk}{i:Nat}{a:List Tk}{r:List T}{f:T→List Tk}{c:Tk}(h:Sta L i (a++(r.map fun y=>c::f y).flatten))(P:Tk→Prop)(hc:P c)(he:P (tok L (i+(a++(r.map fun y=>c::f y).flatten).length))):P (tok L (i+a.length)):=by
 cases r with
 | nil=>simpa using he
 | cons y r=>
  have:=(Sta.app h).2;rw[List.map_cons,List.flatten_cons,List.cons_append]at this;rw[this.cons.1];exact hc
theorem VM{c:Tk}{f:T→List Tk}{y:T}:∀ {r:List T},y∈r→(f y).length≤(r.map fun y=>c::f y).flatten.length:=by
 intro r
 induction r with
 | nil=>intro h;cases h
 | cons z r ih=>
  intro hy;rw[List.map_cons,List.flatten_cons,List.length_append,List.length_cons]
  rcases List.mem_cons.1 hy with rfl|hy
  ·omega
  ·have:=ih hy;omega
def BxA(L:List Tk)(read:Nat→R T)(f:T→List Tk)(S:Tk→Prop)(x:T):Prop:=∀ i,Sta L i (f x)→S (tok L (i+(f x).length))→∃ x',fU x' x=true∧read i=.ok (x',i+(f x).length)
theorem VZ{L:List Tk}{read:Nat→R T}{f:T→List Tk}{S:Tk→Prop}(hc:S (O mU)):∀ (r:List T),(∀ x,x∈r→BxA L read f S x)→∀ n,r.length≤n→∀ i acc,Sta L i (r.map fun y=>O mU::f y).flatten→S (tok L (i+(r.map fun y=>O mU::f y).flatten.length))→sgn L (i+(r.map fun y=>O mU::f y).flatten.length) [mU]=false→∃ r',eG r' r=true∧gK L read n acc i=.ok (acc++r',i+(r.map fun y=>O mU::f y).flatten.length):=by
 intro r
 induction r with
 | nil=>
  intro _ n _ i acc _ _ he;refine⟨[],Aq,?_⟩
  cases n with
  | zero=>unfold gK;simp
  | succ n=>unfold gK;simp only[List.map_nil,List.flatten_nil,List.length_nil,Nat.add_zero]at he ⊢; rw[he];simp
 | cons x r ih=>
  intro hr n hn i acc hst hS he;obtain⟨m,rfl⟩:∃ m,n=m+1:=⟨n - 1,by simp at hn;omega⟩
  rw[List.map_cons,List.flatten_cons,List.cons_append]at hst hS he ⊢;have el:i+(O mU::(f x++(r.map fun y=>O mU::f y).flatten)).length=i+1+(f x).length+(r.map fun y=>O mU::f y).flatten.length:=by simp only[List.length_cons,List.length_append];omega
  rw[el]at hS he ⊢;have h1:=hst.cons;obtain⟨x',hx1,hx2⟩:=hr x (.head _) (i+1) (Sta.app h1.2.1).1 (nxt h1.2.1 S hc (by rw[List.length_append,← Nat.add_assoc];exact hS));obtain⟨r',hr1,hr2⟩:=ih (fun y hy=>hr y (.tail _ hy)) m (by simp at hn;omega) (i+1+(f x).length) (acc++[x']) (Sta.app h1.2.1).2 hS he;refine⟨x'::r',zK hx1 hr1,?_⟩;unfold gK;rw[if_pos (by rw[Dy h1.1];decide),hx2];unfold aB;simp only
  rw[hr2];simp
theorem VF{L:List Tk}{g:Nat}{f:T→List Tk}{S:Tk→Prop}(hc:S (O uM)):∀ (r:List T),(∀ x,x∈r→BxA L (nY L (pC L g)) f S x)→∀ n,r.length≤n→∀ i acc,Sta L i (r.map fun y=>O uM::f y).flatten→S (tok L (i+(r.map fun y=>O uM::f y).flatten.length))→sgn L (i+(r.map fun y=>O uM::f y).flatten.length) [uM]=false→∃ r',eG r' r=true∧fS L (pC L g) n acc i=.ok (acc++r',i+(r.map fun y=>O uM::f y).flatten.length):=by
 intro r
 induction r with
 | nil=>
  intro _ n _ i acc _ _ he;refine⟨[],Aq,?_⟩
  cases n with
  | zero=>unfold fS;simp
  | succ n=>unfold fS;simp only[List.map_nil,List.flatten_nil,List.length_nil,Nat.add_zero]at he ⊢; rw[he];simp
 | cons x r ih=>
  intro hr n hn i acc hst hS he;obtain⟨m,rfl⟩:∃ m,n=m+1:=⟨n - 1,by simp at hn;omega⟩
  rw[List.map_cons,List.flatten_cons,List.cons_append]at hst hS he ⊢;have el:i+(O uM::(f x++(r.map fun y=>O uM::f y).flatten)).length=i+1+(f x).length+(r.map fun y=>O uM::f y).flatten.length:=by simp only[List.length_cons,List.length_append];omega
  rw[el]at hS he ⊢;have h1:=hst.cons;obtain⟨x',hx1,hx2⟩:=hr x (.head _) (i+1) (Sta.app h1.2.1).1 (nxt h1.2.1 S hc (by rw[List.length_append,← Nat.add_assoc];exact hS));obtain⟨r',hr1,hr2⟩:=ih (fun y hy=>hr y (.tail _ hy)) m (by simp at hn;omega) (i+1+(f x).length) (acc++[x']) (Sta.app h1.2.1).2 hS he;refine⟨x'::r',zK hx1 hr1,?_⟩;unfold fS;rw[if_pos (by rw[Dy h1.1];decide +kernel),hx2];unfold aB;simp only
  rw[hr2];simp
theorem upK{L:List Tk}{p:Nat→R T}{i j:Nat}{t:T}{k:Nat}(h:tG L p k i=.ok (t,j)):∀ m,k≤m→GJ m (tok L j)=true→tG L p m i=.ok (t,j):=by
 intro m
 induction m with
 | zero=>
  intro hm _;obtain rfl:k=0:=Nat.le_zero.1 hm;exact h
 | succ m ih=>
  intro hm hs
  rcases Nat.lt_or_ge k (m+1)with h'|h'
  ·unfold tG;rw[ih (by omega) (Mm (Nat.le_succ m) hs)];unfold aB;simp only
   unfold nF;rw[Sb hs];rfl
  ·obtain rfl:k=m+1:=by omega
   exact h
abbrev S6(t:Tk):Prop:=GJ 6 t=true
abbrev S1(t:Tk):Prop:=Og t=true
def BxX(t:T):Prop:=∀ L f,(sV t).length≤f→BxA L (pC L f) sV S6 t
def BxP(t:T):Prop:=(∃ w s,sV t=W w::s)∧∀ L f,(sV t).length≤f+1→BxA L (nY L (pC L f)) sV (fun k=>(k.kind==6&&mV k.text [sLP])=false) t
def BxG(t:T):Prop:=∀ L f,(brT t).length≤f→BxA L (aP L (pC L f)) brT S6 t
def BxN(t:T):Prop:=∀ L f,(sV t).length≤f+1→BxA L (iN L (pC L f)) sV S1 t
def BxF(t:T):Prop:=(∃ w s,sV t=W w::s)∧∀ L f,(sV t).length≤f+1→∀ i,Sta L i (sV t)→i≤L.length→S1 (tok L (i+(sV t).length))→∃ t',fU t' t=true∧∃ g,L.length+1≤g+(i+(sV t).length)∧cU L (pC L f) i=qG L (pC L f) i g t' (i+(sV t).length)
def BxS: So→T→Prop
 | .expr,t=>BxX t∧(isRef t→BxF t)∧(t.kind=2→BxN t)
 | .part,t=>BxP t
 | .arg,t=>BxG t
 | _,_=>True
theorem brE{x:T}(hv:V .expr x)(hx:BxX x)(L:List Tk)(f:Nat)(hf:(brT x).length≤f):BxA L (eB L f) brT (fun _=>True) x:=by
 intro i hst _;rw[Mn hv]at hf ⊢;rw[Of (by rcases Ax hv with e|e|e|e|e<;>omega)]at hst;obtain⟨g,rfl⟩:∃ g,f=g+1:=⟨f - 1,by omega⟩
 have h1:=hst.cons;have h2:=Sta.app h1.2.1;obtain⟨x',e1,e2⟩:=hx L g (by omega) (i+1) h2.1 (by rw[h2.2.one.1];decide +kernel);refine⟨x',e1,?_⟩;unfold eB;rw[if_neg (by rw[Dy h1.1];decide +kernel),if_pos (by rw[Dy h1.1];decide)];rw[show tG L (eB L g) 6 (i+1)=pC L g (i+1)from rfl,e2];unfold aB;simp only
 unfold aM;rw[if_pos (by rw[Dy h2.2.one.1];decide)];simp only
 rw[show i+1+(sV x).length+1=i+((sV x).length+2)from by omega]
theorem Wt{x:T}(hv:V .expr x)(hx:BxX x):BxG x:=by
 intro L f hf i hst hs;obtain⟨x',e1,e2⟩:=brE hv hx L f hf i hst trivial;refine⟨x',e1,?_⟩;rw[Of (by rcases Ax hv with e|e|e|e|e<;>omega)]at hst;unfold aP;rw[if_neg (by rw[Dy hst.cons.1];decide +kernel)];exact upK (L:=L) (p:=eB L f) (k:=0) e2 6 (by omega) hs
theorem Vq{t:T}(h:∀ L f i,(sV t).length≤f+1→Sta L i (sV t)→S6 (tok L (i+(sV t).length))→∃ t',fU t' t=true∧eB L (f+1) i=.ok (t',i+(sV t).length))(hl:1≤(sV t).length):BxX t:=by
 intro L f hf i hst hs;obtain⟨g,rfl⟩:∃ g,f=g+1:=⟨f - 1,by omega⟩
 obtain⟨t',e1,e2⟩:=h L g i hf hst hs;exact⟨t',e1,upK (L:=L) (p:=eB L (g+1)) (k:=0) e2 6 (by omega) hs⟩
theorem We{t:Tk}(h:S6 t):S1 t:=by
 have:=Vp h;unfold Ve at this
 show Og t=true
 unfold Og
 cases hk:t.kind==6 with
 | false=>simp
 | true=>rw[hk]at this;simp[mV]at this ⊢; exact⟨fun e=>this.1 e,fun e=>this.2.1 e⟩
theorem Vf{t:T}(h:BxF t):BxX t:=by
 obtain⟨⟨w,s,hw⟩,h⟩:=h;refine Vq (fun L f i hf hst hs=>?_) (by rw[hw];simp);have hi:i<L.length:=by have:=hst;rw[hw]at this;exact this.cons.2.2
 have htk:tok L i=W w:=by have:=hst;rw[hw]at this;exact this.cons.1
 obtain⟨t',e1,g,e2,e3⟩:=h L f hf i hst (by omega) (We hs);refine⟨t',e1,?_⟩;have hle:=Sta.le hst (by omega);unfold eB;rw[if_neg (by rw[Wk htk];decide),if_neg (by rw[Wk htk];decide),if_neg (by unfold bQ;rw[htk];simp[W])];obtain⟨g',rfl⟩:∃ g',g=g'+1:=⟨g - 1,by omega⟩
 show cU L (pC L f) i=_
 rw[e3];unfold qG;rw[if_neg (by rw[(Vn (Vp hs)).2.2];decide)]
theorem Wn{s:So}{t:T}(h:V s t):BxS s t:=by
 induction h with
 | const n a w h=>
  have hl:sV (.mk 1 n a w [])=[⟨n,w⟩]:=by rw[tT];rfl
  refine⟨Vq (fun L f i _ hst _=>⟨.mk 1 n i w [],BC Aq,?_⟩) (by rw[hl];simp),fun h=>absurd h (by simp[isRef,T.kind]),fun h=>absurd (show (1:Int)=2 from h) (by decide)⟩;rw[hl]at hst ⊢;have ht:=hst.one.1;have hn:n≠6:=by rcases h.1 with e|e|e|e<;>omega
  unfold eB;have hc:bQ L i=true:=by unfold bQ;rw[ht];rcases h.1 with e|e|e|e<;>simp[e]
  rw[if_neg (by rw[LY ht];simp[hn]),if_neg (by rw[LY ht];simp[hn]),if_pos hc];unfold bH;rw[if_pos hc,ht];rfl
 | ref a ps h1 h8 h ih=>
  cases ps with
  | nil=>simp at h1
  | cons p r=>
   have hl:sV (.mk 2 0 a e0 (p::r))=sV p++(r.map fun y=>O uM::sV y).flatten:=by rw[tT];exact Vj sV r p
   have hlen:∀ x,x∈p::r→(sV x).length≤(sV (.mk 2 0 a e0 (p::r))).length:=by
    intro x hx;rw[hl,List.length_append]
    rcases List.mem_cons.1 hx with rfl|hx
    ·omega
    ·have:(sV x).length≤(r.map fun y=>O uM::sV y).flatten.length:=VM hx;omega
   have hN:BxN (.mk 2 0 a e0 (p::r)):=by
    intro L f hf i hst hs;have hp:BxP p:=ih p (.head _);have hf2:∀ x,x∈p::r→(sV x).length≤f+1:=fun x hx=>Nat.le_trans (hlen x hx) hf
    rw[hl]at hst hs ⊢;have hS:∀ k:Tk,S1 k→(k.kind==6&&mV k.text [sLP])=false:=by
     intro k hk;have hk:Og k=true:=hk;unfold Og at hk
     cases h6:k.kind==6 with
     | false=>rfl
     | true=>rw[h6]at hk;simp[mV]at hk ⊢; exact fun e=>hk.1 e
    obtain⟨p',e1,e2⟩:=hp.2 L f (hf2 p (.head _)) i (Sta.app hst).1 (nxt hst (fun k=>(k.kind==6&&mV k.text [sLP])=false) (by decide +kernel) (hS _ hs));rw[List.length_append,← Nat.add_assoc]at hs ⊢;obtain⟨r',g1,g2⟩:=VF (g:=f) (f:=sV) (S:=fun k=>(k.kind==6&&mV k.text [sLP])=false) (by decide +kernel) r (fun x hx=>(show BxP x from ih x (.tail _ hx)).2 L f (hf2 x (.tail _ hx))) 7 (by simp at h8;omega) (i+(sV p).length) [p'] (Sta.app hst).2 (hS _ hs) (Vo hs).2;refine⟨node 2 i (p'::r'),BC (zK e1 g1),?_⟩;unfold iN;rw[e2];unfold aB;simp only
    rw[g2];rfl
   have hw:∃ w s,sV (.mk 2 0 a e0 (p::r))=W w::s:=by
    obtain⟨⟨w,s,hw⟩,_⟩:BxP p:=ih p (.head _);exact⟨w,s++(r.map fun y=>O uM::sV y).flatten,by rw[hl,hw];rfl⟩
   have hF:BxF (.mk 2 0 a e0 (p::r)):=by
    refine⟨hw,fun L f hf i hst hi hs=>?_⟩;obtain⟨t',e1,e2⟩:=hN L f hf i hst hs;refine⟨t',e1,L.length+1,by omega,?_⟩;unfold cU;rw[e2];rfl
   exact⟨Vf hF,fun _=>hF,fun _=>hN⟩
 | ptr a x y hx hr hy h2 ihx ihy=>
  have hl:sV (.mk 4 0 a e0 [x,y])=sV x++O hJ::sV y:=by rw[tT];rfl
  have hX:BxF x:=ihx.2.1 hr;have hY1:BxN y:=ihy.2.2 h2;have hF:BxF (.mk 4 0 a e0 [x,y]):=by
   refine⟨?_,fun L f hf i hst hi hs=>?_⟩
   ·obtain⟨⟨w,s,hw⟩,_⟩:=hX;exact⟨w,s++O hJ::sV y,by rw[hl,hw];rfl⟩
   rw[hl]at hst hs hf ⊢;have h1:=Sta.app hst;have h3:=h1.2.cons;have el:i+(sV x++O hJ::sV y).length=i+(sV x).length+1+(sV y).length:=by simp only[List.length_append,List.length_cons];omega
   rw[el]at hs ⊢;simp only[List.length_append,List.length_cons]at hf
   obtain⟨x',e1,g,e2,e3⟩:=hX.2 L f (by omega) i h1.1 hi (by rw[h3.1];decide +kernel);obtain⟨y',e4,e5⟩:=hY1 L f (by omega) (i+(sV x).length+1) h3.2.1 hs;obtain⟨g',rfl⟩:∃ g',g=g'+1:=⟨g - 1,by omega⟩
   refine⟨node 4 i [x',y'],BC (zK e1 (zK e4 Aq)),g',by omega,?_⟩;rw[e3]
   conv=>lhs;unfold qG
   rw[if_pos (by rw[Dy h3.1];decide),e5];rfl
  exact⟨Vf hF,fun _=>hF,fun h=>absurd (show (4:Int)=2 from h) (by decide)⟩
 | un a w x hw hx ih=>
  have hl:sV (.mk 5 0 a w [x])=O w::brT x:=by rw[tT];rfl
  refine⟨Vq (fun L f i hf hst hs=>?_) (by rw[hl];simp),fun h=>absurd h (by simp[isRef,T.kind]),fun h=>absurd (show (5:Int)=2 from h) (by decide)⟩;rw[hl]at hf hst ⊢;have h1:=hst.cons;obtain⟨x',e1,e2⟩:=brE hx ih.1 L f (by simp at hf;omega) (i+1) h1.2.1 trivial;refine⟨.mk 5 0 i w [x'],BC (zK e1 Aq),?_⟩;unfold eB;rw[if_pos (by rw[Dy h1.1];rcases hw with e|e|e<;>(rw[e];decide +kernel)),e2];unfold aB;simp only
  rw[h1.1,List.length_cons,show i+1+(brT x).length=i+((brT x).length+1)from by omega];rfl
 | bin a w x y hw hx hy ihx ihy=>
  have hl:sV (.mk 6 0 a w [x,y])=brT x++O w::brT y:=by rw[tT];rfl
  refine⟨?_,fun h=>absurd h (by simp[isRef,T.kind]),fun h=>absurd (show (6:Int)=2 from h) (by decide)⟩;intro L f hf i hst hs;rw[hl]at hf hst hs ⊢;have h1:=Sta.app hst;have h3:=h1.2.cons;have el:i+(brT x++O w::brT y).length=i+(brT x).length+1+(brT y).length:=by simp only[List.length_append,List.length_cons];omega
  rw[el]at hs ⊢;simp only[List.length_append,List.length_cons]at hf
  obtain⟨x',e1,e2⟩:=brE hx ihx.1 L f (by omega) i h1.1 trivial;obtain⟨y',e4,e5⟩:=brE hy ihy.1 L f (by omega) (i+(brT x).length+1) h3.2.1 trivial;obtain⟨m,hm,_,hmem,hstop⟩:=Ms w hw;have hx5:=upK (L:=L) (p:=eB L f) (k:=0) e2 (5 - m) (by omega) (by rw[h3.1];exact hstop);have hy5:=upK (L:=L) (p:=eB L f) (k:=0) e5 (5 - m) (by omega) (Mm (by omega) hs);have hfin:tG L (eB L f) (5 - m+1) i=.ok (.mk 6 0 i w [x',y'],i+(brT x).length+1+(brT y).length):=by
   conv=>lhs;unfold tG
   rw[hx5];unfold aB;simp only
   have hle:=Sta.le h1.2 (by have:=Sta.le h1.1 (by have:=h1.1;rw[Of (by rcases Ax hx with e|e|e|e|e<;>omega)]at this;have:=this.cons.2.2;omega);omega);simp only[List.length_cons]at hle
   obtain⟨g,hg⟩:∃ g,L.length=g+1:=⟨L.length - 1,by have:=h3.2.2;omega⟩
   rw[hg];have hop:sgn L (i+(brT x).length) (eO (5 - (5 - m)))=true:=by rw[Dy h3.1,show 5 - (5 - m)=m from by omega];exact hmem
   conv=>lhs;unfold nF
   rw[if_pos hop,hy5];unfold aB;simp only
   unfold nF;rw[if_neg (by rw[Sb (k:=5 - m) (Mm (by omega) hs)];decide),h3.1];rfl
  exact⟨_,BC (zK e1 (zK e4 Aq)),upK hfin 6 (by omega) hs⟩
 | part0 a w h=>
  have hl:sV (.mk 3 0 a w [])=[W w]:=by rw[tT];rfl
  refine⟨⟨w,[],hl⟩,fun L f _ i hst hs=>⟨.mk 3 0 i w [],BC Aq,?_⟩⟩;rw[hl]at hst hs ⊢;unfold nY fN;rw[if_pos (by unfold isName;rw[hst.one.1];rfl)];unfold aB;simp only
  rw[if_neg (by rw[show sgn L (i+1) [sLP]=false from hs];decide),hst.one.1];rfl
 | part1 a w l h h16 hl ih=>
  have hl0:sV (.mk 3 1 a w l)=W w::O sLP::(aO (l.map brT)++[O sRP]):=by rw[tT];rfl
  refine⟨⟨w,_,hl0⟩,fun L f hf i hst _=>?_⟩;rw[hl0]at hst hf ⊢;have h1:=hst.cons;have h2:=h1.2.1.cons;have h3:=Sta.app h2.2.1;have hrp:sgn L (i+1+1+(aO (l.map brT)).length) [sRP]=true:=by rw[Dy h3.2.one.1];decide
  cases l with
  | nil=>
   refine⟨.mk 3 1 i w [],BC Aq,?_⟩;unfold nY fN;rw[if_pos (by unfold isName;rw[h1.1];rfl)];unfold aB;simp only
   rw[if_pos (by rw[Dy h2.1];decide),if_pos (show sgn L (i+1+1) [sRP]=true from hrp),h1.1];rfl
  | cons x r=>
   have hc:aO ((x::r).map brT)=brT x++(r.map fun y=>O mU::brT y).flatten:=OV brT r x;have hxb:∃ s tl,brT x=O s::tl∧mV s [sRP]=false:=by
    rcases Vr (hl x (.head _))with ⟨_,h7⟩|⟨a',rfl⟩
    ·exact⟨sLP,_,Of h7,by decide⟩
    ·exact⟨uF,[],by rw[Kc];rfl,by decide⟩
   have hnr:sgn L (i+1+1) [sRP]=false:=by
    obtain⟨s,tl,e,hs⟩:=hxb;have:=h3.1;rw[hc]at this;have:=(Sta.app this).1;rw[e]at this;rw[Dy this.cons.1];exact hs
   simp only[List.length_cons,List.length_append,List.length_nil]at hf
   have hlen:∀ y,y∈x::r→(brT y).length≤f:=by
    intro y hy;have:(brT y).length≤(brT x++(r.map fun y=>O mU::brT y).flatten).length:=by
     rw[List.length_append]
     rcases List.mem_cons.1 hy with rfl|hy
     ·omega
     ·have:(brT y).length≤(r.map fun y=>O mU::brT y).flatten.length:=VM hy;omega
    rw[hc]at hf;omega
   have hst2:=h3.1;rw[hc]at hst2 hrp ⊢;have htk:tok L (i+1+1+(brT x++(r.map fun y=>O mU::brT y).flatten).length)=O sRP:=by have:=h3.2.one.1;rw[hc]at this;exact this
   have hR:∀ y,y∈x::r→BxA L (aP L (pC L f)) brT S6 y:=fun y hy=>(show BxG y from ih y hy) L f (hlen y hy)
   obtain⟨x',e1,e2⟩:=hR x (.head _) (i+1+1) (Sta.app hst2).1 (nxt hst2 S6 (by decide +kernel) (by rw[htk];decide +kernel));rw[List.length_append,← Nat.add_assoc]at htk;obtain⟨r',g1,g2⟩:=VZ (S:=S6) (f:=brT) (by decide +kernel) r (fun y hy=>hR y (.tail _ hy)) 15 (by simp at h16;omega) (i+1+1+(brT x).length) [x'] (Sta.app hst2).2 (by rw[htk];decide +kernel) (by rw[Dy htk];decide);refine⟨.mk 3 1 i w (x'::r'),BC (zK e1 g1),?_⟩;unfold nY fN;rw[if_pos (by unfold isName;rw[h1.1];rfl)];unfold aB;simp only
   rw[if_pos (by rw[Dy h2.1];decide),if_neg (by rw[hnr];decide)];unfold eD;rw[e2];unfold aB;simp only
   rw[g2];simp only
   unfold aM;rw[if_pos (by rw[Dy htk];decide),h1.1];simp only[List.length_cons,List.length_append,List.length_nil]
   exact congrArg _ (Prod.ext rfl (by show _=_;simp only;omega))
 | arg x h ih=>exact Wt h ih.1
 | star a=>
  intro L f _ i hst _;have hl:brT (.mk 7 0 a e0 [])=[O uF]:=by rw[Kc];rfl
  rw[hl]at hst ⊢;refine⟨node 7 i [],BC Aq,?_⟩;unfold aP;rw[if_pos (by rw[Dy hst.one.1];decide)];rfl
 | _=>trivial
end Px
end
section
namespace Px
open Lx
abbrev Kd1(t:T)(_:Nat):Prop:=13≤t.kind
section
variable (L:List Tk)
theorem Is{t:T}(h:13≤t.kind)(i:Nat):Sd Kd1 (aG L t i):=Sd.then fun _ _=>.ok h
theorem wJ{r:R T}(h:Sd Kd1 r:=by repeat (first|exact Sd.err _|exact Sd.ok (by simp[Kd1,node,T.kind])|exact Is _ (by simp[node,T.kind]) _|(refine Sd.then fun _ _=>?_)|(refine Sd.ite (fun _=>?_) fun _=>?_))):Sd Kd1 r:=h
theorem KK(k:Int)(hk:13≤k)(a i:Nat):Sd Kd1 (fH L k a i):=Sd.ite (fun _=>Sd.then fun _ _=>Is L (t:=.mk k 0 a _ []) hk _) fun _=>Is L (t:=node k a []) hk _
theorem Mq(k:Int)(hk:13≤k)(a:Nat)(item:Nat→R T)(i:Nat):Sd Kd1 (fO L k a item i):=Sd.then fun _ _=>Sd.then fun _ _=>Sd.then fun _ _=>Is L (t:=.mk k _ a _ [_,_]) hk _
theorem VT: ∀ r:R T,(none:Option (R T))=some r→Sd Kd1 r:=fun _ h=>by cases h
theorem xR{c:Prop}[Decidable c]{x:R T}{y:Option (R T)}(hx:Sd Kd1 x)(hy:∀ r,y=some r→Sd Kd1 r):∀ r,(if c then some x else y)=some r→Sd Kd1 r:=by
 intro r h
 split at h
 ·exact Option.some.inj h ▸ hx
 ·exact hy r h
theorem Pd(stmt inner:Nat→R T)(w:ByteArray)(a:Nat)(label:ByteArray)(i:Nat):∀ r:R T,gW L stmt inner w a label i=some r→Sd Kd1 r:=by
 unfold gW
 refine xR (by unfold eX; exact wJ) (xR wJ (xR (by unfold doP; exact wJ) (xR (by unfold iA; exact wJ) (xR (by unfold qA; exact wJ) (xR (by unfold Dw; exact wJ)
   (xR (by unfold Dg; exact wJ) (xR (by unfold wQ; exact wJ) (xR (by unfold wQ; exact wJ) (xR (KK L _ (by decide) _ _) (xR (KK L _ (by decide) _ _) (xR wJ (xR (by unfold onP; exact wJ)
   (xR wJ (xR wJ (xR (by unfold jP; exact wJ) (xR (by unfold DE; exact wJ) (xR (Mq L _ (by decide) _ _ _) (xR (Mq L _ (by decide) _ _ _) (xR (by unfold DS; exact wJ)
   (xR (by unfold vQ; exact wJ) (xR (by unfold mJ; exact wJ) (xR (by unfold qH; exact wJ) (xR (by unfold mH; exact wJ) VT)))))))))))))))))))))))
theorem Vt(stmt inner:Nat→R T)(inr:Bool)(label:ByteArray)(i:Nat):Sd Kd1 (iT L stmt inner inr label i):=by
 unfold iT;refine Sd.ite (fun _=>wJ) fun _=>Sd.ite (fun _=>wJ) fun _=>Sd.ite (fun _=>Sd.err _) fun _=>?_
 split
 ·exact Sd.err _
 ·rename_i h;exact Pd L _ _ _ _ _ _ _ h
theorem Wo: ∀ f inr label i,Sd Kd1 (qK L f inr label i):=by
 intro f
 induction f with
 | zero=>intro _ _ _;unfold qK;exact Sd.err _
 | succ f ih=>intro inr label i;unfold qK;exact Sd.ite (fun _=>Vt L _ _ _ _ _) fun _=>wJ
theorem Wc(i:Nat):Sd Kd1 (qJ L i):=by
 unfold qJ cH;exact Sd.ite (fun _=>wJ) fun _=>Wo L _ _ _ _
end
theorem RC{t:T}(h:chk t=true)(hk:t.kind≤6):lH t=true∧∃ t',fU t' t=true∧V .expr t':=by
 unfold chk at h;simp only[Bool.and_eq_true,Bool.or_eq_true,VO,NJ]at h
 obtain⟨h1,h2,h3⟩:=h;refine⟨h1,?_⟩
 rcases h3 with ⟨t',h3,h4⟩|⟨t',h3,h4⟩
 ·obtain⟨j,h5,_⟩:=Om h3;exact⟨t',h4,Wa h2.WG 0 _ _ h5⟩
 ·obtain⟨j,h5,_⟩:=Om h3;have:=Wc _ 0 _ _ h5;have:=(GO h4).1;omega
theorem VJ{ts:List Tk}{x:T}(h:bM ts 0=.ok (x,ts.length)):Bb ts (bM ts)=.ok x:=by
 unfold Bb;rw[h];simp
theorem Mx{t:T}(h:chk t=true)(hk:t.kind≤6)(hn:nodes t≤1000):(∃ x,jS bM (sV t)=(x,0,0)∧fU x t=true)∧∃ x,jS bM (brT t)=(x,0,0)∧fU x t=true:=by
 obtain⟨h1,t',h2,h3⟩:=RC h hk;have hf:=UZ t t' h2;have hl:lnE t':=PE h3;have hg:Gd (sV t'):=VQ h3;have hr:BxX t':=(Wn h3).1;have hnn:nodes t'≤1000:=by rw[FY h2];exact hn
 unfold lnE at hl;have hb:=Mn h3;have hend:∀ (ts:List Tk) (n:Nat),n=ts.length→S6 (tok ts n):=by
  intro ts n hn;rw[hn,VY];decide +kernel
 rw[← hf.1,← hf.2]
 constructor
 ·obtain⟨x,e1,e2⟩:=hr (sV t') ((sV t').length+1) (by omega) 0 (Sta.all _) (hend _ _ (by simp));rw[Nat.zero_add]at e2;exact⟨x,PN (by omega) hg (VJ e2) (by rw[KE (BZ e1 h2)];exact h1),BZ e1 h2⟩
 ·obtain⟨x,e1,e2⟩:=brE h3 hr (brT t') ((brT t').length+1) (by omega) 0 (Sta.all _) trivial;rw[Nat.zero_add]at e2;have e3:bM (brT t') 0=.ok (x,(brT t').length):=upK (L:=brT t') (p:=eB (brT t') ((brT t').length+1)) (k:=0) e2 6 (by omega) (hend _ _ rfl);exact⟨x,PN (by omega) (Vh h3 hg) (VJ e3) (by rw[KE (BZ e1 h2)];exact h1),BZ e1 h2⟩
end Px
end
section
namespace Px
open Lx
theorem Pp: ∀ {l l':List T},eG l' l=true→∀ x',x'∈l'→∃ x,x∈l∧fU x' x=true:=by
 intro l
 induction l with
 | nil=>intro l' h x' hx;cases l' with
  | nil=>cases hx
  | cons _ _=>unfold eG at h;cases h
 | cons y r ih=>intro l' h x' hx;cases l' with
  | nil=>cases hx
  | cons y' r'=>
   unfold eG at h;simp only[Bool.and_eq_true]at h
   rcases List.mem_cons.1 hx with rfl|hx
   ·exact⟨y,.head _,h.1⟩
   ·obtain⟨x,h1,h2⟩:=ih h.2 x' hx;exact⟨x,.tail _ h1,h2⟩
theorem RO{l':List T}(h:eG l' []=true):l'=[]:=by
 cases l' with
 | nil=>rfl
 | cons _ _=>unfold eG at h;cases h
theorem VL{l':List T}{x:T}(h:eG l' [x]=true):∃ x',l'=[x']∧fU x' x=true:=by
 cases l' with
 | nil=>unfold eG at h;cases h
 | cons x' r=>
  unfold eG at h;simp only[Bool.and_eq_true]at h
  exact⟨x',by rw[RO h.2],h.1⟩
theorem VH{l':List T}{x y:T}(h:eG l' [x,y]=true):∃ x' y',l'=[x',y']∧fU x' x=true∧fU y' y=true:=by
 cases l' with
 | nil=>unfold eG at h;cases h
 | cons x' r=>
  unfold eG at h;simp only[Bool.and_eq_true]at h
  obtain⟨y',rfl,h2⟩:=VL h.2;exact⟨x',y',rfl,h.1,h2⟩
theorem BY{t':T}{k n a:Int}{w:ByteArray}{l:List T}(h:fU t' (.mk k n a w l)=true):∃ a' l',t'=.mk k n a' w l'∧eG l' l=true:=by
 obtain⟨k',n',a',w',l'⟩:=t';obtain⟨e1,e2,e3,e4⟩:=GO h;simp only[T.kind,T.n,T.word,T.l]at e1 e2 e3 e4
 subst e1 e2 e3;exact⟨a',l',rfl,e4⟩
def VsS: So→T→Prop
 | .expr,t=>∀ t',fU t' t=true→V .expr t'
 | .part,t=>∀ t',fU t' t=true→V .part t'
 | .arg,t=>∀ t',fU t' t=true→V .arg t'
 | _,_=>True
theorem Wp{s:So}{t:T}(h:V s t):VsS s t:=by
 induction h with
 | const n a w h=>
  intro t' hs;obtain⟨a',l',rfl,h2⟩:=BY hs;rw[RO h2];exact .const n a' w h
 | ref a ps h1 h8 h ih=>
  intro t' hs;obtain⟨a',l',rfl,h2⟩:=BY hs;have hl:=PK h2;exact .ref a' l' (by omega) (by omega) fun p hp=>by obtain⟨x,h3,h4⟩:=Pp h2 p hp;exact ih x h3 p h4
 | ptr a x y hx hr hy h2 ihx ihy=>
  intro t' hs;obtain⟨a',l',rfl,h3⟩:=BY hs;obtain⟨x',y',rfl,e1,e2⟩:=VH h3;exact .ptr a' x' y' (ihx x' e1) (by unfold isRef at hr ⊢; rw[(GO e1).1];exact hr) (ihy y' e2) (by rw[(GO e2).1];exact h2)
 | un a w x hw hx ih=>
  intro t' hs;obtain⟨a',l',rfl,h3⟩:=BY hs;obtain⟨x',rfl,e1⟩:=VL h3;exact .un a' w x' hw (ih x' e1)
 | bin a w x y hw hx hy ihx ihy=>
  intro t' hs;obtain⟨a',l',rfl,h3⟩:=BY hs;obtain⟨x',y',rfl,e1,e2⟩:=VH h3;exact .bin a' w x' y' hw (ihx x' e1) (ihy y' e2)
 | part0 a w h=>
  intro t' hs;obtain⟨a',l',rfl,h2⟩:=BY hs;rw[RO h2];exact .part0 a' w h
 | part1 a w l h h16 hl ih=>
  intro t' hs;obtain⟨a',l',rfl,h2⟩:=BY hs;exact .part1 a' w l' h (by rw[PK h2];exact h16) fun p hp=>by obtain⟨x,h3,h4⟩:=Pp h2 p hp;exact ih x h3 p h4
 | arg x h ih=>exact fun t' hs=>.arg t' (ih t' hs)
 | star a=>
  intro t' hs;obtain⟨a',l',rfl,h2⟩:=BY hs;rw[RO h2];exact .star a'
 | _=>trivial
theorem Wy{t:T}(h:chk t=true)(hk:t.kind≤6):V .expr t:=by
 obtain⟨_,t',h2,h3⟩:=RC h hk;exact Wp h3 t (Vg h2)
end Px
end
end Go.Proofs.YtfdlmcgcckkkdaaGreatDoor
