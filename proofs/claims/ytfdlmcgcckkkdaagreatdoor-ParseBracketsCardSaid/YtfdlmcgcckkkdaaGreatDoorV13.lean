/- ParseWhole, part 13: what it stands on. -/
import Derived.Test.YtfdlmcgcckkkdaaGreatDoorV10
import Derived.Test.YtfdlmcgcckkkdaaGreatDoorV12
import Derived.Test.YtfdlmcgcckkkdaaGreatDoorProg
import Derived.Below
set_option linter.all false
set_option maxHeartbeats 40000000
set_option maxRecDepth 100000
namespace Go.Proofs.YtfdlmcgcckkkdaaGreatDoor
section
namespace Px
open Lx
def Up{α:Type}(k:Nat)(r:R α):Prop:=∀ x j,r=.ok (x,j)→k≤j
theorem Up.err{α:Type}{k:Nat}(a:Nat):Up k (.error a:R α):=fun _ _ h=>by cases h
theorem Up.ok{α:Type}{k j:Nat}{x:α}(h:k≤j):Up k (.ok (x,j):R α):=fun _ _ e=>by cases e;exact h
theorem Up.bind{α β:Type}{k m:Nat}{r:R α}{f:α→Nat→R β}(h:Up k r)(hf:∀ x j,k≤j→Up m (f x j)):Up m (aB r f):=by
 intro y l e
 cases r with
 | error a=>cases e
 | ok xj=>obtain⟨x,j⟩:=xj;exact hf x j (h x j rfl) y l e
theorem Up.ite{α:Type}{k:Nat}{c:Prop}[Decidable c]{r s:R α}(h:c→Up k r)(g:¬ c→Up k s):Up k (if c then r else s):=by
 split
 ·exact h ‹_›
 ·exact g ‹_›
theorem Up.le{α:Type}{k m:Nat}{r:R α}(h:Up k r)(hm:m≤k):Up m r:=fun x j e=>Nat.le_trans hm (h x j e)
variable (L:List Tk)
theorem aK(i:Nat)(s:ByteArray):Up (i+1) (aM L i s):=Up.ite (fun _=>.ok (Nat.le_refl _)) (fun _=>.err _)
theorem iM(i:Nat)(ss:List ByteArray):Up (i+1) (gU L i ss):=Up.ite (fun _=>.ok (Nat.le_refl _)) (fun _=>.err _)
theorem hG(i:Nat):Up (i+1) (fN L i):=Up.ite (fun _=>.ok (Nat.le_refl _)) (fun _=>.err _)
theorem fM(i:Nat):Up (i+1) (iX L i):=(hG L i).bind fun _ _ h=>.ok h
theorem iI(lo hi i:Nat):Up (i+1) (fA L lo hi i):=by
 unfold fA
 split
 ·exact Up.ite (fun _=>.ok (Nat.le_refl _)) (fun _=>.err _)
 ·exact .err _
theorem dD(i:Nat):Up (i+1) (bH L i):=Up.ite (fun _=>.ok (Nat.le_refl _)) (fun _=>.err _)
theorem Jn{read:Nat→R T}(h:∀ i,Up (i+1) (read i)):∀ n acc j,Up j (gK L read n acc j):=by
 intro n
 induction n with
 | zero=>intro acc j;unfold gK;exact .ok (Nat.le_refl _)
 | succ n ih=>
  intro acc j;unfold gK;exact Up.ite (fun _=>(h (j+1)).bind fun x j' hj=>(ih _ j').le (by omega)) (fun _=>.ok (Nat.le_refl _))
theorem dB{read:Nat→R T}(h:∀ i,Up (i+1) (read i))(most i:Nat):Up (i+1) (eD L most read i):=
 (h i).bind fun x j hj=>(Jn L h _ _ j).le hj
theorem Kz{sub:Nat→R T}(h:∀ i,Up (i+1) (sub i))(ops:List ByteArray)(a:Nat):∀ f x j,Up j (nF L sub ops a f x j):=by
 intro f
 induction f with
 | zero=>intro x j;unfold nF;exact .err _
 | succ f ih=>
  intro x j;unfold nF;exact Up.ite (fun _=>(h (j+1)).bind fun x j' hj=>(ih _ j').le (by omega)) (fun _=>.ok (Nat.le_refl _))
theorem Az{prim:Nat→R T}(h:∀ i,Up (i+1) (prim i)):∀ k i,Up (i+1) (tG L prim k i):=by
 intro k
 induction k with
 | zero=>intro i;exact h i
 | succ k ih=>intro i;exact(ih i).bind fun x j hj=>(Kz L ih _ _ _ x j).le hj
theorem gL{expr:Nat→R T}(h:∀ i,Up (i+1) (expr i))(i:Nat):Up (i+1) (aP L expr i):=Up.ite (fun _=>.ok (Nat.le_refl _)) (fun _=>h i)
theorem lN{expr:Nat→R T}(h:∀ i,Up (i+1) (expr i))(i:Nat):Up (i+1) (nY L expr i):=
 (hG L i).bind fun s j hj=>Up.ite (fun _=>Up.ite (fun _=>.ok (by omega)) (fun _=>(dB L (gL L h) 16 (j+1)).bind fun l j' h2=>(aK L j' sRP).bind fun _ j2 h3=>.ok (by omega))) (fun _=>.ok hj)
theorem FB{expr:Nat→R T}(h:∀ i,Up (i+1) (expr i)):∀ n acc j,Up j (fS L expr n acc j):=by
 intro n
 induction n with
 | zero=>intro acc j;unfold fS;exact .ok (Nat.le_refl _)
 | succ n ih=>
  intro acc j;unfold fS;exact Up.ite (fun _=>(lN L h (j+1)).bind fun x j' hj=>(ih _ j').le (by omega)) (fun _=>.ok (Nat.le_refl _))
theorem jK{expr:Nat→R T}(h:∀ i,Up (i+1) (expr i))(i:Nat):Up (i+1) (iN L expr i):=
 (lN L h i).bind fun x j hj=>(FB L h 7 _ j).bind fun l j' h2=>.ok (by omega)
theorem KS{expr:Nat→R T}(h:∀ i,Up (i+1) (expr i))(a:Nat):∀ n x j,Up j (qG L expr a n x j):=by
 intro n
 induction n with
 | zero=>intro x j;unfold qG;exact .err _
 | succ n ih=>
  intro x j;unfold qG;exact Up.ite (fun _=>(jK L h (j+1)).bind fun x j' hj=>(ih _ j').le (by omega)) (fun _=>.ok (Nat.le_refl _))
theorem rB{expr:Nat→R T}(h:∀ i,Up (i+1) (expr i))(i:Nat):Up (i+1) (cU L expr i):=
 (jK L h i).bind fun x j hj=>(KS L h i _ x j).le hj
theorem Bo: ∀ f i,Up (i+1) (eB L f i):=by
 intro f
 induction f with
 | zero=>intro i;unfold eB;exact .err _
 | succ f ih=>
  intro i;unfold eB;exact Up.ite (fun _=>(ih (i+1)).bind fun x j hj=>.ok (by omega)) fun _=>
   Up.ite (fun _=>(Az L ih 6 (i+1)).bind fun x j hj=>(aK L j sRP).bind fun _ j' h2=>.ok (by omega)) fun _=>
   Up.ite (fun _=>dD L i) (fun _=>rB L (Az L ih 6) i)
theorem EK(f i:Nat):Up (i+1) (pC L f i):=Az L (Bo L f) 6 i
theorem bD(i:Nat):Up (i+1) (bM L i):=EK L _ i
theorem nI(i:Nat):Up (i+1) (Cr L i):=rB L (bD L) i
end Px
end
section
open Go.RowKit Lx Px
abbrev lk(L:List T3):List Tk:=L.map T3.tk
theorem bJ.below{w w':World}{v:Value}{ss:List ByteArray}(h:bJ w v ss)(hb:Below w.heap.size w w'):bJ w' v ss:=by
 obtain⟨b,off,cap,e,hl,hc⟩:=h;exact⟨b,off,cap,e,Nat.lt_of_lt_of_le hl hb.size,fun j hj=>(hb.cell (p:=⟨b,off+j,none⟩) hl).trans (hc j hj)⟩
theorem uU{w w1:World}(h:Below w.heap.size w w1)(o:Obj):Below w.heap.size w (w1.alloc o):=h.trans ((aC w1 o).mono h.size)
theorem oR(pb:Nat)(L:List T3)(i a:Nat)(ha:a≤9)(v:Value)(ss:List ByteArray)(hl:ss.length≤1000)(w:World)(h:PS w pb L i)(hs:bJ w v ss):Calls Tryz.prog 124 #[.pointer (some ⟨pb,0,none⟩),.int .i64 a,v] w fun e w'=>e=.returned (.bool (sgn (lk L) (i+a) ss))∧Below w.heap.size w w':=by
 go_enter Tryz.func124,Tryz.ntmps124;go_upto_region 2 with (go_at_call 125;refine(aX pb L i a ha _ h).mono ?_;rintro e w1 ⟨⟨p,rfl⟩,hb⟩);have s1:=hs.below hb;have s2:=s1.below (aC w1 (.cells #[.int .i64 (tok (lk L) (i+a)).kind,.string (tok (lk L) (i+a)).text,.int .i64 p] 43));have n2:=heap_alloc_new w1 (.cells #[.int .i64 (tok (lk L) (i+a)).kind,.string (tok (lk L) (i+a)).text,.int .i64 p] 43);have b2:=uU hb (.cells #[.int .i64 (tok (lk L) (i+a)).kind,.string (tok (lk L) (i+a)).text,.int .i64 p] 43);generalize w1.alloc (.cells #[.int .i64 (tok (lk L) (i+a)).kind,.string (tok (lk L) (i+a)).text,.int .i64 p] 43)=w2 at s2 n2 b2 ⊢;have k0:w2.cell? ⟨w1.heap.size,0,none⟩=some (.int .i64 (tok (lk L) (i+a)).kind):=cell_of_row w2 _ 0 _ _ _ n2;have k1:w2.cell? ⟨w1.heap.size,1,none⟩=some (.string (tok (lk L) (i+a)).text):=cell_of_row w2 _ 1 _ _ _ n2;have hq:∀ t:Tk,t=tok (lk L) (i+a)→sgn (lk L) (i+a) ss=(t.kind==6&&mV t.text ss):=fun t e=>by rw[e];rfl
 generalize tok (lk L) (i+a)=t at k0 k1 hq;have HQ:=hq t rfl;clear hq n2 s1 h hs hb
 by_cases hk:t.kind=6
 ·go_wp2_with (go_at_call 34;refine(jE v ss t.text _ s2 (by omega)).mono ?_;rintro e w' ⟨rfl,rfl⟩);go_ret;refine⟨aR ?_,b2⟩;rw[HQ,hk];simp
 ·go_wp2_with fail;go_ret;refine⟨aR ?_,b2⟩;rw[HQ,beq_eq_false_iff_ne.2 hk];simp
theorem oP(pb:Nat)(L:List T3)(i:Nat)(v:Value)(ss:List ByteArray)(hl:ss.length≤1000)(w:World)(h:PS w pb L i)(hs:bJ w v ss):Calls Tryz.prog 155 #[.pointer (some ⟨pb,0,none⟩),v] w fun e w'=>e=.returned (.bool (wrd (lk L) i ss))∧Below w.heap.size w w':=by
 go_enter Tryz.func155,Tryz.ntmps155;go_upto_region 2 with (go_at_call 125;refine(aX pb L i 0 (by decide) _ h).mono ?_;rintro e w1 ⟨⟨p,rfl⟩,hb⟩);have s1:=hs.below hb;have s2:=s1.below (aC w1 (.cells #[.int .i64 (tok (lk L) (i+0)).kind,.string (tok (lk L) (i+0)).text,.int .i64 p] 43));have n2:=heap_alloc_new w1 (.cells #[.int .i64 (tok (lk L) (i+0)).kind,.string (tok (lk L) (i+0)).text,.int .i64 p] 43);have b2:=uU hb (.cells #[.int .i64 (tok (lk L) (i+0)).kind,.string (tok (lk L) (i+0)).text,.int .i64 p] 43);generalize w1.alloc (.cells #[.int .i64 (tok (lk L) (i+0)).kind,.string (tok (lk L) (i+0)).text,.int .i64 p] 43)=w2 at s2 n2 b2 ⊢;have k0:w2.cell? ⟨w1.heap.size,0,none⟩=some (.int .i64 (tok (lk L) (i+0)).kind):=cell_of_row w2 _ 0 _ _ _ n2;have k1:w2.cell? ⟨w1.heap.size,1,none⟩=some (.string (tok (lk L) (i+0)).text):=cell_of_row w2 _ 1 _ _ _ n2;have hq:∀ t:Tk,t=tok (lk L) (i+0)→wrd (lk L) i ss=(t.kind==1&&mV t.text ss):=fun t e=>by rw[e];rfl
 generalize tok (lk L) (i+0)=t at k0 k1 hq;have HQ:=hq t rfl;clear hq n2 s1 h hs hb
 by_cases hk:t.kind=1
 ·go_wp2_with (go_at_call 34;refine(jE v ss t.text _ s2 (by omega)).mono ?_;rintro e w' ⟨rfl,rfl⟩);go_ret;refine⟨aR ?_,b2⟩;rw[HQ,hk];simp
 ·go_wp2_with fail;go_ret;refine⟨aR ?_,b2⟩;rw[HQ,beq_eq_false_iff_ne.2 hk];simp
theorem pK{L:List T3}{i:Nat}(h:(tok (lk L) i).kind≠0):i<L.length:=by
 rcases Nat.lt_or_ge i L.length with h'|h'
 ·exact h'
 ·exact absurd (by rw[wS h']) h
theorem kR{L:List T3}{i:Nat}{ss:List ByteArray}(h:sgn (lk L) i ss=true):i<L.length:=by
 unfold sgn at h;simp only[Bool.and_eq_true,beq_iff_eq]at h
 exact pK (by rw[h.1];decide)
theorem zU{L:List T3}{i:Nat}{ss:List ByteArray}(h:wrd (lk L) i ss=true):i<L.length:=by
 unfold wrd at h;simp only[Bool.and_eq_true,beq_iff_eq]at h
 exact pK (by rw[h.1];decide)
def Ok(pb:Nat)(L:List T3)(j:Nat)(w w':World):Prop:=w.grownBy w' (some pb)∧PS w' pb L j
theorem PS.cells{w:World}{pb:Nat}{L:List T3}{i:Nat}(h:PS w pb L i):w.cell? ⟨pb,1,none⟩=some (.int .i64 i)∧w.frozen? ⟨pb,1,none⟩=false:=by
 obtain⟨ao,cap,h1,_⟩:=h.blk;exact⟨cell_of_row w pb 1 _ _ _ h1,Lib.frozen_of_heap h1 1⟩
theorem bJ.new(w:World)(s:ByteArray):bJ (w.alloc (.cells #[.string s] 9)) (.slice (some ⟨w.heap.size,0,none⟩) 1 1) [s]:=by
 refine⟨_,0,1,rfl,by simp,fun j hj=>?_⟩;obtain rfl:j=0:=by simpa using hj
 exact cell_of_row _ _ 0 _ _ _ (heap_alloc_new w _)
def adv(b:Bool)(i:Nat):Nat:=cond b (i+1) i
theorem iY(pb:Nat)(L:List T3)(i:Nat)(s:ByteArray)(w:World)(h:PS w pb L i):Calls Tryz.prog 135 #[.pointer (some ⟨pb,0,none⟩),.string s] w fun e w'=>e=.returned (.bool (sgn (lk L) i [s]))∧Ok pb L (adv (sgn (lk L) i [s]) i) w w':=by
 go_enter Tryz.func135,Tryz.ntmps135;go_upto_block 1 with fail;refine(oR pb L i 0 (by decide) _ [s] (by simp) _ (h.below (aC w _)) (bJ.new w s)).mono ?_;rintro e w1 ⟨rfl,hb⟩;have b1:=aT _ _ _ hb;have h1:=h.below b1;have b1:=aF (some pb) b1;obtain⟨k1,f1⟩:=h1.cells;have hle:=h.le;have hbd:=h.bd;rw[Nat.add_zero]
 cases hq:sgn (lk L) i [s] with
 | true=>
  have hlt:=kR hq;clear hb h;go_wp2_with fail;go_ret;rw[hq];exact⟨rfl,b1.trans (dJ _ _ _ _),h1.set (i+1) (by omega)⟩
 | false=>
  clear hb h;go_wp2_with fail;go_ret;rw[hq];exact⟨rfl,b1,h1⟩
theorem tO(pb:Nat)(L:List T3)(i:Nat)(v:Value)(ss:List ByteArray)(hl:ss.length≤1000)(w:World)(h:PS w pb L i)(hs:bJ w v ss):Calls Tryz.prog 136 #[.pointer (some ⟨pb,0,none⟩),v] w fun e w'=>e=.returned (.bool (wrd (lk L) i ss))∧Ok pb L (adv (wrd (lk L) i ss) i) w w':=by
 go_enter Tryz.func136,Tryz.ntmps136;go_upto_block 1 with fail;refine(oP pb L i v ss hl _ h hs).mono ?_;rintro e w1 ⟨rfl,hb⟩;have h1:=h.below hb;have b1:=aF (some pb) hb;obtain⟨k1,f1⟩:=h1.cells;have hle:=h.le;have hbd:=h.bd
 cases hq:wrd (lk L) i ss with
 | true=>
  have hlt:=zU hq;clear hb h;go_wp2_with fail;go_ret;rw[hq];exact⟨rfl,b1.trans (dJ _ _ _ _),h1.set (i+1) (by omega)⟩
 | false=>
  clear hb h;go_wp2_with fail;go_ret;rw[hq];exact⟨rfl,b1,h1⟩
def pan(a:Nat):Ending:=.panicked [{ v:=.iface 120 (.agg #[.int .i64 a]),recovered:=false }]
theorem rG(pb:Nat)(L:List T3)(i:Nat)(w:World)(h:PS w pb L i):Calls Tryz.prog 86 #[.pointer (some ⟨pb,0,none⟩)] w fun e w'=>e=pan i∧w'=w:=by
 obtain⟨k1,_⟩:=h.cells;go_enter Tryz.func86,Tryz.ntmps86;go_wp2_with fail;exact⟨rfl,rfl,rfl⟩
theorem Ok.trans{pb:Nat}{L:List T3}{j k:Nat}{a b c:World}(h:Ok pb L j a b)(g:Ok pb L k b c):Ok pb L k a c:=⟨h.1.trans g.1,g.2⟩
def mL(pb:Nat)(L:List T3)(w:World)(r:R Unit)(e:Ending)(w':World):Prop:=match r with
 | .ok (_,j)=>e=.returned (.tuple #[])∧Ok pb L j w w'
 | .error a=>e=pan a∧w.grownBy w' (some pb)
theorem mL.ok{pb:Nat}{L:List T3}{w w':World}{r:R Unit}{j:Nat}(h:r=.ok ((),j))(k:Ok pb L j w w'):mL pb L w r (.returned (.tuple #[])) w':=by rw[h];exact⟨rfl,k⟩
theorem mL.err{pb:Nat}{L:List T3}{w w':World}{r:R Unit}(a:Nat)(h:r=.error a)(k:w.grownBy w' (some pb)):mL pb L w r (pan a) w':=by rw[h];exact⟨rfl,k⟩
theorem Ac(pb:Nat)(L:List T3)(i:Nat)(s:ByteArray)(w:World)(h:PS w pb L i):Calls Tryz.prog 96 #[.pointer (some ⟨pb,0,none⟩),.string s] w (mL pb L w (aM (lk L) i s)):=by
 go_enter Tryz.func96,Tryz.ntmps96;go_upto_block 0 with fail;refine(iY pb L i s _ h).mono ?_;rintro e w1 ⟨rfl,h1⟩
 cases hq:sgn (lk L) i [s] with
 | true=>
  rw[hq]at h1;go_wp2_with fail;go_end0;exact .ok (by unfold aM;rw[hq];rfl) h1
 | false=>
  rw[hq]at h1;go_upto_block 1 with fail;refine(rG pb L i _ h1.2).mono ?_;rintro e w2 ⟨rfl,rfl⟩;unfold pan;go_wp2_with fail;exact⟨rfl,mL.err (r:=aM (lk L) i s) i (by unfold aM;rw[hq];rfl) h1.1⟩
theorem Cf(pb:Nat)(L:List T3)(i:Nat)(v:Value)(ss:List ByteArray)(hl:ss.length≤1000)(w:World)(h:PS w pb L i)(hs:bJ w v ss):Calls Tryz.prog 99 #[.pointer (some ⟨pb,0,none⟩),v] w (mL pb L w (gU (lk L) i ss)):=by
 go_enter Tryz.func99,Tryz.ntmps99;go_upto_block 0 with fail;refine(tO pb L i v ss hl _ h hs).mono ?_;rintro e w1 ⟨rfl,h1⟩
 cases hq:wrd (lk L) i ss with
 | true=>
  rw[hq]at h1;go_wp2_with fail;go_end0;exact .ok (by unfold gU;rw[hq];rfl) h1
 | false=>
  rw[hq]at h1;go_upto_block 1 with fail;refine(rG pb L i _ h1.2).mono ?_;rintro e w2 ⟨rfl,rfl⟩;unfold pan;go_wp2_with fail;exact⟨rfl,mL.err (r:=gU (lk L) i ss) i (by unfold gU;rw[hq];rfl) h1.1⟩
end
section
structure TGq where
 (k n a:Int) (s:ByteArray) (o:Option Addr) (m c:Nat)
def tg(k n a:Int)(s:ByteArray)(o:Option Addr)(m c:Nat):TGq:=⟨k,n,a,s,o,m,c⟩
instance (k n a:Int) (s:ByteArray) (o:Option Addr) (m c:Nat):CoeDep TGq (tg k n a s o m c) (Array Value):=⟨#[.int .i64 k,.int .i64 n,.int .i64 a,.string s,.slice o m c]⟩
instance (k n a:Int) (s:ByteArray) (o:Option Addr) (m c:Nat):CoeDep TGq (tg k n a s o m c) (List Value):=⟨[.int .i64 k,.int .i64 n,.int .i64 a,.string s,.slice o m c]⟩
instance (k n a:Int) (s:ByteArray) (o:Option Addr) (m c:Nat):CoeDep TGq (tg k n a s o m c) Value:=⟨.agg #[.int .i64 k,.int .i64 n,.int .i64 a,.string s,.slice o m c]⟩
structure ZQq where
def z5q: ZQq:=⟨⟩
instance:CoeDep ZQq z5q (Array Value):=⟨#[.int .i64 0,.int .i64 0,.int .i64 0,.string ⟨#[]⟩,.slice none 0 0]⟩
instance:CoeDep ZQq z5q (List Value):=⟨[.int .i64 0,.int .i64 0,.int .i64 0,.string ⟨#[]⟩,.slice none 0 0]⟩
instance:CoeDep ZQq z5q Value:=⟨.agg #[.int .i64 0,.int .i64 0,.int .i64 0,.string ⟨#[]⟩,.slice none 0 0]⟩
structure PQq where
 (b:Nat)
def pq(b:Nat):PQq:=⟨b⟩
instance (b:Nat):CoeDep PQq (pq b) Value:=⟨.pointer (some ⟨b,0,none⟩)⟩
theorem hdq{p:Prop}(h:p):Go.RowKit.Hid p:=h
theorem m2q{P:Program}{f:FuncId}{args:Array Value}{w:World}{v:Value}{S:World→Prop}{R:Ending→World→Prop}(h:Calls P f args w fun e w'=>e=.returned v∧S w')(g:∀ w',S w'→R (.returned v) w'):Calls P f args w R:=h.mono fun e w' ⟨he,hs⟩=>he ▸ g w' hs
instance:Coe Int Value:=⟨fun k=>.int .i64 k⟩
instance:Coe Nat Value:=⟨fun k=>.int .i64 (k:Nat)⟩
instance:Coe ByteArray Value:=⟨fun s=>.string s⟩
end
section
open Go.RowKit Lx Px
mutual
def TrC(av:Nat→Prop)(w:World):T→List Value→Prop
 | .mk k n a s l,us=>∃ ao cap,us=[.int .i64 k,.int .i64 n,.int .i64 a,.string s,.slice ao l.length cap]∧
  (l≠[]→∃ b off vs,ao=some ⟨b,off,none⟩∧av b∧b<w.heap.size∧aW av w l vs∧∀ i u,vs[i]?=some u→w.cell? ⟨b,off+i,none⟩=some u)∧l.length≤cap
def aW(av:Nat→Prop)(w:World):List T→List Value→Prop
 | [],vs=>vs=[]
 | t::r,vs=>∃ u1 u2,vs=u1++u2∧TrC av w t u1∧aW av w r u2
end
mutual
theorem TrC.kept{av av':Nat→Prop}{w w':World}(hav:∀ b,av b→b<w.heap.size→av' b)(hs:w.heap.size≤w'.heap.size)(hb:∀ b,av b→b<w.heap.size→w'.heap[b]?=w.heap[b]?):∀ {t:T} {us:List Value},TrC av w t us→TrC av' w' t us
 | .mk k n a s l,us,h=>by
  unfold TrC at h ⊢;obtain⟨ao,cap,e,h,hcap⟩:=h;refine⟨ao,cap,e,fun hne=>?_,hcap⟩;obtain⟨b,off,vs,e,hv,hl,hc,hu⟩:=h hne;exact⟨b,off,vs,e,hav b hv hl,Nat.lt_of_lt_of_le hl hs,aW.kept hav hs hb hc,fun i u hi=>(World.cell?_of_block (a:=⟨b,off+i,none⟩) (hb b hv hl)).trans (hu i u hi)⟩
theorem aW.kept{av av':Nat→Prop}{w w':World}(hav:∀ b,av b→b<w.heap.size→av' b)(hs:w.heap.size≤w'.heap.size)(hb:∀ b,av b→b<w.heap.size→w'.heap[b]?=w.heap[b]?):∀ {l:List T} {us:List Value},aW av w l us→aW av' w' l us
 | [],us,h=>by unfold aW at h ⊢; exact h
 | t::r,us,h=>by
  unfold aW at h ⊢;obtain⟨u1,u2,e,h1,h2⟩:=h;exact⟨u1,u2,e,TrC.kept hav hs hb h1,aW.kept hav hs hb h2⟩
end
theorem TrC.len{av:Nat→Prop}{w:World}{t:T}{us:List Value}(h:TrC av w t us):us.length=5:=by
 obtain⟨k,n,a,s,l⟩:=t;unfold TrC at h;obtain⟨ao,cap,e,_⟩:=h;rw[e];rfl
theorem aW.len{av:Nat→Prop}{w:World}:∀ {l:List T} {us:List Value},aW av w l us→us.length=l.length*5:=by
 intro l
 induction l with
 | nil=>intro us h;unfold aW at h;rw[h];rfl
 | cons t r ih=>
  intro us h;unfold aW at h;obtain⟨u1,u2,e,h1,h2⟩:=h;rw[e,List.length_append,h1.len,ih h2,List.length_cons];omega
theorem aW.app{av:Nat→Prop}{w:World}:∀ {l r:List T} {us vs:List Value},aW av w l us→aW av w r vs→aW av w (l++r) (us++vs):=by
 intro l
 induction l with
 | nil=>intro r us vs h k;unfold aW at h;rw[h];exact k
 | cons t l ih=>
  intro r us vs h k;unfold aW at h;obtain⟨u1,u2,e,h1,h2⟩:=h
  show aW av w (t::(l++r)) _
  unfold aW;exact⟨u1,u2++vs,by rw[e,List.append_assoc],h1,ih h2 k⟩
theorem aW.one{av:Nat→Prop}{w:World}{t:T}{us:List Value}(h:TrC av w t us):aW av w [t] us:=by
 unfold aW;exact⟨us,[],by simp,h,by unfold aW;rfl⟩
def Fr(w:World)(b:Nat):Prop:=w.heap.size≤b
theorem TrC.step{w0 w w':World}{pb:Nat}{t:T}{us:List Value}(h:TrC (Fr w0) w t us)(hp:pb<w0.heap.size)(g:w.grownBy w' (some pb)):TrC (Fr w0) w' t us:=
 h.kept (fun _ hb _=>hb) g.size (fun b hb hl=>g.block b hl (fun e=>by cases e;unfold Fr at hb;omega))
theorem TrC.since{w0 w1 w:World}{t:T}{us:List Value}(h:TrC (Fr w1) w t us)(hs:w0.heap.size≤w1.heap.size):TrC (Fr w0) w t us:=
 h.kept (fun _ hb _=>Nat.le_trans hs hb) (Nat.le_refl _) (fun _ _ _=>rfl)
def aD(pb:Nat)(L:List T3)(w:World)(r:R T)(e:Ending)(w':World):Prop:=match r with
 | .ok (t,j)=>∃ us,e=.returned (.agg us.toArray)∧TrC (Fr w) w' t us∧Ok pb L j w w'
 | .error a=>e=pan a∧w.grownBy w' (some pb)
theorem aD.ok{pb:Nat}{L:List T3}{w w':World}{r:R T}{t:T}{j:Nat}(h:r=.ok (t,j))(us:List Value){v:Value}(hv:v=.agg us.toArray)(ht:TrC (Fr w) w' t us)(k:Ok pb L j w w'):aD pb L w r (.returned v) w':=by rw[h,hv];exact⟨us,rfl,ht,k⟩
theorem aD.err{pb:Nat}{L:List T3}{w w':World}{r:R T}(a:Nat)(h:r=.error a)(k:w.grownBy w' (some pb)):aD pb L w r (pan a) w':=by rw[h];exact⟨rfl,k⟩
def tD(pb:Nat)(L:List T3)(w:World)(r:R ByteArray)(e:Ending)(w':World):Prop:=match r with
 | .ok (s,j)=>e=.returned (.string s)∧Ok pb L j w w'
 | .error a=>e=pan a∧w.grownBy w' (some pb)
theorem tD.ok{pb:Nat}{L:List T3}{w w':World}{r:R ByteArray}{s:ByteArray}{j:Nat}(h:r=.ok (s,j))(k:Ok pb L j w w'):tD pb L w r (.returned (.string s)) w':=by rw[h];exact⟨rfl,k⟩
theorem tD.err{pb:Nat}{L:List T3}{w w':World}{r:R ByteArray}(a:Nat)(h:r=.error a)(k:w.grownBy w' (some pb)):tD pb L w r (pan a) w':=by rw[h];exact⟨rfl,k⟩
theorem fT(pb:Nat)(L:List T3)(i:Nat)(w:World)(h:PS w pb L i):Calls Tryz.prog 95 #[.pointer (some ⟨pb,0,none⟩)] w (tD pb L w (fN (lk L) i)):=by
 go_enter Tryz.func95,Tryz.ntmps95;go_upto_region 2 with (go_at_call 125;refine(aX pb L i 0 (by decide) _ h).mono ?_;rintro e w1 ⟨⟨p,rfl⟩,hb⟩);have s2:=h.below (uU hb (.cells #[.int .i64 (tok (lk L) (i+0)).kind,.string (tok (lk L) (i+0)).text,.int .i64 p] 43));have n2:=heap_alloc_new w1 (.cells #[.int .i64 (tok (lk L) (i+0)).kind,.string (tok (lk L) (i+0)).text,.int .i64 p] 43);have b2:=uU hb (.cells #[.int .i64 (tok (lk L) (i+0)).kind,.string (tok (lk L) (i+0)).text,.int .i64 p] 43);generalize w1.alloc (.cells #[.int .i64 (tok (lk L) (i+0)).kind,.string (tok (lk L) (i+0)).text,.int .i64 p] 43)=w2 at s2 n2 b2 ⊢;have k0:w2.cell? ⟨w1.heap.size,0,none⟩=some (.int .i64 (tok (lk L) (i+0)).kind):=cell_of_row w2 _ 0 _ _ _ n2;have k1:w2.cell? ⟨w1.heap.size,1,none⟩=some (.string (tok (lk L) (i+0)).text):=cell_of_row w2 _ 1 _ _ _ n2;have hne:pb≠w1.heap.size:=by have:=hb.size;have:=h.lt;omega
 have g2:=aF (some pb) b2;obtain⟨c1,f1⟩:=s2.cells;have hbd:=h.bd;have hle:=h.le
 cases hq:isName (lk L) i with
 | true=>
  have hk:(tok (lk L) (i+0)).kind=1:=by unfold isName at hq;simpa using hq
  have hlt:=pK (L:=L) (i:=i) (by rw[show (tok (lk L) i).kind=1 from hk];decide);have hr:fN (lk L) i=.ok ((tok (lk L) (i+0)).text,i+1):=by unfold fN;rw[if_pos hq];rfl
  generalize (tok (lk L) (i+0)).text=tx at k1 hr ⊢;rw[hk]at k0;have HR:=Lib.hid hr;have k1':(w2.setCell ⟨pb,1,none⟩ (.int .i64 ((i:Int)+1))).cell? ⟨w1.heap.size,1,none⟩=some (.string tx):=(World.cell?_setCell_far _ _ _ _ (by simpa using hne)).trans k1;clear hb h hq n2 hk hr b2;go_wp2_with fail;go_ret;exact .ok HR.out ⟨g2.trans (dJ _ _ _ _),s2.set (i+1) (by omega)⟩
 | false=>
  have hk:(tok (lk L) (i+0)).kind≠1:=by unfold isName at hq;simpa using hq
  have hr:fN (lk L) i=.error i:=by unfold fN;rw[if_neg (by rw[hq];decide)]
  have HR:=Lib.hid hr;generalize (tok (lk L) (i+0)).kind=tk at k0 hk;clear hb h hq n2 hr b2;go_upto_block 3 with fail;refine(rG pb L i _ s2).mono ?_;rintro e w3 ⟨rfl,rfl⟩;unfold pan;go_wp2_with fail;exact⟨rfl,tD.err i HR.out g2⟩
theorem On{B b:Nat}(h:B≠b)(w:World)(j:Nat)(x y z u v:Value):(((((w.setCell ⟨B,0,none⟩ x).setCell ⟨B,1,none⟩ y).setCell ⟨B,2,none⟩ z).setCell ⟨B,3,none⟩ u).setCell ⟨B,4,none⟩ v).cell? ⟨b,j,none⟩=w.cell? ⟨b,j,none⟩:=by
 rw[World.cell?_setCell_far _ _ _ _ h,World.cell?_setCell_far _ _ _ _ h,World.cell?_setCell_far _ _ _ _ h,World.cell?_setCell_far _ _ _ _ h,World.cell?_setCell_far _ _ _ _ h]
theorem nV{B b:Nat}(h:B≠b)(w:World)(x y z u v:Value):(((((w.setCell ⟨B,0,none⟩ x).setCell ⟨B,1,none⟩ y).setCell ⟨B,2,none⟩ z).setCell ⟨B,3,none⟩ u).setCell ⟨B,4,none⟩ v).heap[b]?=w.heap[b]?:=by
 rw[Below.heap_setCell _ _ _ _ (fun e=>h e.symm),Below.heap_setCell _ _ _ _ (fun e=>h e.symm),Below.heap_setCell _ _ _ _ (fun e=>h e.symm),Below.heap_setCell _ _ _ _ (fun e=>h e.symm),Below.heap_setCell _ _ _ _ (fun e=>h e.symm)]
theorem bO{N B:Nat}{w0 w:World}(hb:Below N w0 w)(hB:N≤B)(x y z u v:Value):Below N w0 (((((w.setCell ⟨B,0,none⟩ x).setCell ⟨B,1,none⟩ y).setCell ⟨B,2,none⟩ z).setCell ⟨B,3,none⟩ u).setCell ⟨B,4,none⟩ v):=
 ((((hb.setCell (p:=⟨B,0,none⟩) hB _).setCell (p:=⟨B,1,none⟩) hB _).setCell (p:=⟨B,2,none⟩) hB _).setCell (p:=⟨B,3,none⟩) hB _).setCell (p:=⟨B,4,none⟩) hB _
theorem Ok.oM{pb B j:Nat}{L:List T3}{w w1:World}(h:Ok pb L j w w1)(hp:pb<w.heap.size)(hB:w.heap.size≤B)(x y z u v:Value):Ok pb L j w (((((w1.setCell ⟨B,0,none⟩ x).setCell ⟨B,1,none⟩ y).setCell ⟨B,2,none⟩ z).setCell ⟨B,3,none⟩ u).setCell ⟨B,4,none⟩ v):=by
 have hs:=h.1.size;have hb:=bO (Below.refl w.heap.size w1) hB x y z u v;exact⟨⟨hb.os.trans h.1.os,hb.tape.trans h.1.tape,hb.output.trans h.1.output,Nat.le_trans hs hb.size,fun k hk hn=>(nV (by omega) _ _ _ _ _ _).trans (h.1.block k hk hn)⟩,h.2.Rk hb.size (fun k hk=>nV (by omega) _ _ _ _ _ _)⟩
theorem Ok.below{pb j:Nat}{L:List T3}{w w0 w1:World}(b:Below w.heap.size w w0)(h:Ok pb L j w0 w1):Ok pb L j w w1:=⟨(aF (some pb) b).trans h.1,h.2⟩
theorem Ok.then{pb j:Nat}{L:List T3}{w w0 w1:World}(h:Ok pb L j w w0)(b:Below w0.heap.size w0 w1):Ok pb L j w w1:=⟨h.1.trans (aF (some pb) b),h.2.below b⟩
theorem TrC.leaf(av:Nat→Prop)(w:World)(k n a:Int)(s:ByteArray)(c:Nat):TrC av w (.mk k n a s []) [.int .i64 k,.int .i64 n,.int .i64 a,.string s,.slice none 0 c]:=by
 unfold TrC;exact⟨none,c,rfl,fun h=>absurd rfl h,Nat.zero_le _⟩
def zT: Array Value:=#[.int .i64 0,.int .i64 0,.int .i64 0,.string ⟨#[]⟩,.slice none 0 0]
def TV(w:World)(b:Nat)(x y z u v:Value):Prop:=w.heap[b]?=some (.cells #[x,y,z,u,v] 24 (0,0))
theorem TV.facts{w:World}{b:Nat}{x y z u v:Value}(h:TV w b x y z u v):w.cell? ⟨b,0,none⟩=some x∧w.cell? ⟨b,1,none⟩=some y∧w.cell? ⟨b,2,none⟩=some z∧w.cell? ⟨b,3,none⟩=some u∧w.cell? ⟨b,4,none⟩=some v∧w.frozen? ⟨b,0,none⟩=false∧w.frozen? ⟨b,1,none⟩=false∧w.frozen? ⟨b,2,none⟩=false∧w.frozen? ⟨b,3,none⟩=false∧w.frozen? ⟨b,4,none⟩=false:=
 ⟨cell_of_row w b 0 _ _ _ h,cell_of_row w b 1 _ _ _ h,cell_of_row w b 2 _ _ _ h,cell_of_row w b 3 _ _ _ h,cell_of_row w b 4 _ _ _ h,Lib.frozen_of_heap h 0,Lib.frozen_of_heap h 1,Lib.frozen_of_heap h 2,Lib.frozen_of_heap h 3,Lib.frozen_of_heap h 4⟩
theorem Pc{P:Program}{fn:Func}{R:Ending→World→Prop}{a:Act}{w:World}{b:Nat}{x y z u v:Value}(t:TV w b x y z u v)(hr:w.cell? ⟨b,0,none⟩=some x→w.cell? ⟨b,1,none⟩=some y→w.cell? ⟨b,2,none⟩=some z→w.cell? ⟨b,3,none⟩=some u→w.cell? ⟨b,4,none⟩=some v→(results fn a.tmps).run P w=.ok (.agg #[x,y,z,u,v]) w)(hd:a.defers=[])(hR:R (.returned (.agg #[x,y,z,u,v])) w):bodyPost P fn R .ret a w:=
 bodyPost_ret (hr t.facts.1 t.facts.2.1 t.facts.2.2.1 t.facts.2.2.2.1 t.facts.2.2.2.2.1) hd hR
theorem TV.lt{w:World}{b:Nat}{x y z u v:Value}(h:TV w b x y z u v):b<w.heap.size:=(Array.getElem?_eq_some_iff.1 h).1
theorem TV.new(w:World)(x y z u v:Value):TV (w.alloc (.cells #[x,y,z,u,v] 24)) w.heap.size x y z u v:=heap_alloc_new w _
theorem tv0(w:World):TV (w.alloc (.cells #[.int .i64 0,.int .i64 0,.int .i64 0,.string ⟨#[]⟩,.slice none 0 0] 24)) w.heap.size (.int .i64 0) (.int .i64 0) (.int .i64 0) (.string ⟨#[]⟩) (.slice none 0 0)∧
 Below w.heap.size w (w.alloc (.cells #[.int .i64 0,.int .i64 0,.int .i64 0,.string ⟨#[]⟩,.slice none 0 0] 24)):=⟨TV.new w _ _ _ _ _,aC w _⟩
theorem rtv{P:Program}{fn:Func}{R:Ending→World→Prop}{a:Act}{w:World}{b:Nat}{x y z u v:Value}{E:Prop}(t:TV w b x y z u v)(e:E)(hR:R (.returned (.agg #[x,y,z,u,v])) w)
 (hr:E→w.cell? ⟨b,0,none⟩=some x→w.cell? ⟨b,1,none⟩=some y→w.cell? ⟨b,2,none⟩=some z→w.cell? ⟨b,3,none⟩=some u→w.cell? ⟨b,4,none⟩=some v→(results fn a.tmps).run P w=.ok (.agg #[x,y,z,u,v]) w:=by(intro e q0 q1 q2 q3 q4;simp[results,e,go_sem,q0,q1,q2,q3,q4]))
 (hd:a.defers=[]:=by rfl):bodyPost P fn R .ret a w:=Pc t (hr e) hd hR
theorem TV.below{w w':World}{b:Nat}{x y z u v:Value}(h:TV w b x y z u v)(hb:Below w.heap.size w w'):TV w' b x y z u v:=(hb.block b h.lt).trans h
theorem TV.step{w w':World}{pb b:Nat}{x y z u v:Value}(h:TV w b x y z u v)(hn:b≠pb)(g:w.grownBy w' (some pb)):TV w' b x y z u v:=(g.block b h.lt (fun e=>hn (by cases e;rfl))).trans h
theorem TV.set{w:World}{b:Nat}{x y z u v:Value}(h:TV w b x y z u v)(x' y' z' u' v':Value):TV (((((w.setCell ⟨b,0,none⟩ x').setCell ⟨b,1,none⟩ y').setCell ⟨b,2,none⟩ z').setCell ⟨b,3,none⟩ u').setCell ⟨b,4,none⟩ v') b x' y' z' u' v':=by
 unfold TV at *
 simp[World.setCell,Array.getElem?_modify,h]
theorem TV.drew{w:World}{b:Nat}{x y z u v:Value}(h:TV w b x y z u v):TV w.drew b x y z u v:=h
theorem Ok.drew{pb j:Nat}{L:List T3}{w w1:World}(h:Ok pb L j w w1):Ok pb L j w w1.drew:=⟨⟨h.1.os,h.1.tape,h.1.output,h.1.size,h.1.block⟩,h.2.drewN 1⟩
theorem iZ(k a:Int)(ao:Option Addr)(n c:Nat)(w:World):Calls Tryz.prog 97 #[.int .i64 k,.int .i64 a,.slice ao n c] w fun e w'=>e=.returned (.agg #[.int .i64 k,.int .i64 0,.int .i64 a,.string ⟨#[]⟩,.slice ao n c])∧Below w.heap.size w w':=by
 go_enter Tryz.func97,Tryz.ntmps97;go_wp2_with fail;refine rtv (TV.new w _ _ _ _ _) Tryz.results97 ?_;exact⟨rfl,aC w _⟩
theorem EL(w:World):Calls Tryz.prog 98 #[] w fun e w'=>e=.returned (.agg #[.int .i64 10,.int .i64 0,.int .i64 0,.string ⟨#[]⟩,.slice none 0 0])∧Below w.heap.size w w':=by
 go_enter Tryz.func98,Tryz.ntmps98;go_upto_region 1 with fail;obtain⟨t0,b0⟩:=tv0 w;generalize World.alloc w _=w0 at t0 b0 ⊢;go_wp2_with (go_at_call 97;refine(iZ _ _ _ _ _ _).mono ?_;rintro e w1 ⟨rfl,hb⟩;have t1:=t0.below hb;have:=TV.facts t1);refine rtv (t1.set _ _ _ _ _) Tryz.results98 ?_;exact⟨rfl,bO (b0.trans (hb.mono b0.size)) (Nat.le_refl _) _ _ _ _ _⟩
theorem qQ(pb:Nat)(L:List T3)(i:Nat)(w:World)(h:PS w pb L i):Calls Tryz.prog 128 #[.pointer (some ⟨pb,0,none⟩)] w (aD pb L w (iX (lk L) i)):=by
 go_enter Tryz.func128,Tryz.ntmps128;go_upto_region 1 with fail;obtain⟨t0,b0⟩:=tv0 w;generalize World.alloc w _=w0 at t0 b0 ⊢;have h0:=h.below b0;obtain⟨k1,_⟩:=h0.cells;have hN:=fT pb L i w0 h0;have hne:w.heap.size≠pb:=by have:=h.lt;omega
 have hU:iX (lk L) i=aB (fN (lk L) i) fun s j=>.ok (.mk 11 0 i s [],j):=rfl
 cases hr:fN (lk L) i with
 | ok sj=>
  obtain⟨s,j⟩:=sj;rw[hr]at hN;go_wp2_with (go_at_call 95;refine hN.mono ?_;rintro e w1 ⟨rfl,h1⟩;have t1:=t0.step hne h1.1;have:=TV.facts t1);refine rtv (t1.set _ _ _ _ _) Tryz.results128 ?_;exact aD.ok (by simp[hU,hr,aB]) _ rfl (TrC.leaf _ _ _ _ _ _ _) ((Ok.below b0 h1).oM h.lt (Nat.le_refl _) _ _ _ _ _)
 | error a=>
  rw[hr]at hN;go_wp2_with (go_at_call 95;refine hN.mono ?_;rintro e w1 ⟨rfl,h1⟩;unfold pan);exact⟨rfl,aD.err a (by simp[hU,hr,aB]) ((aF _ b0).trans h1)⟩
end
end Go.Proofs.YtfdlmcgcckkkdaaGreatDoor
