/- ParseWhole, part 18: what it stands on. -/
import Derived.Test.YtfdlmcgcckkkdaaGreatDoorV17
set_option linter.all false
set_option maxHeartbeats 40000000
set_option maxRecDepth 100000
namespace Go.Proofs.YtfdlmcgcckkkdaaGreatDoor
section
open Go.RowKit Lx Px
def Av(w0:World)(rv:List (Nat×List Value))(b:Nat):Prop:=w0.heap.size≤b∧∀ p,p∈rv→b≠p.1
structure SV (pb:Nat) (L:List T3) (w0 w:World) (j:Nat) (rv:List (Nat×List Value)) (ts:List (T×List Value)):Prop where
 ok:Ok pb L j w0 w
 hp:pb<w0.heap.size
 tv:∀ p,p∈rv→w.heap[p.1]?=some (.cells p.2.toArray 24 (0,0))∧w0.heap.size≤p.1
 pw:rv.Pairwise (fun p q=>p.1≠q.1)
 tr:∀ p,p∈ts→TrC (Av w0 rv) w p.1 p.2
theorem SV.ps{pb:Nat}{L:List T3}{w0 w:World}{j:Nat}{rv ts}(S:SV pb L w0 w j rv ts):PS w pb L j:=S.ok.2
theorem SV.begin{pb:Nat}{L:List T3}{w:World}{j:Nat}(h:PS w pb L j):SV pb L w w j [] []:=
 ⟨⟨aF _ (Below.refl _ _),h⟩,h.lt,fun _ h=>(by cases h),.nil,fun _ h=>(by cases h)⟩
theorem SV.step{pb:Nat}{L:List T3}{w0 w w':World}{j j':Nat}{rv ts}(S:SV pb L w0 w j rv ts)(k:Ok pb L j' w w'):SV pb L w0 w' j' rv ts:=by
 have hp:=S.hp;refine⟨S.ok.trans k,S.hp,fun p h=>⟨(k.1.block _ (Array.getElem?_eq_some_iff.1 (S.tv p h).1).1 (fun e=>?_)).trans (S.tv p h).1,(S.tv p h).2⟩,S.pw,fun p h=>(S.tr p h).kept (fun _ hb _=>hb) k.1.size (fun b hb hl=>k.1.block b hl (fun e=>?_))⟩
 ·have:=(S.tv p h).2;cases e;omega
 ·have:=hb.1;cases e;omega
theorem SV.below{pb:Nat}{L:List T3}{w0 w w':World}{j:Nat}{rv ts}(S:SV pb L w0 w j rv ts)(b:Below w.heap.size w w'):SV pb L w0 w' j rv ts:=
 S.step ⟨aF _ b,S.ok.2.below b⟩
theorem SV.drew{pb:Nat}{L:List T3}{w0 w:World}{j:Nat}{rv ts}(S:SV pb L w0 w j rv ts):SV pb L w0 w.drew j rv ts:=
 S.step ⟨⟨rfl,rfl,rfl,Nat.le_refl _,fun _ _ _=>rfl⟩,S.ok.2.drewN 1⟩
theorem SV.read{pb:Nat}{L:List T3}{w0 w w':World}{j j':Nat}{rv ts}(S:SV pb L w0 w j rv ts)(k:Ok pb L j' w w'){t:T}{us:List Value}(ht:TrC (Fr w) w' t us):SV pb L w0 w' j' rv ((t,us)::ts):=by
 have S':=S.step k;refine⟨S'.ok,S'.hp,S'.tv,S'.pw,fun p h=>?_⟩
 rcases List.mem_cons.1 h with rfl|h
 ·refine ht.kept (fun b hb _=>⟨Nat.le_trans S.ok.1.size hb,fun q hq e=>?_⟩) (Nat.le_refl _) (fun _ _ _=>rfl);have:=(Array.getElem?_eq_some_iff.1 (S.tv q hq).1).1;unfold Fr at hb;omega
 ·exact S'.tr p h
theorem SV.var{pb:Nat}{L:List T3}{w0 w:World}{j:Nat}{rv ts}(S:SV pb L w0 w j rv ts)(us:List Value)(cs:Array Value)(hc:cs=us.toArray):SV pb L w0 (w.alloc (.cells cs 24)) j ((w.heap.size,us)::rv) ts:=by
 subst hc;have b:=aC w (.cells us.toArray 24);have S':=S.below b;refine⟨S'.ok,S'.hp,fun p h=>?_,?_,fun p h=>(S.tr p h).kept (fun b hb hl=>⟨hb.1,fun q hq=>?_⟩) b.size (fun _ _ hl=>b.block _ hl)⟩
 ·rcases List.mem_cons.1 h with rfl|h
  ·exact⟨heap_alloc_new w _,S.ok.1.size⟩
  ·exact S'.tv p h
 ·refine List.pairwise_cons.2 ⟨fun q hq e=>?_,S.pw⟩;have:=(Array.getElem?_eq_some_iff.1 (S.tv q hq).1).1;simp only at e;omega
 ·rcases List.mem_cons.1 hq with rfl|hq
  ·exact fun e=>by simp only at e;omega
  ·exact hb.2 q hq
theorem SV.cX{pb:Nat}{L:List T3}{w0 w:World}{j:Nat}{rv ts}(S:SV pb L w0 w j rv ts)(us:List Value)(cs:Array Value)(hc:cs=us.toArray)(B:Nat)(hB:w.heap.size=B):SV pb L w0 (w.alloc (.cells cs 24)) j ((B,us)::rv) ts:=by
 subst hB;exact S.var us cs hc
theorem SV.yV{pb:Nat}{L:List T3}{w0 w:World}{j:Nat}{rv ts}(S:SV pb L w0 w j rv ts)(us:List Value):SV pb L w0 (w.alloc (.cells us.toArray 24)) j ((w.heap.size,us)::rv) ts:=S.var us _ rfl
theorem SV.less{pb:Nat}{L:List T3}{w0 w:World}{j:Nat}{rv ts ts'}(S:SV pb L w0 w j rv ts)(h:∀ p,p∈ts'→p∈ts):SV pb L w0 w j rv ts':=
 ⟨S.ok,S.hp,S.tv,S.pw,fun p hp=>S.tr p (h p hp)⟩
theorem Re{rv:List (Nat×List Value)}(h:rv.Pairwise (fun p q=>p.1≠q.1)):∀ (k m:Nat) (p q:Nat×List Value),rv[k]?=some p→rv[m]?=some q→k≠m→p.1≠q.1:=by
 intro k m p q hk hm hkm;obtain⟨h1,e1⟩:=List.getElem?_eq_some_iff.1 hk;obtain⟨h2,e2⟩:=List.getElem?_eq_some_iff.1 hm;rw[List.pairwise_iff_getElem]at h
 rcases Nat.lt_or_ge k m with h3|h3
 ·rw[← e1,← e2];exact h k m h1 h2 h3
 ·rw[← e1,← e2];exact(h m k h2 h1 (by omega)).symm
theorem SV.put{pb:Nat}{L:List T3}{w0 w:World}{j:Nat}{rv ts}(S:SV pb L w0 w j rv ts)(k:Nat){b:Nat}{us:List Value}(hk:rv[k]?=some (b,us))(i:Nat)(v:Value)(hi:i<us.length):SV pb L w0 (w.setCell ⟨b,i,none⟩ v) j (rv.set k (b,us.set i v)) ts:=by
 have hm:(b,us)∈rv:=List.mem_of_getElem? hk;have hb:=(S.tv _ hm).2;have hh:=(S.tv _ hm).1;have hbb:∀ c,c≠b→(w.setCell ⟨b,i,none⟩ v).heap[c]?=w.heap[c]?:=fun c hc=>Below.heap_setCell _ _ _ _ hc
 have hsz:(w.setCell ⟨b,i,none⟩ v).heap.size=w.heap.size:=by simp[World.setCell]
 refine⟨S.ok.put S.hp hb i v,S.hp,fun p h=>?_,?_,fun p h=>(S.tr p h).kept (fun c hc _=>⟨hc.1,fun q hq=>?_⟩) (Nat.le_of_eq hsz.symm) (fun c hc _=>hbb c (hc.2 _ hm))⟩
 ·obtain⟨m,hm'⟩:=List.getElem?_of_mem h;rw[List.getElem?_set]at hm'
  split at hm'
  ·split at hm'
   ·obtain rfl:(b,us.set i v)=p:=by simpa using hm'
    refine⟨?_,hb⟩
    show (w.setCell ⟨b,i,none⟩ v).heap[b]?=_
    simp only at hh
    simp[World.setCell,Array.getElem?_modify,hh]
   ·cases hm'
  ·rename_i hne
   have hp:=S.tv p (List.mem_of_getElem? hm');exact⟨(hbb _ (Re S.pw _ _ _ _ hm' hk (fun e=>hne e.symm))).trans hp.1,hp.2⟩
 ·have:=S.pw;rw[List.pairwise_iff_getElem]at this ⊢;intro x y hx hy hxy;rw[List.getElem_set,List.getElem_set];have hk':=List.getElem?_eq_some_iff.1 hk;obtain⟨hk1,hk2⟩:=hk';have hx':x<rv.length:=by simpa using hx
  have hy':y<rv.length:=by simpa using hy
  have h0:=this x y hx' hy' hxy
  split<;>split<;>rename_i h1 h2
  ·omega
  ·subst h1;rw[hk2]at h0;exact h0
  ·subst h2;rw[hk2]at h0;exact h0
  ·exact h0
 ·obtain⟨m,hm'⟩:=List.getElem?_of_mem hq;rw[List.getElem?_set]at hm'
  split at hm'
  ·split at hm'
   ·obtain rfl:(b,us.set i v)=q:=by simpa using hm'
    have:=hc.2 _ hm;exact this
   ·cases hm'
  ·exact hc.2 _ (List.mem_of_getElem? hm')
theorem SV.bN{pb:Nat}{L:List T3}{w0 w:World}{j:Nat}{rv ts}(S:SV pb L w0 w j rv ts)(k:Nat){b:Nat}{x y z u v:Value}(hk:rv[k]?=some (b,[x,y,z,u,v]))(x' y' z' u' v':Value):SV pb L w0 (st5 w b x' y' z' u' v') j (rv.set k (b,[x',y',z',u',v'])) ts:=by
 have h0:k<rv.length:=(List.getElem?_eq_some_iff.1 hk).1;have S1:=S.put k hk 0 x' (by simp);have S2:=S1.put k (b:=b) (us:=[x',y,z,u,v]) (by simp[h0]) 1 y' (by simp);have S3:=S2.put k (b:=b) (us:=[x',y',z,u,v]) (by simp[h0]) 2 z' (by simp);have S4:=S3.put k (b:=b) (us:=[x',y',z',u,v]) (by simp[h0]) 3 u' (by simp);have S5:=S4.put k (b:=b) (us:=[x',y',z',u',v]) (by simp[h0]) 4 v' (by simp)
 simpa using S5
theorem SV.facts{pb:Nat}{L:List T3}{w0 w:World}{j:Nat}{rv ts}(S:SV pb L w0 w j rv ts)(k:Nat){b:Nat}{x y z u v:Value}(hk:rv[k]?=some (b,[x,y,z,u,v])):TV w b x y z u v:=(S.tv _ (List.mem_of_getElem? hk)).1
theorem SV.lit{pb:Nat}{L:List T3}{w0 w:World}{j:Nat}{rv ts}(S:SV pb L w0 w j rv ts){l:List T}{us:List Value}(h:aW (Av w0 rv) w l us)(cs:Array Value)(hc:cs=us.toArray)(k n a:Int)(s:ByteArray)(m c:Nat)(hm:m=l.length)(hcap:l.length≤c:=by exact Nat.le_refl _):SV pb L w0 (w.alloc (.cells cs 24)) j rv ((.mk k n a s l,vT k n a s (some ⟨w.heap.size,0,none⟩) m c)::ts):=by
 subst hc hm;have S':=S.below (aC w (.cells us.toArray 24));refine⟨S'.ok,S'.hp,S'.tv,S'.pw,fun p hp=>?_⟩
 rcases List.mem_cons.1 hp with rfl|hp
 ·exact TrC.lit (w:=w) h ⟨S.ok.1.size,fun q hq e=>by have:=(Array.getElem?_eq_some_iff.1 (S.tv q hq).1).1;omega⟩ (Below.refl _ _) k n a s c hcap
 ·exact S'.tr p hp
theorem SV.leaf{pb:Nat}{L:List T3}{w0 w:World}{j:Nat}{rv ts}(S:SV pb L w0 w j rv ts)(k n a:Int)(s:ByteArray):SV pb L w0 w j rv ((.mk k n a s [],vT k n a s none 0 0)::ts):=by
 refine⟨S.ok,S.hp,S.tv,S.pw,fun p hp=>?_⟩
 rcases List.mem_cons.1 hp with rfl|hp
 ·exact TrC.leaf _ _ k n a s 0
 ·exact S.tr p hp
theorem SV.Cc{pb:Nat}{L:List T3}{w0 w:World}{j:Nat}{rv ts}{t:T}{k n a:Int}{s:ByteArray}{ao:Option Addr}{m c:Nat}(S:SV pb L w0 w j rv ((t,vT k n a s ao m c)::ts))(k' n' a':Int)(s':ByteArray):SV pb L w0 w j rv ((.mk k' n' a' s' t.l,vT k' n' a' s' ao m c)::ts):=by
 refine⟨S.ok,S.hp,S.tv,S.pw,fun p hp=>?_⟩
 rcases List.mem_cons.1 hp with rfl|hp
 ·have h:=S.tr _ (.head _);obtain⟨k0,n0,a0,s0,l⟩:=t;unfold TrC at h ⊢;obtain⟨ao',cap,e,h⟩:=h;unfold vT at e ⊢;simp only[List.cons.injEq,Value.int.injEq,Value.string.injEq,Value.slice.injEq,and_true,true_and]at e
  obtain⟨_,_,_,_,rfl,rfl,rfl⟩:=e;exact⟨_,_,rfl,h⟩
 ·exact S.tr p (.tail _ hp)
theorem SV.res{pb:Nat}{L:List T3}{w0 w:World}{j:Nat}{rv ts}(S:SV pb L w0 w j rv ts){r:R T}{t:T}{us:List Value}(ht:(t,us)∈ts)(hr:r=.ok (t,j)){v:Value}(hv:v=.agg us.toArray):aD pb L w0 r (.returned v) w:=by
 exact aD.ok hr us hv ((S.tr _ ht).kept (fun b hb _=>hb.1) (Nat.le_refl _) (fun _ _ _=>rfl)) S.ok
theorem SV.aN{pb:Nat}{L:List T3}{w0 w:World}{j:Nat}{rv ts}(S:SV pb L w0 w j rv ts){K:FuncId}{args:Array Value}{r:R T}(h:Calls Tryz.prog K args w (aD pb L w r)):Calls Tryz.prog K args w fun e w'=>(∃ a,r=.error a∧e=pan a∧w0.grownBy w' (some pb))∨(∃ t j' k n a s ao m c,r=.ok (t,j')∧e=.returned (tg k n a s ao m c)∧SV pb L w0 w' j' rv ((t,vT k n a s ao m c)::ts)):=by
 refine h.mono ?_;intro e w' hp
 rcases hp.split with ⟨t,j',k,n,a,s,ao,m,c,h1,h2,h3,h4⟩|⟨a,h1,h2,h3⟩
 ·exact .inr ⟨t,j',k,n,a,s,ao,m,c,h1,h2,S.read h4 h3⟩
 ·exact .inl ⟨a,h1,h2,S.ok.1.trans h3⟩
theorem SV.Me{pb:Nat}{L:List T3}{w0 w:World}{j:Nat}{rv ts}(S:SV pb L w0 w j rv ts){K:FuncId}{args:Array Value}{r:R Unit}(h:Calls Tryz.prog K args w (mL pb L w r)):Calls Tryz.prog K args w fun e w'=>(∃ a,r=.error a∧e=pan a∧w0.grownBy w' (some pb))∨(∃ j',r=.ok ((),j')∧e=.returned (.tuple #[])∧SV pb L w0 w' j' rv ts):=by
 refine h.mono ?_;intro e w' hp
 rcases hp.split with ⟨j',h1,h2,h3⟩|⟨a,h1,h2,h3⟩
 ·exact .inr ⟨j',h1,h2,S.step h3⟩
 ·exact .inl ⟨a,h1,h2,S.ok.1.trans h3⟩
theorem SV.dR{pb:Nat}{L:List T3}{w0 w:World}{j:Nat}{rv ts}(S:SV pb L w0 w j rv ts)(s:ByteArray):Calls Tryz.prog 96 #[pq pb,s] w fun e w'=>(∃ a,aM (lk L) j s=.error a∧e=pan a∧w0.grownBy w' (some pb))∨(∃ j',aM (lk L) j s=.ok ((),j')∧e=.returned (.tuple #[])∧SV pb L w0 w' j' rv ts):=
 S.Me (Ac pb L j s w S.ps)
theorem tB{pb:Nat}{L:List T3}{w0 w:World}{j:Nat}{rv ts}(S:SV pb L w0 w j rv ts)(cs:Array Value)(u:Nat):SV pb L w0 (w.alloc (.cells cs u)) j rv ts:=S.below (aC w _)
theorem SV.pI{pb:Nat}{L:List T3}{w0 w:World}{j:Nat}{rv ts}(S:SV pb L w0 w j rv ts)(ss:List ByteArray)(hl:ss.length≤1000)(cs:Array Value)(hc:cs=(ss.map Value.string).toArray)(n:Nat)(hn:n=ss.length):Calls Tryz.prog 99 #[pq pb,.slice (some ⟨w.heap.size,0,none⟩) n n] (w.alloc (.cells cs 9)) fun e w'=>(∃ a,gU (lk L) j ss=.error a∧e=pan a∧w0.grownBy w' (some pb))∨(∃ j',gU (lk L) j ss=.ok ((),j')∧e=.returned (.tuple #[])∧SV pb L w0 w' j' rv ts):=
 (tB S cs 9).Me (Cf pb L j _ ss hl _ (tB S cs 9).ps (bJ.FH w ss cs hc n hn))
theorem SV.uC{pb:Nat}{L:List T3}{w0 w:World}{j:Nat}{rv ts}(S:SV pb L w0 w j rv ts)(ss:List ByteArray)(hl:ss.length≤1000)(cs:Array Value)(hc:cs=(ss.map Value.string).toArray)(n:Nat)(hn:n=ss.length)(b:Bool)(hb:wrd (lk L) j ss=b):Calls Tryz.prog 155 #[pq pb,.slice (some ⟨w.heap.size,0,none⟩) n n] (w.alloc (.cells cs 9)) fun e w'=>e=.returned (.bool b)∧SV pb L w0 w' j rv ts:=by
 have S':=tB S cs 9;refine(oP pb L j _ ss hl _ S'.ps (bJ.FH w ss cs hc n hn)).mono ?_;rintro e w' ⟨rfl,h⟩;exact⟨by rw[hb],S'.below h⟩
theorem SV.kwC{pb:Nat}{L:List T3}{w0 w:World}{j:Nat}{rv ts}(S:SV pb L w0 w j rv ts)(ss:List ByteArray)(hl:ss.length≤1000)(cs:Array Value)(hc:cs=(ss.map Value.string).toArray)(n:Nat)(hn:n=ss.length)(b:Bool)(hb:keyword (lk L) j ss=b):Calls Tryz.prog 137 #[pq pb,.slice (some ⟨w.heap.size,0,none⟩) n n] (w.alloc (.cells cs 9)) fun e w'=>e=.returned (.bool b)∧SV pb L w0 w' j rv ts:=by
 have S':=tB S cs 9;refine(CN pb L j _ ss hl _ S'.ps (bJ.FH w ss cs hc n hn)).mono ?_;rintro e w' ⟨rfl,h⟩;exact⟨by rw[hb],S'.below h⟩
theorem SV.wK{pb:Nat}{L:List T3}{w0 w:World}{j:Nat}{rv ts}(S:SV pb L w0 w j rv ts)(ss:List ByteArray)(hl:ss.length≤1000)(cs:Array Value)(hc:cs=(ss.map Value.string).toArray)(n:Nat)(hn:n=ss.length)(b:Bool)(hb:wrd (lk L) j ss=b):Calls Tryz.prog 136 #[pq pb,.slice (some ⟨w.heap.size,0,none⟩) n n] (w.alloc (.cells cs 9)) fun e w'=>e=.returned (.bool b)∧SV pb L w0 w' (adv b j) rv ts:=by
 have S':=tB S cs 9;refine(tO pb L j _ ss hl _ S'.ps (bJ.FH w ss cs hc n hn)).mono ?_;rintro e w' ⟨rfl,h⟩;rw[hb]at h;exact⟨by rw[hb],S'.step h⟩
theorem SV.dT{pb:Nat}{L:List T3}{w0 w:World}{j:Nat}{rv ts}(S:SV pb L w0 w j rv ts)(a:Nat)(ha:a≤9)(ss:List ByteArray)(hl:ss.length≤1000)(cs:Array Value)(hc:cs=(ss.map Value.string).toArray)(n:Nat)(hn:n=ss.length)(b:Bool)(hb:sgn (lk L) (j+a) ss=b):Calls Tryz.prog 124 #[pq pb,a,.slice (some ⟨w.heap.size,0,none⟩) n n] (w.alloc (.cells cs 9)) fun e w'=>e=.returned (.bool b)∧SV pb L w0 w' j rv ts:=by
 have S':=tB S cs 9;refine(oR pb L j a ha _ ss hl _ S'.ps (bJ.FH w ss cs hc n hn)).mono ?_;rintro e w' ⟨rfl,h⟩;exact⟨by rw[hb],S'.below h⟩
theorem SV.TN{pb:Nat}{L:List T3}{w0 w:World}{j:Nat}{rv ts}(S:SV pb L w0 w j rv ts)(s:ByteArray)(b:Bool)(hb:sgn (lk L) j [s]=b):Calls Tryz.prog 135 #[pq pb,s] w fun e w'=>e=.returned (.bool b)∧SV pb L w0 w' (adv b j) rv ts:=by
 refine(iY pb L j s w S.ps).mono ?_;rintro e w' ⟨rfl,h⟩;rw[hb]at h;exact⟨by rw[hb],S.step h⟩
theorem SV.AM{pb:Nat}{L:List T3}{w0 w:World}{j:Nat}{rv ts}(S:SV pb L w0 w j rv ts)(s:ByteArray)(hb:sgn (lk L) j [s]=true) :
 Calls Tryz.prog 135 #[pq pb,s] w fun e w'=>e=.returned (.bool true)∧SV pb L w0 w' (j+1) rv ts:=S.TN s true hb
theorem SV.Af{pb:Nat}{L:List T3}{w0 w:World}{j:Nat}{rv ts}(S:SV pb L w0 w j rv ts)(s:ByteArray)(hb:sgn (lk L) j [s]=false) :
 Calls Tryz.prog 135 #[pq pb,s] w fun e w'=>e=.returned (.bool false)∧SV pb L w0 w' j rv ts:=S.TN s false hb
theorem SV.ED{pb:Nat}{L:List T3}{w0 w:World}{j:Nat}{rv ts}(S:SV pb L w0 w j rv ts)(ss:List ByteArray)(hl:ss.length≤1000)(cs:Array Value)(hc:cs=(ss.map Value.string).toArray)(n:Nat)(hn:n=ss.length)(hb:wrd (lk L) j ss=true) :
 Calls Tryz.prog 136 #[pq pb,.slice (some ⟨w.heap.size,0,none⟩) n n] (w.alloc (.cells cs 9)) fun e w'=>e=.returned (.bool true)∧SV pb L w0 w' (j+1) rv ts:=S.wK ss hl cs hc n hn true hb
theorem SV.Ev{pb:Nat}{L:List T3}{w0 w:World}{j:Nat}{rv ts}(S:SV pb L w0 w j rv ts)(ss:List ByteArray)(hl:ss.length≤1000)(cs:Array Value)(hc:cs=(ss.map Value.string).toArray)(n:Nat)(hn:n=ss.length)(hb:wrd (lk L) j ss=false) :
 Calls Tryz.prog 136 #[pq pb,.slice (some ⟨w.heap.size,0,none⟩) n n] (w.alloc (.cells cs 9)) fun e w'=>e=.returned (.bool false)∧SV pb L w0 w' j rv ts:=S.wK ss hl cs hc n hn false hb
theorem SV.pB{pb:Nat}{L:List T3}{w0 w:World}{j:Nat}{rv ts}(S:SV pb L w0 w j rv ts){K:FuncId}{args:Array Value}{r:R ByteArray}(h:Calls Tryz.prog K args w (tD pb L w r)):Calls Tryz.prog K args w fun e w'=>(∃ a,r=.error a∧e=pan a∧w0.grownBy w' (some pb))∨(∃ s j',r=.ok (s,j')∧e=.returned (.string s)∧SV pb L w0 w' j' rv ts):=by
 refine h.mono ?_;intro e w' hp
 cases r with
 | ok sj=>obtain⟨s,j'⟩:=sj;exact .inr ⟨s,j',rfl,hp.1,S.step hp.2⟩
 | error a=>exact .inl ⟨a,rfl,hp.1,S.ok.1.trans hp.2⟩
theorem SV.sX{pb:Nat}{L:List T3}{w0 w:World}{j:Nat}{rv ts}(S:SV pb L w0 w j rv ts):Calls Tryz.prog 86 #[pq pb] w fun e w'=>e=pan j∧w0.grownBy w' (some pb):=by
 refine(rG pb L j w S.ps).mono ?_;rintro e w' ⟨rfl,rfl⟩;exact⟨rfl,S.ok.1⟩
theorem SV.aQ{pb:Nat}{L:List T3}{w0 w:World}{j:Nat}{rv ts}(S:SV pb L w0 w j rv ts){K:FuncId}{args:Array Value}{E:Ending→Prop}(h:Calls Tryz.prog K args w fun e w'=>E e∧Below w.heap.size w w'):Calls Tryz.prog K args w fun e w'=>E e∧SV pb L w0 w' j rv ts:=by
 refine h.mono ?_;rintro e w' ⟨h1,h2⟩;exact⟨h1,S.below h2⟩
theorem SV.uG{pb:Nat}{L:List T3}{w0 w:World}{j:Nat}{rv ts}(S:SV pb L w0 w j rv ts):Calls Tryz.prog 98 #[] w fun e w'=>e=.returned (tg 10 0 0 ⟨#[]⟩ none 0 0)∧SV pb L w0 w' j rv ((none_,vT 10 0 0 ⟨#[]⟩ none 0 0)::ts):=
 (S.leaf 10 0 0 e0).aQ (E:=fun e=>e=_) (EL w)
theorem SV.dI{pb:Nat}{L:List T3}{w0 w:World}{j:Nat}{rv ts}{t:T}{k0 n0 a0:Int}{s0:ByteArray}{ao:Option Addr}{m c:Nat}(S:SV pb L w0 w j rv ((t,vT k0 n0 a0 s0 ao m c)::ts))(k a:Int):Calls Tryz.prog 97 #[k,a,.slice ao m c] w fun e w'=>e=.returned (tg k 0 a ⟨#[]⟩ ao m c)∧SV pb L w0 w' j rv ((.mk k 0 a ⟨#[]⟩ t.l,vT k 0 a ⟨#[]⟩ ao m c)::ts):=
 (S.Cc k 0 a ⟨#[]⟩).aQ (E:=fun e=>e=_) (iZ k a ao m c w)
theorem goA{G K:Act→World→Prop}(hK:∀ a w,G a w→K a w){a:Act}{w:World}{pb:Nat}{L:List T3}{w0:World}{j:Nat}{rv ts}(_:SV pb L w0 w j rv ts)(h:G a w):K a w:=hK _ _ h
abbrev zs5: List Value:=[.int .i64 0,.int .i64 0,.int .i64 0,.string ⟨#[]⟩,.slice none 0 0]
theorem SV.new{pb:Nat}{L:List T3}{w:World}{j:Nat}(h:PS w pb L j):SV pb L w (w.alloc (.cells z5q 24)) j [(w.heap.size,zs5)] []:=(SV.begin h).var zs5 _ rfl
theorem IV(pb:Nat)(L:List T3)(i:Nat)(k n a:Int)(s:ByteArray)(ao:Option Addr)(m c:Nat)(w:World)(h:PS w pb L i):Calls Tryz.prog 221 #[pq pb,tg k n a s ao m c] w fun e w'=>(∃ x,aM (lk L) i aS=.error x∧e=pan x∧w.grownBy w' (some pb))∨(∃ j,aM (lk L) i aS=.ok ((),j)∧e=.returned (tg k n a s ao m c)∧Ok pb L j w w'):=by
 have S0:=SV.begin h;go_enter Tryz.func221,Tryz.ntmps221;go_upto_region 1 with fail;have S1:=S0.var (vT k n a s ao m c) (tg k n a s ao m c) rfl;have S2:=S1.cX zs5 z5q rfl (w.heap.size+1) (by simp);generalize (w.alloc (.cells (tg k n a s ao m c) 24)).alloc _=w2 at S2 ⊢;go_upto_block 1 with fail;refine(S2.dR aS).mono ?_;rintro e w3 (⟨x,hr,rfl,hg⟩|⟨j,hr,rfl,S3⟩)
 ·unfold pan;go_wp2_with fail;exact⟨rfl,.inl ⟨x,hr,rfl,hg⟩⟩
 have:=TV.facts (S3.facts 0 rfl);have:=TV.facts (S3.facts 1 rfl);go_wp2_with fail;have S4:=S3.bN 0 rfl k n a s (.slice ao m c);refine rtv (S4.facts 0 rfl) Tryz.results221 ?_;exact .inr ⟨j,hr,rfl,S4.ok⟩
theorem SV.gX{pb:Nat}{L:List T3}{w0 w:World}{j:Nat}{rv ts}(S:SV pb L w0 w j rv ts)(k n a:Int)(s:ByteArray)(ao:Option Addr)(m c:Nat):Calls Tryz.prog 221 #[pq pb,tg k n a s ao m c] w fun e w'=>(∃ x,aM (lk L) j aS=.error x∧e=pan x∧w0.grownBy w' (some pb))∨(∃ j',aM (lk L) j aS=.ok ((),j')∧e=.returned (tg k n a s ao m c)∧SV pb L w0 w' j' rv ts):=by
 refine(IV pb L j k n a s ao m c w S.ps).mono ?_;rintro e w' (⟨x,h1,h2,h3⟩|⟨j',h1,h2,h3⟩)
 ·exact .inl ⟨x,h1,h2,S.ok.1.trans h3⟩
 ·exact .inr ⟨j',h1,h2,S.step h3⟩
theorem fV(pb:Nat)(L:List T3)(i:Nat)(w:World)(h:PS w pb L i):Calls Tryz.prog 219 #[pq pb] w (aD pb L w (cQ (lk L) i)):=by
 have HU:=hdq (show cQ (lk L) i=aB (aM (lk L) i sLP) fun _ j=>aB (bM (lk L) j) fun x j'=>aB (aM (lk L) j' sRP) fun _ j2=>.ok (x,j2)from rfl);go_enter Tryz.func219,Tryz.ntmps219;go_upto_region 1 with fail;have S1:=SV.new h;generalize World.alloc w _=w1 at S1 ⊢;go_upto_block 1 with fail;refine(S1.dR sLP).mono ?_;rintro e w2 (⟨x,hr,rfl,hg⟩|⟨j,hr,rfl,S2⟩)
 ·unfold pan;go_wp2_with fail;exact⟨rfl,aD.err x (by simp only[HU.out,aB,hr]) hg⟩
 have H1:=hdq hr;clear hr;go_upto_block 2 with fail;refine(S2.aN (aV pb L j w2 (Nat.zero_le _) S2.ps)).mono ?_;rintro e w3 (⟨x,hr,rfl,hg⟩|⟨t,j3,k3,n3,a3,s3,o3,m3,c3,hr,rfl,S3⟩)
 ·unfold pan;go_wp2_with fail;exact⟨rfl,aD.err x (by simp only[HU.out,aB,H1.out,hr]) hg⟩
 have H2:=hdq hr;clear hr;go_upto_region 3 with fail;have S4:=S3.yV (tg k3 n3 a3 s3 o3 m3 c3);generalize World.alloc w3 _=w4 at S4 ⊢;generalize w3.heap.size=B4 at S4 ⊢;go_upto_block 3 with fail;refine(S4.dR sRP).mono ?_;rintro e w5 (⟨x,hr,rfl,hg⟩|⟨j5,hr,rfl,S5⟩)
 ·unfold pan;go_wp2_with fail;exact⟨rfl,aD.err x (by simp only[HU.out,aB,H1.out,H2.out,hr]) hg⟩
 have:=TV.facts (S5.facts 0 rfl);have:=TV.facts (S5.facts 1 rfl);have H3:=hdq hr;clear hr;go_wp2_with fail;have S6:=S5.bN 1 rfl k3 n3 a3 s3 (.slice o3 m3 c3);refine rtv (S6.facts 1 rfl) Tryz.results219 ?_;exact S6.res (.head _) (by simp only[HU.out,aB,H1.out,H2.out,H3.out]) rfl
theorem jJ(pb:Nat)(L:List T3)(x:ByteArray)(i:Nat)(w:World)(h:PS w pb L i):Calls Tryz.prog 218 #[pq pb,x] w (aD pb L w (fC (lk L) x i)):=by
 have HU:=hdq (show fC (lk L) x i=if wrd (lk L) i [x]then cQ (lk L) (i+1)else .ok (none_,i)from rfl);go_enter Tryz.func218,Tryz.ntmps218;go_upto_region 1 with fail;have S1:=SV.new h;generalize World.alloc w _=w1 at S1 ⊢
 cases hs:wrd (lk L) i [x] with
 | true=>
  have hC:=S1.ED [x] (by simp) #[.string x] rfl 1 rfl hs;have HS:=hdq hs;clear hs;go_upto_block 2 with (go_at_call 136;refine hC.mono ?_;rintro e w2 ⟨rfl,S2⟩);refine(S2.aN (fV pb L (i+1) w2 S2.ps)).mono ?_;rintro e w3 (⟨x,hr,rfl,hg⟩|⟨t,j3,k3,n3,a3,s3,o3,m3,c3,hr,rfl,S3⟩)
  ·unfold pan;go_wp2_with fail;exact⟨rfl,aD.err x (by simp[HU.out,aB,HS.out,hr]) hg⟩
  have H1:=hdq hr;clear hr;have:=TV.facts (S3.facts 0 rfl);go_wp2_with fail;have S4:=S3.bN 0 rfl k3 n3 a3 s3 (.slice o3 m3 c3);refine rtv (S4.facts 0 rfl) Tryz.results218 ?_;exact S4.res (.head _) (by simp[HU.out,aB,HS.out,H1.out]<;>rfl) rfl
 | false=>
  have hC:=S1.Ev [x] (by simp) #[.string x] rfl 1 rfl hs;have HS:=hdq hs;clear hs;go_wp2_with (first|(go_at_call 136;refine hC.mono ?_;rintro e w2 ⟨rfl,S2⟩)|(go_at_call 98;refine S2.uG.mono ?_;rintro e w3 ⟨rfl,S3⟩;have:=TV.facts (S3.facts 0 rfl)));have S4:=S3.bN 0 rfl (.int .i64 10) (.int .i64 0) (.int .i64 0) (.string ⟨#[]⟩) (.slice none 0 0);refine rtv (S4.facts 0 rfl) Tryz.results218 ?_;exact S4.res (.head _) (by simp[HU.out,aB,HS.out]<;>rfl) rfl
theorem nQ(pb:Nat)(L:List T3)(x:ByteArray)(i:Nat)(w:World)(h:PS w pb L i):Calls Tryz.prog 217 #[pq pb,x] w (aD pb L w (gB (lk L) x i)):=by
 have HU:=hdq (show gB (lk L) x i=if wrd (lk L) i [x]then bM (lk L) (i+1)else .ok (none_,i)from rfl);go_enter Tryz.func217,Tryz.ntmps217;go_upto_region 1 with fail;have S1:=SV.new h;generalize World.alloc w _=w1 at S1 ⊢
 cases hs:wrd (lk L) i [x] with
 | true=>
  have hC:=S1.ED [x] (by simp) #[.string x] rfl 1 rfl hs;have HS:=hdq hs;clear hs;go_upto_block 2 with (go_at_call 136;refine hC.mono ?_;rintro e w2 ⟨rfl,S2⟩);refine(S2.aN (aV pb L (i+1) w2 (Nat.zero_le _) S2.ps)).mono ?_;rintro e w3 (⟨x,hr,rfl,hg⟩|⟨t,j3,k3,n3,a3,s3,o3,m3,c3,hr,rfl,S3⟩)
  ·unfold pan;go_wp2_with fail;exact⟨rfl,aD.err x (by simp[HU.out,aB,HS.out,hr]) hg⟩
  have H1:=hdq hr;clear hr;have:=TV.facts (S3.facts 0 rfl);go_wp2_with fail;have S4:=S3.bN 0 rfl k3 n3 a3 s3 (.slice o3 m3 c3);refine rtv (S4.facts 0 rfl) Tryz.results217 ?_;exact S4.res (.head _) (by simp[HU.out,aB,HS.out,H1.out]<;>rfl) rfl
 | false=>
  have hC:=S1.Ev [x] (by simp) #[.string x] rfl 1 rfl hs;have HS:=hdq hs;clear hs;go_wp2_with (first|(go_at_call 136;refine hC.mono ?_;rintro e w2 ⟨rfl,S2⟩)|(go_at_call 98;refine S2.uG.mono ?_;rintro e w3 ⟨rfl,S3⟩;have:=TV.facts (S3.facts 0 rfl)));have S4:=S3.bN 0 rfl (.int .i64 10) (.int .i64 0) (.int .i64 0) (.string ⟨#[]⟩) (.slice none 0 0);refine rtv (S4.facts 0 rfl) Tryz.results217 ?_;exact S4.res (.head _) (by simp[HU.out,aB,HS.out]<;>rfl) rfl
theorem rW(pb:Nat)(L:List T3)(x:ByteArray)(i:Nat)(w:World)(h:PS w pb L i):Calls Tryz.prog 224 #[pq pb,x] w (aD pb L w (kL (lk L) x i)):=by
 have HU:=hdq (show kL (lk L) x i=if wrd (lk L) i [x]then aB (aM (lk L) (i+1) sLP) fun _ j=>aB (Cr (lk L) j) fun r j'=>aB (aM (lk L) j' sRP) fun _ j2=>.ok (r,j2)else .ok (none_,i)from rfl);go_enter Tryz.func224,Tryz.ntmps224;go_upto_region 1 with fail;have S1:=SV.new h;generalize World.alloc w _=w1 at S1 ⊢
 cases hs:wrd (lk L) i [x] with
 | true=>
  have hC:=S1.ED [x] (by simp) #[.string x] rfl 1 rfl hs;have HS:=hdq hs;clear hs;go_upto_block 3 with (go_at_call 136;refine hC.mono ?_;rintro e w2 ⟨rfl,S2⟩);refine(S2.dR sLP).mono ?_;rintro e w3 (⟨x,hr,rfl,hg⟩|⟨j3,hr,rfl,S3⟩)
  ·unfold pan;go_wp2_with fail;exact⟨rfl,aD.err x (by simp[HU.out,aB,HS.out,hr]) hg⟩
  have H1:=hdq hr;clear hr;go_upto_block 4 with fail;refine(S3.aN (qO pb L j3 w3 (Nat.zero_le _) S3.ps)).mono ?_;rintro e w4 (⟨x,hr,rfl,hg⟩|⟨t,j4,k4,n4,a4,s4,o4,m4,c4,hr,rfl,S4⟩)
  ·unfold pan;go_wp2_with fail;exact⟨rfl,aD.err x (by simp[HU.out,aB,HS.out,H1.out,hr]) hg⟩
  have H2:=hdq hr;clear hr;go_upto_region 5 with fail;have S5:=S4.yV (tg k4 n4 a4 s4 o4 m4 c4);generalize World.alloc w4 _=w5 at S5 ⊢;generalize w4.heap.size=B5 at S5 ⊢;go_upto_block 5 with fail;refine(S5.dR sRP).mono ?_;rintro e w6 (⟨x,hr,rfl,hg⟩|⟨j6,hr,rfl,S6⟩)
  ·unfold pan;go_wp2_with fail;exact⟨rfl,aD.err x (by simp[HU.out,aB,HS.out,H1.out,H2.out,hr]) hg⟩
  have H3:=hdq hr;clear hr;have:=TV.facts (S6.facts 0 rfl);have:=TV.facts (S6.facts 1 rfl);go_wp2_with fail;have S7:=S6.bN 1 rfl k4 n4 a4 s4 (.slice o4 m4 c4);refine rtv (S7.facts 1 rfl) Tryz.results224 ?_;exact S7.res (.head _) (by simp[HU.out,aB,HS.out,H1.out,H2.out,H3.out]<;>rfl) rfl
 | false=>
  have hC:=S1.Ev [x] (by simp) #[.string x] rfl 1 rfl hs;have HS:=hdq hs;clear hs;go_wp2_with (first|(go_at_call 136;refine hC.mono ?_;rintro e w2 ⟨rfl,S2⟩)|(go_at_call 98;refine S2.uG.mono ?_;rintro e w3 ⟨rfl,S3⟩;have:=TV.facts (S3.facts 0 rfl)));have S4:=S3.bN 0 rfl (.int .i64 10) (.int .i64 0) (.int .i64 0) (.string ⟨#[]⟩) (.slice none 0 0);refine rtv (S4.facts 0 rfl) Tryz.results224 ?_;exact S4.res (.head _) (by simp[HU.out,aB,HS.out]<;>rfl) rfl
theorem lU(pb:Nat)(L:List T3)(x:ByteArray)(i:Nat)(w:World)(h:PS w pb L i):Calls Tryz.prog 227 #[pq pb,x] w (aD pb L w (dX (lk L) x i)):=by
 have HU:=hdq (show dX (lk L) x i=if wrd (lk L) i [x]then kL (lk L) x i else .error i from rfl);go_enter Tryz.func227,Tryz.ntmps227;go_upto_region 1 with fail;have S1:=SV.new h;generalize World.alloc w _=w1 at S1 ⊢
 cases hs:wrd (lk L) i [x] with
 | true=>
  have hC:=S1.uC [x] (by simp) #[.string x] rfl 1 rfl true hs;have HS:=hdq hs;clear hs;go_upto_block 3 with (go_at_call 155;refine hC.mono ?_;rintro e w2 ⟨rfl,S2⟩);refine(S2.aN (rW pb L x i w2 S2.ps)).mono ?_;rintro e w3 (⟨x,hr,rfl,hg⟩|⟨t,j3,k3,n3,a3,s3,o3,m3,c3,hr,rfl,S3⟩)
  ·unfold pan;go_wp2_with fail;exact⟨rfl,aD.err x (by simp[HU.out,aB,HS.out,hr]) hg⟩
  have H1:=hdq hr;clear hr;have:=TV.facts (S3.facts 0 rfl);go_wp2_with fail;have S4:=S3.bN 0 rfl k3 n3 a3 s3 (.slice o3 m3 c3);refine rtv (S4.facts 0 rfl) Tryz.results227 ?_;exact S4.res (.head _) (by simp[HU.out,aB,HS.out,H1.out]<;>rfl) rfl
 | false=>
  have hC:=S1.uC [x] (by simp) #[.string x] rfl 1 rfl false hs;have HS:=hdq hs;clear hs;go_upto_block 2 with (go_at_call 155;refine hC.mono ?_;rintro e w2 ⟨rfl,S2⟩);refine S2.sX.mono ?_;rintro e wf ⟨rfl,hg⟩;unfold pan;go_wp2_with fail;exact⟨rfl,aD.err _ (by simp[HU.out,aB,HS.out]) hg⟩
theorem iO(pb:Nat)(L:List T3)(i:Nat)(w:World)(h:PS w pb L i):Calls Tryz.prog 226 #[pq pb] w (tD pb L w (pA (lk L) i)):=by
 have HU:=hdq (show pA (lk L) i=aB (gU (lk L) i [gZ]) fun _ j=>aB (aM (lk L) j sLP) fun _ j1=>aB (fN (lk L) j1) fun s j2=>aB (aM (lk L) j2 sRP) fun _ j3=>.ok (s,j3)from rfl);have S1:=SV.begin h;go_enter Tryz.func226,Tryz.ntmps226;go_upto_block 1 with fail;refine(S1.pI [gZ] (by simp) _ rfl 1 rfl).mono ?_;rintro e w2 (⟨x,hr,rfl,hg⟩|⟨j2,hr,rfl,S2⟩)
 ·unfold pan;go_wp2_with fail;exact⟨rfl,tD.err x (by simp[HU.out,aB,hr]) hg⟩
 have H1:=hdq hr;clear hr;go_upto_block 2 with fail;refine(S2.dR sLP).mono ?_;rintro e w3 (⟨x,hr,rfl,hg⟩|⟨j3,hr,rfl,S3⟩)
 ·unfold pan;go_wp2_with fail;exact⟨rfl,tD.err x (by simp[HU.out,aB,H1.out,hr]) hg⟩
 have H2:=hdq hr;clear hr;go_upto_block 3 with fail;refine(S3.pB (fT pb L j3 w3 S3.ps)).mono ?_;rintro e w4 (⟨x,hr,rfl,hg⟩|⟨s4,j4,hr,rfl,S4⟩)
 ·unfold pan;go_wp2_with fail;exact⟨rfl,tD.err x (by simp[HU.out,aB,H1.out,H2.out,hr]) hg⟩
 have H3:=hdq hr;clear hr;go_upto_block 4 with fail;refine(S4.dR sRP).mono ?_;rintro e w5 (⟨x,hr,rfl,hg⟩|⟨j5,hr,rfl,S5⟩)
 ·unfold pan;go_wp2_with fail;exact⟨rfl,tD.err x (by simp[HU.out,aB,H1.out,H2.out,H3.out,hr]) hg⟩
 have H4:=hdq hr;clear hr;go_wp2_with fail;go_ret;exact tD.ok (by simp[HU.out,aB,H1.out,H2.out,H3.out,H4.out]) S5.ok
theorem lR(pb:Nat)(L:List T3)(arg:Bool)(i:Nat)(w:World)(h:PS w pb L i):Calls Tryz.prog 223 #[pq pb,.bool arg] w (aD pb L w (pD (lk L) arg i)):=by
 have HU := hdq (show pD (lk L) arg i = aB (fN (lk L) i) fun s j =>
   if arg && sgn (lk L) j [sLP] then aB (iX (lk L) (j + 1)) fun x j' => aB (aM (lk L) j' sRP) fun _ j2 => .ok (.mk 12 0 i s [x], j2) else .ok (.mk 12 0 i s [], j) from rfl)
 go_enter Tryz.func223,Tryz.ntmps223;go_upto_region 1 with fail;have S1:=SV.new h;generalize World.alloc w _=w1 at S1 ⊢;obtain⟨k1,_⟩:=S1.ps.cells;go_upto_block 2 with fail;refine(S1.pB (fT pb L i w1 S1.ps)).mono ?_;rintro e w2 (⟨x,hr,rfl,hg⟩|⟨s2,j2,hr,rfl,S2⟩)
 ·unfold pan;go_wp2_with fail;exact⟨rfl,aD.err x (by simp[HU.out,aB,hr]) hg⟩
 have H1:=hdq hr;clear hr;go_upto_region 3 with fail;have S3:=S2.yV (tg 12 0 i s2 none 0 0);generalize World.alloc w2 _=w3 at S3 ⊢;generalize w2.heap.size=B3 at S3 ⊢
 cases arg with
 | false=>
  have:=TV.facts (S3.facts 0 rfl);have:=TV.facts (S3.facts 1 rfl);go_wp2_with fail;have S4:=(S3.bN 1 rfl (.int .i64 12) (.int .i64 0) i s2 (.slice none 0 0)).leaf 12 0 i s2;refine rtv (S4.facts 1 rfl) Tryz.results223 ?_;exact S4.res (.head _) (by simp[HU.out,aB,H1.out]<;>rfl) rfl
 | true=>
  cases hs:sgn (lk L) j2 [sLP] with
  | false=>
   have hC:=S3.Af sLP hs;have HS:=hdq hs;clear hs;go_wp2_with (go_at_call 135;refine hC.mono ?_;rintro e w4 ⟨rfl,S4⟩;have:=TV.facts (S4.facts 0 rfl);have:=TV.facts (S4.facts 1 rfl));have S5:=(S4.bN 1 rfl (.int .i64 12) (.int .i64 0) i s2 (.slice none 0 0)).leaf 12 0 i s2;refine rtv (S5.facts 1 rfl) Tryz.results223 ?_;exact S5.res (.head _) (by simp[HU.out,aB,H1.out,HS.out]<;>rfl) rfl
  | true=>
   have hC:=S3.AM sLP hs;have HS:=hdq hs;clear hs;go_upto_block 4 with (go_at_call 135;refine hC.mono ?_;rintro e w4 ⟨rfl,S4⟩);refine(S4.aN (qQ pb L (j2+1) w4 S4.ps)).mono ?_;rintro e w5 (⟨x,hr,rfl,hg⟩|⟨t5,j5,k5,n5,a5,s5,o5,m5,c5,hr,rfl,S5⟩)
   ·unfold pan;go_wp2_with fail;exact⟨rfl,aD.err x (by simp[HU.out,aB,H1.out,HS.out,hr]) hg⟩
   have H2:=hdq hr;clear hr;have S6:=S5.lit (aW.one (S5.tr _ (.head _))) (tg k5 n5 a5 s5 o5 m5 c5) rfl 12 0 i s2 1 1 rfl;have:=TV.facts (S6.facts 0 rfl);have S7:=S6.put 0 rfl 4 (.slice (some ⟨w5.heap.size,0,none⟩) 1 1) (by simp);go_upto_region 5 with fail;generalize World.setCell _ ⟨B3,4,none⟩ _=w7 at S7 ⊢;go_upto_block 5 with fail;refine(S7.dR sRP).mono ?_;rintro e w8 (⟨x,hr,rfl,hg⟩|⟨j8,hr,rfl,S8⟩)
   ·unfold pan;go_wp2_with fail;exact⟨rfl,aD.err x (by simp[HU.out,aB,H1.out,HS.out,H2.out,hr]) hg⟩
   have H3:=hdq hr;clear hr;have:=TV.facts (S8.facts 0 rfl);have:=TV.facts (S8.facts 1 rfl);go_wp2_with fail;have S9:=S8.bN 1 rfl (.int .i64 12) (.int .i64 0) i s2 (.slice (some ⟨w5.heap.size,0,none⟩) 1 1);refine rtv (S9.facts 1 rfl) Tryz.results223 ?_;exact S9.res (.head _) (by simp[HU.out,aB,H1.out,HS.out,H2.out,H3.out]<;>rfl) rfl
end
end Go.Proofs.YtfdlmcgcckkkdaaGreatDoor
