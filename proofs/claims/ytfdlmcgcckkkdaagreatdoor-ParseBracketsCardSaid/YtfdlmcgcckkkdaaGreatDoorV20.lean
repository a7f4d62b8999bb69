/- ParseWhole, part 20: what it stands on. -/
import Derived.Test.YtfdlmcgcckkkdaaGreatDoorV19
import Derived.Deep.AppendSrc
import Derived.Test.YtfdlmcgcckkkdaaGreatDoorV10
import Derived.Test.YtfdlmcgcckkkdaaGreatDoorV01
import Derived.Shelf.Unicode.PredsPay
import Derived.Deep.LoopGhost
import Derived.Test.YtfdlmcgcckkkdaaGreatDoorV16
set_option linter.all false
set_option maxHeartbeats 40000000
set_option maxRecDepth 100000
namespace Go.Proofs.YtfdlmcgcckkkdaaGreatDoor
section
open Go.RowKit Lx Px
theorem TrC.row{av:Nat→Prop}{w:World}{t:T}{k n a:Int}{s:ByteArray}{ao:Option Addr}{m c:Nat}(h:TrC av w t (vT k n a s ao m c)):m=t.l.length∧((t.l=[]∧m=0)∨∃ b off vs,ao=some ⟨b,off,none⟩∧av b∧b<w.heap.size∧aW av w t.l vs∧∀ i u,vs[i]?=some u→w.cell? ⟨b,off+i,none⟩=some u):=by
 obtain⟨k0,n0,a0,s0,l⟩:=t;unfold TrC vT at h;obtain⟨ao',cap,e,h,-⟩:=h;simp only[List.cons.injEq,Value.int.injEq,Value.string.injEq,Value.slice.injEq,and_true,true_and]at e
 obtain⟨_,_,_,_,rfl,rfl,rfl⟩:=e;refine⟨rfl,?_⟩
 by_cases hl:l=[]
 ·exact .inl ⟨hl,by rw[hl];rfl⟩
 ·exact .inr (h hl)
theorem aW.RT{av:Nat→Prop}{w:World}:∀ {l:List T} {us:List Value},aW av w l us→∀ u∈us,u.oneCell'=true:=by
 intro l
 induction l with
 | nil=>intro us h;unfold aW at h;rw[h];intro u hu;cases hu
 | cons t r ih=>
  intro us h;unfold aW at h;obtain⟨u1,u2,rfl,h1,h2⟩:=h;intro u hu
  rcases List.mem_append.1 hu with hu|hu
  ·exact h1.one u hu
  ·exact ih h2 u hu
theorem addr_add(b off j:Nat):(⟨b,off,none⟩:Addr).add j=⟨b,off+j,none⟩:=by unfold Addr.add;split<;>simp_all
theorem KY{pb:Nat}{L:List T3}{w0 w:World}{j:Nat}{rv ts}(S:SV pb L w0 w j rv ts){t1 t2:T}{k1 n1 a1 k2 n2 a2:Int}{s1 s2:ByteArray}{b1 off1:Nat}{o2:Option Addr}{m1 m2 c2:Nat}(h1:(t1,vT k1 n1 a1 s1 (some ⟨b1,off1,none⟩) m1 m1)∈ts)(h2:(t2,vT k2 n2 a2 s2 o2 m2 c2)∈ts)(hm1:m1≤1000000)(hm2:m2≤1000000)(ty:TypeId)(k n a:Int)(s:ByteArray)(hpos:0<m1):∃ ao c w',(Builtin.append_ #[22,22] ty #[.slice (some ⟨b1,off1,none⟩) m1 m1,.slice o2 m2 c2]).run Tryz.prog w=.ok (.slice ao (m1+m2) c) w'∧SV pb L w0 w' j rv ((.mk k n a s (t1.l++t2.l),vT k n a s ao (m1+m2) c)::ts):=by
 obtain⟨i0,hi0,hz0,hz1,hz2⟩:=info_parts tX;obtain⟨e1,r1⟩:=(S.tr _ h1).row;obtain⟨e2,r2⟩:=(S.tr _ h2).row;obtain⟨b,off,us,eb,hb,hbl,hc1,hu1⟩:=r1.resolve_left (fun h=>by have:=h.2;omega);simp only[Option.some.injEq,Addr.mk.injEq,and_true]at eb
 obtain⟨rfl,rfl⟩:=eb;have hl1:us.length=m1*5:=by rw[hc1.len,e1]
 have hadd:∀ (b off:Nat) (vs:List Value) (W:World),(∀ i u,vs[i]?=some u→W.cell? ⟨b,off+i,none⟩=some u)→∀ i u,vs[i]?=some u→W.cell? ((⟨b,off,none⟩:Addr).add i)=some u:=
  fun b off vs W h i u hi=>by rw[addr_add];exact h i u hi
 by_cases hm:m2=0
 ·subst hm;have hl2:t2.l=[]:=List.eq_nil_of_length_eq_zero e2.symm;have hsrc:Src Tryz.prog i0.size 22 (.slice o2 0 c2) 0 [] w:=by
   cases o2 with
   | none=>exact Src.ofNil w vA c2
   | some q=>exact Src.ofSlice w vA q 0 c2 [] (by simp) (fun j u h=>by simp at h) (fun u h=>by cases h)
  have hrun:=run_append_room_src (P:=Tryz.prog) w 22 22 ty 24 i0 vA hi0 b1 off1 m1 m1 _ 0 [] hsrc (Nat.le_refl _) (fun j hj=>by cases hj) (fun j hj=>by cases hj);refine⟨_,_,_,hrun,?_⟩
  show SV pb L w0 w j rv _
  rw[hl2,List.append_nil];refine⟨S.ok,S.hp,S.tv,S.pw,fun p hp=>?_⟩
  rcases List.mem_cons.1 hp with rfl|hp
  ·show TrC _ _ (.mk k n a s t1.l) (vT k n a s _ _ _)
   unfold TrC;exact⟨_,m1,by rw[← e1];rfl,fun _=>⟨b1,off1,us,rfl,hb,hbl,hc1,hu1⟩,Nat.le_of_eq e1.symm⟩
  ·exact S.tr p hp
 ·obtain⟨b2,off2,vs,rfl,hb2,hbl2,hc2,hu2⟩:=r2.resolve_left (fun h=>hm h.2);have hl2:vs.length=m2*5:=by rw[hc2.len,e2]
  have hsrc:Src Tryz.prog i0.size 22 (.slice (some ⟨b2,off2,none⟩) m2 c2) m2 vs w:=
   Src.ofSlice w vA _ m2 c2 vs (by rw[hz1];exact hl2) (hadd _ _ _ _ hu2) hc2.RT
  have hold:=run_firstCells_some (P:=Tryz.prog) (w:=w.drew) i0.size m1 ⟨b1,off1,none⟩ m1 m1 us (by rw[hz1];exact hl1) (hadd _ _ _ _ hu1);have hfit:Builtin.nextslicecap (m1+m2) m1*i0.bytes≤281474976710656:=growslice_fits (by omega) (by rw[hz2];omega);have hrun:=run_append_grow_src (P:=Tryz.prog) w 22 22 ty 24 i0 _ vA hi0 hz0 (some ⟨b1,off1,none⟩) m1 m1 us hold _ m2 vs hsrc (by omega) (by omega) hfit;refine⟨_,_,_,hrun,?_⟩;have hn:=heap_alloc_new w.drew (.cells ((us++vs).toArray++Builtin.zeroCells (Value.agg z5q).cells (grownCap w (m1+m2) m1 24 - (m1+m2))) 24);have bb:=aC w.drew (.cells ((us++vs).toArray++Builtin.zeroCells (Value.agg z5q).cells (grownCap w (m1+m2) m1 24 - (m1+m2))) 24);have hsz:(w.drew.alloc (.cells ((us++vs).toArray++Builtin.zeroCells (Value.agg z5q).cells (grownCap w (m1+m2) m1 24 - (m1+m2))) 24)).heap.size=w.heap.size+1:=by simp
  generalize w.drew.alloc _=w' at hn bb hsz ⊢;have hlt':w.heap.size<w'.heap.size:=by rw[hsz];exact Nat.lt_succ_self _
  have S':=S.drew.below bb;refine⟨S'.ok,S'.hp,S'.tv,S'.pw,fun p hp=>?_⟩
  rcases List.mem_cons.1 hp with rfl|hp
  ·show TrC _ _ (.mk k n a s (t1.l++t2.l)) (vT k n a s _ _ _)
   have hk:∀ {l:List T} {us:List Value},aW (Av w0 rv) w l us→aW (Av w0 rv) w' l us:=fun h=>h.kept (fun _ h _=>h) (Nat.le_of_lt hlt') (fun b _ hl=>bb.block b hl)
   have hT:=(hk hc1).app (hk hc2);unfold TrC;refine⟨_,_,by rw[List.length_append,← e1,← e2];rfl,fun _=>⟨w.heap.size,0,us++vs,rfl,⟨S.ok.1.size,fun q hq e=>?_⟩,hlt',hT,fun i u hi=>?_⟩,by rw[List.length_append,← e1,← e2];exact grownCap_ge _ _ _ _⟩
   ·have:=(Array.getElem?_eq_some_iff.1 (S.tv q hq).1).1;exact absurd this (by rw[← e];exact Nat.lt_irrefl _)
   ·rw[Nat.zero_add,cell_of_row w' w.heap.size i _ _ _ hn];have hlt:i<(us++vs).length:=(List.getElem?_eq_some_iff.1 hi).1;rw[Array.getElem?_append_left (by simpa using hlt)]
    simpa using hi
  ·exact S'.tr p hp
theorem Iz{o:Oper}{a:Act}{K:Act→World→Prop}{Q:Exit→Act→World→Prop}(x y:Operand)(ho:o.op=.call { callee:=.builtin .append,args:=#[x,y],argTypes:=#[22,22] }){pb:Nat}{L:List T3}{w0 w:World}{j:Nat}{rv ts}(S:SV pb L w0 w j rv ts){t1 t2:T}{k1 n1 a1 k2 n2 a2:Int}{s1 s2:ByteArray}{b1 off1:Nat}{o2:Option Addr}{m1 m2 c2:Nat}(h1:(t1,vT k1 n1 a1 s1 (some ⟨b1,off1,none⟩) m1 m1)∈ts)(h2:(t2,vT k2 n2 a2 s2 o2 m2 c2)∈ts)(hm1:m1≤1000000)(hm2:m2≤1000000)(k n p:Int)(s:ByteArray)(hpos:0<m1)(hx:a.eval x=.slice (some ⟨b1,off1,none⟩) m1 m1)(hy:a.eval y=.slice o2 m2 c2)(hK:∀ ao c w',SV pb L w0 w' j rv ((.mk k n p s (t1.l++t2.l),vT k n p s ao (m1+m2) c)::ts)→K (a.put o.dst (.slice ao (m1+m2) c)) w'):o.wp Tryz.prog a w K Q:=by
 obtain⟨ao,c,w',hr,h⟩:=KY S h1 h2 hm1 hm2 o.type k n p s hpos;unfold Oper.wp execOp;simp only[ho,resolve,invoke,builtin,Sem.run_bind,Sem.run_pure,Result.andThen_ok,List.map_toArray,List.map_cons,List.map_nil,hx,hy,hr]
 exact hK ao c w' h
theorem pN{ops:Array Oper}{rest:List Oper}{o:Oper}{a:Act}{Q:Exit→Act→World→Prop}(hgd:o.guard=none)(x y:Operand)(ho:o.op=.call { callee:=.builtin .append,args:=#[x,y],argTypes:=#[22,22] }){pb:Nat}{L:List T3}{w0 w:World}{j:Nat}{rv ts}(S:SV pb L w0 w j rv ts){t1 t2:T}{k1 n1 a1 k2 n2 a2:Int}{s1 s2:ByteArray}{b1 off1:Nat}{o2:Option Addr}{m1 m2 c2:Nat}(h1:(t1,vT k1 n1 a1 s1 (some ⟨b1,off1,none⟩) m1 m1)∈ts)(h2:(t2,vT k2 n2 a2 s2 o2 m2 c2)∈ts)(hm1:m1≤1000000)(hm2:m2≤1000000)(k n p:Int)(s:ByteArray)(hpos:0<m1)(hx:a.eval x=.slice (some ⟨b1,off1,none⟩) m1 m1)(hy:a.eval y=.slice o2 m2 c2)(hK:∀ ao c w',SV pb L w0 w' j rv ((.mk k n p s (t1.l++t2.l),vT k n p s ao (m1+m2) c)::ts)→wpList Tryz.prog ops Q rest (a.put o.dst (.slice ao (m1+m2) c)) w'):wpList Tryz.prog ops Q (o::rest) a w:=
 wpList_plain hgd fun _ hK'=>Iz x y ho S h1 h2 hm1 hm2 k n p s hpos hx hy fun ao c w' h=>hK' _ _ (hK ao c w' h)
theorem bV{E:Prop}{o:Oper}{a:Act}{K:Act→World→Prop}{Q:Exit→Act→World→Prop}(hE:E)(x y:Operand)(ho:o.op=.call { callee:=.builtin .append,args:=#[x,y],argTypes:=#[22,22] }){pb:Nat}{L:List T3}{w0 w:World}{j:Nat}{rv ts}(S:SV pb L w0 w j rv ts){t1 t2:T}{k1 n1 a1 k2 n2 a2:Int}{s1 s2:ByteArray}{b1 off1:Nat}{o2:Option Addr}{m1 m2 c2:Nat}(h1:(t1,vT k1 n1 a1 s1 (some ⟨b1,off1,none⟩) m1 m1)∈ts)(h2:(t2,vT k2 n2 a2 s2 o2 m2 c2)∈ts)(hm1:m1≤1000000)(hm2:m2≤1000000)(k n p:Int)(s:ByteArray)(hpos:0<m1)(hx:a.eval x=.slice (some ⟨b1,off1,none⟩) m1 m1)(hy:a.eval y=.slice o2 m2 c2)(hK:∀ ao c w',SV pb L w0 w' j rv ((.mk k n p s (t1.l++t2.l),vT k n p s ao (m1+m2) c)::ts)→K (a.put o.dst (.slice ao (m1+m2) c)) w'){d:Decidable E}{R:Prop}:@ite Prop E d (o.wp Tryz.prog a w K Q) R:=by
 rw[if_pos hE];exact Iz x y ho S h1 h2 hm1 hm2 k n p s hpos hx hy hK
theorem SV.pL{pb:Nat}{L:List T3}{w0 w:World}{j:Nat}{rv ts}(S:SV pb L w0 w j rv ts){K:FuncId}{args:Array Value}{r:R (List T)}(h:Calls Tryz.prog K args w (kS pb L w r)):Calls Tryz.prog K args w fun e w'=>(∃ a,r=.error a∧e=pan a∧w0.grownBy w' (some pb))∨(∃ l j' ao c,r=.ok (l,j')∧e=.returned (.slice ao l.length c)∧SV pb L w0 w' j' rv ((.mk 40 0 0 e0 l,vT 40 0 0 e0 ao l.length c)::ts)):=by
 refine h.mono ?_;intro e w' hp
 rcases hp.split with ⟨l,j',ao,c,h1,h2,h3,h4⟩|⟨a,h1,h2,h3⟩
 ·exact .inr ⟨l,j',ao,c,h1,h2,S.read h4 (h3.tree 40 0 0 e0)⟩
 ·exact .inl ⟨a,h1,h2,S.ok.1.trans h3⟩
theorem SV.vO{pb:Nat}{L:List T3}{w0 w:World}{j:Nat}{rv ts}{l:List T}{ao:Option Addr}{m c:Nat}(S:SV pb L w0 w j rv ((.mk 40 0 0 e0 l,vT 40 0 0 e0 ao m c)::ts))(hl:l.length≤1000000):Calls Tryz.prog 214 #[.slice ao m c] w fun e w'=>∃ a,gC l=.mk 40 0 a e0 l∧e=.returned (tg 40 0 a ⟨#[]⟩ ao m c)∧SV pb L w0 w' j rv ((gC l,vT 40 0 a e0 ao m c)::ts):=by
 refine(KI l _ ao m c w (S.tr _ (.head _)) hl).mono ?_;rintro e w' ⟨⟨a,h1,h2⟩,hb⟩;have h3:=(S.Cc 40 0 a e0).below hb;exact⟨a,h2,h1,by rw[h2];exact h3⟩
def tkv(t:Tk):List Value:=[.int .i64 t.kind,.string t.text,.int .i64 0]
def kI(l:List Tk):List Value:=l.flatMap tkv
theorem Fu(a b:List Tk):kI (a++b)=kI a++kI b:=by simp[kI]
theorem FU(a:Tk):kI [a]=tkv a:=by simp[kI]
structure Pt (wB:World) (qb:Nat) (w:World) (v:Value) (l:List Tk):Prop where
 low:Below wB.heap.size wB w
 blk:w.heap[qb]?=some (.cells #[v] 115 (0,0))
 hq:wB.heap.size≤qb
 own:w.ownsRow wB.heap.size 43 3 v l.length (kI l)
 ne:v.ownBlock≠some qb
structure Mv (qb:Nat) (w:World) (v:Value) (w':World) (v':Value):Prop where
 size:w.heap.size≤w'.heap.size
 blk:∀ k,k<w.heap.size→k≠qb→v.ownBlock≠some k→w'.heap[k]?=w.heap[k]?
 own:∀ g,v'.ownBlock=some g→v.ownBlock=some g∨w.heap.size≤g
theorem Mv.refl(qb:Nat)(w:World)(v:Value):Mv qb w v w v:=⟨Nat.le_refl _,fun _ _ _ _=>rfl,fun _ h=>.inl h⟩
theorem Mv.trans{qb:Nat}{a b c:World}{x y z:Value}(h:Mv qb a x b y)(g:Mv qb b y c z):Mv qb a x c z:=by
 refine⟨Nat.le_trans h.size g.size,fun k hk hq ho=>(g.blk k (Nat.lt_of_lt_of_le hk h.size) hq fun e=>?_).trans (h.blk k hk hq ho),fun k hk=>?_⟩
 ·rcases h.own k e with h1|h1
  ·exact ho h1
  ·omega
 ·rcases g.own k hk with h1|h1
  ·exact h.own k h1
  ·have:=h.size;exact .inr (by omega)
theorem Pt.lt{wB:World}{qb:Nat}{w:World}{v:Value}{l:List Tk}(h:Pt wB qb w v l):qb<w.heap.size:=(Array.getElem?_eq_some_iff.1 h.blk).1
theorem Pt.below{wB:World}{qb:Nat}{w w':World}{v:Value}{l:List Tk}(h:Pt wB qb w v l)(b:Below w.heap.size w w'):Pt wB qb w' v l:=
 ⟨h.low.trans (b.mono h.low.size),(b.block _ h.lt).trans h.blk,h.hq,xU h.own (fun g hg=>(h.own.lt g hg).2) b,h.ne⟩
theorem Mv.below{qb:Nat}{w0 w w':World}{v0 v:Value}(h:Mv qb w0 v0 w v)(b:Below w.heap.size w w'):Mv qb w0 v0 w' v:=
 h.trans ⟨b.size,fun k hk _ _=>b.block k hk,fun _ h=>.inl h⟩
structure SP (wB:World) (qb:Nat) (w0:World) (v0:Value) (w:World) (l:List Tk) (rv:List (Nat×List Value)):Prop where
 ex:∃ v,Pt wB qb w v l∧Mv qb w0 v0 w v∧∀ p,p∈rv→w.heap[p.1]?=some (.cells p.2.toArray 24 (0,0))∧p.1≠qb∧v.ownBlock≠some p.1
theorem SP.begin{wB:World}{qb:Nat}{w:World}{v:Value}{l:List Tk}(h:Pt wB qb w v l):SP wB qb w v w l []:=⟨v,h,.refl _ _ _,fun _ h=>by cases h⟩
theorem SP.below{wB:World}{qb:Nat}{w0 w w':World}{v0:Value}{l:List Tk}{rv}(S:SP wB qb w0 v0 w l rv)(b:Below w.heap.size w w'):SP wB qb w0 v0 w' l rv:=by
 obtain⟨v,h1,h2,h3⟩:=S.ex;exact⟨v,h1.below b,h2.below b,fun p hp=>⟨(b.block _ (Array.getElem?_eq_some_iff.1 (h3 p hp).1).1).trans (h3 p hp).1,(h3 p hp).2⟩⟩
theorem SP.drew{wB:World}{qb:Nat}{w0 w:World}{v0:Value}{l:List Tk}{rv}(S:SP wB qb w0 v0 w l rv):SP wB qb w0 v0 w.drew l rv:=
 S.below ⟨rfl,rfl,rfl,Nat.le_refl _,fun _ _=>rfl⟩
theorem SP.low{wB:World}{qb:Nat}{w0 w:World}{v0:Value}{l:List Tk}{rv}(S:SP wB qb w0 v0 w l rv):Below wB.heap.size wB w:=by
 obtain⟨v,h1,_⟩:=S.ex;exact h1.low
theorem SP.cX{wB:World}{qb:Nat}{w0 w:World}{v0:Value}{l:List Tk}{rv}(S:SP wB qb w0 v0 w l rv)(us:List Value)(cs:Array Value)(hc:cs=us.toArray)(B:Nat)(hB:w.heap.size=B):SP wB qb w0 v0 (w.alloc (.cells cs 24)) l ((B,us)::rv):=by
 subst hB hc;have S':=S.below (aC w (.cells us.toArray 24));obtain⟨v,h1,h2,h3⟩:=S.ex;have b:=aC w (.cells us.toArray 24);refine⟨v,h1.below b,h2.below b,fun p hp=>?_⟩
 rcases List.mem_cons.1 hp with rfl|hp
 ·refine⟨heap_alloc_new w _,fun e=>?_,fun e=>?_⟩
  ·have:=h1.lt;simp only at e;omega
  ·have:=(h1.own.lt _ e).2;simp only at this;omega
 ·exact⟨(b.block _ (Array.getElem?_eq_some_iff.1 (h3 p hp).1).1).trans (h3 p hp).1,(h3 p hp).2⟩
theorem SP.facts{wB:World}{qb:Nat}{w0 w:World}{v0:Value}{l:List Tk}{rv}(S:SP wB qb w0 v0 w l rv)(k:Nat){b:Nat}{x y z u v:Value}(hk:rv[k]?=some (b,[x,y,z,u,v])):TV w b x y z u v:=by
 obtain⟨v,h1,h2,h3⟩:=S.ex;exact(h3 _ (List.mem_of_getElem? hk)).1
theorem SP.less{wB:World}{qb:Nat}{w0 w:World}{v0:Value}{l:List Tk}{rv rv'}(S:SP wB qb w0 v0 w l rv)(h:∀ p,p∈rv'→p∈rv):SP wB qb w0 v0 w l rv':=by
 obtain⟨v,h1,h2,h3⟩:=S.ex;exact⟨v,h1,h2,fun p hp=>h3 p (h p hp)⟩
def PrQ(wB:World)(qb:Nat)(w:World)(v:Value)(l ts:List Tk)(e:Ending)(w':World):Prop:=e=.returned (.tuple #[])∧∃ v',Pt wB qb w' v' (l++ts)∧Mv qb w v w' v'
def dK: Nat:=1000000000
theorem SP.step{wB:World}{qb:Nat}{w0 w w':World}{v0:Value}{l ts:List Tk}{rv}(v:Value)(h2:Mv qb w0 v0 w v)(h3:∀ p,p∈rv→w.heap[p.1]?=some (.cells p.2.toArray 24 (0,0))∧p.1≠qb∧v.ownBlock≠some p.1){v':Value}(h:Pt wB qb w' v' (l++ts))(m:Mv qb w v w' v'):SP wB qb w0 v0 w' (l++ts) rv:=by
 refine⟨v',h,h2.trans m,fun p hp=>?_⟩;obtain⟨g1,g2,g3⟩:=h3 p hp;have hl:=(Array.getElem?_eq_some_iff.1 g1).1;refine⟨(m.blk _ hl g2 g3).trans g1,g2,fun e=>?_⟩
 rcases m.own _ e with h|h
 ·exact g3 h
 ·omega
theorem SP.call{wB:World}{qb:Nat}{w0 w:World}{v0:Value}{l:List Tk}{rv}(S:SP wB qb w0 v0 w l rv){K:FuncId}{args:Array Value}{ts:List Tk}(h:∀ v,Pt wB qb w v l→Calls Tryz.prog K args w (PrQ wB qb w v l ts)):Calls Tryz.prog K args w fun e w'=>e=.returned (.tuple #[])∧SP wB qb w0 v0 w' (l++ts) rv:=by
 obtain⟨v,h1,h2,h3⟩:=S.ex;refine(h v h1).mono ?_;rintro e w' ⟨rfl,v',g1,g2⟩;exact⟨rfl,SP.step v h2 h3 g1 g2⟩
theorem SP.Da{wB:World}{qb:Nat}{w0 w:World}{v0:Value}{l ts:List Tk}{rv}(S:SP wB qb w0 v0 w (l++ts) rv):PrQ wB qb w0 v0 l ts (.returned (.tuple #[])) w:=by
 obtain⟨v,h1,h2,_⟩:=S.ex;exact⟨rfl,v,h1,h2⟩
theorem OX: (Tryz.prog.info? 43).map (fun i=>(i.zero,i.size,i.bytes))=some (some (.agg #[.int .i64 0,.string ⟨#[]⟩,.int .i64 0]),3,32):=by kernel_rfl
theorem Pe: Tryz.prog.underlying 25=some (.slice 43):=by kernel_rfl
theorem uK(wB:World)(qb:Nat)(w:World)(v:Value)(l:List Tk)(k:Int)(s:ByteArray)(h:Pt wB qb w v l)(hl:l.length+1≤dK):Calls Tryz.prog 109 #[pq qb,k,s] w (PrQ wB qb w v l [⟨k,s⟩]):=by
 obtain⟨i0,hi0,hz0,hz1,hz2⟩:=info_parts OX;have k0:w.cell? ⟨qb,0,none⟩=some v:=cell_of_row w qb 0 _ _ _ h.blk;unfold dK at hl;go_enter Tryz.func109,Tryz.ntmps109;go_wp2_with (at_builtin;refine wpList_append_lies _ rfl _ _ 25 rfl wB.heap.size 43 i0 _ 3 32 Pe hi0 hz0 hz1 hz2 rfl (by decide) v l.length (kI l) rfl (h.own.alloc _) ⟨w.heap.size,0,none⟩ 1 1 (tkv ⟨k,s⟩) rfl rfl (World.news_of_block (heap_alloc_new w _)) (by intro u hu;simp[tkv]at hu;rcases hu with rfl|rfl|rfl<;>rfl) (by decide) (by unfold maxLen;omega) (by omega) (by have:=h.low.size;simp;omega) _ rfl ?_);intro g cap w' hown hgrow hor hlt;have hb:=aC w (.cells #[.int .i64 k,.string s,.int .i64 0] 43);have blk':w'.heap[qb]?=some (.cells #[v] 115 (0,0)):=(hgrow.block qb (by have:=h.lt;simp;omega) (fun e=>h.ne e.symm)).trans ((hb.block _ h.lt).trans h.blk);have k1:w'.cell? ⟨qb,0,none⟩=some v:=cell_of_row w' qb 0 _ _ _ blk';have f1:=Lib.frozen_of_heap blk' 0;have hsz:w.heap.size+1≤w'.heap.size:=by have:=hgrow.size;simp at this;omega
 have hgq:g≠qb:=fun e=>by
  subst e
  rcases hor with h1|h1
  ·exact h.ne h1
  ·have:=h.lt;omega
 have hkeep:∀ j,j<w.heap.size→j≠qb→v.ownBlock≠some j→(w'.setCell ⟨qb,0,none⟩ (.slice (some ⟨g,0,none⟩) (l.length+1) cap)).heap[j]?=w.heap[j]?:=fun j hj hq ho=>by
  rw[Below.heap_setCell _ _ _ _ (by simpa using hq)];exact(hgrow.block j (by simp;omega) (fun e=>ho e.symm)).trans (hb.block _ hj)
 have hss:(w'.setCell ⟨qb,0,none⟩ (.slice (some ⟨g,0,none⟩) (l.length+1) cap)).heap.size=w'.heap.size:=by simp[World.setCell]
 have P:PrQ wB qb w v l [⟨k,s⟩] (.returned (.tuple #[])) (w'.setCell ⟨qb,0,none⟩ (.slice (some ⟨g,0,none⟩) (l.length+1) cap)):=by
  refine⟨rfl,.slice (some ⟨g,0,none⟩) (l.length+1) cap,⟨⟨?_,?_,?_,by rw[hss];exact Nat.le_trans h.low.size (by omega),fun j hj=>?_⟩,?_,h.hq,?_,?_⟩,⟨by rw[hss];omega,hkeep,fun j hj=>?_⟩⟩
  ·exact hgrow.os.trans (hb.os.trans h.low.os)
  ·exact hgrow.tape.trans (hb.tape.trans h.low.tape)
  ·exact hgrow.output.trans (hb.output.trans h.low.output)
  ·have:=h.hq;have:=h.low.size;refine(hkeep j (by omega) (by omega) (fun e=>?_)).trans (h.low.block j hj);have:=(h.own.lt j e).1;omega
  ·simp[World.setCell,Array.getElem?_modify,blk']
  ·rw[Fu,FU,List.length_append];refine⟨hown.1,?_⟩
   rcases hown.2 with h0|⟨g',cap',cur,hv,hB,hg,rest⟩
   ·exact absurd h0.2 (by omega)
   ·refine .inr ⟨g',cap',cur,hv,hB,?_,rest⟩;have e:g=g':=by
     simp only[Value.slice.injEq,Option.some.injEq,Addr.mk.injEq]at hv
     exact hv.1.1
    rw[Below.heap_setCell _ _ _ _ (by rw[← e];simpa using hgq)];exact hg
  ·simp only[Value.ownBlock,ne_eq,Option.some.injEq]
   exact hgq
  ·simp only[Value.ownBlock,Option.some.injEq]at hj
   subst hj
   rcases hor with h1|h1
   ·exact .inl h1
   ·exact .inr (by omega)
 clear hown hgrow hor hkeep hgq blk' hb k0 h
 go_wp2
 go_end0;exact P
theorem Eu{w:World}{b:Nat}{ss:List ByteArray}{cs:Array Value}(hc:cs=(ss.map Value.string).toArray)(h:w.heap[b]?=some (.cells cs 9 (0,0)))(k:Nat)(hk:k<ss.length):w.cell? ⟨b,k,none⟩=some (.string (ss[k]'hk)):=by
 subst hc;have:=cell_of_row w b k _ _ _ h;rw[this]
 simp[hk]
theorem Br(wB:World)(qb:Nat)(w:World)(v:Value)(l:List Tk)(ss:List ByteArray)(h:Pt wB qb w v l)(hl:l.length+ss.length≤dK)(cs:Array Value)(hc:cs=(ss.map Value.string).toArray)(n:Nat)(hn:n=ss.length):Calls Tryz.prog 110 #[pq qb,.slice (some ⟨w.heap.size,0,none⟩) n n] (w.alloc (.cells cs 9)) (PrQ wB qb w v l (ss.map O)):=by
 subst hn;have hb:=aC w (.cells cs 9);have hrow:=heap_alloc_new w (.cells cs 9);have hP:=h.below hb;have hM:=(Mv.refl qb w v).below hb;have hq:=h.lt;have ho:v.ownBlock≠some w.heap.size:=fun e=>by have:=(h.own.lt _ e).2;omega
 have hsz:w.heap.size<(w.alloc (.cells cs 9)).heap.size:=by simp
 have hbig:dK=1000000000:=rfl;generalize w.alloc (.cells cs 9)=w1 at hrow hP hM hsz ⊢;generalize hB:w.heap.size=B at hrow ho hsz hq;have HB:=hdq hB;clear hB hb;go_enter Tryz.func110,Tryz.ntmps110;go_wp2_with fail
 go_loopg [8] ss.length (fun g t wr=>∃ (k:Nat) (v':Value),t=.int .i64 k∧k≤ss.length∧g=ss.length - k∧Pt wB qb wr v' (l++(ss.take k).map O)∧Mv qb w1 v wr v')
 case atStart=>exact⟨0,v,rfl,Nat.zero_le _,rfl,by simpa using hP,.refl _ _ _⟩
 case round=>
  obtain⟨k,v',rfl,hk,hg,hPk,hMk⟩:=hrel;have HG:=hdq hg;clear hg
  by_cases hlt:k<ss.length
  ·have hrk:wr.heap[B]?=some (.cells cs 9 (0,0)):=(hMk.blk B hsz (by omega) ho).trans hrow;have c0:=Eu hc hrk k hlt;have x1:(k:Int)<(ss.length:Int):=by omega
   have hput:=uK wB qb wr v' _ 6 (ss[k]'hlt) hPk (by rw[List.length_append,List.length_map,List.length_take];omega);have htk:(ss.take (k+1)).map O=(ss.take k).map O++[O (ss[k]'hlt)]:=by rw[List.take_succ_eq_append_getElem hlt,List.map_append];rfl
   have HT:=hdq htk;clear htk;generalize ss[k]'hlt=s at c0 hput HT;go_wp2_with (go_at_call 109;refine hput.mono ?_;rintro e w2 ⟨rfl,v2,hP2,hM2⟩)
   go_roundg (ss.length - (k+1))
   case measure=>rw[HG.out];omega
   case rel=>exact⟨k+1,v2,by go_num,hlt,rfl,by rw[HT.out,← List.append_assoc];exact hP2,hMk.trans hM2⟩
  ·have hke:k=ss.length:=by omega
   have x1:¬ (k:Int)<(ss.length:Int):=by omega
   have hfin:PrQ wB qb w v l (ss.map O) (.returned (.tuple #[])) wr:=⟨rfl,v',by rw[hke,List.take_length]at hPk;exact hPk,hM.trans hMk⟩
   clear hPk hMk hP hM
   go_wp2
   go_end0;exact hfin
theorem SP.opC{wB:World}{qb:Nat}{w0 w:World}{v0:Value}{l:List Tk}{rv}(S:SP wB qb w0 v0 w l rv)(ss:List ByteArray)(hl:l.length+ss.length≤dK)(cs:Array Value)(hc:cs=(ss.map Value.string).toArray)(n:Nat)(hn:n=ss.length):Calls Tryz.prog 110 #[pq qb,.slice (some ⟨w.heap.size,0,none⟩) n n] (w.alloc (.cells cs 9)) fun e w'=>e=.returned (.tuple #[])∧SP wB qb w0 v0 w' (l++ss.map O) rv:=by
 obtain⟨v,h1,h2,h3⟩:=S.ex;refine(Br wB qb w v l ss h1 hl cs hc n hn).mono ?_;rintro e w' ⟨rfl,v',g1,g2⟩;exact⟨rfl,SP.step v h2 h3 g1 g2⟩
theorem Ca(wB:World)(qb:Nat)(w:World)(v:Value)(l:List Tk)(ss:List ByteArray)(h:Pt wB qb w v l)(hl:l.length+ss.length≤dK)(cs:Array Value)(hc:cs=(ss.map Value.string).toArray)(n:Nat)(hn:n=ss.length):Calls Tryz.prog 111 #[pq qb,.slice (some ⟨w.heap.size,0,none⟩) n n] (w.alloc (.cells cs 9)) (PrQ wB qb w v l (ss.map W)):=by
 subst hn;have hb:=aC w (.cells cs 9);have hrow:=heap_alloc_new w (.cells cs 9);have hP:=h.below hb;have hM:=(Mv.refl qb w v).below hb;have hq:=h.lt;have ho:v.ownBlock≠some w.heap.size:=fun e=>by have:=(h.own.lt _ e).2;omega
 have hsz:w.heap.size<(w.alloc (.cells cs 9)).heap.size:=by simp
 have hbig:dK=1000000000:=rfl;generalize w.alloc (.cells cs 9)=w1 at hrow hP hM hsz ⊢;generalize hB:w.heap.size=B at hrow ho hsz hq;have HB:=hdq hB;clear hB hb;go_enter Tryz.func111,Tryz.ntmps111;go_wp2_with fail
 go_loopg [8] ss.length (fun g t wr=>∃ (k:Nat) (v':Value),t=.int .i64 k∧k≤ss.length∧g=ss.length - k∧Pt wB qb wr v' (l++(ss.take k).map W)∧Mv qb w1 v wr v')
 case atStart=>exact⟨0,v,rfl,Nat.zero_le _,rfl,by simpa using hP,.refl _ _ _⟩
 case round=>
  obtain⟨k,v',rfl,hk,hg,hPk,hMk⟩:=hrel;have HG:=hdq hg;clear hg
  by_cases hlt:k<ss.length
  ·have hrk:wr.heap[B]?=some (.cells cs 9 (0,0)):=(hMk.blk B hsz (by omega) ho).trans hrow;have c0:=Eu hc hrk k hlt;have x1:(k:Int)<(ss.length:Int):=by omega
   have hput:=uK wB qb wr v' _ 1 (ss[k]'hlt) hPk (by rw[List.length_append,List.length_map,List.length_take];omega);have htk:(ss.take (k+1)).map W=(ss.take k).map W++[W (ss[k]'hlt)]:=by rw[List.take_succ_eq_append_getElem hlt,List.map_append];rfl
   have HT:=hdq htk;clear htk;generalize ss[k]'hlt=s at c0 hput HT;go_wp2_with (go_at_call 109;refine hput.mono ?_;rintro e w2 ⟨rfl,v2,hP2,hM2⟩)
   go_roundg (ss.length - (k+1))
   case measure=>rw[HG.out];omega
   case rel=>exact⟨k+1,v2,by go_num,hlt,rfl,by rw[HT.out,← List.append_assoc];exact hP2,hMk.trans hM2⟩
  ·have hke:k=ss.length:=by omega
   have x1:¬ (k:Int)<(ss.length:Int):=by omega
   have hfin:PrQ wB qb w v l (ss.map W) (.returned (.tuple #[])) wr:=⟨rfl,v',by rw[hke,List.take_length]at hPk;exact hPk,hM.trans hMk⟩
   clear hPk hMk hP hM
   go_wp2
   go_end0;exact hfin
theorem SP.aL{wB:World}{qb:Nat}{w0 w:World}{v0:Value}{l:List Tk}{rv}(S:SP wB qb w0 v0 w l rv)(ss:List ByteArray)(hl:l.length+ss.length≤dK)(cs:Array Value)(hc:cs=(ss.map Value.string).toArray)(n:Nat)(hn:n=ss.length):Calls Tryz.prog 111 #[pq qb,.slice (some ⟨w.heap.size,0,none⟩) n n] (w.alloc (.cells cs 9)) fun e w'=>e=.returned (.tuple #[])∧SP wB qb w0 v0 w' (l++ss.map W) rv:=by
 obtain⟨v,h1,h2,h3⟩:=S.ex;refine(Ca wB qb w v l ss h1 hl cs hc n hn).mono ?_;rintro e w' ⟨rfl,v',g1,g2⟩;exact⟨rfl,SP.step v h2 h3 g1 g2⟩
theorem EM: ∀ (f n:Nat) (acc:Bs),n<10 ^ (f+1)→Ie (f+1) n acc=Lib.decDigits n++acc:=by
 intro f
 induction f with
 | zero=>
  intro n acc h;unfold Ie;rw[Lib.decDigits,if_pos (by omega),dif_pos (by omega)];rfl
 | succ f ih=>
  intro n acc h;unfold Ie;rw[Lib.decDigits]
  by_cases h10:n<10
  ·rw[if_pos h10,dif_pos h10];rfl
  ·rw[if_neg h10,dif_neg h10,ih _ _ (by rw[Nat.pow_succ]at h;omega),List.append_assoc];rfl
theorem Nk(n:Int)(h0 : -9223372036854775808≤n)(h1:n≤9223372036854775807):(⟨(Lib.itoa n).toArray⟩:ByteArray)=FP n:=by
 unfold Lib.itoa FP
 split
 ·rw[EM 19 n.natAbs [] (by omega),List.append_nil]
 ·rename_i h
  unfold Oq;rw[EM 19 n.natAbs [] (by omega),List.append_nil,show n.toNat=n.natAbs from by omega]
def eJ(w:World):Prop:=Lib.TabIs Tryz.prog w "internal/strconv.uint64pow10" .u64 Lib.pow10Tab
theorem eJ.below{w w':World}(h:eJ w)(b:Below w.heap.size w w'):eJ w':=TabIs_below (g:=3) (by kernel_rfl) h b
theorem FN(wB:World)(hT:eJ wB)(qb:Nat)(w:World)(v:Value)(l:List Tk)(k:Int)(h0 : -9223372036854775808≤k)(h1:k≤9223372036854775807)(h:Pt wB qb w v l)(hl:l.length+1≤dK):Calls Tryz.prog 119 #[pq qb,k] w (PrQ wB qb w v l [Nm k]):=by
 have hI:=Tryz.strconv_Itoa k h0 h1 w (hT.below h.low);rw[Nk k h0 h1]at hI;go_enter Tryz.func119,Tryz.ntmps119;go_wp2_with (go_at_call 141;refine hI.mono ?_;rintro e w1 ⟨rfl,j,os,rfl⟩);have hb:Below w.heap.size w (Go.Sort.grow (w.drewN j) os):=⟨rfl,rfl,rfl,by simp[Go.Sort.grow,World.drewN],fun i hi=>by simp[Go.Sort.grow,World.drewN,Array.getElem?_append,hi]⟩
 generalize Go.Sort.grow (w.drewN j) os=w1 at hb ⊢;have h2:=h.below hb;have m2:=(Mv.refl qb w v).below hb;clear hI h;go_wp2_with (go_at_call 109;refine(uK wB qb w1 v l 2 (FP k) h2 hl).mono ?_;rintro e w3 ⟨rfl,v3,h3,m3⟩);go_end0;exact⟨rfl,v3,h3,m2.trans m3⟩
theorem SP.jO{wB:World}(hT:eJ wB){qb:Nat}{w0 w:World}{v0:Value}{l:List Tk}{rv}(S:SP wB qb w0 v0 w l rv)(k:Int)(h0 : -9223372036854775808≤k)(h1:k≤9223372036854775807)(hl:l.length+1≤dK):Calls Tryz.prog 119 #[pq qb,k] w fun e w'=>e=.returned (.tuple #[])∧SP wB qb w0 v0 w' (l++[Nm k]) rv:=
 S.call fun v h=>FN wB hT qb w v l k h0 h1 h hl
theorem Hu(s:ByteArray)(w:World):Calls Tryz.prog 117 #[s] w fun e w'=>e=.returned (.int .i64 (Px.level s))∧Below w.heap.size w w':=by
 have HL:=hdq (show Px.level s=vX s 6 from rfl);go_enter Tryz.func117,Tryz.ntmps117;go_upto_block 1 with fail;refine(jI w).mono ?_;rintro e w1 ⟨⟨v0,v1,v2,v3,v4,v5,rfl,h0,h1,h2,h3,h4,h5⟩,hb⟩;go_wp2_with fail
 go_loopg [6] 6 (fun g t wr=>∃ k:Nat,t=.int .i64 k∧k≤6∧g=6 - k∧wr=w1∧Px.level s=vX s (6 - k))
 case atStart=>exact⟨0,rfl,Nat.zero_le _,rfl,rfl,HL.out⟩
 case round=>
  obtain⟨k,rfl,hk,hg,rfl,hl⟩:=hrel;have HG:=hdq hg;have HK:=hdq hl;clear hg hl HL
  by_cases hlt:k<6
  ·obtain⟨v,hs,hi⟩:=IW k hlt v0 v1 v2 v3 v4 v5 wr h0 h1 h2 h3 h4 h5;have hol:=BR k hlt;have x1:(k:Int)<6:=by omega
   have hC:=jE v (eO k) s wr hs (by omega);have he:vX s (6 - k)=if mV s (eO k)then(k:Int)else vX s (6 - (k+1)):=by
    rw[show 6 - k=(5 - k)+1 from by omega];unfold vX;rw[show 5 - (5 - k)=k from by omega]
    split
    ·rfl
    ·rw[show 6 - (k+1)=5 - k from by omega]
     cases 5 - k<;>rfl
   rw[he]at HK;clear he h0 h1 h2 h3 h4 h5 hs hol
   cases hm:mV s (eO k) with
   | true=>
    rw[hm]at hC;have HK2:=hdq (show Px.level s=k by rw[HK.out,hm];rfl);clear HK hm;go_wp2_with (go_at_call 34;refine hC.mono ?_;rintro e w2 ⟨rfl,rfl⟩);go_ret;exact⟨by rw[HK2.out];rfl,hb⟩
   | false=>
    rw[hm]at hC;have HK2:=hdq (show Px.level s=vX s (6 - (k+1))by rw[HK.out,hm];rfl);clear HK hm;go_wp2_with (go_at_call 34;refine hC.mono ?_;rintro e w2 ⟨rfl,rfl⟩)
    go_roundg (6 - (k+1))
    case measure=>rw[HG.out];omega
    case rel=>exact⟨k+1,by go_num,hlt,rfl,rfl,HK2.out⟩
  ·have x1:¬ (k:Int)<6:=by omega
   have HK2:=hdq (show Px.level s = -1 by rw[HK.out,show 6 - k=0 from by omega];rfl);clear HK;go_wp2_with fail;go_ret;exact⟨by rw[HK2.out];rfl,hb⟩
def Tr(wB:World)(t:T)(us:List Value):Prop:=TrC (fun _=>True) wB t us
theorem TrC.form{av:Nat→Prop}{w:World}{t:T}{us:List Value}(h:TrC av w t us):∃ ao c,us=vT t.kind t.n t.at_ t.word ao t.l.length c∧(t.l≠[]→∃ b off vs,ao=some ⟨b,off,none⟩∧av b∧b<w.heap.size∧aW av w t.l vs∧∀ i u,vs[i]?=some u→w.cell? ⟨b,off+i,none⟩=some u):=by
 obtain⟨k,n,a,s,l⟩:=t;unfold TrC at h;obtain⟨ao,c,e,h,-⟩:=h;exact⟨ao,c,e,h⟩
theorem TrC.cap{av:Nat→Prop}{w:World}{t:T}{k n a:Int}{s:ByteArray}{ao:Option Addr}{m c:Nat}(h:TrC av w t (vT k n a s ao m c)):m≤c:=by
 obtain⟨k0,n0,a0,s0,l⟩:=t;unfold TrC vT at h;obtain⟨ao',cap,e,_,hcap⟩:=h;simp only[List.cons.injEq,Value.int.injEq,Value.string.injEq,Value.slice.injEq,and_true,true_and]at e
 obtain⟨_,_,_,_,_,rfl,rfl⟩:=e;exact hcap
theorem aW.get{av:Nat→Prop}{w:World}:∀ {l:List T} {vs:List Value},aW av w l vs→∀ (i:Nat) (hi:i<l.length),∃ us,TrC av w (l[i]'hi) us∧∀ (j:Nat) u,us[j]?=some u→vs[i*5+j]?=some u:=by
 intro l
 induction l with
 | nil=>intro vs _ i hi;exact absurd hi (by simp)
 | cons t r ih=>
  intro vs h i hi;unfold aW at h;obtain⟨u1,u2,rfl,h1,h2⟩:=h;have h5:=h1.len
  cases i with
  | zero=>
   refine⟨u1,h1,fun j u hu=>?_⟩;rw[Nat.zero_mul,Nat.zero_add,List.getElem?_append_left (List.getElem?_eq_some_iff.1 hu).1];exact hu
  | succ i=>
   obtain⟨us,g1,g2⟩:=ih h2 i (by simpa using hi);refine⟨us,g1,fun j u hu=>?_⟩;rw[List.getElem?_append_right (by omega),← g2 j u hu]
   congr 1;omega
theorem Tr.elem{wB:World}{l:List T}{vs:List Value}(h:aW (fun _=>True) wB l vs){w:World}{b off:Nat}(hc:∀ i u,vs[i]?=some u→w.cell? ⟨b,off+i,none⟩=some u)(i:Nat)(hi:i<l.length):∃ k n a s ao m c,Tr wB (l[i]'hi) (vT k n a s ao m c)∧w.cell? ⟨b,off+i*5,none⟩=some (.int .i64 k)∧w.cell? ⟨b,off+i*5+1,none⟩=some (.int .i64 n)∧w.cell? ⟨b,off+i*5+2,none⟩=some (.int .i64 a)∧w.cell? ⟨b,off+i*5+3,none⟩=some (.string s)∧w.cell? ⟨b,off+i*5+4,none⟩=some (.slice ao m c):=by
 obtain⟨us,g1,g2⟩:=h.get i hi;obtain⟨ao,c,rfl,_⟩:=g1.form;refine⟨_,_,_,_,ao,_,c,g1,?_,?_,?_,?_,?_⟩
 ·exact hc _ _ (g2 0 _ rfl)
 ·rw[Nat.add_assoc];exact hc _ _ (g2 1 _ rfl)
 ·rw[Nat.add_assoc];exact hc _ _ (g2 2 _ rfl)
 ·rw[Nat.add_assoc];exact hc _ _ (g2 3 _ rfl)
 ·rw[Nat.add_assoc];exact hc _ _ (g2 4 _ rfl)
theorem Tr.none(wB:World):Tr wB none_ (vT 10 0 0 ⟨#[]⟩ none 0 0):=TrC.leaf _ _ _ _ _ _ _
theorem KG(l:List T)(i:Nat)(hi:i<l.length):Px.part l i=l[i]'hi:=by
 unfold Px.part;rw[List.getD_eq_getElem?_getD,List.getElem?_eq_getElem hi];rfl
theorem Lq(l:List T)(i:Nat)(hi:l.length≤i):Px.part l i=none_:=by
 unfold Px.part;rw[List.getD_eq_getElem?_getD,List.getElem?_eq_none hi];rfl
theorem Bi(wB w:World)(low:Below wB.heap.size wB w)(t:T)(k n a:Int)(s:ByteArray)(ao:Option Addr)(m c:Nat)(ht:Tr wB t (vT k n a s ao m c))(i:Nat):Calls Tryz.prog 114 #[tg k n a s ao m c,i] w fun e w'=>(∃ k' n' a' s' ao' m' c',e=.returned (tg k' n' a' s' ao' m' c')∧Tr wB (Px.part t.l i) (vT k' n' a' s' ao' m' c'))∧Below w.heap.size w w':=by
 obtain⟨ao',c',e,hl⟩:=ht.form;unfold vT at e;simp only[List.cons.injEq,Value.int.injEq,Value.string.injEq,Value.slice.injEq,and_true,true_and]at e
 obtain⟨rfl,rfl,rfl,rfl,rfl,rfl,rfl⟩:=e;go_enter Tryz.func114,Tryz.ntmps114;go_upto_region 1 with fail;have t0:=TV.new w (.int .i64 t.kind) (.int .i64 t.n) (.int .i64 t.at_) (.string t.word) (.slice ao t.l.length c);have b0:=aC w (.cells (tg t.kind t.n t.at_ t.word ao t.l.length c) 24);have hz:(w.alloc (.cells (tg t.kind t.n t.at_ t.word ao t.l.length c) 24)).heap.size=w.heap.size+1:=by simp
 generalize World.alloc w _=w1 at t0 b0 hz ⊢;have t1:=TV.new w1 (.int .i64 0) (.int .i64 0) (.int .i64 0) (.string ⟨#[]⟩) (.slice none 0 0);rw[hz]at t1;have b1:=aC w1 (.cells z5q 24);replace t0:=t0.below b1;have B1:=b0.trans (b1.mono b0.size);have hs1:w.heap.size≤w.heap.size+1:=Nat.le_succ _;clear hz;generalize World.alloc w1 _=w2 at t0 t1 b1 B1 ⊢;have:=TV.facts t0
 by_cases hi:i<t.l.length
 ·have hi':¬ (t.l.length:Int)≤(i:Int):=by omega
  obtain⟨b,off,vs,rfl,_,hlt,hT,hu⟩:=hl (by intro e;rw[e]at hi;simp at hi);have hbw:b<w.heap.size:=Nat.lt_of_lt_of_le hlt low.size;have hcw:∀ j u,vs[j]?=some u→w2.cell? ⟨b,off+j,none⟩=some u:=fun j u h=>(B1.cell (p:=⟨b,off+j,none⟩) hbw).trans ((low.cell (p:=⟨b,off+j,none⟩) hlt).trans (hu j u h))
  obtain⟨k',n',a',s',ao',m',c',hT',d0,d1,d2,d3,d4⟩:=Tr.elem hT hcw i hi;rw[← KG t.l i hi]at hT';have x1:(i:Int)<(t.l.length:Int):=by omega
  clear hu hcw hT hl;have:=TV.facts t1;go_wp2_with fail;refine rtv (t1.set _ _ _ _ _) Tryz.results114 ?_;exact⟨⟨k',n',a',s',ao',m',c',rfl,hT'⟩,bO B1 hs1 _ _ _ _ _⟩
 ·have hi':(t.l.length:Int)≤(i:Int):=by omega
  clear hl;go_wp2_with (go_at_call 98;refine(EL _).mono ?_;rintro e w3 ⟨rfl,hb3⟩;have t3:=t1.below hb3;have:=TV.facts t3);refine rtv (t3.set _ _ _ _ _) Tryz.results114 ?_;exact⟨⟨10,0,0,⟨#[]⟩,none,0,0,rfl,by rw[Lq _ _ (by omega)];exact Tr.none wB⟩,bO (B1.trans (hb3.mono B1.size)) hs1 _ _ _ _ _⟩
end
end Go.Proofs.YtfdlmcgcckkkdaaGreatDoor
