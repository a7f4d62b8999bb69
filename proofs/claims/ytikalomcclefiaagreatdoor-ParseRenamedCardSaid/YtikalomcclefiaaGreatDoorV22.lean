/- Part 22. -/
import Derived.Test.YtikalomcclefiaaGreatDoorV21
import Derived.Shelf.Unicode.PredsPay
set_option linter.all false
set_option maxHeartbeats 0
set_option maxRecDepth 100000
namespace Go.Proofs.YtikalomcclefiaaGreatDoor
section
open Go.RowKit Lx Px
def iB.row{av:Nat->Prop}{w:World}{t:T}{k n a:Int}{s:dL}{ao:iD}{m c:Nat}(h:iB av w t (vT k n a s ao m c)):m=t.l.length/\((t.l=[]/\m=0)\/∃ b off vs,ao=some ⟨b,off,none⟩/\av b/\b<w.heap.size/\dO av w t.l vs/\∀ i u,vs[i]?=some u->w.cell? (AAF b (off+i))=some u):=by
 obtain⟨k0,n0,a0,s0,l⟩:=t;unfold iB vT at h;obtain⟨ao',cap,e,h,-⟩:=h;simp only[fL,vE,vD,dZ,mM,fD]at e
 obtain⟨_,_,_,_,rfl,rfl,rfl⟩:=e;refine⟨rfl,?_⟩
 by_cases hl:l=[]
 ·exact .inl ⟨hl,by rw[hl];rfl⟩
 ·exact .inr (h hl)
def dO.aLg{av:Nat->Prop}{w:World}:∀ {l:List T} {us:List Value},dO av w l us->∀ u∈us,u.oneCell'=true:=by
 intro l
 induction l with
 | nil=>intro us h;unfold dO at h;rw[h];intro u hu;cases hu
 | cons t r ih=>
  intro us h;unfold dO at h;obtain⟨u1,u2,rfl,h1,h2⟩:=h;intro u hu
  rcases fP.1 hu with hu|hu
  ·exact h1.one u hu
  ·exact ih h2 u hu
def addr_add(b off j:Nat):((AAF b off):Addr).add j=⟨b,off+j,none⟩:=by unfold Addr.add;split<;>simp_all
def aAj{pb:Nat}{L:List T3}{w0 w:World}{j:Nat}{rv ts}(S:SV pb L w0 w j rv ts){t1 t2:T}{k1 n1 a1 k2 n2 a2:Int}{s1 s2:dL}{b1 off1:Nat}{o2:iD}{m1 m2 c2:Nat}(h1:(t1,vT k1 n1 a1 s1 (some (AAF b1 off1)) m1 m1)∈ts)(h2:(t2,vT k2 n2 a2 s2 o2 m2 c2)∈ts)(hm1:m1<=1000000)(hm2:m2<=1000000)(ty:TypeId)(k n a:Int)(s:dL)(hpos:0<m1):∃ ao c w',(Builtin.append_ #[22,22] ty #[.slice (some (AAF b1 off1)) m1 m1,.slice o2 m2 c2]).run Tryz.prog w=.ok (.slice ao (m1+m2) c) w'/\SV pb L w0 w' j rv ((.mk k n a s (t1.l++t2.l),vT k n a s ao (m1+m2) c)::ts):=by
 obtain⟨i0,hi0,hz0,hz1,hz2⟩:=nU ZX;obtain⟨e1,r1⟩:=(S.tr _ h1).row;obtain⟨e2,r2⟩:=(S.tr _ h2).row;obtain⟨b,off,us,eb,hb,hbl,hc1,hu1⟩:=r1.resolve_left (λh=>by have:=h.2;omega);simp only[mP,Addr.mk.injEq,mM]at eb
 obtain⟨rfl,rfl⟩:=eb;have hl1:us.length=m1*5:=by rw[hc1.len,e1]
 have hadd:∀ (b off:Nat) (vs:List Value) (W:World),(∀ i u,vs[i]?=some u->W.cell? (AAF b (off+i))=some u)->∀ i u,vs[i]?=some u->W.cell? (((AAF b off):Addr).add i)=some u:=
  λb off vs W h i u hi=>by rw[addr_add];exact h i u hi
 by_cases hm:m2=0
 ·subst hm;have hl2:t2.l=[]:=kU e2.symm;have hsrc:Src Tryz.prog i0.size 22 (.slice o2 0 c2) 0 [] w:=by
   cases o2 with
   | none=>exact Src.ofNil w RM c2
   | some q=>exact Src.ofSlice w RM q 0 c2 [] aI (λj u h=>by simp at h) (λu h=>by cases h)
  have hrun:=run_append_room_src (P:=Tryz.prog) w 22 22 ty 24 i0 RM hi0 b1 off1 m1 m1 _ 0 [] hsrc (aG _) (λj hj=>by cases hj) (λj hj=>by cases hj);refine⟨_,_,_,hrun,?_⟩
  show SV pb L w0 w j rv _
  rw[hl2,bD];refine⟨S.ok,S.hp,S.tv,S.pw,λp hp=>?_⟩
  rcases bO.1 hp with rfl|hp
  ·show iB _ _ (.mk k n a s t1.l) (vT k n a s _ _ _)
   unfold iB;exact⟨_,m1,by rw[<- e1];rfl,λ_=>⟨b1,off1,us,rfl,hb,hbl,hc1,hu1⟩,Nat.le_of_eq e1.symm⟩
  ·exact S.tr p hp
 ·obtain⟨b2,off2,vs,rfl,hb2,hbl2,hc2,hu2⟩:=r2.resolve_left (λh=>hm h.2);have hl2:vs.length=m2*5:=by rw[hc2.len,e2]
  have hsrc:Src Tryz.prog i0.size 22 (.slice (some (AAF b2 off2)) m2 c2) m2 vs w:=
   Src.ofSlice w RM _ m2 c2 vs (by rw[hz1];exact hl2) (hadd _ _ _ _ hu2) hc2.aLg
  have hold:=run_firstCells_some (P:=Tryz.prog) (w:=w.drew) i0.size m1 (AAF b1 off1) m1 m1 us (by rw[hz1];exact hl1) (hadd _ _ _ _ hu1);have hfit:Builtin.nextslicecap (m1+m2) m1*i0.bytes<=281474976710656:=growslice_fits aB (by rw[hz2];omega);have hrun:=run_append_grow_src (P:=Tryz.prog) w 22 22 ty 24 i0 _ RM hi0 hz0 (some (AAF b1 off1)) m1 m1 us hold _ m2 vs hsrc aB aB hfit;refine⟨_,_,_,hrun,?_⟩;have hn:=aP w.drew (.cells ((us++vs).toArray++Builtin.zeroCells (Value.agg sZ).cells (grownCap w (m1+m2) m1 24 - (m1+m2))) 24);have bb:=aJ w.drew (.cells ((us++vs).toArray++Builtin.zeroCells (Value.agg sZ).cells (grownCap w (m1+m2) m1 24 - (m1+m2))) 24);have hsz:(w.drew.alloc (.cells ((us++vs).toArray++Builtin.zeroCells (Value.agg sZ).cells (grownCap w (m1+m2) m1 24 - (m1+m2))) 24)).heap.size=w.heap.size+1:=by simp
  generalize w.drew.alloc _=w' at hn bb hsz ⊢;have hlt':w.heap.size<w'.heap.size:=by rw[hsz];exact pC _
  have S':=S.drew.below bb;refine⟨S'.ok,S'.hp,S'.tv,S'.pw,λp hp=>?_⟩
  rcases bO.1 hp with rfl|hp
  ·show iB _ _ (.mk k n a s (t1.l++t2.l)) (vT k n a s _ _ _)
   have hk:∀ {l:List T} {us:List Value},dO (Av w0 rv) w l us->dO (Av w0 rv) w' l us:=λh=>h.kept (λ_ h _=>h) (iH hlt') (λb _ hl=>bb.block b hl)
   have hT:=(hk hc1).app (hk hc2);unfold iB;refine⟨_,_,by rw[aO,<- e1,<- e2];rfl,λ_=>⟨w.heap.size,0,us++vs,rfl,⟨S.ok.1.size,λq hq e=>?_⟩,hlt',hT,λi u hi=>?_⟩,by rw[aO,<- e1,<- e2];exact grownCap_ge _ _ _ _⟩
   ·have:=(aX.1 (S.tv q hq).1).1;exact absurd this (by rw[<- e];exact Gi _)
   ·rw[dT,aK w' w.heap.size i _ _ _ hn];have hlt:i<(us++vs).length:=(lS.1 hi).1;rw[Array.getElem?_append_left (by simpa using hlt)]
    simpa using hi
  ·exact S'.tr p hp
def aoU{o:Oper}{a:Act}{K:Act->World->Prop}{Q:Exit->Act->World->Prop}(x y:Operand)(ho:o.op=.call { callee:=.builtin .append,args:=#[x,y],argTypes:=#[22,22] }){pb:Nat}{L:List T3}{w0 w:World}{j:Nat}{rv ts}(S:SV pb L w0 w j rv ts){t1 t2:T}{k1 n1 a1 k2 n2 a2:Int}{s1 s2:dL}{b1 off1:Nat}{o2:iD}{m1 m2 c2:Nat}(h1:(t1,vT k1 n1 a1 s1 (some (AAF b1 off1)) m1 m1)∈ts)(h2:(t2,vT k2 n2 a2 s2 o2 m2 c2)∈ts)(hm1:m1<=1000000)(hm2:m2<=1000000)(k n p:Int)(s:dL)(hpos:0<m1)(hx:a.eval x=.slice (some (AAF b1 off1)) m1 m1)(hy:a.eval y=.slice o2 m2 c2)(hK:∀ ao c w',SV pb L w0 w' j rv ((.mk k n p s (t1.l++t2.l),vT k n p s ao (m1+m2) c)::ts)->K (a.put o.dst (.slice ao (m1+m2) c)) w'):o.wp Tryz.prog a w K Q:=by
 obtain⟨ao,c,w',hr,h⟩:=aAj S h1 h2 hm1 hm2 o.type k n p s hpos;unfold Oper.wp execOp;simp only[ho,resolve,invoke,builtin,Sem.run_bind,Sem.run_pure,Result.andThen_ok,List.map_toArray,dC,oY,hx,hy,hr]
 exact hK ao c w' h
def IV{ops:Array Oper}{rest:List Oper}{o:Oper}{a:Act}{Q:Exit->Act->World->Prop}(hgd:o.guard=none)(x y:Operand)(ho:o.op=.call { callee:=.builtin .append,args:=#[x,y],argTypes:=#[22,22] }){pb:Nat}{L:List T3}{w0 w:World}{j:Nat}{rv ts}(S:SV pb L w0 w j rv ts){t1 t2:T}{k1 n1 a1 k2 n2 a2:Int}{s1 s2:dL}{b1 off1:Nat}{o2:iD}{m1 m2 c2:Nat}(h1:(t1,vT k1 n1 a1 s1 (some (AAF b1 off1)) m1 m1)∈ts)(h2:(t2,vT k2 n2 a2 s2 o2 m2 c2)∈ts)(hm1:m1<=1000000)(hm2:m2<=1000000)(k n p:Int)(s:dL)(hpos:0<m1)(hx:a.eval x=.slice (some (AAF b1 off1)) m1 m1)(hy:a.eval y=.slice o2 m2 c2)(hK:∀ ao c w',SV pb L w0 w' j rv ((.mk k n p s (t1.l++t2.l),vT k n p s ao (m1+m2) c)::ts)->wpList Tryz.prog ops Q rest (a.put o.dst (.slice ao (m1+m2) c)) w'):wpList Tryz.prog ops Q (o::rest) a w:=
 wpList_plain hgd λ_ hK'=>aoU x y ho S h1 h2 hm1 hm2 k n p s hpos hx hy λao c w' h=>hK' _ _ (hK ao c w' h)
def Kh{E:Prop}{o:Oper}{a:Act}{K:Act->World->Prop}{Q:Exit->Act->World->Prop}(hE:E)(x y:Operand)(ho:o.op=.call { callee:=.builtin .append,args:=#[x,y],argTypes:=#[22,22] }){pb:Nat}{L:List T3}{w0 w:World}{j:Nat}{rv ts}(S:SV pb L w0 w j rv ts){t1 t2:T}{k1 n1 a1 k2 n2 a2:Int}{s1 s2:dL}{b1 off1:Nat}{o2:iD}{m1 m2 c2:Nat}(h1:(t1,vT k1 n1 a1 s1 (some (AAF b1 off1)) m1 m1)∈ts)(h2:(t2,vT k2 n2 a2 s2 o2 m2 c2)∈ts)(hm1:m1<=1000000)(hm2:m2<=1000000)(k n p:Int)(s:dL)(hpos:0<m1)(hx:a.eval x=.slice (some (AAF b1 off1)) m1 m1)(hy:a.eval y=.slice o2 m2 c2)(hK:∀ ao c w',SV pb L w0 w' j rv ((.mk k n p s (t1.l++t2.l),vT k n p s ao (m1+m2) c)::ts)->K (a.put o.dst (.slice ao (m1+m2) c)) w'){d:Decidable E}{R:Prop}:@ite Prop E d (o.wp Tryz.prog a w K Q) R:=by
 rw[aF hE];exact aoU x y ho S h1 h2 hm1 hm2 k n p s hpos hx hy hK
def SV.GQ{pb:Nat}{L:List T3}{w0 w:World}{j:Nat}{rv ts}(S:SV pb L w0 w j rv ts){K:FuncId}{args:Array Value}{r:R (List T)}(h:AAA K args w (An pb L w r)):AAA K args w λe w'=>(∃ a,r=.error a/\e=gM a/\w0.grownBy w' (some pb))\/(∃ l j' ao c,r=.ok (l,j')/\e=.returned (.slice ao l.length c)/\SV pb L w0 w' j' rv ((.mk 40 0 0 e0 l,vT 40 0 0 e0 ao l.length c)::ts)):=by
 refine h.mono ?_;intro e w' hp
 rcases hp.split with ⟨l,j',ao,c,h1,h2,h3,h4⟩|⟨a,h1,h2,h3⟩
 ·exact .inr ⟨l,j',ao,c,h1,h2,S.read h4 (h3.tree 40 0 0 e0)⟩
 exact Jh
def SV.Yp{pb:Nat}{L:List T3}{w0 w:World}{j:Nat}{rv ts}{l:List T}{ao:iD}{m c:Nat}(S:SV pb L w0 w j rv ((.mk 40 0 0 e0 l,vT 40 0 0 e0 ao m c)::ts))(hl:l.length<=1000000):AAA 202 #[.slice ao m c] w λe w'=>∃ a,gQ l=.mk 40 0 a e0 l/\e=.returned (tg 40 0 a ⟨#[]⟩ ao m c)/\SV pb L w0 w' j rv ((gQ l,vT 40 0 a e0 ao m c)::ts):=by
 refine(aCt l _ ao m c w (S.tr _ (.head _)) hl).mono ?_;rintro e w' ⟨⟨a,h1,h2⟩,hb⟩;have h3:=(S.OV 40 0 a e0).below hb;exact⟨a,h2,h1,by rw[h2];exact h3⟩
def tkv(t:Tk):List Value:=[.int .i64 t.kind,.string t.text,.int .i64 0]
def yI(l:List Tk):List Value:=l.flatMap tkv
def ajJ(a b:List Tk):yI (a++b)=yI a++yI b:=by simp[yI]
def alD(a:Tk):yI [a]=tkv a:=by simp[yI]
structure Pt (wB:World) (qb:Nat) (w:World) (v:Value) (l:List Tk):Prop where
 low:iY wB w
 blk:w.heap[qb]?=some (.cells #[v] 102 (0,0))
 hq:wB.heap.size<=qb
 own:w.ownsRow wB.heap.size 47 3 v l.length (yI l)
 ne:v.ownBlock≠some qb
structure Mv (qb:Nat) (w:World) (v:Value) (w':World) (v':Value):Prop where
 size:w.heap.size<=w'.heap.size
 blk:∀ k,k<w.heap.size->k≠qb->v.ownBlock≠some k->w'.heap[k]?=w.heap[k]?
 own:∀ g,v'.ownBlock=some g->v.ownBlock=some g\/w.heap.size<=g
def Mv.refl(qb:Nat)(w:World)(v:Value):Mv qb w v w v:=⟨aG _,λ_ _ _ _=>rfl,λ_ h=>.inl h⟩
theorem Mv.trans{qb:Nat}{a b c:World}{x y z:Value}(h:Mv qb a x b y)(g:Mv qb b y c z):Mv qb a x c z:=by
 refine⟨aZ h.size g.size,λk hk hq ho=>(g.blk k (gH hk h.size) hq λe=>?_).trans (h.blk k hk hq ho),λk hk=>?_⟩
 ·rcases h.own k e with h1|h1
  ·exact ho h1
  ·omega
 ·rcases g.own k hk with h1|h1
  ·exact h.own k h1
  ·have:=h.size;exact .inr aB
def Pt.lt{wB:World}{qb:Nat}{w:World}{v:Value}{l:List Tk}(h:Pt wB qb w v l):qb<w.heap.size:=(aX.1 h.blk).1
def Pt.below{wB:World}{qb:Nat}{w w':World}{v:Value}{l:List Tk}(h:Pt wB qb w v l)(b:iY w w'):Pt wB qb w' v l:=
 ⟨h.low.trans (b.mono h.low.size),(b.block _ h.lt).trans h.blk,h.hq,Vs h.own (λg hg=>(h.own.lt g hg).2) b,h.ne⟩
def Mv.below{qb:Nat}{w0 w w':World}{v0 v:Value}(h:Mv qb w0 v0 w v)(b:iY w w'):Mv qb w0 v0 w' v:=
 h.trans ⟨b.size,λk hk _ _=>b.block k hk,λ_ h=>.inl h⟩
structure SP (wB:World) (qb:Nat) (w0:World) (v0:Value) (w:World) (l:List Tk) (rv:List (Nat×List Value)):Prop where
 ex:∃ v,Pt wB qb w v l/\Mv qb w0 v0 w v/\∀ p,p∈rv->w.heap[p.1]?=some (.cells p.2.toArray 24 (0,0))/\p.1≠qb/\v.ownBlock≠some p.1
def SP.begin{wB:World}{qb:Nat}{w:World}{v:Value}{l:List Tk}(h:Pt wB qb w v l):SP wB qb w v w l []:=⟨v,h,.refl _ _ _,λ_ h=>by cases h⟩
theorem SP.below{wB:World}{qb:Nat}{w0 w w':World}{v0:Value}{l:List Tk}{rv}(S:SP wB qb w0 v0 w l rv)(b:iY w w'):SP wB qb w0 v0 w' l rv:=by
 obtain⟨v,h1,h2,h3⟩:=S.ex;exact⟨v,h1.below b,h2.below b,λp hp=>⟨(b.block _ (aX.1 (h3 p hp).1).1).trans (h3 p hp).1,(h3 p hp).2⟩⟩
theorem SP.drew{wB:World}{qb:Nat}{w0 w:World}{v0:Value}{l:List Tk}{rv}(S:SP wB qb w0 v0 w l rv):SP wB qb w0 v0 w.drew l rv:=
 S.below ⟨rfl,rfl,rfl,aG _,λ_ _=>rfl⟩
theorem SP.low{wB:World}{qb:Nat}{w0 w:World}{v0:Value}{l:List Tk}{rv}(S:SP wB qb w0 v0 w l rv):iY wB w:=by
 obtain⟨v,h1,_⟩:=S.ex;exact h1.low
section
variable{wB:World}{qb:Nat}{w0 w:World}{v0:Value}{l:List Tk}
include wB qb w0 w v0 l
theorem SP.oF{rv}(S:SP wB qb w0 v0 w l rv)(us:List Value)(cs:Array Value)(hc:cs=us.toArray)(B:Nat)(hB:w.heap.size=B):SP wB qb w0 v0 (w.alloc (.cells cs 24)) l ((B,us)::rv):=by
 subst hB hc;have S':=S.below (aJ w (.cells us.toArray 24));obtain⟨v,h1,h2,h3⟩:=S.ex;have b:=aJ w (.cells us.toArray 24);refine⟨v,h1.below b,h2.below b,λp hp=>?_⟩
 rcases bO.1 hp with rfl|hp
 ·refine⟨aP w _,λe=>?_,λe=>?_⟩
  ·have:=h1.lt;simp only at e;omega
  ·have:=(h1.own.lt _ e).2;simp only at this;omega
 ·exact⟨(b.block _ (aX.1 (h3 p hp).1).1).trans (h3 p hp).1,(h3 p hp).2⟩
theorem SP.facts{rv}(S:SP wB qb w0 v0 w l rv)(k:Nat){b:Nat}{x y z u v:Value}(hk:rv[k]?=some (b,[x,y,z,u,v])):TV w b x y z u v:=by
 obtain⟨v,h1,h2,h3⟩:=S.ex;exact(h3 _ (lN hk)).1
theorem SP.less{rv rv'}(S:SP wB qb w0 v0 w l rv)(h:∀ p,p∈rv'->p∈rv):SP wB qb w0 v0 w l rv':=by
 obtain⟨v,h1,h2,h3⟩:=S.ex;exact⟨v,h1,h2,λp hp=>h3 p (h p hp)⟩
end
def lJ(wB:World)(qb:Nat)(w:World)(v:Value)(l ts:List Tk)(e:Ending)(w':World):Prop:=e=.returned (.tuple #[])/\∃ v',Pt wB qb w' v' (l++ts)/\Mv qb w v w' v'
def fG: Nat:=1000000000
def SP.step{wB:World}{qb:Nat}{w0 w w':World}{v0:Value}{l ts:List Tk}{rv}(v:Value)(h2:Mv qb w0 v0 w v)(h3:∀ p,p∈rv->w.heap[p.1]?=some (.cells p.2.toArray 24 (0,0))/\p.1≠qb/\v.ownBlock≠some p.1){v':Value}(h:Pt wB qb w' v' (l++ts))(m:Mv qb w v w' v'):SP wB qb w0 v0 w' (l++ts) rv:=by
 refine⟨v',h,h2.trans m,λp hp=>?_⟩;obtain⟨g1,g2,g3⟩:=h3 p hp;have hl:=(aX.1 g1).1;refine⟨(m.blk _ hl g2 g3).trans g1,g2,λe=>?_⟩
 rcases m.own _ e with h|h
 ·exact g3 h
 ·omega
def SP.call{wB:World}{qb:Nat}{w0 w:World}{v0:Value}{l:List Tk}{rv}(S:SP wB qb w0 v0 w l rv){K:FuncId}{args:Array Value}{ts:List Tk}(h:∀ v,Pt wB qb w v l->AAA K args w (lJ wB qb w v l ts)):AAA K args w λe w'=>e=.returned (.tuple #[])/\SP wB qb w0 v0 w' (l++ts) rv:=by
 obtain⟨v,h1,h2,h3⟩:=S.ex;refine(h v h1).mono ?_;exact tI
def SP.KX{wB:World}{qb:Nat}{w0 w:World}{v0:Value}{l ts:List Tk}{rv}(S:SP wB qb w0 v0 w (l++ts) rv):lJ wB qb w0 v0 l ts (.returned (.tuple #[])) w:=by
 obtain⟨v,h1,h2,_⟩:=S.ex;exact⟨rfl,v,h1,h2⟩
def aIT: (Tryz.prog.info? 47).map (λi=>(i.zero,i.size,i.bytes))=some (some (.agg #[iq 0,.string ⟨#[]⟩,iq 0]),3,32):=by kernel_rfl
def aIt: Tryz.prog.underlying 25=some (.slice 47):=by kernel_rfl
def IB(wB:World)(qb:Nat)(w:World)(v:Value)(l:List Tk)(k:Int)(s:dL)(h:Pt wB qb w v l)(hl:l.length+1<=fG):AAA 96 #[pq qb,k,s] w (lJ wB qb w v l [⟨k,s⟩]):=by
 obtain⟨i0,hi0,hz0,hz1,hz2⟩:=nU aIT;have k0:w.cell? (AAF qb 0)=some v:=aK w qb 0 _ _ _ h.blk;unfold fG at hl;go_in;go_wp2_with (at_builtin;refine wpList_append_lies _ rfl _ _ 25 rfl wB.heap.size 47 i0 _ 3 32 aIt hi0 hz0 hz1 hz2 rfl aD v l.length (yI l) rfl (h.own.alloc _) (AAF w.heap.size 0) 1 1 (tkv ⟨k,s⟩) rfl rfl (tG (aP w _)) (by intro u hu;simp[tkv]at hu;rcases hu with rfl|rfl|rfl<;>rfl) aD tJ aB (by have:=h.low.size;simp;omega) _ rfl ?_);intro g cap w' hown hgrow hor hlt;have hb:=aJ w (.cells #[iq k,.string s,iq 0] 47);have blk':w'.heap[qb]?=some (.cells #[v] 102 (0,0)):=(hgrow.block qb (by have:=h.lt;simp;omega) (λe=>h.ne e.symm)).trans ((hb.block _ h.lt).trans h.blk);have k1:w'.cell? (AAF qb 0)=some v:=aK w' qb 0 _ _ _ blk';have f1:=aY blk' 0;have hsz:w.heap.size+1<=w'.heap.size:=by have:=hgrow.size;simp at this;omega
 have hgq:g≠qb:=λe=>by
  subst e
  rcases hor with h1|h1
  ·exact h.ne h1
  ·have:=h.lt;omega
 have hkeep:∀ j,j<w.heap.size->j≠qb->v.ownBlock≠some j->(w'.setCell (AAF qb 0) (.slice (some (AAF g 0)) (l.length+1) cap)).heap[j]?=w.heap[j]?:=λj hj hq ho=>by
  rw[dJ _ _ _ _ (by simpa using hq)];exact(hgrow.block j dW (λe=>ho e.symm)).trans (hb.block _ hj)
 have hss:(w'.setCell (AAF qb 0) (.slice (some (AAF g 0)) (l.length+1) cap)).heap.size=w'.heap.size:=by simp[World.setCell]
 have P:lJ wB qb w v l [⟨k,s⟩] (.returned (.tuple #[])) (w'.setCell (AAF qb 0) (.slice (some (AAF g 0)) (l.length+1) cap)):=by
  refine⟨rfl,.slice (some (AAF g 0)) (l.length+1) cap,⟨⟨?_,?_,?_,by rw[hss];exact aZ h.low.size aB,λj hj=>?_⟩,?_,h.hq,?_,?_⟩,⟨by rw[hss];omega,hkeep,λj hj=>?_⟩⟩
  ·exact hgrow.os.trans (hb.os.trans h.low.os)
  ·exact hgrow.tape.trans (hb.tape.trans h.low.tape)
  ·exact hgrow.output.trans (hb.output.trans h.low.output)
  ·exact Pw
  ·simp[World.setCell,pK,blk']
  ·rw[ajJ,alD,aO];refine⟨hown.1,?_⟩
   exact QP
  ·exact Rt
  ·simp only[Value.ownBlock,mP]at hj
   subst hj
   rcases hor with h1|h1
   ·exact .inl h1
   ·exact .inr aB
 clear hown hgrow hor hkeep hgq blk' hb k0 h
 go_wp2
 go_end0;exact P
def afM{w:World}{b:Nat}{ss:List ByteArray}{cs:Array Value}(hc:cs=(ss.map Value.string).toArray)(h:w.heap[b]?=some (.cells cs 9 (0,0)))(k:Nat)(hk:k<ss.length):w.cell? (AAF b k)=some (.string (ss[k]'hk)):=by
 subst hc;have:=aK w b k _ _ _ h;rw[this]
 simp[hk]
def Xc(wB:World)(qb:Nat)(w:World)(v:Value)(l:List Tk)(ss:List ByteArray)(h:Pt wB qb w v l)(hl:l.length+ss.length<=fG)(cs:Array Value)(hc:cs=(ss.map Value.string).toArray)(n:Nat)(hn:n=ss.length):AAA 97 #[pq qb,.slice (some (AAF w.heap.size 0)) n n] (w.alloc (.cells cs 9)) (lJ wB qb w v l (ss.map O)):=by
 subst hn;have hb:=aJ w (.cells cs 9);have hrow:=aP w (.cells cs 9);have hP:=h.below hb;have hM:=(Mv.refl qb w v).below hb;have hq:=h.lt;have ho:v.ownBlock≠some w.heap.size:=λe=>by have:=(h.own.lt _ e).2;omega
 have hsz:w.heap.size<(w.alloc (.cells cs 9)).heap.size:=by simp
 have hbig:fG=1000000000:=rfl;generalize w.alloc (.cells cs 9)=w1 at hrow hP hM hsz ⊢;generalize hB:w.heap.size=B at hrow ho hsz hq;have HB:=aN hB;clear hB hb;go_in;go_wp2_with fail
 go_loopg [8] ss.length (λg t wr=>∃ (k:Nat) (v':Value),t=.int .i64 k/\k<=ss.length/\g=ss.length - k/\Pt wB qb wr v' (l++(ss.take k).map O)/\Mv qb w1 v wr v')
 case atStart=>exact PE
 case round=>
  obtain⟨k,v',rfl,hk,hg,hPk,hMk⟩:=hrel;have HG:=aN hg;clear hg
  by_cases hlt:k<ss.length
  ·have hrk:wr.heap[B]?=some (.cells cs 9 (0,0)):=(hMk.blk B hsz aB ho).trans hrow;have c0:=afM hc hrk k hlt;have x1:(k:Int)<(ss.length:Int):=by omega
   have hput:=IB wB qb wr v' _ 6 (ss[k]'hlt) hPk OU;have htk:(ss.take (k+1)).map O=(ss.take k).map O++[O (ss[k]'hlt)]:=by rw[jY hlt,iX];rfl
   exact SK
  ·have hke:k=ss.length:=by omega
   have x1:¬ (k:Int)<(ss.length:Int):=by omega
   have hfin:lJ wB qb w v l (ss.map O) (.returned (.tuple #[])) wr:=⟨rfl,v',by rw[hke,jP]at hPk;exact hPk,hM.trans hMk⟩
   clear hPk hMk hP hM
   go_wp2
   go_end0;exact hfin
def SP.opC{wB:World}{qb:Nat}{w0 w:World}{v0:Value}{l:List Tk}{rv}(S:SP wB qb w0 v0 w l rv)(ss:List ByteArray)(hl:l.length+ss.length<=fG)(cs:Array Value)(hc:cs=(ss.map Value.string).toArray)(n:Nat)(hn:n=ss.length):AAA 97 #[pq qb,.slice (some (AAF w.heap.size 0)) n n] (w.alloc (.cells cs 9)) λe w'=>e=.returned (.tuple #[])/\SP wB qb w0 v0 w' (l++ss.map O) rv:=by
 obtain⟨v,h1,h2,h3⟩:=S.ex;refine(Xc wB qb w v l ss h1 hl cs hc n hn).mono ?_;exact tI
def Za(wB:World)(qb:Nat)(w:World)(v:Value)(l:List Tk)(ss:List ByteArray)(h:Pt wB qb w v l)(hl:l.length+ss.length<=fG)(cs:Array Value)(hc:cs=(ss.map Value.string).toArray)(n:Nat)(hn:n=ss.length):AAA 98 #[pq qb,.slice (some (AAF w.heap.size 0)) n n] (w.alloc (.cells cs 9)) (lJ wB qb w v l (ss.map W)):=by
 subst hn;have hb:=aJ w (.cells cs 9);have hrow:=aP w (.cells cs 9);have hP:=h.below hb;have hM:=(Mv.refl qb w v).below hb;have hq:=h.lt;have ho:v.ownBlock≠some w.heap.size:=λe=>by have:=(h.own.lt _ e).2;omega
 have hsz:w.heap.size<(w.alloc (.cells cs 9)).heap.size:=by simp
 have hbig:fG=1000000000:=rfl;generalize w.alloc (.cells cs 9)=w1 at hrow hP hM hsz ⊢;generalize hB:w.heap.size=B at hrow ho hsz hq;have HB:=aN hB;clear hB hb;go_in;go_wp2_with fail
 go_loopg [8] ss.length (λg t wr=>∃ (k:Nat) (v':Value),t=.int .i64 k/\k<=ss.length/\g=ss.length - k/\Pt wB qb wr v' (l++(ss.take k).map W)/\Mv qb w1 v wr v')
 case atStart=>exact PE
 case round=>
  obtain⟨k,v',rfl,hk,hg,hPk,hMk⟩:=hrel;have HG:=aN hg;clear hg
  by_cases hlt:k<ss.length
  ·have hrk:wr.heap[B]?=some (.cells cs 9 (0,0)):=(hMk.blk B hsz aB ho).trans hrow;have c0:=afM hc hrk k hlt;have x1:(k:Int)<(ss.length:Int):=by omega
   have hput:=IB wB qb wr v' _ 1 (ss[k]'hlt) hPk OU;have htk:(ss.take (k+1)).map W=(ss.take k).map W++[W (ss[k]'hlt)]:=by rw[jY hlt,iX];rfl
   exact SK
  ·have hke:k=ss.length:=by omega
   have x1:¬ (k:Int)<(ss.length:Int):=by omega
   have hfin:lJ wB qb w v l (ss.map W) (.returned (.tuple #[])) wr:=⟨rfl,v',by rw[hke,jP]at hPk;exact hPk,hM.trans hMk⟩
   clear hPk hMk hP hM
   go_wp2
   go_end0;exact hfin
def SP.kS{wB:World}{qb:Nat}{w0 w:World}{v0:Value}{l:List Tk}{rv}(S:SP wB qb w0 v0 w l rv)(ss:List ByteArray)(hl:l.length+ss.length<=fG)(cs:Array Value)(hc:cs=(ss.map Value.string).toArray)(n:Nat)(hn:n=ss.length):AAA 98 #[pq qb,.slice (some (AAF w.heap.size 0)) n n] (w.alloc (.cells cs 9)) λe w'=>e=.returned (.tuple #[])/\SP wB qb w0 v0 w' (l++ss.map W) rv:=by
 obtain⟨v,h1,h2,h3⟩:=S.ex;refine(Za wB qb w v l ss h1 hl cs hc n hn).mono ?_;exact tI
def aiD: ∀ (f n:Nat) (acc:Bs),n<10 ^ (f+1)->UZ (f+1) n acc=Lib.decDigits n++acc:=by
 intro f
 induction f with
 | zero=>
  intro n acc h;unfold UZ;rw[Lib.decDigits,aF aB,dif_pos aB];rfl
 | succ f ih=>
  intro n acc h;unfold UZ;rw[Lib.decDigits]
  by_cases h10:n<10
  ·rw[aF h10,dif_pos h10];rfl
  ·rw[aC h10,dif_neg h10,ih _ _ (by rw[Nat.pow_succ]at h;omega),bT];rfl
def aFw(n:Int)(h0 : -9223372036854775808<=n)(h1:n<=9223372036854775807):(⟨(Lib.itoa n).toArray⟩:ByteArray)=UU n:=by
 unfold Lib.itoa UU
 split
 ·rw[aiD 19 n.natAbs [] aB,bD]
 ·rename_i h
  unfold azC;rw[aiD 19 n.natAbs [] aB,bD,show n.toNat=n.natAbs from by omega]
def fQ(w:World):Prop:=Lib.TabIs Tryz.prog w "internal/strconv.uint64pow10" .u64 Lib.pow10Tab
def fQ.below{w w':World}(h:fQ w)(b:iY w w'):fQ w':=TabIs_below (g:=3) aQ h b
def anO(wB:World)(hT:fQ wB)(qb:Nat)(w:World)(v:Value)(l:List Tk)(k:Int)(h0 : -9223372036854775808<=k)(h1:k<=9223372036854775807)(h:Pt wB qb w v l)(hl:l.length+1<=fG):AAA 106 #[pq qb,k] w (lJ wB qb w v l [Nm k]):=by
 have hI:=Tryz.strconv_Itoa k h0 h1 w (hT.below h.low);rw[aFw k h0 h1]at hI;go_in;go_wp2_with (go_at_call 129;refine hI.mono ?_;rintro e w1 ⟨rfl,j,os,rfl⟩);have hb:iY w (Go.Sort.grow (w.drewN j) os):=⟨rfl,rfl,rfl,by simp[Go.Sort.grow,World.drewN],λi hi=>by simp[Go.Sort.grow,World.drewN,Array.getElem?_append,hi]⟩
 generalize Go.Sort.grow (w.drewN j) os=w1 at hb ⊢;have h2:=h.below hb;have m2:=(Mv.refl qb w v).below hb;clear hI h;go_wp2_with (go_at_call 96;refine(IB wB qb w1 v l 2 (UU k) h2 hl).mono ?_;rintro e w3 ⟨rfl,v3,h3,m3⟩);go_end0;exact⟨rfl,v3,h3,m2.trans m3⟩
def SP.JM{wB:World}(hT:fQ wB){qb:Nat}{w0 w:World}{v0:Value}{l:List Tk}{rv}(S:SP wB qb w0 v0 w l rv)(k:Int)(h0 : -9223372036854775808<=k)(h1:k<=9223372036854775807)(hl:l.length+1<=fG):AAA 106 #[pq qb,k] w λe w'=>e=.returned (.tuple #[])/\SP wB qb w0 v0 w' (l++[Nm k]) rv:=
 S.call λv h=>anO wB hT qb w v l k h0 h1 h hl
def asX(s:dL)(w:World):AAA 104 #[s] w λe w'=>e=.returned (.int .i64 (Px.level s))/\iY w w':=by
 have HL:=aN (show Px.level s=wU s 6 from rfl);go_in;go_upto_block 1 with fail;refine(zJ w).mono ?_;rintro e w1 ⟨⟨v0,v1,v2,v3,v4,v5,rfl,h0,h1,h2,h3,h4,h5⟩,hb⟩;go_wp2_with fail
 go_loopg [6] 6 (λg t wr=>∃ k:Nat,t=.int .i64 k/\k<=6/\g=6 - k/\wr=w1/\Px.level s=wU s (6 - k))
 case atStart=>exact⟨0,rfl,aS _,rfl,rfl,HL.out⟩
 case round=>
  obtain⟨k,rfl,hk,hg,rfl,hl⟩:=hrel;have HG:=aN hg;have HK:=aN hl;clear hg hl HL
  by_cases hlt:k<6
  ·obtain⟨v,hs,hi⟩:=apC k hlt v0 v1 v2 v3 v4 v5 wr h0 h1 h2 h3 h4 h5;have hol:=XX k hlt;have x1:(k:Int)<6:=by omega
   have hC:=Ae v (hY k) s wr hs aB;have he:wU s (6 - k)=if eH s (hY k)then(k:Int)else wU s (6 - (k+1)):=by
    rw[show 6 - k=(5 - k)+1 from by omega];unfold wU;rw[show 5 - (5 - k)=k from by omega]
    split
    ·rfl
    ·rw[show 6 - (k+1)=5 - k from by omega]
     cases 5 - k<;>rfl
   rw[he]at HK;clear he h0 h1 h2 h3 h4 h5 hs hol
   cases hm:eH s (hY k) with
   | true=>
    rw[hm]at hC;have HK2:=aN (show Px.level s=k by rw[HK.out,hm];rfl);clear HK hm;go_wp2_with (go_at_call 30;refine hC.mono ?_;rintro e w2 ⟨rfl,rfl⟩);go_ret;exact⟨by rw[HK2.out];rfl,hb⟩
   | false=>
    rw[hm]at hC;have HK2:=aN (show Px.level s=wU s (6 - (k+1))by rw[HK.out,hm];rfl);clear HK hm;go_wp2_with (go_at_call 30;refine hC.mono ?_;rintro e w2 ⟨rfl,rfl⟩)
    go_roundg (6 - (k+1))
    case measure=>rw[HG.out];omega
    case rel=>exact⟨k+1,by go_num,hlt,rfl,rfl,HK2.out⟩
  ·have x1:¬ (k:Int)<6:=by omega
   have HK2:=aN (show Px.level s = -1 by rw[HK.out,show 6 - k=0 from by omega];rfl);clear HK;go_wp2_with fail;go_ret;exact⟨by rw[HK2.out];rfl,hb⟩
def Tr(wB:World)(t:T)(us:List Value):Prop:=iB (λ_=>True) wB t us
def iB.form{av:Nat->Prop}{w:World}{t:T}{us:List Value}(h:iB av w t us):∃ ao c,us=vT t.kind t.n t.at_ t.word ao t.l.length c/\(t.l≠[]->∃ b off vs,ao=some ⟨b,off,none⟩/\av b/\b<w.heap.size/\dO av w t.l vs/\∀ i u,vs[i]?=some u->w.cell? (AAF b (off+i))=some u):=by
 obtain⟨k,n,a,s,l⟩:=t;unfold iB at h;obtain⟨ao,c,e,h,-⟩:=h;exact⟨ao,c,e,h⟩
theorem iB.cap{av:Nat->Prop}{w:World}{t:T}{k n a:Int}{s:dL}{ao:iD}{m c:Nat}(h:iB av w t (vT k n a s ao m c)):m<=c:=by
 obtain⟨k0,n0,a0,s0,l⟩:=t;unfold iB vT at h;obtain⟨ao',cap,e,_,hcap⟩:=h;simp only[fL,vE,vD,dZ,mM,fD]at e
 obtain⟨_,_,_,_,_,rfl,rfl⟩:=e;exact hcap
def dO.get{av:Nat->Prop}{w:World}:∀ {l:List T} {vs:List Value},dO av w l vs->∀ (i:Nat) (hi:i<l.length),∃ us,iB av w (l[i]'hi) us/\∀ (j:Nat) u,us[j]?=some u->vs[i*5+j]?=some u:=by
 intro l
 induction l with
 | nil=>intro vs _ i hi;exact absurd hi aI
 | cons t r ih=>
  intro vs h i hi;unfold dO at h;obtain⟨u1,u2,rfl,h1,h2⟩:=h;have h5:=h1.len
  cases i with
  | zero=>
   refine⟨u1,h1,λj u hu=>?_⟩;rw[Da,dT,Gc (lS.1 hu).1];exact hu
  | succ i=>
   obtain⟨us,g1,g2⟩:=ih h2 i wK;refine⟨us,g1,λj u hu=>?_⟩;rw[Ad aB,<- g2 j u hu]
   congr 1;omega
def Tr.elem{wB:World}{l:List T}{vs:List Value}(h:dO (λ_=>True) wB l vs){w:World}{b off:Nat}(hc:∀ i u,vs[i]?=some u->w.cell? (AAF b (off+i))=some u)(i:Nat)(hi:i<l.length):∃ k n a s ao m c,Tr wB (l[i]'hi) (vT k n a s ao m c)/\w.cell? (AAF b (off+i*5))=some (.int .i64 k)/\w.cell? (AAF b (off+i*5+1))=some (.int .i64 n)/\w.cell? (AAF b (off+i*5+2))=some (.int .i64 a)/\w.cell? (AAF b (off+i*5+3))=some (.string s)/\w.cell? (AAF b (off+i*5+4))=some (.slice ao m c):=by
 obtain⟨us,g1,g2⟩:=h.get i hi;obtain⟨ao,c,rfl,_⟩:=g1.form;refine⟨_,_,_,_,ao,_,c,g1,?_,?_,?_,?_,?_⟩
 ·exact hc _ _ (g2 0 _ rfl)
 ·rw[gJ];exact hc _ _ (g2 1 _ rfl)
 ·rw[gJ];exact hc _ _ (g2 2 _ rfl)
 ·rw[gJ];exact hc _ _ (g2 3 _ rfl)
 ·rw[gJ];exact hc _ _ (g2 4 _ rfl)
theorem Tr.none(wB:World):Tr wB none_ (vT 10 0 0 ⟨#[]⟩ none 0 0):=iB.leaf _ _ _ _ _ _ _
def aAT(l:List T)(i:Nat)(hi:i<l.length):Px.part l i=l[i]'hi:=by
 unfold Px.part;rw[dH,dQ hi];rfl
def ayV(l:List T)(i:Nat)(hi:l.length<=i):Px.part l i=none_:=by
 unfold Px.part;rw[dH,tB hi];rfl
def Zl(wB w:World)(low:iY wB w)(t:T)(k n a:Int)(s:dL)(ao:iD)(m c:Nat)(ht:Tr wB t (vT k n a s ao m c))(i:Nat):AAA 101 #[tg k n a s ao m c,i] w λe w'=>(∃ k' n' a' s' ao' m' c',e=.returned (tg k' n' a' s' ao' m' c')/\Tr wB (Px.part t.l i) (vT k' n' a' s' ao' m' c'))/\iY w w':=by
 obtain⟨ao',c',e,hl⟩:=ht.form;unfold vT at e;simp only[fL,vE,vD,dZ,mM,fD]at e
 obtain⟨rfl,rfl,rfl,rfl,rfl,rfl,rfl⟩:=e;go_in;go_upto_region 1 with fail;have t0:=TV.new w (iq t.kind) (iq t.n) (iq t.at_) (.string t.word) (.slice ao t.l.length c);have b0:=aJ w (.cells (tg t.kind t.n t.at_ t.word ao t.l.length c) 24);have hz:(w.alloc (.cells (tg t.kind t.n t.at_ t.word ao t.l.length c) 24)).heap.size=w.heap.size+1:=by simp
 generalize World.alloc w _=w1 at t0 b0 hz ⊢;have t1:=TV.new w1 (iq 0) (iq 0) (iq 0) (.string ⟨#[]⟩) (.slice none 0 0);rw[hz]at t1;have b1:=aJ w1 (.cells sZ 24);replace t0:=t0.below b1;have B1:=b0.trans (b1.mono b0.size);have hs1:w.heap.size<=w.heap.size+1:=bU _;clear hz;generalize World.alloc w1 _=w2 at t0 t1 b1 B1 ⊢;have:=AAD t0
 by_cases hi:i<t.l.length
 ·have hi':¬ (t.l.length:Int)<=(i:Int):=by omega
  obtain⟨b,off,vs,rfl,_,hlt,hT,hu⟩:=hl DE;have hbw:b<w.heap.size:=gH hlt low.size;have hcw:∀ j u,vs[j]?=some u->w2.cell? (AAF b (off+j))=some u:=λj u h=>(B1.cell (p:=(AAF b (off+j))) hbw).trans ((low.cell (p:=(AAF b (off+j))) hlt).trans (hu j u h))
  obtain⟨k',n',a',s',ao',m',c',hT',d0,d1,d2,d3,d4⟩:=Tr.elem hT hcw i hi;rw[<- aAT t.l i hi]at hT';have x1:(i:Int)<(t.l.length:Int):=by omega
  clear hu hcw hT hl;have:=AAD t1;go_wp2_with fail;refine nX (t1.set _ _ _ _ _) Tryz.results101 ?_;exact⟨⟨k',n',a',s',ao',m',c',rfl,hT'⟩,jH B1 hs1 _ _ _ _ _⟩
 ·have hi':(t.l.length:Int)<=(i:Int):=by omega
  clear hl;go_wp2_with (go_at_call 88;refine(aeC _).mono ?_;rintro e w3 ⟨rfl,hb3⟩;have t3:=t1.below hb3;have:=AAD t3);refine nX (t3.set _ _ _ _ _) Tryz.results101 ?_;exact⟨⟨10,0,0,⟨#[]⟩,none,0,0,rfl,by rw[ayV _ _ aB];exact Tr.none wB⟩,jH (B1.trans (hb3.mono B1.size)) hs1 _ _ _ _ _⟩
end
