/- Part 15. -/
import Derived.Test.YtikalomcclefiaaGreatDoorV08
import Derived.Test.YtikalomcclefiaaGreatDoorV10
set_option linter.all false
set_option maxHeartbeats 0
set_option maxRecDepth 100000
namespace Go.Proofs.YtikalomcclefiaaGreatDoor
section
open Go.RowKit Lx Px
def Tryz.amP: Go.Shelf.Ren:=⟨λ|29=>31|31=>30|n=>n,λ|22=>62|23=>9|4=>4|3=>3|0=>0|n=>n,λ|n=>n⟩
def Tryz.Es: Go.Proofs.SlLaysE.n31 Tryz.prog Tryz.amP:={
 mixed:=by kernel_rfl
 f29:=⟨Tryz.f31.name,by decide,Tryz.func31.trans (congrArg some aQ)⟩
 f31:=⟨Tryz.f30.name,by decide,Tryz.func30.trans (congrArg some aQ)⟩
 t0:=Tryz.underlying0
 a0:=Tryz.isAgg0
 z0:=Tryz.sizeOf0
 v0:=Tryz.zeroValue0
 t3:=Tryz.underlying3
 a3:=Tryz.isAgg3
 z3:=Tryz.sizeOf3
 v3:=Tryz.zeroValue3
 t4:=Tryz.underlying4
 a4:=Tryz.isAgg4
 z4:=Tryz.sizeOf4
 v4:=Tryz.zeroValue4
 t22:=Tryz.underlying62
 a22:=Tryz.isAgg62
 z22:=Tryz.sizeOf62
 v22:=Tryz.zeroValue62
 a23:=Tryz.isAgg9
 z23:=Tryz.sizeOf9 }
def fM(w:World)(v:Value)(ss:List ByteArray):Prop:=∃ b off cap,v=.slice (some (b,off)) ss.length cap/\b<w.heap.size/\∀ j,j<ss.length->w.cell? (b,off+j)=some (.string ss[j]!)
def aCk(s:AAE)(ss:List ByteArray):(ss.any λy=>s.toList==y.toList)=eH s ss:=by
 unfold eH
 congr 1
 funext y
 rw[nS,kW,KS,sH,sH];obtain⟨⟨x⟩⟩:=s;obtain⟨⟨z⟩⟩:=y
 simp[eq_comm]
def Ae(v:Value)(ss:List ByteArray)(s:AAE)(w:World)(h:fM w v ss)(hl:ss.length<=9223372036854775807):AAA 30 #[v,.string s] w λe w'=>e=.returned (.bool (eH s ss))/\w'=w:=by
 obtain⟨b,off,cap,rfl,_,hc⟩:=h;refine(AnyE.slices_Contains Tryz.Es Value.string (λx y=>x.toList==y.toList) (EqlAt.string Tryz.prog 9) b off ss.length cap ss s w (aG _) hl hc).mono ?_;rintro e w' ⟨rfl,rfl⟩;rw[jP,aCk];exact⟨rfl,rfl⟩
def T3.tk(t:T3):Tk:=⟨t.kind,t.text⟩
def Psr(w:World)(pb:Nat)(lv:Value)(i:Nat):Prop:=w.heap[pb]?=some (.cells #[lv,.int .i64 i] 115 (0,0))
structure PS (w:World) (pb:Nat) (L:List T3) (i:Nat):Prop where
 blk:∃ ao cap,Psr w pb (.slice ao L.length cap) i/\(L≠[]->∃ b off,ao=some ⟨b,off,none⟩/\b<w.heap.size/\b<pb/\∀ j,j<L.length->∀ i u,(Bh L[j]!)[i]?=some u->w.cell? (b,off+j*3+i)=some u)
 le:i<=L.length
 bd:L.length<=1000000
def bS{w w':World}(r:Option Nat)(h:Below w.heap.size w w'):w.grownBy w' r:=⟨h.os,h.tape,h.output,h.size,λk hk _=>h.block k hk⟩
def PS.lt{w:World}{pb:Nat}{L:List T3}{i:Nat}(h:PS w pb L i):pb<w.heap.size:=by
 obtain⟨ao,cap,hb,_⟩:=h.blk;exact(aX.1 hb).1
section
variable{w w':World}{pb:Nat}{L:List T3}{i:Nat}(h:PS w pb L i)
include w w' pb L i h
theorem PS.below(hb:Below w.heap.size w w'):PS w' pb L i:=by
 obtain⟨ao,cap,h1,h2⟩:=h.blk;refine⟨⟨ao,cap,(hb.block pb h.lt).trans h1,λhne=>?_⟩,h.le,h.bd⟩;obtain⟨b,off,e,hlt,hn,hc⟩:=h2 hne;exact⟨b,off,e,gH hlt hb.size,hn,λj hj i u hu=>(hb.cell (p:=(b,off+j*3+i)) hlt).trans (hc j hj i u hu)⟩
theorem PS.aJp(hs:w.heap.size<=w'.heap.size)(hb:∀ k,k<=pb->w'.heap[k]?=w.heap[k]?):PS w' pb L i:=by
 obtain⟨ao,cap,h1,h2⟩:=h.blk;refine⟨⟨ao,cap,(hb pb (aG _)).trans h1,λhne=>?_⟩,h.le,h.bd⟩;obtain⟨b,off,e,hlt,hn,hc⟩:=h2 hne;exact⟨b,off,e,gH hlt hs,hn,λj hj i u hu=>(tR (a:=(b,off+j*3+i)) (hb b (iH hn))).trans (hc j hj i u hu)⟩
end
theorem PS.drewN{w:World}{pb:Nat}{L:List T3}{i:Nat}(h:PS w pb L i)(n:Nat):PS (w.drewN n) pb L i:=⟨h.blk,h.le,h.bd⟩
def PS.set{w:World}{pb:Nat}{L:List T3}{i:Nat}(h:PS w pb L i)(j:Nat)(hj:j<=L.length):PS (w.setCell (AAF pb 1) (.int .i64 j)) pb L j:=by
 obtain⟨ao,cap,h1,h2⟩:=h.blk;refine⟨⟨ao,cap,?_,λhne=>?_⟩,hj,h.bd⟩
 ·unfold Psr at *; simp[World.setCell,pK,h1]
 ·obtain⟨b,off,e,hlt,hn,hc⟩:=h2 hne;refine⟨b,off,e,by simpa[World.setCell]using hlt,hn,λj hj i u hu=>?_⟩;rw[kY _ _ _ _ dW];exact hc j hj i u hu
def mN(w:World)(pb j:Nat)(v:Value):w.grownBy (w.setCell (pb,j) v) (some pb):=
 ⟨rfl,rfl,rfl,by simp[World.setCell],λk _ hk=>dJ _ _ _ _ (λe=>hk (by simp[e]))⟩
def WZ{L:List T3}{j:Nat}(h:j<L.length):tok (L.map T3.tk) j=⟨L[j]!.kind,L[j]!.text⟩:=by
 unfold Px.tok;rw[dH,lV,dQ h]
 simp[T3.tk,tC,dQ h]
def Mb{L:List T3}{j:Nat}(h:L.length<=j):tok (L.map T3.tk) j=⟨0,e0⟩:=by
 unfold Px.tok;rw[dH,lV,tB h];rfl
def fS(pb:Nat)(L:List T3)(i a:Nat)(ha:a<=9)(w:World)(h:PS w pb L i):AAA 113 #[.pointer (some (AAF pb 0)),.int .i64 a] w λe w'=>(∃ p:Int,e=.returned (.agg #[.int .i64 (tok (L.map T3.tk) (i+a)).kind,.string (tok (L.map T3.tk) (i+a)).text,.int .i64 p]))/\Below w.heap.size w w':=by
 have hle:=h.le;have hbd:=h.bd;go_in;go_upto_block 0 with fail;have b1:=aJ w (.cells #[.int .i64 0,.string ⟨#[]⟩,.int .i64 0] 47);have n1:=aP w (.cells #[.int .i64 0,.string ⟨#[]⟩,.int .i64 0] 47);generalize w.alloc (.cells #[.int .i64 0,.string ⟨#[]⟩,.int .i64 0] 47)=w1 at b1 n1 ⊢;obtain⟨ao,cap,h1,h2⟩:=h.blk;have hpl:=h.lt;have hpb:w.heap.size≠pb:=by omega
 replace h1:=(b1.block pb hpl).trans h1;have k0:=aK w1 pb 0 _ _ _ h1;have k1:=aK w1 pb 1 _ _ _ h1;have q0:w1.cell? (AAF w.heap.size 0)=some (.int .i64 0):=aK w1 w.heap.size 0 _ _ _ n1;have q1:w1.cell? (AAF w.heap.size 1)=some (.string ⟨#[]⟩):=aK w1 w.heap.size 1 _ _ _ n1;have q2:w1.cell? (AAF w.heap.size 2)=some (.int .i64 0):=aK w1 w.heap.size 2 _ _ _ n1;have f0:=aY n1 0;have f1:=aY n1 1;have f2:=aY n1 2
 by_cases hin:i+a<L.length
 ·obtain⟨b,off,rfl,hlt,hn,hc⟩:=h2 (by intro e;rw[e]at hin;simp at hin);have hlt':¬ ((L.length:Int)<=(i:Int)+a):=by omega
  have c0:=hc (i+a) hin 0 _ rfl;have c1:=hc (i+a) hin 1 _ rfl;have c2:=hc (i+a) hin 2 _ rfl;rw[lE]at c0;have htk:=WZ hin;generalize hk:L[i+a]!.kind=tk at c0 htk;generalize ht:L[i+a]!.text=tt at c1 htk;have HTK:=aM htk;clear htk hk ht;generalize L[i+a]!.at_=tp at c2;have hbn:w.heap.size≠b:=by omega
  replace c0:=(b1.cell (p:=(b,off+(i+a)*3)) hlt).trans c0;replace c1:=(b1.cell (p:=(b,off+(i+a)*3+1)) hlt).trans c1;replace c2:=(b1.cell (p:=(b,off+(i+a)*3+2)) hlt).trans c2;clear h2 h1 h hc n1
  go_quiet (fail)
  go_wp2_with fail;have hnb:off+(i+a)*3=off+((i:Int)+a).toNat*3:=by congr 2
  rw[hnb]at c0 c1 c2;clear hnb;replace k0:(w1.drewN nq).cell? _=_:=k0;replace k1:(w1.drewN nq).cell? _=_:=k1;replace c0:(w1.drewN nq).cell? _=_:=c0;replace c1:(w1.drewN nq).cell? _=_:=c1;replace c2:(w1.drewN nq).cell? _=_:=c2;replace q0:(w1.drewN nq).cell? _=_:=q0;replace q1:(w1.drewN nq).cell? _=_:=q1;replace q2:(w1.drewN nq).cell? _=_:=q2;replace f0:(w1.drewN nq).frozen? _=_:=f0;replace f1:(w1.drewN nq).frozen? _=_:=f1;replace f2:(w1.drewN nq).frozen? _=_:=f2;have b2:=below_drewN b1 nq;have hwr:IntKind.i64.wrap ((i:Int)+a)=(i:Int)+a:=iV _ aB;have hge:(0:Int)<=(i:Int)+a:=by omega
  have hlt2:(i:Int)+a<(L.length:Int):=by omega
  generalize w1.drewN nq=w2 at k0 k1 c0 c1 c2 q0 q1 q2 f0 f1 f2 b2 ⊢
  go_region_held3 (λw'=>w'.cell? (AAF pb 0)=some (.slice (some (b,off)) L.length cap)/\w'.cell? (AAF pb 1)=some (.int .i64 i)/\w'.cell? (b,off+((i:Int)+a).toNat*3)=some (.int .i64 tk)/\w'.cell? (b,off+((i:Int)+a).toNat*3+1)=some (.string tt)/\w'.cell? (b,off+((i:Int)+a).toNat*3+2)=some (.int .i64 tp)) (first|exact⟨k0,k1,c0,c1,c2⟩|exact⟨(Wx hpb _ _ _ _ _).trans k0,(Wx hpb _ _ _ _ _).trans k1,(Wx hbn _ _ _ _ _).trans c0,(Wx hbn _ _ _ _ _).trans c1,(Wx hbn _ _ _ _ _).trans c2⟩) (first|fail)
  go_wp2_with fail;refine iW (v:=.agg #[.int .i64 tk,.string tt,.int .i64 tp]) Rc rfl ⟨⟨tp,?_⟩,?_⟩
  ·rw[HTK.out]
  ·exact(qU b2 _ _ _).drew
 ·have hlt':(L.length:Int)<=(i:Int)+a:=by omega
  have hwr:IntKind.i64.wrap ((i:Int)+a)=(i:Int)+a:=iV _ aB;have htk:=aM (Mb (L:=L) (j:=i+a) aB);clear h2 h1 h n1
  go_quiet (fail)
  go_wp2_with fail;refine iW (v:=.agg #[.int .i64 0,.string ⟨#[]⟩,.int .i64 0]) Rc rfl ⟨⟨0,?_⟩,?_⟩
  ·rw[htk.out];rfl
  ·exact qU (below_drewN b1 _) _ _ _
abbrev lk(L:List T3):List Tk:=L.map T3.tk
def fM.below{w w':World}{v:Value}{ss:List ByteArray}(h:fM w v ss)(hb:Below w.heap.size w w'):fM w' v ss:=by
 obtain⟨b,off,cap,e,hl,hc⟩:=h;exact⟨b,off,cap,e,gH hl hb.size,λj hj=>(hb.cell (p:=(b,off+j)) hl).trans (hc j hj)⟩
def MU{w w1:World}(h:Below w.heap.size w w1)(o:Obj):Below w.heap.size w (w1.alloc o):=h.trans ((aJ w1 o).mono h.size)
def EN(pb:Nat)(L:List T3)(i a:Nat)(ha:a<=9)(v:Value)(ss:List ByteArray)(hl:ss.length<=1000)(w:World)(h:PS w pb L i)(hs:fM w v ss):AAA 112 #[.pointer (some (AAF pb 0)),.int .i64 a,v] w λe w'=>e=.returned (.bool (cD (lk L) (i+a) ss))/\Below w.heap.size w w':=by
 go_in;go_upto_region 2 with (go_at_call 113;refine(fS pb L i a ha _ h).mono ?_;rintro e w1 ⟨⟨p,rfl⟩,hb⟩);have s1:=hs.below hb;have s2:=s1.below (aJ w1 (.cells #[.int .i64 (tok (lk L) (i+a)).kind,.string (tok (lk L) (i+a)).text,.int .i64 p] 47));have n2:=aP w1 (.cells #[.int .i64 (tok (lk L) (i+a)).kind,.string (tok (lk L) (i+a)).text,.int .i64 p] 47);have b2:=MU hb (.cells #[.int .i64 (tok (lk L) (i+a)).kind,.string (tok (lk L) (i+a)).text,.int .i64 p] 47);generalize w1.alloc (.cells #[.int .i64 (tok (lk L) (i+a)).kind,.string (tok (lk L) (i+a)).text,.int .i64 p] 47)=w2 at s2 n2 b2 ⊢;have k0:w2.cell? (AAF w1.heap.size 0)=some (.int .i64 (tok (lk L) (i+a)).kind):=aK w2 _ 0 _ _ _ n2;have k1:w2.cell? (AAF w1.heap.size 1)=some (.string (tok (lk L) (i+a)).text):=aK w2 _ 1 _ _ _ n2;have hq:∀ t:Tk,t=tok (lk L) (i+a)->cD (lk L) (i+a) ss=(t.kind==6&&eH t.text ss):=λt e=>by rw[e];rfl
 generalize tok (lk L) (i+a)=t at k0 k1 hq;have HQ:=hq t rfl;clear hq n2 s1 h hs hb
 by_cases hk:t.kind=6
 ·exact Pz
 exact QO
def Ew(pb:Nat)(L:List T3)(i:Nat)(v:Value)(ss:List ByteArray)(hl:ss.length<=1000)(w:World)(h:PS w pb L i)(hs:fM w v ss):AAA 143 #[.pointer (some (AAF pb 0)),v] w λe w'=>e=.returned (.bool (iT (lk L) i ss))/\Below w.heap.size w w':=by
 go_in;go_upto_region 2 with (go_at_call 113;refine(fS pb L i 0 aD _ h).mono ?_;rintro e w1 ⟨⟨p,rfl⟩,hb⟩);have s1:=hs.below hb;have s2:=s1.below (aJ w1 (.cells #[.int .i64 (tok (lk L) (i+0)).kind,.string (tok (lk L) (i+0)).text,.int .i64 p] 47));have n2:=aP w1 (.cells #[.int .i64 (tok (lk L) (i+0)).kind,.string (tok (lk L) (i+0)).text,.int .i64 p] 47);have b2:=MU hb (.cells #[.int .i64 (tok (lk L) (i+0)).kind,.string (tok (lk L) (i+0)).text,.int .i64 p] 47);generalize w1.alloc (.cells #[.int .i64 (tok (lk L) (i+0)).kind,.string (tok (lk L) (i+0)).text,.int .i64 p] 47)=w2 at s2 n2 b2 ⊢;have k0:w2.cell? (AAF w1.heap.size 0)=some (.int .i64 (tok (lk L) (i+0)).kind):=aK w2 _ 0 _ _ _ n2;have k1:w2.cell? (AAF w1.heap.size 1)=some (.string (tok (lk L) (i+0)).text):=aK w2 _ 1 _ _ _ n2;have hq:∀ t:Tk,t=tok (lk L) (i+0)->iT (lk L) i ss=(t.kind==1&&eH t.text ss):=λt e=>by rw[e];rfl
 generalize tok (lk L) (i+0)=t at k0 k1 hq;have HQ:=hq t rfl;clear hq n2 s1 h hs hb
 by_cases hk:t.kind=1
 ·exact Pz
 exact QO
def FO{L:List T3}{i:Nat}(h:(tok (lk L) i).kind≠0):i<L.length:=by
 rcases cY i L.length with h'|h'
 ·exact h'
 ·exact absurd (by rw[Mb h']) h
def zE{L:List T3}{i:Nat}{ss:List ByteArray}(h:cD (lk L) i ss=true):i<L.length:=by
 unfold cD at h;exact Tm
def VD{L:List T3}{i:Nat}{ss:List ByteArray}(h:iT (lk L) i ss=true):i<L.length:=by
 unfold iT at h;exact Tm
def Ok(pb:Nat)(L:List T3)(j:Nat)(w w':World):Prop:=w.grownBy w' (some pb)/\PS w' pb L j
def PS.cells{w:World}{pb:Nat}{L:List T3}{i:Nat}(h:PS w pb L i):w.cell? (AAF pb 1)=some (.int .i64 i)/\w.frozen? (AAF pb 1)=false:=by
 obtain⟨ao,cap,h1,_⟩:=h.blk;exact⟨aK w pb 1 _ _ _ h1,aY h1 1⟩
def fM.new(w:World)(s:AAE):fM (w.alloc (.cells #[.string s] 9)) (.slice (some (AAF w.heap.size 0)) 1 1) [s]:=by
 refine⟨_,0,1,rfl,by simp,λj hj=>?_⟩;obtain rfl:j=0:=by simpa using hj
 exact aK _ _ 0 _ _ _ (aP w _)
def adv(b:Bool)(i:Nat):Nat:=cond b (i+1) i
def yJ(pb:Nat)(L:List T3)(i:Nat)(s:AAE)(w:World)(h:PS w pb L i):AAA 123 #[.pointer (some (AAF pb 0)),.string s] w λe w'=>e=.returned (.bool (cD (lk L) i [s]))/\Ok pb L (adv (cD (lk L) i [s]) i) w w':=by
 go_in;go_upto_block 1 with fail;refine(EN pb L i 0 aD _ [s] aI _ (h.below (aJ w _)) (fM.new w s)).mono ?_;rintro e w1 ⟨rfl,hb⟩;have b1:=eU _ _ _ hb;have h1:=h.below b1;have b1:=bS (some pb) b1;obtain⟨k1,f1⟩:=h1.cells;have hle:=h.le;have hbd:=h.bd;rw[lE]
 cases hq:cD (lk L) i [s] with
 | true=>
  have hlt:=zE hq;exact Rz
 | false=>
  exact Qb
def Mx(pb:Nat)(L:List T3)(i:Nat)(v:Value)(ss:List ByteArray)(hl:ss.length<=1000)(w:World)(h:PS w pb L i)(hs:fM w v ss):AAA 124 #[.pointer (some (AAF pb 0)),v] w λe w'=>e=.returned (.bool (iT (lk L) i ss))/\Ok pb L (adv (iT (lk L) i ss) i) w w':=by
 go_in;go_upto_block 1 with fail;refine(Ew pb L i v ss hl _ h hs).mono ?_;rintro e w1 ⟨rfl,hb⟩;have h1:=h.below hb;have b1:=bS (some pb) hb;obtain⟨k1,f1⟩:=h1.cells;have hle:=h.le;have hbd:=h.bd
 cases hq:iT (lk L) i ss with
 | true=>
  have hlt:=VD hq;exact Rz
 | false=>
  exact Qb
def gM(a:Nat):Ending:=.panicked [{ v:=.iface 113 (.agg #[.int .i64 a]),recovered:=false }]
def Jk(pb:Nat)(L:List T3)(i:Nat)(w:World)(h:PS w pb L i):AAA 76 #[.pointer (some (AAF pb 0))] w λe w'=>e=gM i/\w'=w:=by
 obtain⟨k1,_⟩:=h.cells;exact SW
theorem Ok.trans{pb:Nat}{L:List T3}{j k:Nat}{a b c:World}(h:Ok pb L j a b)(g:Ok pb L k b c):Ok pb L k a c:=⟨h.1.trans g.1,g.2⟩
def Ao(pb:Nat)(L:List T3)(w:World)(r:R Unit)(e:Ending)(w':World):Prop:=match r with
 | .ok (_,j)=>e=.returned (.tuple #[])/\Ok pb L j w w'
 | .error a=>e=gM a/\w.grownBy w' (some pb)
theorem Ao.ok{pb:Nat}{L:List T3}{w w':World}{r:R Unit}{j:Nat}(h:r=.ok ((),j))(k:Ok pb L j w w'):Ao pb L w r (.returned (.tuple #[])) w':=by rw[h];exact⟨rfl,k⟩
def Ao.err{pb:Nat}{L:List T3}{w w':World}{r:R Unit}(a:Nat)(h:r=.error a)(k:w.grownBy w' (some pb)):Ao pb L w r (gM a) w':=by rw[h];exact⟨rfl,k⟩
def Wa(pb:Nat)(L:List T3)(i:Nat)(s:AAE)(w:World)(h:PS w pb L i):AAA 86 #[.pointer (some (AAF pb 0)),.string s] w (Ao pb L w (aW (lk L) i s)):=by
 go_in;go_upto_block 0 with fail;refine(yJ pb L i s _ h).mono ?_;rintro e w1 ⟨rfl,h1⟩
 cases hq:cD (lk L) i [s] with
 | true=>
  rw[hq]at h1;go_wp2_with fail;go_end0;exact .ok (by unfold aW;rw[hq];rfl) h1
 | false=>
  rw[hq]at h1;go_upto_block 1 with fail;refine(Jk pb L i _ h1.2).mono ?_;rintro e w2 ⟨rfl,rfl⟩;unfold gM;go_wp2_with fail;exact⟨rfl,Ao.err (r:=aW (lk L) i s) i (by unfold aW;rw[hq];rfl) h1.1⟩
def ZK(pb:Nat)(L:List T3)(i:Nat)(v:Value)(ss:List ByteArray)(hl:ss.length<=1000)(w:World)(h:PS w pb L i)(hs:fM w v ss):AAA 89 #[.pointer (some (AAF pb 0)),v] w (Ao pb L w (fV (lk L) i ss)):=by
 go_in;go_upto_block 0 with fail;refine(Mx pb L i v ss hl _ h hs).mono ?_;rintro e w1 ⟨rfl,h1⟩
 cases hq:iT (lk L) i ss with
 | true=>
  rw[hq]at h1;go_wp2_with fail;go_end0;exact .ok (by unfold fV;rw[hq];rfl) h1
 | false=>
  rw[hq]at h1;go_upto_block 1 with fail;refine(Jk pb L i _ h1.2).mono ?_;rintro e w2 ⟨rfl,rfl⟩;unfold gM;go_wp2_with fail;exact⟨rfl,Ao.err (r:=fV (lk L) i ss) i (by unfold fV;rw[hq];rfl) h1.1⟩
end
section
structure TGq where
 (k n a:Int) (s:AAE) (o:Option Addr) (m c:Nat)
def tg(k n a:Int)(s:AAE)(o:Option Addr)(m c:Nat):TGq:=⟨k,n,a,s,o,m,c⟩
instance (k n a:Int) (s:AAE) (o:Option Addr) (m c:Nat):CoeDep TGq (tg k n a s o m c) (Array Value):=⟨#[.int .i64 k,.int .i64 n,.int .i64 a,.string s,.slice o m c]⟩
instance (k n a:Int) (s:AAE) (o:Option Addr) (m c:Nat):CoeDep TGq (tg k n a s o m c) (List Value):=⟨[.int .i64 k,.int .i64 n,.int .i64 a,.string s,.slice o m c]⟩
instance (k n a:Int) (s:AAE) (o:Option Addr) (m c:Nat):CoeDep TGq (tg k n a s o m c) Value:=⟨.agg #[.int .i64 k,.int .i64 n,.int .i64 a,.string s,.slice o m c]⟩
structure ZQq where
def sZ: ZQq:=⟨⟩
instance:CoeDep ZQq sZ (Array Value):=⟨#[.int .i64 0,.int .i64 0,.int .i64 0,.string ⟨#[]⟩,.slice none 0 0]⟩
instance:CoeDep ZQq sZ (List Value):=⟨[.int .i64 0,.int .i64 0,.int .i64 0,.string ⟨#[]⟩,.slice none 0 0]⟩
instance:CoeDep ZQq sZ Value:=⟨.agg #[.int .i64 0,.int .i64 0,.int .i64 0,.string ⟨#[]⟩,.slice none 0 0]⟩
structure PQq where
 (b:Nat)
def pq(b:Nat):PQq:=⟨b⟩
instance (b:Nat):CoeDep PQq (pq b) Value:=⟨.pointer (some (AAF b 0))⟩
def aN{p:Prop}(h:p):Go.RowKit.Hid p:=h
def gU{P:Program}{f:FuncId}{args:Array Value}{w:World}{v:Value}{S:World->Prop}{R:Ending->World->Prop}(h:Calls P f args w λe w'=>e=.returned v/\S w')(g:∀ w',S w'->R (.returned v) w'):Calls P f args w R:=h.mono λe w' ⟨he,hs⟩=>he ▸ g w' hs
instance:Coe Int Value:=⟨λk=>.int .i64 k⟩
instance:Coe Nat Value:=⟨λk=>.int .i64 (k:Nat)⟩
instance:Coe ByteArray Value:=⟨λs=>.string s⟩
structure IQq where
 (k:Int)
def iq(k:Int):IQq:=⟨k⟩
instance (k:Int):CoeDep IQq (iq k) Value:=⟨.int .i64 k⟩
abbrev iY(w v:World):Prop:=Go.RowKit.Below w.heap.size w v
abbrev dL:= ByteArray
abbrev iD:= Option Addr
end
section
open Go.RowKit Lx Px
mutual
def iB(av:Nat->Prop)(w:World):T->List Value->Prop
 | .mk k n a s l,us=>∃ ao cap,us=[.int .i64 k,.int .i64 n,.int .i64 a,.string s,.slice ao l.length cap]/\
  (l≠[]->∃ b off vs,ao=some ⟨b,off,none⟩/\av b/\b<w.heap.size/\dO av w l vs/\∀ i u,vs[i]?=some u->w.cell? (b,off+i)=some u)/\l.length<=cap
def dO(av:Nat->Prop)(w:World):List T->List Value->Prop
 | [],vs=>vs=[]
 | t::r,vs=>∃ u1 u2,vs=u1++u2/\iB av w t u1/\dO av w r u2
end
mutual
theorem iB.kept{av av':Nat->Prop}{w w':World}(hav:∀ b,av b->b<w.heap.size->av' b)(hs:w.heap.size<=w'.heap.size)(hb:∀ b,av b->b<w.heap.size->w'.heap[b]?=w.heap[b]?):∀ {t:T} {us:List Value},iB av w t us->iB av' w' t us
 | .mk k n a s l,us,h=>by
  unfold iB at h ⊢;obtain⟨ao,cap,e,h,hcap⟩:=h;refine⟨ao,cap,e,λhne=>?_,hcap⟩;obtain⟨b,off,vs,e,hv,hl,hc,hu⟩:=h hne;exact⟨b,off,vs,e,hav b hv hl,gH hl hs,dO.kept hav hs hb hc,λi u hi=>(tR (a:=(b,off+i)) (hb b hv hl)).trans (hu i u hi)⟩
theorem dO.kept{av av':Nat->Prop}{w w':World}(hav:∀ b,av b->b<w.heap.size->av' b)(hs:w.heap.size<=w'.heap.size)(hb:∀ b,av b->b<w.heap.size->w'.heap[b]?=w.heap[b]?):∀ {l:List T} {us:List Value},dO av w l us->dO av' w' l us
 | [],us,h=>by unfold dO at h ⊢; exact h
 | t::r,us,h=>by
  unfold dO at h ⊢;obtain⟨u1,u2,e,h1,h2⟩:=h;exact⟨u1,u2,e,iB.kept hav hs hb h1,dO.kept hav hs hb h2⟩
end
def iB.len{av:Nat->Prop}{w:World}{t:T}{us:List Value}(h:iB av w t us):us.length=5:=by
 obtain⟨k,n,a,s,l⟩:=t;unfold iB at h;obtain⟨ao,cap,e,_⟩:=h;rw[e];rfl
theorem dO.len{av:Nat->Prop}{w:World}:∀ {l:List T} {us:List Value},dO av w l us->us.length=l.length*5:=by
 intro l
 induction l with
 | nil=>intro us h;unfold dO at h;rw[h];rfl
 | cons t r ih=>
  intro us h;unfold dO at h;obtain⟨u1,u2,e,h1,h2⟩:=h;rw[e,aO,h1.len,ih h2,aV];omega
def dO.app{av:Nat->Prop}{w:World}:∀ {l r:List T} {us vs:List Value},dO av w l us->dO av w r vs->dO av w (l++r) (us++vs):=by
 intro l
 induction l with
 | nil=>intro r us vs h k;unfold dO at h;rw[h];exact k
 | cons t l ih=>
  intro r us vs h k;unfold dO at h;obtain⟨u1,u2,e,h1,h2⟩:=h
  show dO av w (t::(l++r)) _
  unfold dO;exact⟨u1,u2++vs,by rw[e,bT],h1,ih h2 k⟩
def dO.one{av:Nat->Prop}{w:World}{t:T}{us:List Value}(h:iB av w t us):dO av w [t] us:=by
 unfold dO;exact⟨us,[],by simp,h,by unfold dO;rfl⟩
def Fr(w:World)(b:Nat):Prop:=w.heap.size<=b
def iB.step{w0 w w':World}{pb:Nat}{t:T}{us:List Value}(h:iB (Fr w0) w t us)(hp:pb<w0.heap.size)(g:w.grownBy w' (some pb)):iB (Fr w0) w' t us:=
 h.kept (λ_ hb _=>hb) g.size (λb hb hl=>g.block b hl (λe=>by cases e;unfold Fr at hb;omega))
def iB.since{w0 w1 w:World}{t:T}{us:List Value}(h:iB (Fr w1) w t us)(hs:w0.heap.size<=w1.heap.size):iB (Fr w0) w t us:=
 h.kept (λ_ hb _=>aZ hs hb) (aG _) (λ_ _ _=>rfl)
def aU(pb:Nat)(L:List T3)(w:World)(r:R T)(e:Ending)(w':World):Prop:=match r with
 | .ok (t,j)=>∃ us,e=.returned (.agg us.toArray)/\iB (Fr w) w' t us/\Ok pb L j w w'
 | .error a=>e=gM a/\w.grownBy w' (some pb)
theorem aU.ok{pb:Nat}{L:List T3}{w w':World}{r:R T}{t:T}{j:Nat}(h:r=.ok (t,j))(us:List Value){v:Value}(hv:v=.agg us.toArray)(ht:iB (Fr w) w' t us)(k:Ok pb L j w w'):aU pb L w r (.returned v) w':=by rw[h,hv];exact⟨us,rfl,ht,k⟩
def aU.err{pb:Nat}{L:List T3}{w w':World}{r:R T}(a:Nat)(h:r=.error a)(k:w.grownBy w' (some pb)):aU pb L w r (gM a) w':=by rw[h];exact⟨rfl,k⟩
def Ey(pb:Nat)(L:List T3)(w:World)(r:R ByteArray)(e:Ending)(w':World):Prop:=match r with
 | .ok (s,j)=>e=.returned (.string s)/\Ok pb L j w w'
 | .error a=>e=gM a/\w.grownBy w' (some pb)
theorem Ey.ok{pb:Nat}{L:List T3}{w w':World}{r:R ByteArray}{s:AAE}{j:Nat}(h:r=.ok (s,j))(k:Ok pb L j w w'):Ey pb L w r (.returned (.string s)) w':=by rw[h];exact⟨rfl,k⟩
def Ey.err{pb:Nat}{L:List T3}{w w':World}{r:R ByteArray}(a:Nat)(h:r=.error a)(k:w.grownBy w' (some pb)):Ey pb L w r (gM a) w':=by rw[h];exact⟨rfl,k⟩
def rM(pb:Nat)(L:List T3)(i:Nat)(w:World)(h:PS w pb L i):AAA 85 #[.pointer (some (AAF pb 0))] w (Ey pb L w (iN (lk L) i)):=by
 go_in;go_upto_region 2 with (go_at_call 113;refine(fS pb L i 0 aD _ h).mono ?_;rintro e w1 ⟨⟨p,rfl⟩,hb⟩);have s2:=h.below (MU hb (.cells #[.int .i64 (tok (lk L) (i+0)).kind,.string (tok (lk L) (i+0)).text,.int .i64 p] 47));have n2:=aP w1 (.cells #[.int .i64 (tok (lk L) (i+0)).kind,.string (tok (lk L) (i+0)).text,.int .i64 p] 47);have b2:=MU hb (.cells #[.int .i64 (tok (lk L) (i+0)).kind,.string (tok (lk L) (i+0)).text,.int .i64 p] 47);generalize w1.alloc (.cells #[.int .i64 (tok (lk L) (i+0)).kind,.string (tok (lk L) (i+0)).text,.int .i64 p] 47)=w2 at s2 n2 b2 ⊢;have k0:w2.cell? (AAF w1.heap.size 0)=some (.int .i64 (tok (lk L) (i+0)).kind):=aK w2 _ 0 _ _ _ n2;have k1:w2.cell? (AAF w1.heap.size 1)=some (.string (tok (lk L) (i+0)).text):=aK w2 _ 1 _ _ _ n2;have hne:pb≠w1.heap.size:=by have:=hb.size;have:=h.lt;omega
 have g2:=bS (some pb) b2;obtain⟨c1,f1⟩:=s2.cells;have hbd:=h.bd;have hle:=h.le
 cases hq:isName (lk L) i with
 | true=>
  have hk:(tok (lk L) (i+0)).kind=1:=by unfold isName at hq;simpa using hq
  have hlt:=FO (L:=L) (i:=i) (by rw[show (tok (lk L) i).kind=1 from hk];decide);have hr:iN (lk L) i=.ok ((tok (lk L) (i+0)).text,i+1):=by unfold iN;rw[aF hq];rfl
  generalize (tok (lk L) (i+0)).text=tx at k1 hr ⊢;rw[hk]at k0;have HR:=aM hr;have k1':(w2.setCell (AAF pb 1) (.int .i64 ((i:Int)+1))).cell? (AAF w1.heap.size 1)=some (.string tx):=(kY _ _ _ _ (by simpa using hne)).trans k1;clear hb h hq n2 hk hr b2;go_wp2_with fail;go_ret;exact .ok HR.out ⟨g2.trans (mN _ _ _ _),s2.set (i+1) aB⟩
 | false=>
  have hk:(tok (lk L) (i+0)).kind≠1:=by unfold isName at hq;simpa using hq
  have hr:iN (lk L) i=.error i:=by unfold iN;rw[aC (by rw[hq];decide)]
  have HR:=aM hr;generalize (tok (lk L) (i+0)).kind=tk at k0 hk;clear hb h hq n2 hr b2;go_upto_block 3 with fail;refine(Jk pb L i _ s2).mono ?_;rintro e w3 ⟨rfl,rfl⟩;unfold gM;go_wp2_with fail;exact⟨rfl,Ey.err i HR.out g2⟩
def axC{B b:Nat}(h:B≠b)(w:World)(j:Nat)(x y z u v:Value):(((((w.setCell (AAF B 0) x).setCell (AAF B 1) y).setCell (AAF B 2) z).setCell (AAF B 3) u).setCell (AAF B 4) v).cell? (b,j)=w.cell? (b,j):=by
 rw[kY _ _ _ _ h,kY _ _ _ _ h,kY _ _ _ _ h,kY _ _ _ _ h,kY _ _ _ _ h]
def Aw{B b:Nat}(h:B≠b)(w:World)(x y z u v:Value):(((((w.setCell (AAF B 0) x).setCell (AAF B 1) y).setCell (AAF B 2) z).setCell (AAF B 3) u).setCell (AAF B 4) v).heap[b]?=w.heap[b]?:=by
 rw[dJ _ _ _ _ (λe=>h e.symm),dJ _ _ _ _ (λe=>h e.symm),dJ _ _ _ _ (λe=>h e.symm),dJ _ _ _ _ (λe=>h e.symm),dJ _ _ _ _ (λe=>h e.symm)]
def jH{N B:Nat}{w0 w:World}(hb:Below N w0 w)(hB:N<=B)(x y z u v:Value):Below N w0 (((((w.setCell (AAF B 0) x).setCell (AAF B 1) y).setCell (AAF B 2) z).setCell (AAF B 3) u).setCell (AAF B 4) v):=
 ((((hb.setCell (p:=(AAF B 0)) hB _).setCell (p:=(AAF B 1)) hB _).setCell (p:=(AAF B 2)) hB _).setCell (p:=(AAF B 3)) hB _).setCell (p:=(AAF B 4)) hB _
def Ok.uQ{pb B j:Nat}{L:List T3}{w w1:World}(h:Ok pb L j w w1)(hp:pb<w.heap.size)(hB:w.heap.size<=B)(x y z u v:Value):Ok pb L j w (((((w1.setCell (AAF B 0) x).setCell (AAF B 1) y).setCell (AAF B 2) z).setCell (AAF B 3) u).setCell (AAF B 4) v):=by
 have hs:=h.1.size;have hb:=jH (bH w.heap.size w1) hB x y z u v;exact⟨⟨hb.os.trans h.1.os,hb.tape.trans h.1.tape,hb.output.trans h.1.output,aZ hs hb.size,λk hk hn=>(Aw aB _ _ _ _ _ _).trans (h.1.block k hk hn)⟩,h.2.aJp hb.size (λk hk=>Aw aB _ _ _ _ _ _)⟩
def Ok.below{pb j:Nat}{L:List T3}{w w0 w1:World}(b:Below w.heap.size w w0)(h:Ok pb L j w0 w1):Ok pb L j w w1:=⟨(bS (some pb) b).trans h.1,h.2⟩
def Ok.then{pb j:Nat}{L:List T3}{w w0 w1:World}(h:Ok pb L j w w0)(b:Below w0.heap.size w0 w1):Ok pb L j w w1:=⟨h.1.trans (bS (some pb) b),h.2.below b⟩
def iB.leaf(av:Nat->Prop)(w:World)(k n a:Int)(s:AAE)(c:Nat):iB av w (.mk k n a s []) [.int .i64 k,.int .i64 n,.int .i64 a,.string s,.slice none 0 c]:=by
 unfold iB;exact⟨none,c,rfl,λh=>absurd rfl h,aS _⟩
def zT: Array Value:=#[.int .i64 0,.int .i64 0,.int .i64 0,.string ⟨#[]⟩,.slice none 0 0]
def TV(w:World)(b:Nat)(x y z u v:Value):Prop:=w.heap[b]?=some (.cells #[x,y,z,u,v] 24 (0,0))
def TV.facts{w:World}{b:Nat}{x y z u v:Value}(h:TV w b x y z u v):w.cell? (AAF b 0)=some x/\w.cell? (AAF b 1)=some y/\w.cell? (AAF b 2)=some z/\w.cell? (AAF b 3)=some u/\w.cell? (AAF b 4)=some v/\w.frozen? (AAF b 0)=false/\w.frozen? (AAF b 1)=false/\w.frozen? (AAF b 2)=false/\w.frozen? (AAF b 3)=false/\w.frozen? (AAF b 4)=false:=
 ⟨aK w b 0 _ _ _ h,aK w b 1 _ _ _ h,aK w b 2 _ _ _ h,aK w b 3 _ _ _ h,aK w b 4 _ _ _ h,aY h 0,aY h 1,aY h 2,aY h 3,aY h 4⟩
def AAD:=@TV.facts
def aIO{P:Program}{fn:Func}{R:Ending->World->Prop}{a:Act}{w:World}{b:Nat}{x y z u v:Value}(t:TV w b x y z u v)(hr:w.cell? (AAF b 0)=some x->w.cell? (AAF b 1)=some y->w.cell? (AAF b 2)=some z->w.cell? (AAF b 3)=some u->w.cell? (AAF b 4)=some v->(results fn a.tmps).run P w=.ok (.agg #[x,y,z,u,v]) w)(hd:a.defers=[])(hR:R (.returned (.agg #[x,y,z,u,v])) w):bodyPost P fn R .ret a w:=
 iW (hr t.facts.1 t.facts.2.1 t.facts.2.2.1 t.facts.2.2.2.1 t.facts.2.2.2.2.1) hd hR
def TV.lt{w:World}{b:Nat}{x y z u v:Value}(h:TV w b x y z u v):b<w.heap.size:=(aX.1 h).1
def TV.new(w:World)(x y z u v:Value):TV (w.alloc (.cells #[x,y,z,u,v] 24)) w.heap.size x y z u v:=aP w _
def tv0(w:World):TV (w.alloc (.cells #[.int .i64 0,.int .i64 0,.int .i64 0,.string ⟨#[]⟩,.slice none 0 0] 24)) w.heap.size (.int .i64 0) (.int .i64 0) (.int .i64 0) (.string ⟨#[]⟩) (.slice none 0 0)/\
 Below w.heap.size w (w.alloc (.cells #[.int .i64 0,.int .i64 0,.int .i64 0,.string ⟨#[]⟩,.slice none 0 0] 24)):=⟨TV.new w _ _ _ _ _,aJ w _⟩
def nX{P:Program}{fn:Func}{R:Ending->World->Prop}{a:Act}{w:World}{b:Nat}{x y z u v:Value}{E:Prop}(t:TV w b x y z u v)(e:E)(hR:R (.returned (.agg #[x,y,z,u,v])) w)
 (hr:E->w.cell? (AAF b 0)=some x->w.cell? (AAF b 1)=some y->w.cell? (AAF b 2)=some z->w.cell? (AAF b 3)=some u->w.cell? (AAF b 4)=some v->(results fn a.tmps).run P w=.ok (.agg #[x,y,z,u,v]) w:=by(intro e q0 q1 q2 q3 q4;simp[results,e,go_sem,q0,q1,q2,q3,q4]))
 (hd:a.defers=[]:=by rfl):bodyPost P fn R .ret a w:=aIO t (hr e) hd hR
def TV.below{w w':World}{b:Nat}{x y z u v:Value}(h:TV w b x y z u v)(hb:Below w.heap.size w w'):TV w' b x y z u v:=(hb.block b h.lt).trans h
def TV.step{w w':World}{pb b:Nat}{x y z u v:Value}(h:TV w b x y z u v)(hn:b≠pb)(g:w.grownBy w' (some pb)):TV w' b x y z u v:=(g.block b h.lt (λe=>hn Dz)).trans h
def TV.set{w:World}{b:Nat}{x y z u v:Value}(h:TV w b x y z u v)(x' y' z' u' v':Value):TV (((((w.setCell (AAF b 0) x').setCell (AAF b 1) y').setCell (AAF b 2) z').setCell (AAF b 3) u').setCell (AAF b 4) v') b x' y' z' u' v':=by
 exact Se
theorem TV.drew{w:World}{b:Nat}{x y z u v:Value}(h:TV w b x y z u v):TV w.drew b x y z u v:=h
theorem Ok.drew{pb j:Nat}{L:List T3}{w w1:World}(h:Ok pb L j w w1):Ok pb L j w w1.drew:=⟨⟨h.1.os,h.1.tape,h.1.output,h.1.size,h.1.block⟩,h.2.drewN 1⟩
def yM(k a:Int)(ao:Option Addr)(n c:Nat)(w:World):AAA 87 #[.int .i64 k,.int .i64 a,.slice ao n c] w λe w'=>e=.returned (.agg #[.int .i64 k,.int .i64 0,.int .i64 a,.string ⟨#[]⟩,.slice ao n c])/\Below w.heap.size w w':=by
 go_in;go_wp2_with fail;refine nX (TV.new w _ _ _ _ _) Tryz.results87 ?_;exact⟨rfl,aJ w _⟩
def aeC(w:World):AAA 88 #[] w λe w'=>e=.returned (.agg #[.int .i64 10,.int .i64 0,.int .i64 0,.string ⟨#[]⟩,.slice none 0 0])/\Below w.heap.size w w':=by
 go_in;go_upto_region 1 with fail;obtain⟨t0,b0⟩:=tv0 w;generalize World.alloc w _=w0 at t0 b0 ⊢;go_wp2_with (go_at_call 87;refine(yM _ _ _ _ _ _).mono ?_;rintro e w1 ⟨rfl,hb⟩;have t1:=t0.below hb;have:=AAD t1);refine nX (t1.set _ _ _ _ _) Tryz.results88 ?_;exact⟨rfl,jH (b0.trans (hb.mono b0.size)) (aG _) _ _ _ _ _⟩
def Ka(pb:Nat)(L:List T3)(i:Nat)(w:World)(h:PS w pb L i):AAA 116 #[.pointer (some (AAF pb 0))] w (aU pb L w (mI (lk L) i)):=by
 go_in;go_upto_region 1 with fail;obtain⟨t0,b0⟩:=tv0 w;generalize World.alloc w _=w0 at t0 b0 ⊢;have h0:=h.below b0;obtain⟨k1,_⟩:=h0.cells;have hN:=rM pb L i w0 h0;have hne:w.heap.size≠pb:=by have:=h.lt;omega
 have hU:mI (lk L) i=aH (iN (lk L) i) λs j=>.ok (.mk 11 0 i s [],j):=rfl
 cases hr:iN (lk L) i with
 | ok sj=>
  obtain⟨s,j⟩:=sj;rw[hr]at hN;go_wp2_with (go_at_call 85;refine hN.mono ?_;rintro e w1 ⟨rfl,h1⟩;have t1:=t0.step hne h1.1;have:=AAD t1);refine nX (t1.set _ _ _ _ _) Tryz.results116 ?_;exact aU.ok (by simp[hU,hr,aH]) _ rfl (iB.leaf _ _ _ _ _ _ _) ((Ok.below b0 h1).uQ h.lt (aG _) _ _ _ _ _)
 | error a=>
  rw[hr]at hN;go_wp2_with (go_at_call 85;refine hN.mono ?_;rintro e w1 ⟨rfl,h1⟩;unfold gM);exact⟨rfl,aU.err a (by simp[hU,hr,aH]) ((bS _ b0).trans h1)⟩
end
