/- Part 19. -/
import Derived.Test.YtikalomcclefiaaGreatDoorV18
set_option linter.all false
set_option maxHeartbeats 0
set_option maxRecDepth 100000
namespace Go.Proofs.YtikalomcclefiaaGreatDoor
section
open Go.RowKit Lx Px
section
variable(pb:Nat)(L:List T3)(i:Nat)
include pb L i
theorem DU(w:World)(h:PS w pb L i):AAA 135 #[pq pb] w λe w'=>e=.returned (.bool (eF (lk L) i))/\iY w w':=by
 have hle:=h.le;have hbd:=h.bd;have hR:=λw (h:PS w pb L i)=>avV pb L i i hle w h
 have HA:=aN (show eF (lk L) i=match gW (lk L) (L.length+1) i with|none=>false|some j=>cD (lk L) j [tV]by unfold eF;rw[bN];cases gW (lk L) (L.length+1) i<;>rfl);obtain⟨c1,_⟩:=h.cells
 cases hr:gW (lk L) (L.length+1) i with
 | none=>
  rw[hr]at hR HA;have hR0:=hR w h;unfold rE at hR0;clear hR hr;go_in;go_wp2_with (go_at_call 149;refine hR0.mono ?_;rintro e w1 ⟨rfl,hb⟩);go_ret;exact⟨eI (by rw[HA.out]),hb⟩
 | some j=>
  rw[hr]at hR HA;have hR0:=hR w h;unfold rE at hR0;clear hR hr;replace HA:=aN (show eF (lk L) i=cD (lk L) j [tV]from HA.out);go_in;go_upto_region 2 with (go_at_call 149;refine hR0.mono ?_;rintro e w1 ⟨rfl,hb⟩);have h1:=h.below hb;clear hR0 h c1
  by_cases hlt:j<L.length
  ·obtain⟨b,off,cap,k0,k1,k2⟩:=h1.kt hlt;have hlt':(j:Int)<(L.length:Int):=by omega
   have hq:∀ t:Tk,t=tok (lk L) j->cD (lk L) j [tV]=(t.kind==6&&eH t.text [tV]):=λt e=>by rw[e];rfl
   generalize tok (lk L) j=t at k1 k2 hq;have HQ:=aN (hq t rfl);clear hq h1
   by_cases hk:t.kind=6
   ·by_cases hs:t.text=⟨#[61]⟩
    ·rw[hs]at k2;rw[hk]at k1;go_wp2_with fail;go_ret;refine⟨eI ?_,hb⟩;rw[HA.out,HQ.out,hk,hs];rfl
    ·rw[hk]at k1;have h1:(t.text.toList == [61])=false:=dR.2 λe=>hs (by rw[<- Le,e];decide +kernel)
     have h2:decide ((⟨#[61]⟩:ByteArray)=t.text)=false:=bX λe=>hs e.symm
     have h3:decide (t.text=⟨#[61]⟩)=false:=bX hs;go_wp2_with fail;go_ret;refine⟨eI ?_,hb⟩;rw[HA.out,HQ.out,hk];simp[eH,tV,h1,h2,h3]
   ·go_wp2_with fail;go_ret;refine⟨eI ?_,hb⟩;rw[HA.out,HQ.out,dR.2 hk];rfl
  ·obtain⟨ao,cap,k0⟩:=h1.row;have hlt':¬ (j:Int)<(L.length:Int):=by omega
   have HQ:=aN (show cD (lk L) j [tV]=false by unfold cD;rw[show tok (lk L) j=_ from Mb aB];rfl);clear h1;go_wp2_with fail;go_ret;exact⟨eI (by rw[HA.out,HQ.out]),hb⟩
theorem MY(w:World)(h:PS w pb L i):AAA 136 #[pq pb] w λe w'=>e=.returned (.bool (labelled (lk L) i))/\iY w w':=by
 have HA:=aN (show labelled (lk L) i=((tok (lk L) (i+0)).kind==1&&cD (lk L) (i+1) [cU])from rfl);have hT:=fS pb L i 0 aD w h;have hf0:=Eo;generalize hk:(tok (lk L) (i+0)).kind=k at HA;rw[show (tok (L.map T3.tk) (i+0)).kind=k from hk]at hT;clear hk
 by_cases h2:k=1
 ·rw[h2]at hT;go_in;go_wp2_with (first|(go_at_call 113;refine hT.mono ?_;rintro e w1 ⟨⟨p,rfl⟩,hb⟩;have h1:=h.below hb)|(go_at_call 112;refine(EN pb L i 1 aD _ [⟨#[58]⟩] aD _ (h1.below (aJ w1 _)) (fM.new w1 _)).mono ?_;rintro e w2 ⟨rfl,hb2⟩));go_ret;exact⟨eI (by rw[HA.out,h2];rfl),hb.trans ((eU _ _ _ hb2).mono hb.size)⟩
 ·go_in;go_wp2_with (go_at_call 113;refine hT.mono ?_;rintro e w1 ⟨⟨p,rfl⟩,hb⟩);go_ret;exact⟨eI (by rw[HA.out,dR.2 h2];rfl),hb⟩
theorem ahW(v:Value)(ss:List ByteArray)(hl:ss.length<=1000)(w:World)(h:PS w pb L i)(hs:fM w v ss):AAA 125 #[pq pb,v] w λe w'=>e=.returned (.bool (keyword (lk L) i ss))/\iY w w':=by
 have HA:=aN (show keyword (lk L) i ss=(iT (lk L) i ss&&!eF (lk L) i&&!labelled (lk L) i)from rfl);have hW:=Ew pb L i v ss hl w h hs;have hnot:∀ (x:Bool) (w:World),(Op.unary .not (.bool x)).run Tryz.prog w=.ok (.bool (!x)) w:=λ_ _=>rfl
 cases h1:iT (lk L) i ss with
 | false=>
  rw[h1]at hW HA;go_in;go_wp2_with (go_at_call 143;refine hW.mono ?_;rintro e w1 ⟨rfl,hb⟩);go_ret;exact⟨eI (by rw[HA.out];rfl),hb⟩
 | true=>
  have hA:=λw (h:PS w pb L i)=>DU pb L i w h
  cases h2:eF (lk L) i with
  | true=>
   rw[h1]at hW;rw[h1,h2]at HA;rw[h2]at hA;go_in;go_wp2_with (first|(go_at_call 143;refine hW.mono ?_;rintro e w1 ⟨rfl,hb⟩)|(go_at_call 135;refine(hA w1 (h.below hb)).mono ?_;rintro e w2 ⟨rfl,hb2⟩));go_ret;exact⟨eI (by rw[HA.out];rfl),hb.trans (hb2.mono hb.size)⟩
  | false=>
   rw[h1]at hW;rw[h1,h2]at HA;rw[h2]at hA;go_in;go_wp2_with (first|(go_at_call 143;refine hW.mono ?_;rintro e w1 ⟨rfl,hb⟩)|(go_at_call 135;refine(hA w1 (h.below hb)).mono ?_;rintro e w2 ⟨rfl,hb2⟩)|(go_at_call 136;refine(MY pb L i w2 ((h.below hb).below hb2)).mono ?_;rintro e w3 ⟨rfl,hb3⟩));go_ret;exact⟨eI (by rw[HA.out];rfl),(hb.trans (hb2.mono hb.size)).trans (hb3.mono (aZ hb.size hb2.size))⟩
end
def agV(a:Int)(w:World):(Instr.typeAssert (.iface 113 (.agg #[iq a])) 20 113 true).run Tryz.prog w=.ok (.tuple #[.agg #[iq a],.bool true]) w:=by kernel_rfl
def aBg(w:World):(Instr.typeAssert .nilIface 20 113 true).run Tryz.prog w=.ok (.tuple #[.agg #[iq 0],.bool false]) w:=by kernel_rfl
def PS.fork{w:World}{pb:Nat}{L:List T3}{i:Nat}(h:PS w pb L i)(j:Nat)(hj:j<=L.length):∃ ao cap,w.cell? (AAF pb 0)=some (.slice ao L.length cap)/\PS (w.alloc (.cells #[.slice ao L.length cap,iq j] 115)) w.heap.size L j:=by
 obtain⟨ao,cap,h1,h2⟩:=h.blk;refine⟨ao,cap,aK _ _ 0 _ _ _ h1,⟨ao,cap,aP w _,λhne=>?_⟩,hj,h.bd⟩;obtain⟨b,off,e,hlt,hn,hc⟩:=h2 hne;exact⟨b,off,e,by simp;omega,hlt,λj hj i u hu=>(tR (a:=(AAF b (off+j*3+i))) (lP w _ b hlt)).trans (hc j hj i u hu)⟩
def acP(B:Nat)(b0:Bool)(a:Int)(older:List PanicEntry)(w:World)(hn:w.heap[B]?=some (.cells #[.bool b0] 4 (0,0))):CallsD Tryz.prog 166 #[pq B] (.panicking ({ v:=.iface 113 (.agg #[iq a]),recovered:=false }::older)) w λe u' w'=>e=.returned (.tuple #[])/\u'=.panicking ({ v:=.iface 113 (.agg #[iq a]),recovered:=true }::older)/\Below B w w'/\w'.cell? (AAF B 0)=some (.bool false):=by
 have h1:=agV;have hB:B<w.heap.size:=(aX.1 hn).1;refine callsD_of_wpS Tryz.func166 rfl λc₀ cs hu=>?_
 apply wpS_seq
 apply vV
 simp[wpOpsS,go_sem,recoverD,hu,Tryz.ntmps166,Exit.thenS,h1]
 apply wpS_seq
 apply vV
 simp[wpOpsS,go_sem,Exit.thenS,Array.replicate]
 refine wpS_cond (t:=true) (by simp[Act.eval,Array.replicate]) ?_;simp only[if_true]
 apply vV
 have hn':=(lP w (.cells #[iq a] 113) B hB).trans hn;have hb:=(aJ w (.cells #[iq a] 113)).mono (iH hB);generalize w.alloc (.cells #[iq a] 113)=w1 at hn' hb ⊢;have hc':w1.cell? (AAF B 0)=some (.bool b0):=aK w1 _ 0 _ _ _ hn';have hz':=aY hn' 0
 simp[wpOpsS,go_sem,hc',hz',bodyPostS,results,Tryz.results166]
 exact hb.setCell (p:=(AAF B 0)) (aG _) _
def ZQ(B:Nat)(w:World)(hB:B<w.heap.size):CallsD Tryz.prog 166 #[pq B] .returning w λe u' w'=>e=.returned (.tuple #[])/\u'=.returning/\iY w w':=by
 have h1:=aBg;refine callsD_of_wpS Tryz.func166 rfl λc₀ cs hu=>?_
 apply wpS_seq
 apply vV
 simp[wpOpsS,go_sem,recoverD,hu,Tryz.ntmps166,Exit.thenS,h1]
 apply wpS_seq
 apply vV
 simp[wpOpsS,go_sem,Exit.thenS,Array.replicate]
 refine wpS_cond (t:=false) (by simp[Act.eval,Array.replicate]) ?_;simp only[FY,if_false]
 refine wpS_of_wp (wp_skip ?_);have hb:=aJ w (.cells #[iq 0] 113)
 cases c₀
 simp_all [bodyPostS,results,Tryz.results166]
def ajW(pb:Nat)(L:List T3)(i:Nat)(w:World)(h:PS w pb L i):AAA 150 #[pq pb] w λe w'=>e=.returned (.bool (pQ (lk L) i))/\iY w w':=by
 have HC:=aN (show pQ (lk L) i=(iT (lk L) i [Nq]&&(match dB (lk L) (i+1)with | .ok (_,j)=>iT (lk L) j [pI] | .error _=>false))from rfl);have hmf:∀ (fn:Fn) (first cap:Array Value) (w:World),(Instr.makeFunc fn first cap).run Tryz.prog w=.ok (.func fn first cap) w:=λ_ _ _ _=>rfl
 have hbd:=h.bd;have hle:=h.le
 go_enter_defers Tryz.func150,Tryz.ntmps150
 go_upto_region 1 with fail;have b0:=aJ w (.cells #[.bool false] 4);have n0:=aP w (.cells #[.bool false] 4);generalize w.alloc (.cells #[.bool false] 4)=w0 at b0 n0 ⊢;have h0:=h.below b0;have hlt0:w.heap.size<w0.heap.size:=(aX.1 n0).1;have hW:=Ew pb L i (.slice (some (AAF w0.heap.size 0)) 1 1) [⟨#[73,70]⟩] aD _ (h0.below (aJ w0 _)) (fM.new w0 ⟨#[73,70]⟩)
 cases hw:iT (lk L) i [⟨#[73,70]⟩] with
 | false=>
  rw[hw]at hW;go_upto_region 2 with (go_at_call 143;refine hW.mono ?_;rintro e w1 ⟨rfl,hb1⟩;have n1:=((eU _ _ _ hb1).block _ hlt0).trans n0;have c1:=aK w1 _ 0 _ _ _ n1;have f1:=aY n1 0)
  go_wp2
  have c2:(w1.setCell (AAF w.heap.size 0) (.bool false)).cell? (AAF w.heap.size 0)=some (.bool false):=vM _ _ _ c1
  simp[bodyPostD,Leaves,settle,results,Tryz.results150,go_sem,c2]
  refine⟨by rw[HC.out,show iT (lk L) i [Nq]=false from hw];rfl,?_⟩;exact(b0.trans ((eU _ _ _ hb1).mono b0.size)).setCell (p:=(AAF w.heap.size 0)) (aG _) _
 | true=>
  have hlt:=VD hw;rw[hw]at hW;go_upto_region 3 with (go_at_call 143;refine hW.mono ?_;rintro e w1 ⟨rfl,hb1⟩;have n1:=((eU _ _ _ hb1).block _ hlt0).trans n0;have h1:=h0.below (eU _ _ _ hb1);have B1:=b0.trans ((eU _ _ _ hb1).mono b0.size));go_upto_region 4 with fail;obtain⟨ao,cap,k0,hq⟩:=h1.fork (i+1) aB;obtain⟨k1,_⟩:=h1.cells;have hwr:IntKind.i64.wrap ((i:Int)+1)=(i:Int)+1:=iV _ aB;replace hq:PS (w1.alloc (.cells #[.slice ao L.length cap,iq ((i:Int)+1)] 115)) w1.heap.size L (i+1):=hq
  go_region
  have b2:=aJ w1 (.cells #[.slice ao L.length cap,iq ((i:Int)+1)] 115);have B2:=(B1.trans (b2.mono B1.size)).drew;have n2:(w1.alloc (.cells #[.slice ao L.length cap,iq ((i:Int)+1)] 115)).drew.heap[w.heap.size]?=some (.cells #[.bool false] 4 (0,0)):=(b2.block _ (aX.1 n1).1).trans n1;replace hq:=hq.drewN 1;replace hq:PS (w1.alloc (.cells #[.slice ao L.length cap,iq ((i:Int)+1)] 115)).drew w1.heap.size L (i+1):=hq;have hqw:w.heap.size<w1.heap.size:=(aX.1 n1).1;generalize (w1.alloc (.cells #[.slice ao L.length cap,iq ((i:Int)+1)] 115)).drew=w2 at hq B2 n2 ⊢;generalize w1.heap.size=qb at hq hqw ⊢;clear k0 k1 h1 n1 b2 hb1 hW n0 h0 B1;go_upto_block 5 with fail;refine(fA qb L (i+1) w2 (aS _) hq).mono ?_;intro e w3 hp
  rcases hp.split with ⟨t,j,k,n,a,s,ao,m,c,hr1,rfl,ht,hok⟩|⟨a,hr1,rfl,hg⟩
  ·have HC2:=aN (show pQ (lk L) i=iT (lk L) j [pI]by rw[HC.out,show iT (lk L) i [Nq]=true from hw,hr1];rfl);have n3:=(hok.1.block _ (aX.1 n2).1 (λe=>by cases e;omega)).trans n2;have W:=Ew qb L j (.slice (some (AAF w3.heap.size 0)) 1 1) [⟨#[84,72,69,78]⟩] aD _ (hok.2.below (aJ w3 _)) (fM.new w3 ⟨#[84,72,69,78]⟩);have G3:iY w w3:=B2.grown hok.1 B2.size (λj hj=>by cases hj;omega);clear hp hr1 HC ht;go_upto_region 6 with fail;go_wp2_with (go_at_call 143;refine W.mono ?_;rintro e w4 ⟨rfl,hb4⟩;have n4:=((eU _ _ _ hb4).block _ (aX.1 n3).1).trans n3;have c4:=aK w4 _ 0 _ _ _ n4;have f4:=aY n4 0);have c5:(w4.setCell (AAF w.heap.size 0) (.bool (iT (lk L) j [⟨#[84,72,69,78]⟩]))).cell? (AAF w.heap.size 0)=some (.bool (iT (lk L) j [⟨#[84,72,69,78]⟩])):=vM _ _ _ c4;have B5:iY w (w4.setCell (AAF w.heap.size 0) (.bool (iT (lk L) j [⟨#[84,72,69,78]⟩]))):=(G3.trans ((eU _ _ _ hb4).mono G3.size)).setCell (p:=(AAF w.heap.size 0)) (aG _) _;have l5:w.heap.size<(w4.setCell (AAF w.heap.size 0) (.bool (iT (lk L) j [⟨#[84,72,69,78]⟩]))).heap.size:=by simpa[World.setCell]using (aX.1 n4).1
   generalize w4.setCell (AAF w.heap.size 0) (.bool (iT (lk L) j [⟨#[84,72,69,78]⟩]))=w5 at c5 B5 l5 ⊢;refine Ck (f:=166) (args:=#[pq w.heap.size]) aI AO ?_;refine(ZQ w.heap.size w5 l5).mono ?_;rintro e u' w'' ⟨rfl,rfl,hb⟩;have c6:w''.cell? (AAF w.heap.size 0)=some (.bool (iT (lk L) j [⟨#[84,72,69,78]⟩])):=(hb.cell (p:=(AAF w.heap.size 0)) l5).trans c5;have B6:=B5.trans (hb.mono B5.size)
   simp[Leaves,settle,results,Tryz.results150,go_sem,c6]
   exact⟨HC2.out.symm,B6⟩
  ·have HC2:=aN (show pQ (lk L) i=false by rw[HC.out,hr1];simp);have n3:=(hg.block _ (aX.1 n2).1 (λe=>by cases e;omega)).trans n2;have G3:iY w w3:=B2.grown hg B2.size (λj hj=>by cases hj;omega);unfold gM;go_wp2_with fail;refine Ck (f:=166) (args:=#[pq w.heap.size]) aI AO ?_;refine(acP w.heap.size false a [] w3 n3).mono ?_;rintro e u' w'' ⟨rfl,rfl,hb,hc⟩
   simp[Leaves,settle,results,Tryz.results150,go_sem,hc]
   exact⟨HC2.out,G3.trans hb⟩
end
section
open Go.RowKit Lx Px
def fO{p:Prop}(h:p:=by first|omega|(simp only[aO,bN,aV,dD]at hl ⊢; omega)|(simp only[aO,bN,aV,dD];omega)|(simp only[aO,bN,aV,dD]at hl;omega)):p:=h
section
variable {P:Program} {ops:Array Oper} {Q:Exit->Act->World->Prop} {md:Region.Mode} {S:World->Prop} {fuel:Nat} {listed:Array Bool} {a:Act} {w:World}
def BH(i:Nat){oi:Oper}{v:Value}{a':Act}(h:wpAnyH P md ops Q S fuel (listed.setIfInBounds i true) a' w)
 (hi:ops[i]?=some oi:=by exact rfl) (hs:Region.noSelect ops=true:=by kernel_rfl) (hf:Region.free md ops listed i=true:=by kernel_rfl) (hr:(Region.ready md ops listed).contains i=true:=by kernel_rfl)
 (hQ:∀ c a w,Q (.panic c) (a.put oi.dst v) w->Q (.panic c) a w:=by exact λ_ _ _ h=>h)
 (hy:YieldsIf P ops S oi v a:=by(refine Or.inl ⟨by rfl,?_⟩;intro wq hSw;(try (obtain⟨hqp,hqt⟩:=hSw));(try (obtain⟨hqu,hqv⟩:=hqt));(try (obtain⟨hqx,hqy⟩:=hqv));(try (obtain⟨_,_,_,_,_,_,_,_,_,_⟩:=AAD hqt));(try (obtain⟨_,_,_,_,_,_,_,_,_,_⟩:=AAD hSw));(try (obtain⟨_,_,_,_,_,_,_,_,_,_⟩:=AAD hqp));(try (obtain⟨_,_,_,_,_,_,_,_,_,_⟩:=AAD hqu));(try (obtain⟨_,_,_,_,_,_,_,_,_,_⟩:=AAD hqv));(try (obtain⟨_,_,_,_,_,_,_,_,_,_⟩:=AAD hqx));(try (obtain⟨_,_,_,_,_,_,_,_,_,_⟩:=AAD hqy));go_simp;(try with_reducible rfl)))
 (hS:S w:=by assumption)
 (ha:a.put oi.dst v=a':=by first|(simp only[Act.put,Ls,LC,zI,KQ,FJ,Fv];exact rfl)|exact rfl) :
 wpAnyH P md ops Q S (fuel+1) listed a w:=wpAnyH_take hi hs hf hr hQ hy hS (ha ▸ h)
def gZ(i:Nat){o:Oper}(h:∀ K':Act->World->Prop,Shut (∀ a w,S w->(S w->wpAnyH P md ops Q S fuel (listed.setIfInBounds i true) a w)->K' a w)->if Region.wanted o (yielded ops a.tmps)=true then Oper.wp P o a w K' Q else K' (a.put o.dst undef) w)
 (ho:ops[i]?=some o:=by exact rfl) (hr:Region.ready md ops listed=[i]:=by kernel_rfl):wpAnyH P md ops Q S (fuel+1) listed a w:=wpAnyH_ready hr aI (AllReadyH.cons ho h qS)
def kX{G K:Act->World->Prop}(hK:Shut (∀ a w,S w->(S w->G a w)->K a w)){a a':Act}{w:World}(hS:S w)(h:S w->G a' w)(ha:a=a':=by first|(simp only[Act.put,Ls,LC,zI,KQ,FJ,Fv];exact rfl)|exact rfl):K a w:=by
 subst ha;exact hK.out _ _ hS h
def rdH(rs:List Nat)(h:AllReadyH P md ops Q S fuel listed a w rs)(hr:Region.ready md ops listed=rs:=by kernel_rfl)(hne:rs≠[]:=by simp):wpAnyH P md ops Q S (fuel+1) listed a w:=wpAnyH_ready hr hne h
def rB{i:Nat}{o:Oper}{rs:List Nat}(h:∀ K':Act->World->Prop,Shut (∀ a w,S w->(S w->wpAnyH P md ops Q S fuel (listed.setIfInBounds i true) a w)->K' a w)->if Region.wanted o (yielded ops a.tmps)=true then Oper.wp P o a w K' Q else K' (a.put o.dst undef) w)
 (hs:AllReadyH P md ops Q S fuel listed a w rs) (ho:ops[i]?=some o:=by exact rfl):AllReadyH P md ops Q S fuel listed a w (i::rs):=AllReadyH.cons ho h hs
def pP(h:Q .normal a w)(hr:Region.ready md ops listed=[]:=by kernel_rfl):wpAnyH P md ops Q S fuel listed a w:=wpAnyH_done hr h _
def tkA(i:Nat){oi:Oper}{v:Value}(h:wpAny P md ops Q fuel (listed.setIfInBounds i true) (a.put oi.dst v) w)
 (hi:ops[i]?=some oi:=by exact rfl) (hs:Region.noSelect ops=true:=by kernel_rfl) (hf:Region.free md ops listed i=true:=by kernel_rfl) (hr:(Region.ready md ops listed).contains i=true:=by kernel_rfl)
 (hQ:∀ c a w,Q (.panic c) (a.put oi.dst v) w->Q (.panic c) a w:=by exact λ_ _ _ h=>h)
 (hy:Yields P ops oi v a:=by(refine Or.inl ⟨by rfl,?_⟩;intro wq;go_simp;(try with_reducible rfl))) :
 wpAny P md ops Q (fuel+1) listed a w:=wpAny_take hi hs hf hr hQ hy h
def aIU(i:Nat){o:Oper}(h:∀ K':Act->World->Prop,(∀ a w,wpAny P md ops Q fuel (listed.setIfInBounds i true) a w->K' a w)->if Region.wanted o (yielded ops a.tmps)=true then Oper.wp P o a w K' Q else K' (a.put o.dst undef) w)
 (ho:ops[i]?=some o:=by exact rfl) (hr:Region.ready md ops listed=[i]:=by kernel_rfl):wpAny P md ops Q (fuel+1) listed a w:=wpAny_ready hr aI (AllReady.cons ho h AllReady.nil)
def rdA(rs:List Nat)(h:AllReady P md ops Q fuel listed a w rs)(hr:Region.ready md ops listed=rs:=by kernel_rfl)(hne:rs≠[]:=by simp):wpAny P md ops Q (fuel+1) listed a w:=wpAny_ready hr hne h
def qP{i:Nat}{o:Oper}{rs:List Nat}(h:∀ K':Act->World->Prop,(∀ a w,wpAny P md ops Q fuel (listed.setIfInBounds i true) a w->K' a w)->if Region.wanted o (yielded ops a.tmps)=true then Oper.wp P o a w K' Q else K' (a.put o.dst undef) w)
 (hs:AllReady P md ops Q fuel listed a w rs) (ho:ops[i]?=some o:=by exact rfl):AllReady P md ops Q fuel listed a w (i::rs):=AllReady.cons ho h hs
def aJJ(h:Q .normal a w)(hr:Region.ready md ops listed=[]:=by kernel_rfl):wpAny P md ops Q fuel listed a w:=wpAny_done hr h _
def Kt(i:Nat){oi:Oper}{v:Value}{a':Act}(h:wpAnyH P md ops Q S fuel (listed.setIfInBounds i true) a' w)
 (hi:ops[i]?=some oi:=by exact rfl) (hs:Region.noSelect ops=true:=by kernel_rfl) (hf:Region.free md ops listed i=true:=by kernel_rfl) (hr:(Region.ready md ops listed).contains i=true:=by decide +kernel)
 (hQ:∀ c a w,Q (.panic c) (a.put oi.dst v) w->Q (.panic c) a w:=by exact λ_ _ _ h=>h)
 (hy:YieldsIf P ops S oi v a:=by(refine Or.inl ⟨by rfl,?_⟩;intro wq hSw;(try (obtain⟨hqp,hqt⟩:=hSw));(try (obtain⟨hqu,hqv⟩:=hqt));(try (obtain⟨hqx,hqy⟩:=hqv));(try (obtain⟨_,_,_,_,_,_,_,_,_,_⟩:=AAD hqt));(try (obtain⟨_,_,_,_,_,_,_,_,_,_⟩:=AAD hSw));(try (obtain⟨_,_,_,_,_,_,_,_,_,_⟩:=AAD hqp));(try (obtain⟨_,_,_,_,_,_,_,_,_,_⟩:=AAD hqu));(try (obtain⟨_,_,_,_,_,_,_,_,_,_⟩:=AAD hqv));(try (obtain⟨_,_,_,_,_,_,_,_,_,_⟩:=AAD hqx));(try (obtain⟨_,_,_,_,_,_,_,_,_,_⟩:=AAD hqy));go_simp;(try with_reducible rfl)))
 (hS:S w:=by assumption)
 (ha:a.put oi.dst v=a':=by first|(simp only[Act.put,Ls,LC,zI,KQ,FJ,Fv];exact rfl)|exact rfl) :
 wpAnyH P md ops Q S (fuel+1) listed a w:=wpAnyH_take hi hs hf hr hQ hy hS (ha ▸ h)
def qG(rs:List Nat)(h:AllReadyH P md ops Q S fuel listed a w rs)(hr:Region.ready md ops listed=rs:=by decide +kernel)(hne:rs≠[]:=by simp):wpAnyH P md ops Q S (fuel+1) listed a w:=wpAnyH_ready hr hne h
def aaW(h:Q .normal a w)(hr:Region.ready md ops listed=[]:=by decide +kernel):wpAnyH P md ops Q S fuel listed a w:=wpAnyH_done hr h _
def tZ(i:Nat){oi:Oper}{v:Value}(h:wpAny P md ops Q fuel (listed.setIfInBounds i true) (a.put oi.dst v) w)
 (hi:ops[i]?=some oi:=by exact rfl) (hs:Region.noSelect ops=true:=by kernel_rfl) (hf:Region.free md ops listed i=true:=by kernel_rfl) (hr:(Region.ready md ops listed).contains i=true:=by decide +kernel)
 (hQ:∀ c a w,Q (.panic c) (a.put oi.dst v) w->Q (.panic c) a w:=by exact λ_ _ _ h=>h)
 (hy:Yields P ops oi v a:=by(refine Or.inl ⟨by rfl,?_⟩;intro wq;go_simp;(try with_reducible rfl))) :
 wpAny P md ops Q (fuel+1) listed a w:=wpAny_take hi hs hf hr hQ hy h
def kL(rs:List Nat)(h:AllReady P md ops Q fuel listed a w rs)(hr:Region.ready md ops listed=rs:=by decide +kernel)(hne:rs≠[]:=by simp):wpAny P md ops Q (fuel+1) listed a w:=wpAny_ready hr hne h
def Gk(h:Q .normal a w)(hr:Region.ready md ops listed=[]:=by decide +kernel):wpAny P md ops Q fuel listed a w:=wpAny_done hr h _
end
end
