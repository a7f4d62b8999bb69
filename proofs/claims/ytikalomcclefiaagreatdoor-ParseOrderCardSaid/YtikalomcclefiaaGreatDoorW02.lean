/- Part 02. -/
import Derived.Test.YtikalomcclefiaaGreatDoorW01
import Derived.Test.YtikalomcclefiaaGreatDoorV50
set_option linter.all false
set_option maxHeartbeats 0
set_option maxRecDepth 100000
namespace Go.Proofs.YtikalomcclefiaaGreatDoor
section
open Go.RowKit Lx Px
def LS.ayR{w0 w w':World}{fv ts}(S:LS w0 w [] fv ts)(b:iY w w'){t:T}{us:List Value}(ht:Tr w' t us):LS w0 w' [] fv ((t,us)::ts):=
 S.read b (ht.kept (λ_ _ _=>.inl (λq hq=>Ax)) (aG _) (λ_ _ _=>rfl))
def atR(t:T)(p:List Int):T×Int:=if De t=true then(match MB t p with|some a=>(a,0)|none=>(sP,4))else(sP,71)
def aIh(w:World)(hTab:fQ w)(t:T)(ho:TJ t)(hwd:Xp t)(k n a:Int)(s:dL)(ao:iD)(m c:Nat)(ht:Tr w t (vT k n a s ao m c))(v:Value)(p:List Int)(hp:Ei w v p)(hpl:p.length<=1000000):AAA 25 #[tg k n a s ao m c,v] w (EQ w (atR t p)):=by
 have b1:=aJ w (.cells (tg k n a s ao m c) 24);have t1:=TV.new w k n a s (.slice ao m c);have z1:(w.alloc (.cells (tg k n a s ao m c) 24)).heap.size=w.heap.size+1:=by simp
 have b2:=aJ (w.alloc (.cells (tg k n a s ao m c) 24)) (.cells zT 24);have r2:=TV.new (w.alloc (.cells (tg k n a s ao m c) 24)) (iq 0) (iq 0) (iq 0) (.string ⟨#[]⟩) (.slice none 0 0);have t2:=t1.below b2;have B2:=b1.trans (b2.mono b1.size);rw[z1]at r2;clear z1 b1 b2 t1;unfold zT at t2 B2;have hfm:=hp;obtain⟨pao,pcap,rfl,-⟩:=hfm;go_in;go_upto_region 1 with fail;generalize World.alloc (World.alloc w _) _=w2 at t2 r2 B2 ⊢;have hC:=nV w2 (hTab.below B2) t ho hwd k n a s ao m c (ht.low B2);unfold Ed at hC;have:=AAD t2
 cases hc:De t with
 | false=>
  rw[hc]at hC;have HU:=aN (show atR t p=(sP,71)by unfold atR;rw[hc];rfl);clear hc ht ho hwd hp;go_upto_region 3 with (go_at_call 11;refine hC.mono ?_;rintro e w3 ⟨rfl,b3⟩);have r3:=r2.below b3;have B3:=B2.trans (b3.mono B2.size);clear hC r2 B2 b3;have:=AAD r3;go_wp2_with fail;refine kN (.tuple #[tg 0 0 0 ⟨#[]⟩ none 0 0,iq 71]) (r3.set _ _ _ _ _) (λq0 q1 q2 q3 q4=>by simp[results,Tryz.results25,go_sem,q0,q1,q2,q3,q4]) rfl ?_;exact EQ.mk HU.out (jH B3 aB _ _ _ _ _) (Tr.zero _)
 | true=>
  rw[hc]at hC;have HU:=aN (show atR t p=match MB t p with|some a=>(a,0)|none=>(sP,4)by unfold atR;rw[aF hc]);clear hc ho hwd;obtain⟨N,hN1⟩:∃ N,p.length=N:=⟨_,rfl⟩
  have L1:=aN hN1;have HP:=aN hp;rw[hN1];rw[hN1]at hpl;clear hp hN1;go_wp2_with (go_at_call 11;refine hC.mono ?_;rintro e w3 ⟨rfl,b3⟩);have t3:=t2.below b3;have r3:=r2.below b3;have B3:=B2.trans (b3.mono B2.size);have hw3:w.heap.size+1<w3.heap.size:=r3.lt;clear hC r2 B2 b3 t2
  go_loopg [17] N (λg tt wr=>∃ (q:Nat) (cur:T) (k n a:Int) (s:dL) (ao:iD) (m c:Nat),tt=.int .i64 q/\q<=N/\g=N - q/\TV wr w.heap.size k n a s (.slice ao m c)/\TV wr (w.heap.size+1) (iq 0) (iq 0) (iq 0) (.string ⟨#[]⟩) (.slice none 0 0)/\iY w wr/\Tr w cur (vT k n a s ao m c)/\Aside (MB t p=MB cur (p.drop q)))
  case atStart=>exact⟨0,t,k,n,a,s,ao,m,c,rfl,aS _,rfl,t3,r3,B3,ht,rfl⟩
  case round=>
   clear t3 r3 ht B3;obtain⟨q,cur,k,n,a,s,ao,m,c,rfl,hq,hg,tq,rq,hB,hTr,A⟩:=hrel;have HG:=aN hg;clear hg;obtain rfl:m=cur.l.length:=hTr.split.2.2.2.2
   by_cases hlt:q<N
   ·have x1:(q:Int)<(N:Int):=by omega
    have hqp:q<p.length:=by rw[L1.out];exact hlt
    obtain⟨ao5,cap5,e5,hcell,_⟩:=HP.out.below hB;obtain⟨b,off,rfl,hb,hc⟩:=hcell (by intro e;rw[e]at hqp;simp at hqp);simp only[dZ,fD]at e5
    obtain⟨rfl,rfl⟩:=e5;have h2:=hc q hqp;have hdr:=zF hqp;generalize p[q]'hqp=i at h2 hdr;have AA:=A.out;rw[hdr]at AA;have HA:=aN AA;clear A AA hdr hc hcell;have hNone:(¬ (0<=i/\i.toNat<cur.l.length))->MB t p=Option.none:=λh=>by
     rw[HA.out];unfold MB
     by_cases h0:0<=i
     ·rw[aF h0,tB (by have:¬ i.toNat<cur.l.length:=λe=>h ⟨h0,e⟩;omega)]
     ·rw[aC h0]
    by_cases hi0:i<0
    ·have HN:=aN (HU.out.trans (by rw[hNone aB]):atR t p=(sP,4));exact Pq
    ·by_cases hil:i.toNat<cur.l.length
     ·obtain⟨j,rfl⟩:∃ j:Nat,i=(j:Int):=⟨i.toNat,by omega⟩
      have hjl:j<cur.l.length:=by omega
      have x2:(j:Int)<(cur.l.length:Int):=by omega
      have x3:¬ (j:Int)<0:=by omega
      have hstep:MB t p=MB (cur.l[j]'hjl) (p.drop (q+1)):=by rw[HA.out,aGP aB (show (j:Int).toNat<cur.l.length by omega)];rfl
      obtain⟨ao6,c6,vs6,e6,hTs6,hrow6⟩:=mH.tree (rv:=[]) hB hTr;obtain⟨b',off',rfl,_,hcell6⟩:=hrow6 (by intro e;rw[e]at hjl;simp at hjl);simp only[dZ,fD]at e6
      obtain⟨rfl,rfl⟩:=e6;obtain⟨k3,n3,a3,s3,o3,m3,c3,hTr3,d0,d1,d2,d3,d4⟩:=Tr.elem hTs6 hcell6 j hjl;generalize cur.l[j]'hjl=y at hTr3 hstep;have HST:=aN hstep;clear hNone HA hi0 hil hstep hcell6 hTs6 hrow6;have P1:=tq.set k3 n3 a3 s3 (.slice o3 m3 c3);have P2:=jH hB (aG _) k3 n3 a3 s3 (.slice o3 m3 c3);have P3:TV (((((wr.setCell (AAF w.heap.size 0) (iq k3)).setCell (AAF w.heap.size 1) (iq n3)).setCell (AAF w.heap.size 2) (iq a3)).setCell (AAF w.heap.size 3) (.string s3)).setCell (AAF w.heap.size 4) (.slice o3 m3 c3)) (w.heap.size+1) _ _ _ _ _:=(Aw (show w.heap.size≠w.heap.size+1 by omega) _ _ _ _ _ _).trans rq;have:=AAD tq;go_upto_region 10 with fail;generalize World.setCell (World.setCell (World.setCell (World.setCell (World.setCell wr _ _) _ _) _ _) _ _) _ _=w5 at P1 P2 P3 ⊢;go_wp2_with fail
      go_roundg (N - (q+1))
      case measure=>rw[HG.out];omega
      case rel=>exact⟨q+1,y,k3,n3,a3,s3,o3,m3,c3,by go_num,hlt,rfl,P1,P3,P2,hTr3,HST.out⟩
     ·have x2:¬ i<(cur.l.length:Int):=by omega
      have HN:=aN (HU.out.trans (by rw[hNone (λh=>hil h.2)]):atR t p=(sP,4));exact Pq
   ·have x1:¬ (q:Int)<(N:Int):=by omega
    have AA:=A.out;rw[iF (by rw[L1.out];omega)]at AA;have HN:=aN (HU.out.trans (by rw[AA];unfold MB;rfl):atR t p=(cur,0));clear A AA HU;have:=AAD tq;have:=AAD rq;go_wp2_with fail;refine kN (.tuple #[tg k n a s ao cur.l.length c,iq 0]) (rq.set _ _ _ _ _) (λq0 q1 q2 q3 q4=>by simp[results,Tryz.results25,go_sem,q0,q1,q2,q3,q4]) rfl ?_;have hB5:=jH hB (bU _) k n a s (.slice ao cur.l.length c);exact EQ.mk HN.out hB5 (hTr.low hB5)
def aIp: ∀ args w,(callFunc 40 args).run Tryz.prog w=.ok (.enter 40 args) w:=
 enters_of Tryz.func40 aD rfl
def YF(t:T3):Bool:=decide (1000<t.text.size)
def aBb(t:T3)(w:World):AAA 40 #[Ks t] w λe w'=>e=.returned (.bool (YF t))/\iY w w':=by
 obtain⟨k,t,a⟩:=t;unfold Ks YF;go_in
 go_wp2
 all_goals (
  go_ret
  refine⟨eI ?_,aJ _ _⟩
  rw[nS]
  simp
  try omega)
def VR(ts:List T3):Bool:=decide (ts.length<=5100)&&!ts.any YF
def apB(v:Value)(ts:List T3)(w:World)(h:fJ w v ts)(hn:ts.length<=9223372036854775807):AAA 10 #[v] w λe w'=>e=.returned (.bool (VR ts))/\iY w w':=by
 have hc:=λW (hW:fJ W v ts)=>QZ 40 aIp YF v ts (λt _ w=>aBb t w) W hW hn
 have HC:=aN hc;have H:=aN h;obtain⟨ao,cap,rfl,_⟩:=h;clear hc
 by_cases hl:ts.length<=5100
 ·have hlz:(ts.length:Int)<=5100:=by omega
  have hf:VR ts = !ts.any YF:=by unfold VR;rw[eQ hl];rfl
  have HF:=aN hf;clear hf;go_in;go_wp2_with fail;refine(HC.out _ H.out).mono ?_;rintro e w' ⟨rfl,hb⟩;go_wp2_with fail;go_ret;exact⟨by rw[HF.out];simp,hb⟩
 ·have hlz:¬ (ts.length:Int)<=5100:=by omega
  have hf:VR ts=false:=by unfold VR;rw[bX hl];rfl
  have HF:=aN hf;clear hf;go_in;go_wp2_with fail;go_ret;exact⟨by rw[HF.out];rfl,bH _ _⟩
end
section
open Go.ChangeShapes Go.WideShapes Go.Deep Go.RowKit
section
variable {H:Type} {enc:TypeId×Value->H} {P:Program} {w:World} {base:Nat} {spare:Nat->Bool} {held:Bool}
def MK{t e:TypeId}{fs:Array Field}{fuel:Nat}{cs:List Value}{x:DataW H×List MemPlace}(ht:P.underlying t=some (.slice e))(he:P.underlying e=some (.struct fs))(hone:oneCellFields P fs=true)(hC:P.cellsOf e=fs.size)(h:DataW.trod enc P w base spare held fuel t cs=some x):(cs=[.slice none 0 0]/\x=(.nil,[]))\/∃ (a:Addr) (len cap m:Nat) (D:Nat->DataW H) (Pl:Nat->List MemPlace),cs=[.slice (some a) len cap]/\base<=a.block/\len<=cap/\cap<=maxLen/\m=(if spare a.block then cap else len)/\x=(.slice ((List.range len).map D) ((List.range (m - len)).map λj=>D (len+j)),MemPlace.row a (m*fs.size)++(List.range m).flatMap Pl)/\∀ i,i<m->∃ (ys:List (DataW H×List MemPlace)) (n:Nat),D i=.agg (ys.map (·.1))/\Pl i=ys.flatMap (·.2)/\ys.length=fs.size/\∀ (j:Nat) (f:Field),fs[j]?=some f->∃ (v:Value) (y:DataW H×List MemPlace),w.cell? (a.add (i*fs.size+j))=some v/\ys[j]?=some y/\DataW.trod enc P w base spare held n f.type [v]=some y:=by
 rcases open_slice ht h with h0|⟨a,len,cap,m,n,D,Pl,hcs,hb,hl,hm,hmm,hx,hi⟩
 ·exact .inl h0
 ·refine .inr ⟨a,len,cap,m,D,Pl,hcs,hb,hl,hm,hmm,by rw[hC]at hx;exact hx,λi him=>?_⟩;obtain⟨cs',hc,ht'⟩:=hi i him;rw[hC]at hc;obtain⟨ys,n',hn',hy,hlen,hyl,hf⟩:=DataW.trod_struct he ht';obtain⟨_,hcl,hat⟩:=Cs hc;simp only[pB]at hy
  refine⟨ys,n',hy.1,hy.2,hyl,λj f hj=>?_⟩;obtain⟨ho,hk⟩:=hone_of hone j f hj;have hjl:j<fs.size:=(aX.1 hj).1;have hcell:=hat j hjl;have hv:cs'[j]?=some (cs'[j]' aB):=dQ aB;have h1:=hf j f hj;rw[ho,hk]at h1;have hone':(cs'.drop j).take 1=[cs'[j]' aB]:=by
   rw[zF aB];rfl
  rw[hone']at h1;have hys:ys[j]?=some (ys[j]' aB):=dQ aB;refine⟨_,_,?_,hys,h1.trans hys⟩;rw[<- Go.Deep.add_add,hcell,hv]
end
section
variable {H:Type} {enc:TypeId×Value->H}
def aDp{w:World}{base:Nat}{spare:Nat->Bool}{held:Bool}{a:Addr}{k:Nat}{fs:Array Field}(hfs:Tryz.prog.underlying 47=some (.struct fs))(h:∃ (ys:List (DataW H×List MemPlace)) (n:Nat),True/\True/\ys.length=fs.size/\∀ (j:Nat) (f:Field),fs[j]?=some f->∃ (v:Value) (y:DataW H×List MemPlace),w.cell? (a.add (k*fs.size+j))=some v/\ys[j]?=some y/\DataW.trod enc Tryz.prog w base spare held n f.type [v]=some y):∃ t:T3,∀ i u,(Bh t)[i]?=some u->w.cell? (a.add (k*3+i))=some u:=by
 have:=Tryz.underlying47.symm.trans hfs;simp only[mP,TypeDesc.struct.injEq]at this
 subst this;obtain⟨ys,n,_,_,hy,hf⟩:=h;obtain⟨v0,y0,c0,_,t0⟩:=hf 0 _ rfl;obtain⟨v1,y1,c1,_,t1⟩:=hf 1 _ rfl;obtain⟨v2,y2,c2,_,t2⟩:=hf 2 _ rfl;obtain⟨a0,e0,_⟩:=zP Tryz.underlying3 t0;obtain⟨a1,e1,_⟩:=DataW.trod_string Tryz.underlying9 t1;obtain⟨a2,e2,_⟩:=zP Tryz.underlying3 t2
 cases e0;cases e1;cases e2
 refine⟨⟨a0,a1,a2⟩,λi u hu=>?_⟩
 match i,hu with
 | 0,hu=>cases hu;exact c0
 | 1,hu=>cases hu;exact c1
 | 2,hu=>cases hu;exact c2
def aeL{w:World}{a:Addr}:∀ (m:Nat),(∀ k,k<m->∃ t:T3,∀ i u,(Bh t)[i]?=some u->w.cell? (a.add (k*3+i))=some u)->∃ l:List T3,l.length=m/\∀ k,k<m->∀ i u,(Bh l[k]!)[i]?=some u->w.cell? (a.add (k*3+i))=some u:=by
 intro m
 induction m with
 | zero=>intro _;exact⟨[],rfl,λk hk=>by omega⟩
 | succ m ih=>
  intro h;obtain⟨l,hl,hc⟩:=ih λk hk=>h k aB
  obtain⟨t,ht⟩:=h m aB;refine⟨l++[t],by simp[hl],λk hk i u hu=>?_⟩
  rcases cY k m with hlt|hge
  ·refine hc k hlt i u ?_;have e:(l++[t])[k]! = l[k]!:=by
    rw[tC,tC,Gc aB]
   rw[e]at hu;exact hu
  ·obtain rfl:k=m:=by omega
   have e:(l++[t])[k]! = t:=by
    rw[tC,Ad aB,hl];simp
   rw[e]at hu;exact ht i u hu
def YN{r:Reach}{b0 base:Nat}{spare:Nat->Bool}{held:Bool}{w:World}{v:Value}{d:DataW H}{ps:List MemPlace}(hval:Value.okWide Tryz.prog w r b0 25 v)(hd:DataW.Trod enc Tryz.prog w base spare held 25 v d ps):∃ l,fJ w v l/\l.length<=9223372036854775807:=by
 obtain⟨a,len,cap,rfl⟩:=okWide_slice Tryz.underlying25 hval;obtain⟨fuel,hf⟩:=hd
 rcases MK Tryz.underlying25 Tryz.underlying47 aQ aQ hf with ⟨h0,_⟩|⟨a',len',cap',m,D,Pl,hcs,_,hl,hm,hmm,_,hi⟩
 ·simp only[Value.cells,fL,mM]at h0
  cases h0
  exact⟨[],⟨none,0,rfl,λh=>absurd rfl h⟩,by simp⟩
 ·simp only[Value.cells,fL,mM]at hcs
  cases hcs
  have hml:len<=m:=by rw[hmm];split<;>omega
  obtain⟨l,hll,hc⟩:=aeL (w:=w) (a:=a') len λk hk=>by
   obtain⟨ys,n,_,_,h3,h4⟩:=hi k aB;exact aDp Tryz.underlying47 ⟨ys,n,trivial,trivial,h3,h4⟩
  subst hll;refine⟨l,⟨_,cap,rfl,λhne=>?_⟩,(by rw[show maxLen=9223372036854775807 from rfl]at hm;omega)⟩;have hpos:0<l.length:=pE.2 hne;obtain⟨b,off,spot⟩:=a';have h0:=hc 0 hpos 0 _ rfl;have hspot:spot=none:=by simpa[Addr.add]using World.cell?_spot h0
  subst hspot;refine⟨b,off,rfl,CD _ _ h0,λj hj i u hu=>?_⟩;have:=hc j hj i u hu;rw[vL]at this;rw[show off+j*3+i=off+(j*3+i)by omega];exact this
end
end
section
open Go.RowKit Lx Px
def Tryz.aiF: Go.Shelf.Ren:=⟨λ|33=>26|n=>n,λ|22=>42|23=>3|4=>4|3=>3|0=>0|n=>n,λ|n=>n⟩
def Tryz.aEm: Go.Proofs.SlLaysE.n33 Tryz.prog Tryz.aiF:={
 mixed:=by kernel_rfl
 f33:=⟨Tryz.f26.name,by decide,Tryz.func26.trans (congrArg some aQ)⟩
 t0:=Tryz.underlying0
 a0:=Tryz.isAgg0
 z0:=Tryz.sizeOf0
 v0:=Tryz.zeroValue0
 t3:=Tryz.underlying3
 a3:=Tryz.isAgg3
 z3:=Tryz.sizeOf3
 v3:=Tryz.zeroValue3
 t4:=Tryz.underlying4
 a4:=Tryz.isAgg4
 z4:=Tryz.sizeOf4
 v4:=Tryz.zeroValue4
 t22:=Tryz.underlying42
 a22:=Tryz.isAgg42
 z22:=Tryz.sizeOf42
 v22:=Tryz.zeroValue42
 a23:=Tryz.isAgg3
 z23:=Tryz.sizeOf3 }
def aIz(p q:List Int):Lib.allEq (λx y=>x==y) p q=decide (p=q):=by
 induction p generalizing q with
 | nil=>cases q<;>simp[Lib.allEq]
 | cons x r ih=>cases q with
  | nil=>simp[Lib.allEq]
  | cons y s=>
   simp only[Lib.allEq,ih]
   rw[nS]
   simp
def amM(a b:Value)(p q:List Int)(w:World)(h1:Ei w a p)(h2:Ei w b q)(hp:p.length<=1000000)(hq:q.length<=1000000):AAA 26 #[a,b] w λe w'=>e=.returned (.bool (decide (p=q)))/\∃ n,w'=w.drewN n:=by
 obtain⟨ao,ac,rfl,h1,_⟩:=h1;obtain⟨bo,bc,rfl,h2,_⟩:=h2
 by_cases hl:p.length=q.length
 ·by_cases h0:p=[]
  ·subst h0;have:q=[]:=kU (by simpa using hl.symm);subst this;go_in;go_wp2_with fail
   go_loopw [13] (λq wr=>q=.int .i64 0/\wr=w) (λ_ _=>0)
   case atStart=>exact⟨rfl,rfl⟩
   case round=>
    obtain⟨rfl,rfl⟩:=hrel;go_wp2_with fail;go_ret;exact⟨rfl,0,rfl⟩
  ·have h0':q≠[]:=λe=>h0 (kU (by rw[hl,e];rfl))
   obtain⟨b1,o1,rfl,l1,c1⟩:=h1 h0;obtain⟨b2,o2,rfl,l2,c2⟩:=h2 h0';refine(AnyE.slices_Equal Tryz.aEm (Value.int .i64) _ (NeqAt.int Tryz.prog 3 .i64) b1 o1 p.length ac b2 o2 q.length bc p q w (aG _) (aG _) aB aB (λj hj=>by rw[kZ p j hj];exact c1 j hj) (λj hj=>by rw[kZ q j hj];exact c2 j hj)).mono ?_;rintro e w' ⟨rfl,n,rfl⟩;exact⟨by rw[jP,jP,aIz],n,rfl⟩
 ·have hd:decide (p=q)=false:=bX λe=>hl (by rw[e])
  have hl':¬ (p.length:Int)=q.length:=by omega
  rw[hd];clear h1 h2 hd;go_in;go_wp2_with fail;go_ret;exact⟨rfl,0,rfl⟩
def aHF{t a:T}{p:List Int}(hc:De t=true)(ha:MB t p=some a):atR t p=(a,0):=by
 unfold atR;rw[aF hc,ha]
end
