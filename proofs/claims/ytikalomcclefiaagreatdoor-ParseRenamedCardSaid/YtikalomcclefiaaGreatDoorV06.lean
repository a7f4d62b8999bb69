/- Part 06. -/
import Derived.Test.YtikalomcclefiaaGreatDoorV05
set_option linter.all false
set_option maxHeartbeats 0
set_option maxRecDepth 100000
namespace Go.Proofs.YtikalomcclefiaaGreatDoor
section
open Go.RowKit Lx
section
variable(b r:Nat)(s:AAE)(i:Nat)(v:Value)(hi:i<s.size)(hs:s.size<=2147483647)(w:World)(hsc:Aa w b s i r v)(hm:fU w r bF)
include b r s i v hi hs w hsc hm
theorem aEz(ho:aKN s i):AAA 122 #[.pointer (some (AAF b 0))] w λe w'=>e=.returned (Xk (gT bF (s.data.toList.drop i)) i)/\Below w.heap.size w w':=by
 have hblt:=hsc.lt;have ra:=pV s (i:Int);have h1:=ho.h1;have e39:(fR s (i:Int)==39)=false:=by rw[dR];exact ho.h2
 have h3:=ho.h3;have HN:=aM (azI s i ho);have hnp:(fR s (i:Int)==46)=false\/((fR s (i:Int)==46)=true/\gI (fR s ((i:Int)+1))=false):=by
  by_cases h:fR s (i:Int)=46
  ·right;exact⟨by rw[h];rfl,by rw[Fq];exact λh'=>ho.h4 ⟨h,h'⟩⟩
  ·left;rw[dR];exact h
 clear ho;go_in;go_upto_region 1 with fail;have b1:=aJ w (.cells #[.int .i64 0,.string ⟨#[]⟩,.int .i64 0] 47);have n1:=aP w (.cells #[.int .i64 0,.string ⟨#[]⟩,.int .i64 0] 47);generalize w.alloc (.cells #[.int .i64 0,.string ⟨#[]⟩,.int .i64 0] 47)=w1 at b1 n1 ⊢;have sc1:=hsc.below b1;have hm1:=hm.below b1 hm.lt;obtain⟨k0,k1,k2,k3⟩:=sc1.cell;have N1:=aM n1;have hBlt:=(aX.1 n1).1;clear n1;go_wp2_with fail
 go_quiet ((go_at_call 93;exact tQ (iA _ _ _)))
 have b2:=below_drewN b1 nq;have n2:(w1.drewN nq).heap[w.heap.size]?=_:=N1.out;have sc2:Aa (w1.drewN nq) b s i r v:=sc1;have hm2:fU (w1.drewN nq) r bF:=hm1;have hB2:w.heap.size<(w1.drewN nq).heap.size:=hBlt;generalize w1.drewN nq=w2 at b2 n2 sc2 hm2 hB2 ⊢;clear k0 k1 k2 k3 N1 sc1 b1 hm1 hBlt;have N2:=aM n2;have HM:=aM hm2;clear n2 hm2;obtain⟨k0,k1,k2,k3⟩:=sc2.cell;go_upto_region 10 with (first|(go_at_call 92;refine(vQ _ ra.1 ra.2 _).mono ?_;rintro e w' ⟨rfl,n,rfl⟩)|(go_at_call 93;refine(iA _ _ _).mono ?_;rintro e w' ⟨rfl,hw⟩;rw[hw];clear hw)|(go_at_call 110;refine(lW _ _).mono ?_;rintro e w' ⟨rfl,hw⟩;rw[hw];clear hw));have sc3:Aa (w2.drewN n) b s i r v:=sc2;have n3:(w2.drewN n).heap[w.heap.size]?=_:=N2.out;have hm3:fU (w2.drewN n) r bF:=HM.out;have b3:=below_drewN b2 n;have hB3:w.heap.size<(w2.drewN n).heap.size:=hB2;generalize w2.drewN n=w3 at b3 n3 sc3 hm3 hB3 ⊢;clear k0 k1 k2 k3 N2 HM sc2 b2 hB2;have N3:=aM n3;clear n3;obtain⟨k0,k1,k2,k3⟩:=sc3.cell;go_cut [58] (λc wx=>c=.bool false/\∃ n,wx=w3.drewN n)
 case first=>
  rcases hnp with h4|⟨h4,h5⟩
  ·exact OL
  ·exact OL
 case rest=>
  obtain⟨rfl,m,rfl⟩:=hcut;have sc4:Aa (w3.drewN m) b s i r v:=sc3;have n4:(w3.drewN m).heap[w.heap.size]?=_:=N3.out;have b4:=below_drewN b3 m;have hm4:fU (w3.drewN m) r bF:=hm3;have hB4:w.heap.size<(w3.drewN m).heap.size:=hB3;generalize w3.drewN m=w4 at b4 n4 sc4 hm4 hB4 ⊢;clear k0 k1 k2 k3 N3 sc3 b3 hm3 hB3;obtain⟨k0,k1,k2,k3⟩:=sc4.cell;have l2:∀ n,(Instr.lookup 108 (.map (some r)) (.string (s.extract i (i+2))) false).run Tryz.prog (w4.drewN n)=.ok (.bool (eH (s.extract i (i+2)) bF)) (w4.drewN n):=
   λn=>Ba (w4.drewN n) _ _ _ aGt acX aAo _ _ hm4 _
  have l1:∀ n,(Instr.lookup 108 (.map (some r)) (.string (s.extract i (i+1))) false).run Tryz.prog (w4.drewN n)=.ok (.bool (eH (s.extract i (i+1)) bF)) (w4.drewN n):=
   λn=>Ba (w4.drewN n) _ _ _ aGt acX aAo _ _ hm4 _
  have HN4:=aM n4;have HM4:=aM hm4;clear n4 hm4;go_wp2_with fail;refine wp_loop_rounds 3 ?_;rw[rounds_succ];have ex2:i+2<=s.size->eH (s.extract i (i+2)) bF=rG ((s.data.toList.drop i).take 2) bF:=λh=>by
   rw[uC s i (i+2) aB h];simp[eH,rG]
  have ex1:eH (s.extract i (i+1)) bF=rG ((s.data.toList.drop i).take 1) bF:=by
   rw[uC s i (i+1) aB aB];simp[eH,rG]
  have hlen:(s.data.toList.drop i).length=s.size - i:=by
   exact Rl
  have F1:=Wx (B:=w.heap.size) (b:=b) aB;have q0:w4.cell? (AAF w.heap.size 0)=some (.int .i64 0):=aK _ _ 0 _ _ _ HN4.out;have q1:w4.cell? (AAF w.heap.size 1)=some (.string ⟨#[]⟩):=aK _ _ 1 _ _ _ HN4.out;have q2:w4.cell? (AAF w.heap.size 2)=some (.int .i64 0):=aK _ _ 2 _ _ _ HN4.out;have f0:=aY HN4.out 0;have f1:=aY HN4.out 1;have f2:=aY HN4.out 2;have d3:decide (((i:Int)+1)<=(s.size:Int))=true:=by simp;omega
  have d4:(i:Int)+1<=(s.size:Int):=by omega
  by_cases hA:i+2<=s.size
  ·have d1:decide (((i:Int)+2)<=(s.size:Int))=true:=by simp;omega
   have d2:(i:Int)+2<=(s.size:Int):=by omega
   by_cases hM:eH (s.extract i (i+2)) bF=true
   ·have hres:(if 2<=(s.data.toList.drop i).length/\rG ((s.data.toList.drop i).take 2) bF=true then some (⟨6,(s.data.toList.drop i).take 2,2,true⟩:Got)
     else if 1<=(s.data.toList.drop i).length/\rG ((s.data.toList.drop i).take 1) bF=true then some ⟨6,(s.data.toList.drop i).take 1,1,true⟩
     else none)=some ⟨6,(s.data.toList.drop i).take 2,2,true⟩:=aF ⟨by omega,by rw[<- ex2 hA];exact hM⟩
    have HR:=aM hres;clear ex2 ex1 hlen hres;go_upto_region 15 with fail
    go_quiet (fail)
    go_upto_region 16 with fail;have z1:(i:Int)<=(i:Int)+2:=by omega
    have z2:(0:Int)<=(i:Int)+2:=by omega
    have z3:IntKind.i64.wrap ((i:Int)+2)=(i:Int)+2:=iV _ aB;have z4:((i:Int)+2).toNat=i+2:=by omega
    go_region_held3 (λw'=>w'.cell? (AAF b 0)=some (.string s)/\w'.cell? (AAF b 1)=some (.int .i64 i)) (go_keep) (first|fail)
    clear z3 z4;go_wp2_with fail;refine iW (v:=.tuple #[.agg #[.int .i64 6,.string (s.extract i (i+2)),.int .i64 i],.int .i64 ((i:Int)+2),.bool true]) Au rfl ⟨?_,qU (below_drewN b4 _) _ _ _⟩;rw[HN.out,HR.out];exact IZ (by rw[uC s i (i+2) aB aB];simp) aB rfl
   ·have hM0:eH (s.extract i (i+2)) bF=false:=by simpa using hM
    by_cases hM1:eH (s.extract i (i+1)) bF=true
    ·have hres:(if 2<=(s.data.toList.drop i).length/\rG ((s.data.toList.drop i).take 2) bF=true then some (⟨6,(s.data.toList.drop i).take 2,2,true⟩:Got)
      else if 1<=(s.data.toList.drop i).length/\rG ((s.data.toList.drop i).take 1) bF=true then some ⟨6,(s.data.toList.drop i).take 1,1,true⟩
      else none)=some ⟨6,(s.data.toList.drop i).take 1,1,true⟩:=by
      rw[aC Qd,aF ⟨by omega,by rw[<- ex1];exact hM1⟩]
     have HR:=aM hres;clear ex2 ex1 hlen hres hM;exact Tj
    ·have hM2:eH (s.extract i (i+1)) bF=false:=by simpa using hM1
     have hres:(if 2<=(s.data.toList.drop i).length/\rG ((s.data.toList.drop i).take 2) bF=true then some (⟨6,(s.data.toList.drop i).take 2,2,true⟩:Got)
      else if 1<=(s.data.toList.drop i).length/\rG ((s.data.toList.drop i).take 1) bF=true then some ⟨6,(s.data.toList.drop i).take 1,1,true⟩
      else none)=none:=by
      rw[aC Qd,aC Su]
     have HR:=aM hres;clear ex2 ex1 hlen hres hM hM1;exact Ph
  ·have d1:decide (((i:Int)+2)<=(s.size:Int))=false:=by simp;omega
   have d2:¬ (i:Int)+2<=(s.size:Int):=by omega
   by_cases hM1:eH (s.extract i (i+1)) bF=true
   ·have hres:(if 2<=(s.data.toList.drop i).length/\rG ((s.data.toList.drop i).take 2) bF=true then some (⟨6,(s.data.toList.drop i).take 2,2,true⟩:Got)
     else if 1<=(s.data.toList.drop i).length/\rG ((s.data.toList.drop i).take 1) bF=true then some ⟨6,(s.data.toList.drop i).take 1,1,true⟩
     else none)=some ⟨6,(s.data.toList.drop i).take 1,1,true⟩:=by
     rw[aC (by rintro⟨h,_⟩;omega),aF ⟨by omega,by rw[<- ex1];exact hM1⟩]
    have HR:=aM hres;clear ex2 ex1 hlen hres;exact Tj
   ·have hM2:eH (s.extract i (i+1)) bF=false:=by simpa using hM1
    have hres:(if 2<=(s.data.toList.drop i).length/\rG ((s.data.toList.drop i).take 2) bF=true then some (⟨6,(s.data.toList.drop i).take 2,2,true⟩:Got)
     else if 1<=(s.data.toList.drop i).length/\rG ((s.data.toList.drop i).take 1) bF=true then some ⟨6,(s.data.toList.drop i).take 1,1,true⟩
     else none)=none:=by
     rw[aC (by rintro⟨h,_⟩;omega),aC Su]
    have HR:=aM hres;clear ex2 ex1 hlen hres hM1;exact Ph
theorem ahY:AAA 122 #[.pointer (some (AAF b 0))] w λe w'=>e=.returned (Xk (gT bF (s.data.toList.drop i)) i)/\Below w.heap.size w w':=by
 by_cases h1:AF (fR s i)=true
 ·exact asG b r s i v hi hs w hsc hm h1
 ·have h1':AF (fR s i)=false:=by simpa using h1
  by_cases h2:fR s i=39
  ·exact akU b r s i v hi hs w hsc hm h1' h2
  ·by_cases h3:gI (fR s i)=true
   ·exact amZ b r s i v hi hs w hsc hm h1' h2 h3
   ·have h3':gI (fR s i)=false:=by simpa using h3
    by_cases h4:fR s i=46/\gI (fR s (i+1))=true
    ·exact ajH b r s i v hi hs w hsc hm h1' h2 h3' h4.1 h4.2
    ·exact aEz b r s i v hi hs w hsc hm ⟨h1',h2,h3',h4⟩
end
end
section
namespace Lx
def EG(f i nt:Nat):Bo f [] i nt=⟨[],[],0,0⟩:=by
 cases f with
 | zero=>rfl
 | succ f=>unfold Bo;rw[aF rfl]
def CH(f:Nat)(l:Bs)(i nt:Nat):Bo (f+1) l i nt =
 if l=[]then⟨[],[],0,0⟩
 else if hd l=32\/hd l=10 then Bo f (l.drop 1) (i+1) nt
 else if hd l=47/\hd (l.drop 1)=42 then
  match TR l with
  | none=>⟨[],[],i,50⟩
  | some n=>(Bo f (l.drop n) (i+n) nt).axY (i,i+n)
 else
  match gT bF l with
  | none=>⟨[],[],i,50⟩
  | some g=>
   if g.ok=false\/eP g.kind ⟨g.text.toArray⟩=false then⟨[],[],i,50⟩
   else if nt=5000 then⟨[],[],i,2⟩
   else(Bo f (l.drop g.len) (i+g.len) (nt+1)).alJ ⟨g.kind,⟨g.text.toArray⟩,i⟩:=rfl
def Fo: ∀ (f g:Nat) (l:Bs) (i nt:Nat),l.length<=f->l.length<=g->Bo f l i nt=Bo g l i nt:=by
 intro f
 induction f with
 | zero=>
  intro g l i nt hf hg;exact QB
 | succ f ih=>
  intro g l i nt hf hg
  cases g with
  | zero=>
   exact QB
  | succ g=>
   cases l with
   | nil=>rw[EG,EG]
   | cons c l=>
    simp only[aV]at hf hg
    have hne:¬ (c::l)=[]:=by simp
    rw[CH,CH,aC hne,aC hne]
    by_cases hb:hd (c::l)=32\/hd (c::l)=10
    ·rw[aF hb,aF hb];exact ih g _ _ _ dW dW
    ·rw[aC hb,aC hb]
     by_cases hc:hd (c::l)=47/\hd ((c::l).drop 1)=42
     ·rw[aF hc,aF hc]
      rcases hm:TR (c::l)with _|n
      ·rfl
      ·have:=DJ hm;simp only
       rw[ih g ((c::l).drop n) (i+n) nt dW dW]
     ·rw[aC hc,aC hc]
      rcases hm:gT bF (c::l)with _|gt
      ·rfl
      ·have:=EA _ _ _ hm;simp only
       rw[ih g ((c::l).drop gt.len) (i+gt.len) (nt+1) dW dW]
def scn(s:AAE)(i nt:Nat):Og:=Bo (s.size - i) (s.data.toList.drop i) i nt
def aDw(s:AAE)(h:s.size<=20000):fX s=scn s 0 0:=by unfold fX scn;rw[aC aB];rfl
def aEn(s:AAE)(nt:Nat):scn s s.size nt=⟨[],[],0,0⟩:=by
 unfold scn;rw[iF (by have:s.data.toList.length=s.size:=rfl;omega),EG]
def zK(s:AAE)(j nt:Nat)(hj:j<s.size):scn s j nt =
 if fR s j=32\/fR s j=10 then scn s (j+1) nt
 else if fR s j=47/\fR s (j+1)=42 then
  match TR (s.data.toList.drop j) with
  | none=>⟨[],[],j,50⟩
  | some n=>(scn s (j+n) nt).axY (j,j+n)
 else
  match gT bF (s.data.toList.drop j) with
  | none=>⟨[],[],j,50⟩
  | some g=>
   if g.ok=false\/eP g.kind ⟨g.text.toArray⟩=false then⟨[],[],j,50⟩
   else if nt=5000 then⟨[],[],j,2⟩
   else(scn s (j+g.len) (nt+1)).alJ ⟨g.kind,⟨g.text.toArray⟩,j⟩:=by
 have e:(j:Int)+1=((j+1:Nat):Int):=by omega
 rw[e,kP s (j+1),kP s j];unfold scn;obtain⟨f,hf⟩:∃ f,s.size - j=f+1:=⟨s.size - j - 1,by omega⟩
 rw[hf];rw[CH,aC (by intro h;have:=EK s j;rw[h]at this;simp at this;omega),fE]
 by_cases hb:hd (s.data.toList.drop j)=32\/hd (s.data.toList.drop j)=10
 ·rw[aF hb,aF hb];exact Fo _ _ _ _ _ nI nI
 ·rw[aC hb,aC hb]
  by_cases hc:hd (s.data.toList.drop j)=47/\hd (s.data.toList.drop (j+1))=42
  ·rw[aF hc,aF hc]
   rcases hm:TR (s.data.toList.drop j)with _|n
   ·rfl
   ·have:=DJ hm;simp only[fE]
    rw[Fo f (s.size - (j+n)) _ _ _ nI nI]
  ·rw[aC hc,aC hc]
   rcases hm:gT bF (s.data.toList.drop j)with _|g
   ·rfl
   ·have:=EA _ _ _ hm;simp only[fE]
    rw[Fo f (s.size - (j+g.len)) _ _ _ nI nI]
def Og.pre(ts:List Tok)(cs:List (Nat×Nat))(r:Og):Og:=⟨ts++r.toks,cs++r.coms,r.at_,r.err⟩
def aaH(t1 t2:List Tok)(c1 c2:List (Nat×Nat))(r:Og):(r.pre t2 c2).pre t1 c1=r.pre (t1++t2) (c1++c2):=by simp[Og.pre]
def aDl(c:Nat×Nat)(r:Og):r.axY c=r.pre [] [c]:=rfl
def aAf(t:Tok)(r:Og):r.alJ t=r.pre [t] []:=rfl
def aCV{s:AAE}{j n:Nat}(h:TR (s.data.toList.drop j)=some n):j+n<=s.size:=by
 have h0:=h;unfold TR at h
 split at h
 ·cases h
 ·rename_i hneg
  obtain⟨k,hk⟩:=Gv (by omega:0<=Lib.index ((s.data.toList.drop j).drop 2) [42,47])
  split at h
  ·simp at h
   have hr:=(aqJ s j k (by rw[Je,<- hk,fE])).1;have:n=k+4:=by rw[fE]at hk;rw[<- h,hk];simp
   omega
  ·cases h
def atO(s:AAE):∀ (d i:Nat),s.size - i=d->i<=s.size->∀ (nt:Nat) (ok:Bool) (j:Nat) (cs:List (Nat×Nat)),Ug s i=(ok,j,cs)->i<=j/\j<=s.size/\cs.length<=j - i/\(ok=true->¬ (fR s j=32\/fR s j=10)/\¬ (fR s j=47/\fR s (j+1)=42)/\scn s i nt=(scn s j nt).pre [] cs)/\(ok=false->scn s i nt=⟨[],cs,j,50⟩):=by
 intro d
 induction d using Nat.strongRecOn with
 | ind d ih=>
  intro i hd hi nt ok j cs hs
  by_cases hb:fR s (i:Int)=32\/fR s (i:Int)=10
  ·have hlt:=zN s i aB;rw[Yh s i hb]at hs;obtain⟨h1,h2,h3,h4,h5⟩:=ih (s.size - (i+1)) aB (i+1) rfl aB nt ok j cs hs;refine⟨by omega,h2,by omega,λh=>?_,λh=>?_⟩
   ·obtain⟨a,b,c⟩:=h4 h;exact⟨a,b,by rw[zK s i nt hlt,aF hb,c]⟩
   ·rw[zK s i nt hlt,aF hb,h5 h]
  ·by_cases hc:fR s (i:Int)=47/\fR s ((i:Int)+1)=42
   ·have hlt:=zN s i aB
    cases hm:TR (s.data.toList.drop i) with
    | none=>
     rw[WI s i hc.1 hc.2 hm]at hs;simp only[pB]at hs
     obtain⟨rfl,rfl,rfl⟩:=hs;refine⟨aG _,hi,by simp,(λh=>by cases h),λ_=>?_⟩;rw[zK s i nt hlt,aC hb,aF hc,hm]
    | some n=>
     have hn:=DJ hm;have hle:=aCV hm;rw[aoD s i n hc.1 hc.2 hm]at hs;simp only[pB]at hs
     obtain⟨e1,e2,e3⟩:=hs;obtain⟨h1,h2,h3,h4,h5⟩:=ih (s.size - (i+n)) aB (i+n) rfl hle nt ok j (Ug s (i+n)).2.2 (by rw[<- e1,<- e2]);subst e3;refine⟨by omega,h2,by simp;omega,λh=>?_,λh=>?_⟩
     ·obtain⟨a,b,c⟩:=h4 h;refine⟨a,b,?_⟩;rw[zK s i nt hlt,aC hb,aF hc,hm];simp only
      rw[c,aDl,aaH];rfl
     ·rw[zK s i nt hlt,aC hb,aF hc,hm];simp only
      rw[h5 h];rfl
   ·rw[aeQ s i hb hc]at hs;simp only[pB]at hs
    obtain⟨rfl,rfl,rfl⟩:=hs;exact⟨aG _,hi,by simp,λ_=>⟨hb,hc,by simp[Og.pre]⟩,(λh=>by cases h)⟩
def aGL(s:AAE)(j nt:Nat)(hj:j<s.size)(hb:¬ (fR s j=32\/fR s j=10))(hc:¬ (fR s j=47/\fR s (j+1)=42)):scn s j nt =
 match gT bF (s.data.toList.drop j) with
 | none=>⟨[],[],j,50⟩
 | some g=>
  if g.ok=false\/eP g.kind ⟨g.text.toArray⟩=false then⟨[],[],j,50⟩
  else if nt=5000 then⟨[],[],j,2⟩
  else(scn s (j+g.len) (nt+1)).alJ ⟨g.kind,⟨g.text.toArray⟩,j⟩:=by
 rw[zK s j nt hj,aC hb,aC hc]
def ajE(signs:List ByteArray)(l:Bs)(g:Got)(h:gT signs l=some g):g.text.length<=l.length:=by
 unfold gT at h
 split at h
 ·cases h;simp;omega
 ·split at h
  ·unfold vJ at h;rw[gY]at h;obtain⟨x,hx,rfl⟩:=h;have:=aaP _ _ _ hx
   simp at this
   split<;>simp<;>omega
  ·split at h
   ·cases h;unfold rJ;simp only;split<;>simp<;>omega
   ·split at h
    ·cases h;simp;omega
    ·split at h
     ·cases h;simp;omega
     ·cases h
def YZ(signs:List ByteArray)(s:AAE)(j:Nat)(g:Got)(h:gT signs (s.data.toList.drop j)=some g)(hok:g.ok=true)(hj:j<s.size):j+g.len<=s.size:=by
 have hl:=EK s j;unfold gT at h
 split at h
 ·cases h;have:=Vg (s.data.toList.drop j);simp only;omega
 ·split at h
  ·unfold vJ at h;rw[gY]at h;obtain⟨x,hx,rfl⟩:=h;have hq:=aaP _ _ _ hx;rw[zV]at hq
   split
   ·rename_i hb
    simp only
    have:x.2+1<(s.data.toList.drop j).length:=by
     rcases cY (x.2+1) (s.data.toList.drop j).length with h'|h'
     ·exact h'
     ·rw[iF h']at hb;exact absurd hb aD
    omega
   ·simp only;omega
  ·split at h
   ·cases h
    have hn:=Wj (s.data.toList.drop j) false;unfold rJ;simp only
    split
    ·rename_i hb
     simp only
     have:(dN (s.data.toList.drop j) false).1<(s.data.toList.drop j).length:=by
      rcases cY (dN (s.data.toList.drop j) false).1 (s.data.toList.drop j).length with h'|h'
      ·exact h'
      ·rw[iF h']at hb;exact absurd hb.1 aD
     omega
    ·simp only;omega
   ·split at h
    ·rename_i hb;cases h;simp only;omega
    ·split at h
     ·cases h;simp only;omega
     ·cases h
def aqP(n:Nat):Nat->List (Nat×Nat)->Prop
 | i,[]=>i<=n
 | i,c::cs=>i<=c.1/\c.1<c.2/\aqP n c.2 cs
def aqP.mono{n i j:Nat}{cs:List (Nat×Nat)}(h:aqP n j cs)(hij:i<=j):aqP n i cs:=by
 cases cs with
 | nil=>exact aZ hij h
 | cons c cs=>exact⟨aZ hij h.1,h.2⟩
end Lx
end
