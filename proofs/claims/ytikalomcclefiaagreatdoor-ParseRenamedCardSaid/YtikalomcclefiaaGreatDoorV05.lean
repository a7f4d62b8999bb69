/- Part 05. -/
import Derived.Test.YtikalomcclefiaaGreatDoorV04
set_option linter.all false
set_option maxHeartbeats 0
set_option maxRecDepth 100000
namespace Go.Proofs.YtikalomcclefiaaGreatDoor
section
open Go.RowKit Lx
def aKL: (Tryz.prog.info? 5).map (λi=>(i.zero,i.size,i.bytes))=some (some (.int .u8 0),1,1):=by kernel_rfl
def CN(l:Bs):List Value:=l.map λc=>.int .u8 c.toNat
def Pe(l:Bs)(c:UInt8):CN (l++[c])=CN l++[.int .u8 c.toNat]:=by simp[CN]
def Nl(W:World)(B:Nat)(bv:Value)(t:Bs)(hown:W.ownsRow B 5 1 bv t.length (CN t)):(convert 117 9 bv).run Tryz.prog W=.ok (.string ⟨t.toArray⟩) W:=by
 rcases hown.2 with ⟨rfl,h0⟩|⟨g,cap,cur,rfl,hB,hg,hnc,hcm,hcs,htake⟩
 ·have:t=[]:=kU h0;subst this;exact run_convert_bytes_nil W _ _ Ze aDT _ _ _ acX
 ·have h := run_convert_bytes_arg (P := Tryz.prog) W 117 5 Ze aDT g 0 t.length cap (t.map λc => ((c.toNat : Nat) : Int)) aI (λi hi => by
    have hc := hown.cells (g := g) rfl i (.int .u8 ((t[i]'hi).toNat : Nat)) (by simp [CN, hi])
    have ha : (⟨g, 0, none⟩ : Addr).add i = ⟨g, 0 + i, none⟩ := by unfold Addr.add; split <;> simp_all
    rw [ha] at hc
    rw [hc, aaI _ i 0 wK]; simp) 9 acX
  refine h.trans ?_;rw[show strOfNums (t.map λc=>((c.toNat:Nat):Int))=⟨t.toArray⟩from KN (by simp[strOfNums,Function.comp_def])]
def Va(b r:Nat)(s:AAE)(i:Nat)(v:Value)(hi:i<s.size)(hs:s.size<=2147483647)(w:World)(hsc:Aa w b s i r v):AAA 141 #[.pointer (some (AAF b 0))] w λe w'=>e=.returned (Xk (vJ (s.data.toList.drop i)) i)/\Below w.heap.size w w':=by
 obtain⟨i0,hi0,hz0,hz1,hz2⟩:=nU aKL;have hblt:=hsc.lt;obtain⟨k0,k1,k2,k3⟩:=hsc.cell;go_in;go_upto_block 0 with fail;have b1:=aJ w (.cells #[.int .i64 0,.string ⟨#[]⟩,.int .i64 0] 47);have n1:=aP w (.cells #[.int .i64 0,.string ⟨#[]⟩,.int .i64 0] 47);generalize w.alloc (.cells #[.int .i64 0,.string ⟨#[]⟩,.int .i64 0] 47)=w1 at b1 n1 ⊢;have sc1:=hsc.below b1;have N1:=aM n1;clear n1 k0 k1 k2 k3;have hBlt:=(aX.1 N1.out).1;go_cut [5,6] (λbv q wx=>∃ (t:Bs) (n:Nat),quo (s.data.toList.drop (i+1))=some (t,n)/\q=.int .i64 (i+1+n:Nat)/\wx.ownsRow w1.heap.size 5 1 bv t.length (CN t)/\Below w1.heap.size w1 wx)
 case first=>
  go_wp2_with fail
  go_loopw [5,6] (λbv q wr=>∃ (j:Nat) (acc:Bs),i+1<=j/\j<=s.size/\q=.int .i64 j/\quo (s.data.toList.drop (i+1))=(quo (s.data.toList.drop j)).map (λx=>(acc++x.1,x.2+(j - (i+1))))/\acc.length<=j - (i+1)/\
   wr.ownsRow w1.heap.size 5 1 bv acc.length (CN acc)/\Below w1.heap.size w1 wr) (λ_ q _=>s.size - (intOf q).toNat)
  case atStart=>exact⟨i+1,[],aG _,by omega,by go_num,by simp,by simp,tN _ _ _ _,bH _ _⟩
  case round=>
   obtain⟨j,acc,hij,hj,rfl,hq,hal,hown,hbr⟩:=hrel;have HQ:=aM hq;clear hq;have scr:Aa wr b s i r v:=(hbr.block b sc1.lt).trans sc1;obtain⟨k0,k1,k2,k3⟩:=scr.cell;have hra:=pV s (j:Int)
   by_cases hsh:jI (fR s (j:Int))=true
   ·obtain⟨lo,hi2⟩:=axV hsh;have hlt:=zN s j aB;have d1:decide (fR s (j:Int)<32)=false:=by simp;omega
    have d2:decide (126<fR s (j:Int))=false:=by simp;omega
    have hby:(fR s (j:Int))=((s[j]'hlt).toNat:Int):=BJ s j hlt
    by_cases h39:fR s (j:Int)=39
    ·have e39:(fR s (j:Int)==39)=true:=by rw[h39];rfl
     by_cases h2:fR s ((j:Int)+1)=39
     ·have n39:(fR s ((j:Int)+1) != 39)=false:=by rw[h2];rfl
      have hst:=aM (aGD s j h39 h2);have hlt2:j+1<s.size:=zN s (j+1) PF;have H39:=aM h39;have HBY:=aM hby;clear h39 h2 hby;go_wp2_with (first|(go_at_call 93;refine(iA _ _ _).mono ?_;rintro e w' ⟨rfl,hw⟩;rw[hw];clear hw)|(at_builtin;refine GB _ rfl _ _ 117 rfl w1.heap.size 5 i0 (.int .u8 0) 1 1 Ze hi0 hz0 hz1 hz2 rfl aD _ _ _ rfl (hown.alloc _) (AAF wr.heap.size 0) 1 1 [.int .u8 (fR s (j:Int))] rfl rfl ?c1 ?c2 ?c3 ?c4 ?c5 ?_))
      case c1=>
       exact SN
      case c2=>intro u hu;simp at hu;subst hu;rfl
      case c3=>unfold maxLen;omega
      case c4=>omega
      case c5=>have:=hbr.size;simp;omega
      intro v' w2 hown' hgrow _;have hb2:Below w1.heap.size w1 w2:=(hbr.alloc hbr.size _).grown hgrow (by have:=hbr.size;simp;omega) (λk hk=>(hown.lt k hk).1);have hx:CN acc++[.int .u8 (fR s (j:Int))]=CN (acc++[39]):=by rw[Pe,H39.out];rfl
      rw[hx]at hown';clear hx;go_wp2_with fail
      go_roundw
      case rel=>exact⟨j+2,acc++[39],by omega,by omega,by go_num,by rw[HQ.out,hst.out,aoK,show j - (i+1)+2=j+2 - (i+1)from by omega],by rw[aO];show acc.length+1<=_;omega,by simpa using hown',hb2⟩
      case measure=>simp[intOf];omega
     ·have n39:(fR s ((j:Int)+1) != 39)=true:=by rw[bne_iff_ne];exact h2
      have hend:quo (s.data.toList.drop (i+1))=some (acc,j - i):=by rw[HQ.out,aFp s j h39 h2];simp;omega
      have HE:=aM hend;clear h39 h2 hby hend;go_wp2_with (go_at_call 93;refine(iA _ _ _).mono ?_;rintro e w' ⟨rfl,hw⟩;rw[hw];clear hw);go_meet
      case rel=>exact⟨acc,j - i,HE.out,by go_num,hown,hbr⟩
    ·have e39:(fR s (j:Int)==39)=false:=by rw[dR];exact h39
     have hst:=aM (axU s j hlt hsh h39);have HBY:=aM hby;clear h39 hby;go_wp2_with (first|(go_at_call 93;refine(iA _ _ _).mono ?_;rintro e w' ⟨rfl,hw⟩;rw[hw];clear hw)|(at_builtin;refine GB _ rfl _ _ 117 rfl w1.heap.size 5 i0 (.int .u8 0) 1 1 Ze hi0 hz0 hz1 hz2 rfl aD _ _ _ rfl (hown.alloc _) (AAF wr.heap.size 0) 1 1 [.int .u8 (fR s (j:Int))] rfl rfl ?c1 ?c2 ?c3 ?c4 ?c5 ?_))
     case c1=>
      exact SN
     case c2=>intro u hu;simp at hu;subst hu;rfl
     case c3=>unfold maxLen;omega
     case c4=>omega
     case c5=>have:=hbr.size;simp;omega
     intro v' w2 hown' hgrow _;have hb2:Below w1.heap.size w1 w2:=(hbr.alloc hbr.size _).grown hgrow (by have:=hbr.size;simp;omega) (λk hk=>(hown.lt k hk).1);have hx:CN acc++[.int .u8 (fR s (j:Int))]=CN (acc++[s[j]]):=by rw[Pe,HBY.out]
     rw[hx]at hown';clear hx;go_wp2_with fail
     go_roundw
     case rel=>exact⟨j+1,acc++[s[j]],by omega,by omega,by go_num,by rw[HQ.out,hst.out,aoK,show j - (i+1)+1=j+1 - (i+1)from by omega],by rw[aO];show acc.length+1<=_;omega,by simpa using hown',hb2⟩
     case measure=>simp[intOf];omega
   ·have hsh0:jI (fR s (j:Int))=false:=by simpa using hsh
    have hnone:quo (s.data.toList.drop (i+1))=none:=by rw[HQ.out,aGI s j hsh0];rfl
    have HT:=aM (adA s i hnone);have r1:wr.heap[w.heap.size]?=_:=(hbr.block _ hBlt).trans N1.out;have q0:=aK _ _ 0 _ _ _ r1;have q1:=aK _ _ 1 _ _ _ r1;have q2:=aK _ _ 2 _ _ _ r1;have f0:=aY r1 0;have f1:=aY r1 1;have f2:=aY r1 2;have HB:=aM hbr;clear hnone HQ hbr hown;have hc:decide (fR s (j:Int)<32)=true\/(decide (fR s (j:Int)<32)=false/\decide (126<fR s (j:Int))=true):=by
     unfold jI at hsh0
     by_cases h:fR s (j:Int)<32
     ·left;simpa using h
     ·right;simp at hsh0 ⊢; omega
    clear hsh hsh0
    rcases hc with hc|⟨hc,hc2⟩
    all_goals
     go_wp2_with (go_at_call 93;refine(iA _ _ _).mono ?_;rintro e w' ⟨rfl,hw⟩;rw[hw];clear hw);refine iW (v:=.tuple #[.agg #[.int .i64 0,.string ⟨#[]⟩,.int .i64 0],.int .i64 0,.bool false]) Hs rfl ⟨by rw[HT.out];rfl,qU (b1.trans (HB.out.mono b1.size)) _ _ _⟩
 case rest=>
  rename World=>wd
  obtain⟨t,n,hq,rfl,hown,hbc⟩:=hcut;have hlen:=aaP _ _ _ hq;have hn:n<=2147483647:=by
   have:=hlen.1;simp at this;have h2:s.data.size=s.size:=rfl;omega
  have HT:=aM (afV s i t n hq);have scc:Aa wd b s i r v:=(hbc.block b sc1.lt).trans sc1;obtain⟨k0,k1,k2,k3⟩:=scc.cell;have a0:∀ o,(wd.alloc o).cell? (AAF b 0)=some (.string s):=λo=>(scc.below (aJ wd o)).cell.1
  have a1:∀ o,(wd.alloc o).cell? (AAF b 1)=some (.int .i64 i):=λo=>(scc.below (aJ wd o)).cell.2.1
  have r0:wd.heap[w.heap.size]?=_:=(hbc.block _ hBlt).trans N1.out;have hBlt2:=(aX.1 r0).1;have R0:=aM r0;have c1:=Nl wd.drew _ _ t hown;have c2:=Nl (wd.alloc (.cells #[.int .i64 0,.string ⟨#[]⟩,.int .i64 0] 47)).drew _ _ t (hown.alloc _);have HBC:=aM hbc;clear hq hlen r0 hbc;go_upto_region 11 with fail;go_cut [8] (λp8 wx=>p8=.pointer (some (AAF wd.heap.size 0))/\wx.heap[wd.heap.size]?=some (.cells #[.int .i64 4,.string ⟨t.toArray⟩,.int .i64 i] 47 (0,0))/\Below wd.heap.size wd wx)
  case first=>
   go_region
   all_goals
    go_wp2_with fail;go_meet
    case rel=>exact⟨rfl,aP wd (.cells #[.int .i64 4,.string ⟨t.toArray⟩,.int .i64 i] 47),(aJ wd (.cells #[.int .i64 4,.string ⟨t.toArray⟩,.int .i64 i] 47)).drew⟩
  case rest=>
  rename World=>w2
  obtain⟨rfl,n2,b2⟩:=hcut;clear a0 a1 c1 c2 k0 k1 k2 k3;have hbc:=HBC.out;have r0:=R0.out;have sc2:=scc.below b2;obtain⟨k0,k1,k2,k3⟩:=sc2.cell;have t0:w2.cell? (AAF wd.heap.size 0)=some (.int .i64 4):=aK w2 wd.heap.size 0 _ _ _ n2;have f0:=aY n2 0;have N2:=aM n2;clear n2;obtain⟨q,hqe⟩:∃ q:Int,q=(i:Int)+1+n:=⟨_,rfl⟩
  have eq1:((i+1+n:Nat):Int)=q:=by omega
  have eq2:((i+1+n+1:Nat):Int)=q+1:=by omega
  rw[eq1,eq2]at HT;have hq0:0<=q/\q<=4294967299:=by omega
  have HQE:=aM hqe
  first|simp only[eq1]|simp only[<- hqe]
  clear hqe eq1 eq2;go_upto_region 13 with (go_at_call 93;refine(iA _ _ _).mono ?_;rintro e w' ⟨rfl,hw⟩;rw[hw];clear hw);go_cut [64] (λc wx=>w2=wx/\c=.bool (Ua (fR s q)))
  case first=>
   have h2:((fR s q==66)=true/\Ua (fR s q)=true)\/((fR s q==66)=false/\(fR s q==98)=true/\Ua (fR s q)=true)\/((fR s q==66)=false/\(fR s q==98)=false/\Ua (fR s q)=false):=by
    unfold Ua
    cases (fR s q==66)<;>cases (fR s q==98)<;>simp
   rcases h2 with ⟨h2,h3⟩|⟨h2,h3,h4⟩|⟨h2,h3,h4⟩
   all_goals
    go_wp2_with fail;go_meet
    case rel=>exact⟨rfl,by simp[*]⟩
  case rest=>
   obtain⟨rfl,rfl⟩:=hcut;have F1:=Wx (B:=w.heap.size) (b:=b) (by have:=hblt;omega);have F2:=Wx (B:=w.heap.size) (b:=wd.heap.size) aB;clear k0 k1 k2 k3;obtain⟨c,hc⟩:∃ c,c=Ua (fR s q):=⟨_,rfl⟩
   have HIS:=aM hc.symm;simp only[<- hc]
   clear hc
   cases c
   ·go_upto_region 16 with fail;have hr:=pV s q;have b3:=b2;have n3:=N2.out;have r1:w2.heap[w.heap.size]?=_:=(b3.block _ hBlt2).trans r0;have sc3:Aa w2 b s i r v:=(b3.block b scc.lt).trans scc;obtain⟨k0,k1,k2,k3⟩:=sc3.cell;have t0:w2.cell? (AAF wd.heap.size 0)=some (.int .i64 4):=aK _ _ 0 _ _ _ n3;have t1:w2.cell? (AAF wd.heap.size 1)=some (.string ⟨t.toArray⟩):=aK _ _ 1 _ _ _ n3;have t2:w2.cell? (AAF wd.heap.size 2)=some (.int .i64 i):=aK _ _ 2 _ _ _ n3;have q0:w2.cell? (AAF w.heap.size 0)=some (.int .i64 0):=aK _ _ 0 _ _ _ r1;have q1:w2.cell? (AAF w.heap.size 1)=some (.string ⟨#[]⟩):=aK _ _ 1 _ _ _ r1;have q2:w2.cell? (AAF w.heap.size 2)=some (.int .i64 0):=aK _ _ 2 _ _ _ r1;have f0:=aY r1 0;have f1:=aY r1 1;have f2:=aY r1 2;have B3:=aM b3;clear r1 n3 b3 sc3
    go_region_held3 (λw'=>w'.cell? (AAF b 0)=some (.string s)/\w'.cell? (AAF wd.heap.size 0)=some (.int .i64 4)/\w'.cell? (AAF wd.heap.size 1)=some (.string ⟨t.toArray⟩)/\w'.cell? (AAF wd.heap.size 2)=some (.int .i64 i)) (go_keep) (first|(go_at_call 93;refine(iA _ _ _).mono ?_;rintro e w' ⟨rfl,hw⟩;rw[hw];clear hw)|(go_at_call 94;refine(AP _ hr.1 hr.2 _).mono ?_;rintro e w' ⟨rfl,n,rfl⟩))
    go_wp2_with fail;refine iW (v:=.tuple #[.agg #[.int .i64 4,.string ⟨t.toArray⟩,.int .i64 i],.int .i64 q,.bool (!kK (fR s q))]) Hs rfl ⟨?_,?_⟩
    ·exact TA
    exact SG
   ·go_upto_region 16 with fail;have hr:=pV s (q+1);have b3:=b2.setCell (p:=(AAF wd.heap.size 0)) (aG _) (.int .i64 5);have n3:(w2.setCell (AAF wd.heap.size 0) (.int .i64 5)).heap[wd.heap.size]?=some (.cells #[.int .i64 5,.string ⟨t.toArray⟩,.int .i64 i] 47 (0,0)):=by
     simp[World.setCell,pK,N2.out]
    generalize w2.setCell (AAF wd.heap.size 0) (.int .i64 5)=w3 at b3 n3 ⊢;have r1:w3.heap[w.heap.size]?=_:=(b3.block _ hBlt2).trans r0;have sc3:Aa w3 b s i r v:=(b3.block b scc.lt).trans scc;obtain⟨k0,k1,k2,k3⟩:=sc3.cell;have t0:w3.cell? (AAF wd.heap.size 0)=some (.int .i64 5):=aK _ _ 0 _ _ _ n3;have t1:w3.cell? (AAF wd.heap.size 1)=some (.string ⟨t.toArray⟩):=aK _ _ 1 _ _ _ n3;have t2:w3.cell? (AAF wd.heap.size 2)=some (.int .i64 i):=aK _ _ 2 _ _ _ n3;have q0:w3.cell? (AAF w.heap.size 0)=some (.int .i64 0):=aK _ _ 0 _ _ _ r1;have q1:w3.cell? (AAF w.heap.size 1)=some (.string ⟨#[]⟩):=aK _ _ 1 _ _ _ r1;have q2:w3.cell? (AAF w.heap.size 2)=some (.int .i64 0):=aK _ _ 2 _ _ _ r1;have f0:=aY r1 0;have f1:=aY r1 1;have f2:=aY r1 2;have B3:=aM b3;clear r1 n3 b3 sc3
    go_region_held3 (λw'=>w'.cell? (AAF b 0)=some (.string s)/\w'.cell? (AAF wd.heap.size 0)=some (.int .i64 5)/\w'.cell? (AAF wd.heap.size 1)=some (.string ⟨t.toArray⟩)/\w'.cell? (AAF wd.heap.size 2)=some (.int .i64 i)) (go_keep) (first|(go_at_call 93;refine(iA _ _ _).mono ?_;rintro e w' ⟨rfl,hw⟩;rw[hw];clear hw)|(go_at_call 94;refine(AP _ hr.1 hr.2 _).mono ?_;rintro e w' ⟨rfl,n,rfl⟩))
    go_wp2_with fail;refine iW (v:=.tuple #[.agg #[.int .i64 5,.string ⟨t.toArray⟩,.int .i64 i],.int .i64 (q+1),.bool (!kK (fR s (q+1)))]) Hs rfl ⟨?_,?_⟩
    ·exact TA
    exact SG
def NN(g:Option Got)(i:Nat):∃ (k:Int) (t:AAE) (a m:Int) (ok:Bool),Xk g i=.tuple #[.agg #[.int .i64 k,.string t,.int .i64 a],.int .i64 m,.bool ok]:=by
 cases g with
 | none=>exact⟨_,_,_,_,_,rfl⟩
 | some g=>exact⟨_,_,_,_,_,rfl⟩
def acK(s:AAE)(i:Nat)(h1:AF (fR s i)=false)(h2:fR s i=39):gT bF (s.data.toList.drop i)=vJ (s.data.toList.drop i):=by
 unfold gT;rw[<- kP,aC AG,aF h2]
def Zb(s:AAE)(i:Nat)(h1:AF (fR s i)=false)(h2:¬ fR s i=39)(h3:gI (fR s i)=true\/(fR s i=46/\gI (fR s (i+1))=true)):gT bF (s.data.toList.drop i)=some (rJ (s.data.toList.drop i)):=by
 have e:(i:Int)+1=((i+1:Nat):Int):=by omega
 rw[e,kP s (i+1)]at h3;unfold gT;rw[fE,<- kP s i,aC AG,aC h2,aF h3]
def alE(s:AAE)(i:Nat)(h1:AF (fR s i)=true):gT bF (s.data.toList.drop i)=some ⟨1,((s.data.toList.drop i).take (kM (s.data.toList.drop i))).map upC,kM (s.data.toList.drop i),true⟩:=by
 unfold gT;rw[<- kP,aF h1]
section
variable(b r:Nat)(s:AAE)(i:Nat)(v:Value)(hi:i<s.size)(hs:s.size<=2147483647)(w:World)(hsc:Aa w b s i r v)(hm:fU w r bF)
include b r s i v hi hs w hsc hm
theorem akU(h1:AF (fR s i)=false)(h2:fR s i=39):AAA 122 #[.pointer (some (AAF b 0))] w λe w'=>e=.returned (Xk (gT bF (s.data.toList.drop i)) i)/\Below w.heap.size w w':=by
 have hblt:=hsc.lt;have ra:=pV s (i:Int);have e39:(fR s (i:Int)==39)=true:=by rw[h2];rfl
 have HN:=aM (acK s i h1 h2);clear h2;go_in;go_upto_region 1 with fail;have b1:=aJ w (.cells #[.int .i64 0,.string ⟨#[]⟩,.int .i64 0] 47);have n1:=aP w (.cells #[.int .i64 0,.string ⟨#[]⟩,.int .i64 0] 47);generalize w.alloc (.cells #[.int .i64 0,.string ⟨#[]⟩,.int .i64 0] 47)=w1 at b1 n1 ⊢;have sc1:=hsc.below b1;have hm1:=hm.below b1 hm.lt;obtain⟨k0,k1,k2,k3⟩:=sc1.cell;have N1:=aM n1;have hBlt:=(aX.1 n1).1;clear n1;go_wp2_with fail
 go_quiet ((go_at_call 93;exact tQ (iA _ _ _)))
 have b2:=below_drewN b1 nq;have n2:(w1.drewN nq).heap[w.heap.size]?=_:=N1.out;have sc2:Aa (w1.drewN nq) b s i r v:=sc1;have hm2:fU (w1.drewN nq) r bF:=hm1;have hB2:w.heap.size<(w1.drewN nq).heap.size:=hBlt;generalize w1.drewN nq=w2 at b2 n2 sc2 hm2 hB2 ⊢;clear k0 k1 k2 k3 N1 sc1 b1 hm1 hBlt;have N2:=aM n2;have HM:=aM hm2;clear n2 hm2;obtain⟨k0,k1,k2,k3⟩:=sc2.cell;obtain⟨kk,t,a,m,ok,hg⟩:=NN (vJ (s.data.toList.drop i)) i;have hcon:∀ n,AAA 141 #[.pointer (some (AAF b 0))] (w2.drewN n) λe w'=>e=.returned (.tuple #[.agg #[.int .i64 kk,.string t,.int .i64 a],.int .i64 m,.bool ok])/\Below (w2.drewN n).heap.size (w2.drewN n) w':=by
  intro n;rw[<- hg];exact Va b r s i v hi hs (w2.drewN n) sc2
 have HC:=aM hcon;have HG:=aM hg;clear hcon hg;go_wp2_with (first|(go_at_call 92;refine(vQ _ ra.1 ra.2 _).mono ?_;rintro e w' ⟨rfl,n,rfl⟩)|(go_at_call 93;refine(iA _ _ _).mono ?_;rintro e w' ⟨rfl,hw⟩;rw[hw];clear hw)|(go_at_call 110;refine(lW _ _).mono ?_;rintro e w' ⟨rfl,hw⟩;rw[hw];clear hw)|(go_at_call 141;refine(HC.out _).mono ?_;rintro e w' ⟨rfl,hb⟩;have rr:=(hb.block _ hB2).trans N2.out;have q0:w'.cell? (AAF w.heap.size 0)=some (.int .i64 0):=aK _ _ 0 _ _ _ rr;have q1:w'.cell? (AAF w.heap.size 1)=some (.string ⟨#[]⟩):=aK _ _ 1 _ _ _ rr;have q2:w'.cell? (AAF w.heap.size 2)=some (.int .i64 0):=aK _ _ 2 _ _ _ rr;have f0:=aY rr 0;have f1:=aY rr 1;have f2:=aY rr 2;clear rr));exact IE
theorem amZ(h1:AF (fR s i)=false)(h2:¬ fR s i=39)(h3:gI (fR s i)=true):AAA 122 #[.pointer (some (AAF b 0))] w λe w'=>e=.returned (Xk (gT bF (s.data.toList.drop i)) i)/\Below w.heap.size w w':=by
 have hblt:=hsc.lt;have ra:=pV s (i:Int);have e39:(fR s (i:Int)==39)=false:=by rw[dR];exact h2
 have HN:=aM (Zb s i h1 h2 (.inl h3));clear h2;go_in;go_upto_region 1 with fail;have b1:=aJ w (.cells #[.int .i64 0,.string ⟨#[]⟩,.int .i64 0] 47);have n1:=aP w (.cells #[.int .i64 0,.string ⟨#[]⟩,.int .i64 0] 47);generalize w.alloc (.cells #[.int .i64 0,.string ⟨#[]⟩,.int .i64 0] 47)=w1 at b1 n1 ⊢;have sc1:=hsc.below b1;have hm1:=hm.below b1 hm.lt;obtain⟨k0,k1,k2,k3⟩:=sc1.cell;have N1:=aM n1;have hBlt:=(aX.1 n1).1;clear n1;go_wp2_with fail
 go_quiet ((go_at_call 93;exact tQ (iA _ _ _)))
 have b2:=below_drewN b1 nq;have n2:(w1.drewN nq).heap[w.heap.size]?=_:=N1.out;have sc2:Aa (w1.drewN nq) b s i r v:=sc1;have hm2:fU (w1.drewN nq) r bF:=hm1;have hB2:w.heap.size<(w1.drewN nq).heap.size:=hBlt;generalize w1.drewN nq=w2 at b2 n2 sc2 hm2 hB2 ⊢;clear k0 k1 k2 k3 N1 sc1 b1 hm1 hBlt;have N2:=aM n2;have HM:=aM hm2;clear n2 hm2;obtain⟨k0,k1,k2,k3⟩:=sc2.cell;obtain⟨kk,t,a,m,ok,hg⟩:=NN (some (rJ (s.data.toList.drop i))) i;have hcon:∀ n,AAA 142 #[.pointer (some (AAF b 0))] (w2.drewN n) λe w'=>e=.returned (.tuple #[.agg #[.int .i64 kk,.string t,.int .i64 a],.int .i64 m,.bool ok])/\Below (w2.drewN n).heap.size (w2.drewN n) w':=by
  exact RR
 have HC:=aM hcon;have HG:=aM hg;clear hcon hg;go_wp2_with (first|(go_at_call 92;refine(vQ _ ra.1 ra.2 _).mono ?_;rintro e w' ⟨rfl,n,rfl⟩)|(go_at_call 93;refine(iA _ _ _).mono ?_;rintro e w' ⟨rfl,hw⟩;rw[hw];clear hw)|(go_at_call 110;refine(lW _ _).mono ?_;rintro e w' ⟨rfl,hw⟩;rw[hw];clear hw)|(go_at_call 142;refine(HC.out _).mono ?_;rintro e w' ⟨rfl,hb⟩;have rr:=(hb.block _ hB2).trans N2.out;have q0:w'.cell? (AAF w.heap.size 0)=some (.int .i64 0):=aK _ _ 0 _ _ _ rr;have q1:w'.cell? (AAF w.heap.size 1)=some (.string ⟨#[]⟩):=aK _ _ 1 _ _ _ rr;have q2:w'.cell? (AAF w.heap.size 2)=some (.int .i64 0):=aK _ _ 2 _ _ _ rr;have f0:=aY rr 0;have f1:=aY rr 1;have f2:=aY rr 2;clear rr));exact IE
theorem ajH(h1:AF (fR s i)=false)(h2:¬ fR s i=39)(h3:gI (fR s i)=false)(h4:fR s i=46)(h5:gI (fR s (i+1))=true):AAA 122 #[.pointer (some (AAF b 0))] w λe w'=>e=.returned (Xk (gT bF (s.data.toList.drop i)) i)/\Below w.heap.size w w':=by
 have hblt:=hsc.lt;have ra:=pV s (i:Int);have e39:(fR s (i:Int)==39)=false:=by rw[dR];exact h2
 have e46:(fR s (i:Int)==46)=true:=by rw[h4];rfl
 have HN:=aM (Zb s i h1 h2 (.inr ⟨h4,h5⟩));clear h2 h4;go_in;go_upto_region 1 with fail;have b1:=aJ w (.cells #[.int .i64 0,.string ⟨#[]⟩,.int .i64 0] 47);have n1:=aP w (.cells #[.int .i64 0,.string ⟨#[]⟩,.int .i64 0] 47);generalize w.alloc (.cells #[.int .i64 0,.string ⟨#[]⟩,.int .i64 0] 47)=w1 at b1 n1 ⊢;have sc1:=hsc.below b1;have hm1:=hm.below b1 hm.lt;obtain⟨k0,k1,k2,k3⟩:=sc1.cell;have N1:=aM n1;have hBlt:=(aX.1 n1).1;clear n1;go_wp2_with fail
 go_quiet ((go_at_call 93;exact tQ (iA _ _ _)))
 have b2:=below_drewN b1 nq;have n2:(w1.drewN nq).heap[w.heap.size]?=_:=N1.out;have sc2:Aa (w1.drewN nq) b s i r v:=sc1;have hm2:fU (w1.drewN nq) r bF:=hm1;have hB2:w.heap.size<(w1.drewN nq).heap.size:=hBlt;generalize w1.drewN nq=w2 at b2 n2 sc2 hm2 hB2 ⊢;clear k0 k1 k2 k3 N1 sc1 b1 hm1 hBlt;have N2:=aM n2;have HM:=aM hm2;clear n2 hm2;obtain⟨k0,k1,k2,k3⟩:=sc2.cell;obtain⟨kk,t,a,m,ok,hg⟩:=NN (some (rJ (s.data.toList.drop i))) i;have hcon:∀ n,AAA 142 #[.pointer (some (AAF b 0))] (w2.drewN n) λe w'=>e=.returned (.tuple #[.agg #[.int .i64 kk,.string t,.int .i64 a],.int .i64 m,.bool ok])/\Below (w2.drewN n).heap.size (w2.drewN n) w':=by
  exact RR
 have HC:=aM hcon;have HG:=aM hg;clear hcon hg;go_upto_region 10 with (first|(go_at_call 92;refine(vQ _ ra.1 ra.2 _).mono ?_;rintro e w' ⟨rfl,n,rfl⟩)|(go_at_call 93;refine(iA _ _ _).mono ?_;rintro e w' ⟨rfl,hw⟩;rw[hw];clear hw)|(go_at_call 110;refine(lW _ _).mono ?_;rintro e w' ⟨rfl,hw⟩;rw[hw];clear hw))
 go_quiet ((first|(go_at_call 93;exact nF (iA _ _ _))|(go_at_call 110;exact nF (lW _ _))))
 go_wp2_with (go_at_call 142;refine(HC.out _).mono ?_;rintro e w' ⟨rfl,hb⟩;have rr:=(hb.block _ hB2).trans N2.out;have q0:w'.cell? (AAF w.heap.size 0)=some (.int .i64 0):=aK _ _ 0 _ _ _ rr;have q1:w'.cell? (AAF w.heap.size 1)=some (.string ⟨#[]⟩):=aK _ _ 1 _ _ _ rr;have q2:w'.cell? (AAF w.heap.size 2)=some (.int .i64 0):=aK _ _ 2 _ _ _ rr;have f0:=aY rr 0;have f1:=aY rr 1;have f2:=aY rr 2;clear rr);exact IE
theorem asG(h1:AF (fR s i)=true):AAA 122 #[.pointer (some (AAF b 0))] w λe w'=>e=.returned (Xk (gT bF (s.data.toList.drop i)) i)/\Below w.heap.size w w':=by
 have hblt:=hsc.lt;have ra:=pV s (i:Int);have HN:=aM (alE s i h1);go_in;go_upto_region 1 with fail;have b1:=aJ w (.cells #[.int .i64 0,.string ⟨#[]⟩,.int .i64 0] 47);have n1:=aP w (.cells #[.int .i64 0,.string ⟨#[]⟩,.int .i64 0] 47);generalize w.alloc (.cells #[.int .i64 0,.string ⟨#[]⟩,.int .i64 0] 47)=w1 at b1 n1 ⊢;have sc1:=hsc.below b1;have hm1:=hm.below b1 hm.lt;obtain⟨k0,k1,k2,k3⟩:=sc1.cell;have N1:=aM n1;have hBlt:=(aX.1 n1).1;clear n1;go_wp2_with fail
 go_quiet ((go_at_call 93;exact tQ (iA _ _ _)))
 have b2:=below_drewN b1 nq;have n2:(w1.drewN nq).heap[w.heap.size]?=_:=N1.out;have sc2:Aa (w1.drewN nq) b s i r v:=sc1;have hm2:fU (w1.drewN nq) r bF:=hm1;have hB2:w.heap.size<(w1.drewN nq).heap.size:=hBlt;generalize w1.drewN nq=w2 at b2 n2 sc2 hm2 hB2 ⊢;clear k0 k1 k2 k3 N1 sc1 b1 hm1 hBlt;have N2:=aM n2;have HM:=aM hm2;clear n2 hm2;obtain⟨k0,k1,k2,k3⟩:=sc2.cell;go_upto_region 3 with (go_at_call 92;refine(vQ _ ra.1 ra.2 _).mono ?_;rintro e w' ⟨rfl,n,rfl⟩);go_wp2_with fail;have sc3:Aa (w2.drewN n) b s i r v:=sc2;have n3:(w2.drewN n).heap[w.heap.size]?=_:=N2.out;have b3:=below_drewN b2 n;have hB3:w.heap.size<(w2.drewN n).heap.size:=hB2;generalize w2.drewN n=w3 at b3 n3 sc3 hB3 ⊢;clear k0 k1 k2 k3 N2 HM sc2 b2 hB2;have N3:=aM n3;clear n3;obtain⟨k0,k1,k2,k3⟩:=sc3.cell
 go_loopw [6] (λq wr=>∃ (j m:Nat),i<=j/\j<=s.size/\q=.int .i64 j/\kM (s.data.toList.drop i)=kM (s.data.toList.drop j)+(j - i)/\wr=w3.drewN m) (λq _=>s.size - (intOf q).toNat)
 case atStart=>exact⟨i,0,aG _,by omega,rfl,by simp,rfl⟩
 case round=>
  obtain⟨j,m,hij,hj,rfl,hq,rfl⟩:=hrel;have HQ:=aM hq;clear hq;have hr:=pV s (j:Int)
  by_cases hp:kK (fR s (j:Int))=true
  ·have hlt:=aFT s j hp;have hst:=aM (ZL s j hp hlt);go_wp2_with (first|(go_at_call 93;refine(iA _ _ _).mono ?_;rintro e w' ⟨rfl,hw⟩;rw[hw];clear hw)|(go_at_call 94;refine(AP _ hr.1 hr.2 _).mono ?_;rintro e w' ⟨rfl,n,rfl⟩))
   go_roundw
   case rel=>exact⟨j+1,_,by omega,by omega,by go_num,by rw[HQ.out,hst.out];omega,rfl⟩
   case measure=>simp[intOf];omega
  ·have hp0:kK (fR s (j:Int))=false:=by simpa using hp
   have hlen:kM (s.data.toList.drop i)=j - i:=by rw[HQ.out,aeZ s j hp0];omega
   have HL:=aM hlen;clear hp HQ hlen;have hx:(i:Int)<=j:=by omega
   have hx2:(j:Int)<=s.size:=by omega
   have hsz:(s.extract i j).size<=140737488351232:=by rw[ByteArray.size_extract];omega
   go_upto_region 6 with (first|(go_at_call 93;refine(iA _ _ _).mono ?_;rintro e w' ⟨rfl,hw⟩;rw[hw];clear hw)|(go_at_call 94;refine(AP _ hr.1 hr.2 _).mono ?_;rintro e w' ⟨rfl,n,rfl⟩));have F1:=Wx (B:=w.heap.size) (b:=b) aB;have hb3lt:=sc3.lt;have q0:w3.cell? (AAF w.heap.size 0)=some (.int .i64 0):=aK _ _ 0 _ _ _ N3.out;have q1:w3.cell? (AAF w.heap.size 1)=some (.string ⟨#[]⟩):=aK _ _ 1 _ _ _ N3.out;have q2:w3.cell? (AAF w.heap.size 2)=some (.int .i64 0):=aK _ _ 2 _ _ _ N3.out;have f0:=aY N3.out 0;have f1:=aY N3.out 1;have f2:=aY N3.out 2
   go_region_held3 (λw'=>w'.cell? (AAF b 0)=some (.string s)/\w'.cell? (AAF b 1)=some (.int .i64 i)) (go_keep) (first|(go_at_call 61;refine(XS _ hsz _).mono ?_;rintro e w' ⟨rfl,hb⟩;have g0:=(hb.cell (p:=(AAF b 0)) hb3lt).trans k0;have g1:=(hb.cell (p:=(AAF b 1)) hb3lt).trans k1;have rr:=(hb.block _ hB3).trans N3.out;clear q0 q1 q2 f0 f1 f2;have q0:w'.cell? (AAF w.heap.size 0)=some (.int .i64 0):=aK _ _ 0 _ _ _ rr;have q1:w'.cell? (AAF w.heap.size 1)=some (.string ⟨#[]⟩):=aK _ _ 1 _ _ _ rr;have q2:w'.cell? (AAF w.heap.size 2)=some (.int .i64 0):=aK _ _ 2 _ _ _ rr;have f0:=aY rr 0;have f1:=aY rr 1;have f2:=aY rr 2;clear rr))
   go_wp2_with fail;refine iW (v:=.tuple #[.agg #[.int .i64 1,.string (upS (s.extract i j)),.int .i64 i],.int .i64 j,.bool true]) Au rfl ⟨?_,qU (b3.trans ((below_drewN (bH _ _) _).trans (hb.mono (iH hB3)))) _ _ _⟩;rw[HN.out,HL.out];exact IZ (by rw[uC s i j hij hj];rfl) aB rfl
end
structure aKN (s:AAE) (i:Nat):Prop where
 h1:AF (fR s i)=false
 h2:¬ fR s i=39
 h3:gI (fR s i)=false
 h4:¬ (fR s i=46/\gI (fR s (i+1))=true)
def azI(s:AAE)(i:Nat)(h:aKN s i):gT bF (s.data.toList.drop i)=if 2<=(s.data.toList.drop i).length/\rG ((s.data.toList.drop i).take 2) bF=true then some ⟨6,(s.data.toList.drop i).take 2,2,true⟩else if 1<=(s.data.toList.drop i).length/\rG ((s.data.toList.drop i).take 1) bF=true then some ⟨6,(s.data.toList.drop i).take 1,1,true⟩else none:=by
 obtain⟨h1,h2,h3,h4⟩:=h;have e:(i:Int)+1=((i+1:Nat):Int):=by omega
 rw[e,kP s (i+1)]at h4;unfold gT;rw[fE,<- kP s i,aC AG,aC h2,aC (by rintro (h|h);exact absurd h (by rw[h3];decide);exact h4 h)]
end
