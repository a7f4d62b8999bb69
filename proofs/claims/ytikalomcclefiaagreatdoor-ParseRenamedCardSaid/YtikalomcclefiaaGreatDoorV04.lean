/- Part 04. -/
import Derived.Test.YtikalomcclefiaaGreatDoorV03
set_option linter.all false
set_option maxHeartbeats 0
set_option maxRecDepth 100000
namespace Go.Proofs.YtikalomcclefiaaGreatDoor
section
open Go.RowKit Lx
def Aa(w:World)(b:Nat)(s:AAE)(i:Nat)(r:Nat)(v:Value):Prop:=
 w.heap[b]?=some (.cells #[.string s,.int .i64 i,.map (some r),v] 160 (0,0))
theorem Aa.cell{w:World}{b:Nat}{s:AAE}{i r:Nat}{v:Value}(h:Aa w b s i r v):w.cell? (AAF b 0)=some (.string s)/\w.cell? (AAF b 1)=some (.int .i64 i)/\w.cell? (AAF b 2)=some (.map (some r))/\w.cell? (AAF b 3)=some v:=by
 unfold Aa at h;exact⟨aK _ _ _ _ _ _ h,aK _ _ _ _ _ _ h,aK _ _ _ _ _ _ h,aK _ _ _ _ _ _ h⟩
def Aa.lt{w:World}{b:Nat}{s:AAE}{i r:Nat}{v:Value}(h:Aa w b s i r v):b<w.heap.size:=(aX.1 h).1
def Aa.below{w w':World}{b:Nat}{s:AAE}{i r:Nat}{v:Value}(h:Aa w b s i r v)(hb:Below w.heap.size w w'):Aa w' b s i r v:=
 (hb.block b h.lt).trans h
def aJr(k:Int)(t:AAE)(i:Int):Value:=.agg #[.int .i64 k,.string t,.int .i64 i]
def Xk(g:Option Got)(i:Nat):Value:=
 match g with
 | some g=>.tuple #[aJr g.kind ⟨g.text.toArray⟩ i,.int .i64 (i+g.len:Nat),.bool g.ok]
 | none=>.tuple #[aJr 0 ⟨#[]⟩ 0,.int .i64 0,.bool false]
def Wx{B b:Nat}(h:B≠b)(w:World)(j:Nat)(x y z:Value):(((w.setCell (AAF B 0) x).setCell (AAF B 1) y).setCell (AAF B 2) z).cell? (b,j)=w.cell? (b,j):=by
 rw[kY _ _ _ _ h,kY _ _ _ _ h,kY _ _ _ _ h]
def qU{B:Nat}{w0 w:World}(hb:Below B w0 w)(x y z:Value):Below B w0 (((w.setCell (AAF B 0) x).setCell (AAF B 1) y).setCell (AAF B 2) z):=
 ((hb.setCell (p:=(AAF B 0)) (aG _) _).setCell (p:=(AAF B 1)) (aG _) _).setCell (p:=(AAF B 2)) (aG _) _
def uC(s:AAE)(i j:Nat)(_h:i<=j)(_hj:j<=s.size):s.extract i j=⟨((s.data.toList.drop i).take (j - i)).toArray⟩:=by
 apply KN
 simp[ByteArray.data_extract,List.take_drop]
def IZ{kk:Int}{t:AAE}{l:Bs}{i n:Nat}{m:Int}{x y:Bool}(h1:t=⟨l.toArray⟩)(h2:m=((i+n:Nat):Int))(h3:x=y) :
 Ending.returned (.tuple #[.agg #[.int .i64 kk,.string t,.int .i64 i],.int .i64 m,.bool x])=.returned (Xk (some ⟨kk,l,n,y⟩) i):=by rw[h1,h2,h3];rfl
def VS(b r:Nat)(s:AAE)(i:Nat)(v:Value)(hi:i<s.size)(hs:s.size<=2147483647)(w:World)(hsc:Aa w b s i r v):AAA 142 #[.pointer (some (AAF b 0))] w λe w'=>e=.returned (Xk (some (rJ (s.data.toList.drop i))) i)/\Below w.heap.size w w':=by
 obtain⟨k0,k1,k2,k3⟩:=hsc.cell;have hblt:=hsc.lt;go_in;go_upto_block 0 with fail;have b1:=aJ w (.cells #[.int .i64 0,.string ⟨#[]⟩,.int .i64 0] 47);have n1:=aP w (.cells #[.int .i64 0,.string ⟨#[]⟩,.int .i64 0] 47);generalize w.alloc (.cells #[.int .i64 0,.string ⟨#[]⟩,.int .i64 0] 47)=w1 at b1 n1 ⊢;have sc1:=hsc.below b1;obtain⟨k0,k1,k2,k3⟩:=sc1.cell;have N1:=aM n1;clear n1;go_cut [5,6] (λq pt wx=>w1=wx/\∃ (j:Nat) (p:Bool),i<=j/\j<=s.size/\q=.int .i64 j/\pt=.bool p/\dN (s.data.toList.drop i) false=(j - i,p))
 case first=>
  go_wp2_with fail
  go_loop [5,6] (λq pt=>∃ (j:Nat) (p:Bool),i<=j/\j<=s.size/\q=.int .i64 j/\pt=.bool p/\dN (s.data.toList.drop i) false=((dN (s.data.toList.drop j) p).1+(j - i),(dN (s.data.toList.drop j) p).2)) (λq _=>s.size - (intOf q).toNat)
  case atStart=>exact⟨i,false,aG _,by omega,rfl,rfl,by simp⟩
  case round=>
   obtain⟨j,p,hij,hj,rfl,rfl,hq⟩:=hrel;have HQ:=aM hq;clear hq;have hjs:gI (fR s (j:Int))=true->j<s.size:=by
    intro h
    rcases cY j s.size with h'|h'
    ·exact h'
    ·rw[Du s j aB]at h;cases h
   by_cases hd:gI (fR s (j:Int))=true
   ·have hlt:=hjs hd;have h46:(fR s (j:Int)==46)=false:=by
     rw[dR];intro h;rw[h]at hd;cases hd
    have hst:=aM (Xh s j p hd);clear hjs;go_wp2_with (first|(go_at_call 93;refine(iA _ _ _).mono ?_;rintro e w' ⟨rfl,hw⟩;rw[hw];clear hw)|(go_at_call 110;refine(lW _ _).mono ?_;rintro e w' ⟨rfl,hw⟩;rw[hw];clear hw))
    go_round
    case rel=>exact⟨j+1,p,by omega,by omega,by go_num,rfl,by rw[HQ.out,hst.out];simp;omega⟩
    case measure=>simp[intOf];omega
   ·have hd0:gI (fR s (j:Int))=false:=by simpa using hd
    clear hd hjs
    by_cases hpt:fR s (j:Int)=46/\p=false/\gI (fR s ((j:Int)+1))=true
    ·obtain⟨h46,rfl,hn⟩:=hpt;have hlt:j<s.size:=by
      rcases cY j s.size with h'|h'
      ·exact h'
      ·rw[Du s j aB]at h46;cases h46
     have hst:=aM (Xy s j h46 hn);have hq46:(fR s (j:Int)==46)=true:=by rw[h46];rfl
     clear h46;go_wp2_with (first|(go_at_call 93;refine(iA _ _ _).mono ?_;rintro e w' ⟨rfl,hw⟩;rw[hw];clear hw)|(go_at_call 110;refine(lW _ _).mono ?_;rintro e w' ⟨rfl,hw⟩;rw[hw];clear hw))
     go_round
     case rel=>exact⟨j+1,true,by omega,by omega,by go_num,rfl,by rw[HQ.out,hst.out];simp;omega⟩
     case measure=>simp[intOf];omega
    ·have hst:=aM (afO s j p hd0 hpt);have hn:(dN (s.data.toList.drop i) false)=(j - i,p):=by rw[HQ.out,hst.out];simp
     have HN:=aM hn;have HP:=aM hpt;clear hn HQ hst hpt;go_wp2_with (first|(go_at_call 93;refine(iA _ _ _).mono ?_;rintro e w' ⟨rfl,hw⟩;rw[hw];clear hw)|(go_at_call 110;refine(lW _ _).mono ?_;rintro e w' ⟨rfl,hw⟩;rw[hw];clear hw))
     all_goals try
      (exfalso; exact HP.out ⟨by assumption, by have hp : ¬ p = true := by assumption
                                                simpa using hp, by assumption⟩)
     all_goals
      go_meet
      case rel=>
       first
        | exact⟨rfl,j,p,hij,hj,rfl,rfl,HN.out⟩
        | (have hp : p = true := by assumption
           exact ⟨rfl, j, true, hij, hj, rfl, rfl, by rw [HN.out, hp]⟩)
        | (have hp : ¬ p = true := by assumption
           exact ⟨rfl, j, false, hij, hj, rfl, rfl, by rw [HN.out]; simpa using hp⟩)
 case rest=>
  obtain⟨rfl,j,p,hij,hj,rfl,rfl,hn⟩:=hcut;have HN:=aM hn;clear hn;have hx:(i:Int)<=j:=by omega
  have hx2:(j:Int)<=s.size:=by omega
  have a0:∀ o,(w1.alloc o).cell? (AAF b 0)=some (.string s):=λo=>(sc1.below (aJ w1 o)).cell.1
  have a1:∀ o,(w1.alloc o).cell? (AAF b 1)=some (.int .i64 i):=λo=>(sc1.below (aJ w1 o)).cell.2.1
  go_wp2_with fail
  go_region
  clear a0 a1 k0 k1 k2 k3;have b2:=(aJ w1 (.cells #[.int .i64 2,.string (s.extract i j),.int .i64 i] 47)).drew;have n2:(w1.alloc (.cells #[.int .i64 2,.string (s.extract i j),.int .i64 i] 47)).drew.heap[w1.heap.size]?=_:=aP w1 (.cells #[.int .i64 2,.string (s.extract i j),.int .i64 i] 47);generalize (w1.alloc (.cells #[.int .i64 2,.string (s.extract i j),.int .i64 i] 47)).drew=w2 at b2 n2 ⊢;have sc2:=sc1.below b2;obtain⟨k0,k1,k2,k3⟩:=sc2.cell;have t0:w2.cell? (AAF w1.heap.size 0)=some (.int .i64 2):=aK w2 w1.heap.size 0 _ _ _ n2;have f0:=aY n2 0;have N2:=aM n2;clear n2;go_upto_region 9 with (go_at_call 93;refine(iA _ _ _).mono ?_;rintro e w' ⟨rfl,hw⟩;rw[hw];clear hw);go_cut [71] (λc wx=>w2=wx/\c=.bool (Ua (fR s (j:Int))&&!p))
  case first=>
   have h2:((fR s (j:Int)==66)=true/\Ua (fR s (j:Int))=true)\/((fR s (j:Int)==66)=false/\(fR s (j:Int)==98)=true/\Ua (fR s (j:Int))=true)\/((fR s (j:Int)==66)=false/\(fR s (j:Int)==98)=false/\Ua (fR s (j:Int))=false):=by
    unfold Ua
    cases (fR s (j:Int)==66)<;>cases (fR s (j:Int)==98)<;>simp
   rcases h2 with ⟨h2,h3⟩|⟨h2,h3,h4⟩|⟨h2,h3,h4⟩
   all_goals
    cases p
    all_goals
     go_wp2_with fail;go_meet
     case rel=>exact⟨rfl,by simp[*]⟩
  case rest=>
   obtain⟨rfl,rfl⟩:=hcut;have hat:=kP s j;obtain⟨kk,e,hbb,hnt,hie,hej⟩:∃ (kk:Int) (e:Nat),((Ua (fR s (j:Int))&&!p)=true/\kk=3/\e=j+1/\j<s.size\/(Ua (fR s (j:Int))&&!p)=false/\kk=2/\j=e)/\
    rJ (s.data.toList.drop i)=⟨kk,(s.data.toList.drop i).take (j - i),e - i,!kK (fR s (e:Int))⟩/\i<=e/\e<=j+1:=by
    by_cases hB:Ua (fR s (j:Int))=true/\p=false
    ·obtain⟨h1,rfl⟩:=hB;have hlt:j<s.size:=by
      rcases cY j s.size with h'|h'
      ·exact h'
      ·rw[Du s j aB]at h1;cases h1
     refine⟨3,j+1,.inl ⟨by rw[h1];rfl,rfl,rfl,hlt⟩,?_,by omega,by omega⟩;unfold rJ;rw[HN.out];simp only[fE]
     rw[show i+(j - i)=j from by omega,<- hat,aF ⟨h1,trivial⟩,show i+(j - i+1)=j+1 from by omega,kP s (j+1),show j - i+1=j+1 - i from by omega]
    ·refine⟨2,j,.inr ⟨?_,rfl,rfl⟩,?_,by omega,by omega⟩
     ·cases p
      ·have h3:Ua (fR s (j:Int))=false:=by
        rw[Fq];exact λh=>hB ⟨h,rfl⟩
       rw[h3];rfl
      ·simp
     ·unfold rJ;rw[HN.out];simp only[fE]
      rw[show i+(j - i)=j from by omega,<- hat,aC hB]
   have HNT:=aM hnt;clear hnt hat HN;generalize (Ua (fR s (j:Int))&&!p)=c at hbb ⊢;have hr:=pV s (e:Int);have hBlt:=(aX.1 N1.out).1;have F1:=Wx (B:=w.heap.size) (b:=b) (by have:=hblt;omega);have F2:=Wx (B:=w.heap.size) (b:=w1.heap.size) aB;clear k0 k1 k2 k3
   rcases hbb with ⟨rfl,rfl,rfl,hlt⟩|⟨rfl,rfl,rfl⟩
   ·go_upto_region 12 with fail;have b3:=b2.setCell (p:=(AAF w1.heap.size 0)) (aG _) (.int .i64 3);have n3:(w2.setCell (AAF w1.heap.size 0) (.int .i64 3)).heap[w1.heap.size]?=some (.cells #[.int .i64 3,.string (s.extract i j),.int .i64 i] 47 (0,0)):=by
     simp[World.setCell,pK,N2.out]
    generalize w2.setCell (AAF w1.heap.size 0) (.int .i64 3)=w3 at b3 n3 ⊢;have r1:w3.heap[w.heap.size]?=_:=(b3.block _ hBlt).trans N1.out;have sc3:Aa w3 b s i r v:=(b3.block b sc1.lt).trans sc1;obtain⟨k0,k1,k2,k3⟩:=sc3.cell;have t0:w3.cell? (AAF w1.heap.size 0)=some (.int .i64 3):=aK _ _ 0 _ _ _ n3;have t1:w3.cell? (AAF w1.heap.size 1)=some (.string (s.extract i j)):=aK _ _ 1 _ _ _ n3;have t2:w3.cell? (AAF w1.heap.size 2)=some (.int .i64 i):=aK _ _ 2 _ _ _ n3;have q0:w3.cell? (AAF w.heap.size 0)=some (.int .i64 0):=aK _ _ 0 _ _ _ r1;have q1:w3.cell? (AAF w.heap.size 1)=some (.string ⟨#[]⟩):=aK _ _ 1 _ _ _ r1;have q2:w3.cell? (AAF w.heap.size 2)=some (.int .i64 0):=aK _ _ 2 _ _ _ r1;have f0:=aY r1 0;have f1:=aY r1 1;have f2:=aY r1 2;have B3:=aM b3;clear r1 n3 b3 sc3
    go_region_held3 (λw'=>w'.cell? (AAF b 0)=some (.string s)/\w'.cell? (AAF w1.heap.size 0)=some (.int .i64 3)/\w'.cell? (AAF w1.heap.size 1)=some (.string (s.extract i j))/\w'.cell? (AAF w1.heap.size 2)=some (.int .i64 i)) (go_keep) (first|(go_at_call 93;refine(iA _ _ _).mono ?_;rintro e w' ⟨rfl,hw⟩;rw[hw];clear hw)|(go_at_call 94;refine(AP _ hr.1 hr.2 _).mono ?_;rintro e w' ⟨rfl,n,rfl⟩))
    go_wp2_with fail;refine iW (v:=.tuple #[.agg #[.int .i64 3,.string (s.extract i j),.int .i64 i],.int .i64 ((j:Int)+1),.bool (!kK (fR s ((j:Int)+1)))]) Ty rfl ⟨?_,?_⟩
    ·exact OR
    exact Qu
   ·go_upto_region 12 with fail;have b3:=b2;have n3:=N2.out;have r1:w2.heap[w.heap.size]?=_:=(b3.block _ hBlt).trans N1.out;have sc3:Aa w2 b s i r v:=(b3.block b sc1.lt).trans sc1;obtain⟨k0,k1,k2,k3⟩:=sc3.cell;have t0:w2.cell? (AAF w1.heap.size 0)=some (.int .i64 2):=aK _ _ 0 _ _ _ n3;have t1:w2.cell? (AAF w1.heap.size 1)=some (.string (s.extract i j)):=aK _ _ 1 _ _ _ n3;have t2:w2.cell? (AAF w1.heap.size 2)=some (.int .i64 i):=aK _ _ 2 _ _ _ n3;have q0:w2.cell? (AAF w.heap.size 0)=some (.int .i64 0):=aK _ _ 0 _ _ _ r1;have q1:w2.cell? (AAF w.heap.size 1)=some (.string ⟨#[]⟩):=aK _ _ 1 _ _ _ r1;have q2:w2.cell? (AAF w.heap.size 2)=some (.int .i64 0):=aK _ _ 2 _ _ _ r1;have f0:=aY r1 0;have f1:=aY r1 1;have f2:=aY r1 2;have B3:=aM b3;clear r1 n3 b3 sc3
    go_region_held3 (λw'=>w'.cell? (AAF b 0)=some (.string s)/\w'.cell? (AAF w1.heap.size 0)=some (.int .i64 2)/\w'.cell? (AAF w1.heap.size 1)=some (.string (s.extract i j))/\w'.cell? (AAF w1.heap.size 2)=some (.int .i64 i)) (go_keep) (first|(go_at_call 93;refine(iA _ _ _).mono ?_;rintro e w' ⟨rfl,hw⟩;rw[hw];clear hw)|(go_at_call 94;refine(AP _ hr.1 hr.2 _).mono ?_;rintro e w' ⟨rfl,n,rfl⟩))
    go_wp2_with fail;refine iW (v:=.tuple #[.agg #[.int .i64 2,.string (s.extract i j),.int .i64 i],.int .i64 (j:Int),.bool (!kK (fR s (j:Int)))]) Ty rfl ⟨?_,?_⟩
    ·exact OR
    exact Qu
def uJ(cs:List (Nat×Nat)):List Value:=cs.flatMap λc=>[.int .i64 c.1,.int .i64 c.2]
def amH(a b:List (Nat×Nat)):uJ (a++b)=uJ a++uJ b:=by simp[uJ]
def aKI: (Tryz.prog.info? 171).map (λi=>(i.zero,i.size,i.bytes))=some (some (.agg #[.int .i64 0,.int .i64 0]),2,16):=by kernel_rfl
def aJM: Tryz.prog.underlying 129=some (.slice 171):=by kernel_rfl
section
variable{w:World}{b:Nat}{s:AAE}{i r:Nat}{v:Value}(h:Aa w b s i r v)
include w b s i r v h
theorem Aa.akM(j:Nat):Aa (w.setCell (AAF b 1) (.int .i64 j)) b s j r v:=by
 exact SX
theorem Aa.aER(u:Value):Aa (w.setCell (AAF b 3) u) b s i r u:=by
 exact SX
end
structure Left (B0 b:Nat) (w w':World):Prop where
 below:Below B0 w w'
 others:Lib.OthersKept 171 (some b) w w'
theorem Left.refl(B0 b:Nat)(w:World):Left B0 b w w:=⟨bH _ _,Lib.OthersKept.refl _ _ _⟩
theorem Left.drewN{B0 b:Nat}{a c:World}(h:Left B0 b a c)(n:Nat):Left B0 b a (c.drewN n):=⟨below_drewN h.below n,h.others⟩
theorem Left.setCell{B0 b:Nat}{a c:World}(h:Left B0 b a c)(hB:B0<=b)(j:Nat)(u:Value):Left B0 b a (c.setCell (b,j) u):=
 ⟨h.below.setCell (p:=(b,j)) hB u,h.others.setCell (b,j) rfl u⟩
def ZZ{w:World}{B0 b n size:Nat}{e T:TypeId}{v:Value}{xs:List Value}{cs:Array Value}{fr:Nat×Nat}(hown:w.ownsRow B0 e size v n xs)(hb:w.heap[b]?=some (.cells cs T fr))(hne:T≠e):v.ownBlock≠some b:=by
 rcases hown.2 with ⟨rfl,_⟩|⟨g,cap,cur,rfl,_,hg,_⟩
 ·simp[Value.ownBlock]
 ·intro h;simp only[Value.ownBlock,mP]at h
  subst h;rw[hg]at hb;simp only[mP,Obj.cells.injEq]at hb
  exact hne hb.2.1.symm
def UG{w:World}{B0 b n:Nat}{v v2:Value}{xs:List Value}{s:AAE}{i r:Nat}(hown:w.ownsRow B0 171 2 v n xs)(hsc:Aa w b s i r v2)(j:Nat)(u:Value):(w.setCell (b,j) u).ownsRow B0 171 2 v n xs:=
 hown.kept (row:=some b) ⟨rfl,rfl,rfl,by simp[World.setCell],λk _ hk=>dJ _ _ _ _ (λe=>hk (by simp[e]))⟩ (Or.inr (ZZ hown hsc aD))
def aFN{w:World}{B0 n:Nat}{v:Value}{xs:List Value}(h:w.ownsRow B0 171 2 v n xs):∀ g,v.ownBlock=some g->∃ c fz,w.heap[g]?=some (.cells c 171 fz):=by
 intro g hg
 rcases h.2 with ⟨rfl,_⟩|⟨g',cap,cur,rfl,_,hh,_⟩
 ·simp[Value.ownBlock]at hg
 ·simp only[Value.ownBlock,mP]at hg
  subst hg;exact⟨_,_,hh⟩
def aiR{B0 b:Nat}{w wo w1:World}{v:Value}{n:Nat}{xs:List Value}(hl:Left B0 b w wo)(hg:wo.grownBy w1 v.ownBlock)(hB:B0<=wo.heap.size)(hown:wo.ownsRow B0 171 2 v n xs):Left B0 b w w1:=
 ⟨hl.below.grown hg hB (λk hk=>(hown.lt k hk).1),hl.others.grown hg (aFN hown)⟩
def ZY(B0 b r:Nat)(s:AAE)(i:Nat)(cs:List (Nat×Nat))(w:World)(e:Ending)(w':World):Prop:=
 e=.returned (.bool (Ug s i).1)/\∃ v',Aa w' b s (Ug s i).2.1 r v'/\w'.ownsRow B0 171 2 v' (cs++(Ug s i).2.2).length (uJ (cs++(Ug s i).2.2))/\Left B0 b w w'
def OA{B0 b r:Nat}{s:AAE}{i:Nat}{cs:List (Nat×Nat)}{w w':World}{ok:Bool}{j:Nat}{cs':List (Nat×Nat)}{v':Value}(h:Ug s i=(ok,j,cs'))(hsc:Aa w' b s j r v')(hown:w'.ownsRow B0 171 2 v' (cs++cs').length (uJ (cs++cs')))(hl:Left B0 b w w'):ZY B0 b r s i cs w (.returned (.bool ok)) w':=by
 unfold ZY;rw[h];exact⟨rfl,v',hsc,hown,hl⟩
def awV(B0 b r:Nat)(s:AAE)(i:Nat)(v:Value)(cs:List (Nat×Nat))(hi:i<=s.size)(hs:s.size<=1000000)(hcs:cs.length<=i)(hB:B0<=b)(w:World)(hsc:Aa w b s i r v)(hown:w.ownsRow B0 171 2 v cs.length (uJ cs))(hml:ML w)(hBw:B0<=w.heap.size)(hMb:0<B0):AAA 121 #[.pointer (some (AAF b 0))] w (ZY B0 b r s i cs w):=by
 obtain⟨i0,hi0,hz0,hz1,hz2⟩:=nU aKI;go_in;go_wp2_with fail
 go_step3
 go_wp2_with fail
 go_step3
 go_wp2_with fail
 go_loopg [3] (s.size - i) (λg _ wr=>∃ (j:Nat) (v':Value) (cs':List (Nat×Nat)),i<=j/\j<=s.size/\g=s.size - j/\cs'.length<=j - i/\Ug s i=((Ug s j).1,(Ug s j).2.1,cs'++(Ug s j).2.2)/\
  Aa wr b s j r v'/\wr.ownsRow B0 171 2 v' (cs++cs').length (uJ (cs++cs'))/\Left B0 b w wr)
 case atStart=>exact⟨i,v,[],aG _,hi,rfl,by simp,by simp,hsc,by simpa using hown,Left.refl _ _ _⟩
 case round=>
  obtain⟨j,v',cs',hij,hj,hg,hcl,hq,sc,own,hleft⟩:=hrel;have HQ:=aM hq;have HG:=aM hg;clear hq hown hsc hg;obtain⟨m,hmc⟩:∃ m:Int,wr.cell? (AAF 0 0)=some (.int .i64 m):=by
   obtain⟨_,m,h⟩:=hml;exact⟨m,(hleft.below.cell (p:=(AAF _ 0)) hMb).trans h⟩
  obtain⟨k0,k1,k2,k3⟩:=sc.cell;have f1:wr.frozen? (AAF b 1)=false:=aY sc 1;have f3:wr.frozen? (AAF b 3)=false:=aY sc 3
  by_cases hbl:fR s (j:Int)=32\/fR s (j:Int)=10
  ·have hst:=aM (Yh s j hbl);have hlt:=zN s j aB;have hb1:(fR s (j:Int)==32)=true\/((fR s (j:Int)==32)=false/\(fR s (j:Int)==10)=true):=by
    rcases hbl with h|h
    ·left;rw[h];rfl
    ·right;rw[h];exact⟨rfl,rfl⟩
   clear hbl
   rcases hb1 with c1|⟨c1,c2⟩
   all_goals
    go_wp2_with fail
    go_quiet ((go_at_call 93;exact tQ (iA _ _ _)))
    go_wp2_with fail
    go_roundg (s.size - (j+1))
    case rel=>exact⟨j+1,v',cs',by omega,by omega,rfl,by omega,by rw[HQ.out,hst.out],(show Aa ((wr.drewN nq).setCell _ (.int .i64 ((j+1:Nat):Int))) b s (j+1) r v' from Aa.akM (w:=wr.drewN nq) sc _),UG (w:=wr.drewN nq) own sc _ _,(hleft.drewN _).setCell hB _ _⟩
    case measure=>rw[HG.out];omega
  ·have n32:(fR s (j:Int)==32)=false:=by rw[dR];omega
   have n10:(fR s (j:Int)==10)=false:=by rw[dR];omega
   by_cases hco:fR s (j:Int)=47/\fR s ((j:Int)+1)=42
   ·have e47:(fR s (j:Int)==47)=true:=by rw[hco.1];rfl
    have e42:(fR s ((j:Int)+1)==42)=true:=by rw[hco.2];rfl
    have hlt:=zN s j aB;have hlt2:=zN s (j+1) PF;have x1:(j:Int)+2<=(s.size:Int):=by omega
    obtain⟨K,hK⟩:∃ K:Int,K=Lib.index (s.extract (j+2) s.size).data.toList [42,47]:=⟨_,rfl⟩
    have hidx:∀ n,AAA 140 #[.string (s.extract (j+2) s.size),.string ⟨#[42,47]⟩] (wr.drewN n) λe w'=>e=.returned (.int .i64 K)/\w'=wr.drewN n:=by
     intro n;rw[hK];exact Tryz.strings_Index (s.extract (j+2) s.size) ⟨#[42,47]⟩ m (wr.drewN n) (by rw[ByteArray.size_extract];omega) hmc
    have HIDX:=aM hidx
    by_cases hneg:K<0
    ·have hst:=aM (WI s j hco.1 hco.2 (awY s j (by rw[<- hK];exact hneg)));have HKE:=aM hK;have HCO:=aM hco;clear hco hK hidx hbl;go_wp2_with fail
     go_quiet ((go_at_call 93;exact tQ (iA _ _ _)))
     go_wp2_with fail
     go_quiet ((go_at_call 93;exact nF (iA _ _ _)))
     go_wp2_with fail
     go_quiet ((go_at_call 140;exact nF (HIDX.out _)))
     go_wp2_with fail;rw[FP];go_wp2_with fail;go_ret;exact OA IK sc own (hleft.drewN _)
    ·obtain⟨k,rfl⟩:=Gv (by omega:0<=K);obtain⟨hend,hcm⟩:=aqJ s j k (by rw[<- hK]);have HKE:=aM hK;have HCO:=aM hco;have HCM:=aM hcm;clear hco hK hidx hbl hcm;go_wp2_with fail
     go_quiet ((go_at_call 93;exact tQ (iA _ _ _)))
     rename Nat=>n1
     go_wp2_with fail
     go_quiet ((go_at_call 93;exact nF (iA _ _ _)))
     rename Nat=>n2
     go_wp2_with fail
     go_quiet ((go_at_call 140;exact nF (HIDX.out _)))
     rename Nat=>n3
     go_upto_region 8 with fail;have scq:Aa (wr.drewN (n1+n2+n3)) b s j r v':=sc;have ownq:(wr.drewN (n1+n2+n3)).ownsRow B0 171 2 v' (cs++cs').length (uJ (cs++cs')):=own;have leftq:=hleft.drewN (n1+n2+n3);have hBq:B0<=(wr.drewN (n1+n2+n3)).heap.size:=aZ hBw leftq.below.size;generalize wr.drewN (n1+n2+n3)=wo at scq ownq leftq hBq ⊢;clear k0 k1 k2 k3 f1 f3 sc own hleft hmc HIDX;obtain⟨k0,k1,k2,k3⟩:=scq.cell;have f1:wo.frozen? (AAF b 1)=false:=aY scq 1;have f3:wo.frozen? (AAF b 3)=false:=aY scq 3;have k64:(k:Int)+((j:Int)+4)=((j+k+4:Nat):Int):=by omega
     go_upto_block 3 with fail;go_cut [5] (λ_ wx=>wo=wx/\((s.data.toList.drop j).take (k+4)).all (λc=>jI (c.toNat:Int)||c==10)=true)
     case first=>
      go_wp2_with fail
      go_loop [5] (λq=>∃ p:Nat,p<=k+4/\q=.int .i64 (j+p:Nat)/\((s.data.toList.drop j).take p).all (λc=>jI (c.toNat:Int)||c==10)=true) (λq=>s.size - (intOf q).toNat)
      case atStart=>exact⟨0,by omega,rfl,rfl⟩
      case round=>
       obtain⟨p,hp,rfl,hall⟩:=hrel;have HALL:=aM hall;clear hall
       by_cases hlt3:p<k+4
       ·have hx:j+p<s.size:=by omega
        have y1:((j+p:Nat):Int)<(k:Int)+((j:Int)+4):=by omega
        by_cases hok:(jI ((s[j+p]'hx).toNat:Int)||s[j+p]'hx==10)=true
        ·have hok2:jI ((s[j+p]'hx).toNat:Int)=true\/(jI ((s[j+p]'hx).toNat:Int)=false/\(((s[j+p]'hx).toNat:Int) != 10)=false):=by
          cases h:jI ((s[j+p]'hx).toNat:Int)
          ·right;rw[h]at hok;refine⟨rfl,?_⟩
           have:s[j+p]'hx=10:=by simpa using hok
           rw[this];rfl
          ·left;rfl
         have HOK:=aM hok;clear hok
         rcases hok2 with h1|⟨h1,h2⟩
         all_goals
          go_wp2_with (go_at_call 71;refine(Oi _ _).mono ?_;rintro e w' ⟨rfl,hw⟩;rw[hw];clear hw)
          go_round
          case rel=>exact⟨p+1,by omega,by go_num,Xs _ s j p hx HALL.out HOK.out⟩
          case measure=>simp[intOf];omega
        ·have hbad:((s.data.toList.drop j).take (k+4)).all (λc=>jI (c.toNat:Int)||c==10)=false:=ZR _ s j p (k+4) hx hlt3 (by simpa using hok);have hcmn:TR (s.data.toList.drop j)=none:=by rw[HCM.out,hbad];rfl
         have hst:=aM (WI s j HCO.out.1 HCO.out.2 hcmn);have h1:jI ((s[j+p]'hx).toNat:Int)=false:=by simp at hok;exact hok.1
         have h2:(((s[j+p]'hx).toNat:Int) != 10)=true:=by
          simp at hok;rw[bne_iff_ne];intro h;exact hok.2 ((MI _ 10 aD).2 h)
         clear hok hbad hcmn;go_wp2_with (go_at_call 71;refine(Oi _ _).mono ?_;rintro e w' ⟨rfl,hw⟩;rw[hw];clear hw);rw[FP];go_wp2_with fail;go_ret;exact OA IK scq ownq leftq
       ·obtain rfl:p=k+4:=by omega
        have y1:¬ ((j+(k+4):Nat):Int)<(k:Int)+((j:Int)+4):=by omega
        go_wp2_with fail;go_meet
        case rel=>exact⟨rfl,HALL.out⟩
     case rest=>
      obtain⟨rfl,hall⟩:=hcut;have hcm2:TR (s.data.toList.drop j)=some (k+4):=by rw[HCM.out,hall];rfl
      have hst:=aM (aoD s j (k+4) HCO.out.1 HCO.out.2 hcm2);have hlen:(cs++cs').length<=1000000:=by rw[aO];omega
      have hmax:(cs++cs').length+1<=maxLen:=by unfold maxLen;omega
      have hby:((cs++cs').length+1)*16<=140737488355328:=by omega
      have hone:∀ u∈[Value.int .i64 (j:Int),Value.int .i64 ((j:Int)+(k:Int)+4)],u.oneCell'=true:=by
       intro u hu;simp at hu;rcases hu with rfl|rfl<;>rfl
      have hne:=ZZ ownq scq (by decide:(160:Nat)≠171);have hblt:=scq.lt;have hBs:∀ o,B0<=(wo.alloc o).heap.size:=λo=>by simp;omega
      have hbs:∀ o,b<(wo.alloc o).heap.size:=λo=>by simp;omega
      have hnews:∀ jj u,[Value.int .i64 (j:Int),Value.int .i64 ((j:Int)+(k:Int)+4)][jj]?=some u->(wo.alloc (.cells #[.int .i64 j,.int .i64 ((j:Int)+(k:Int)+4)] 171)).drew.cell? (((AAF wo.heap.size 0):Addr).add jj)=some u:=tG (aP wo (.cells #[.int .i64 j,.int .i64 ((j:Int)+(k:Int)+4)] 171));have hown2:(wo.alloc (.cells #[.int .i64 j,.int .i64 ((j:Int)+(k:Int)+4)] 171)).drew.ownsRow B0 171 2 v' (cs++cs').length (uJ (cs++cs')):=ownq.alloc (.cells #[.int .i64 j,.int .i64 ((j:Int)+(k:Int)+4)] 171);have hB2:B0<=(wo.alloc (.cells #[.int .i64 j,.int .i64 ((j:Int)+(k:Int)+4)] 171)).drew.heap.size:=hBs (.cells #[.int .i64 j,.int .i64 ((j:Int)+(k:Int)+4)] 171);have hb2:b<(wo.alloc (.cells #[.int .i64 j,.int .i64 ((j:Int)+(k:Int)+4)] 171)).drew.heap.size:=hbs (.cells #[.int .i64 j,.int .i64 ((j:Int)+(k:Int)+4)] 171);have hsc2:(wo.alloc (.cells #[.int .i64 j,.int .i64 ((j:Int)+(k:Int)+4)] 171)).drew.heap[b]?=some (.cells #[.string s,.int .i64 j,.map (some r),v'] 160 (0,0)):=(lP wo (.cells #[.int .i64 j,.int .i64 ((j:Int)+(k:Int)+4)] 171) b hblt).trans scq;have hne2:some b≠v'.ownBlock:=λe=>hne e.symm
      have leftL:Left B0 b w (wo.alloc (.cells #[.int .i64 j,.int .i64 ((j:Int)+(k:Int)+4)] 171)).drew:=⟨(leftq.below.alloc hBq (.cells #[.int .i64 j,.int .i64 ((j:Int)+(k:Int)+4)] 171)).drew,leftq.others.alloc (.cells #[.int .i64 j,.int .i64 ((j:Int)+(k:Int)+4)] 171)⟩
      have hp2:0<2:=by decide
      have hp1:0<1:=by decide
      clear hall hcm2;go_upto_region 14 with fail;go_cut [2] (λ_ wx=>∃ v2,Aa wx b s j r v2/\wx.ownsRow B0 171 2 v2 ((cs++cs').length+1) (uJ (cs++cs')++[.int .i64 j,.int .i64 ((j:Int)+(k:Int)+4)])/\Left B0 b w wx)
      case first=>
       go_region_law (first|(refine step_append_lies _ rfl _ _ _ rfl B0 171 i0 (.agg #[.int .i64 0,.int .i64 0]) 2 16 aJM hi0 hz0 hz1 hz2 rfl hp2 _ _ _ rfl hown2 (AAF wo.heap.size 0) 1 1 [.int .i64 j,.int .i64 ((j:Int)+(k:Int)+4)] rfl rfl hnews hone hp1 hmax hby hB2 _ rfl ?_;intro g cap w1 hown1 hgrow hlie hlt;have g1:=(hgrow.block b hb2 hne2).trans hsc2;have g3:w1.cell? (AAF b 3)=some v':=aK w1 b 3 _ _ _ g1;have g4:=aY g1 3))
       all_goals
        go_wp2_with fail;go_meet
        case rel=>
         rw[aO]at hown1;exact⟨_,Aa.aER (w:=w1) g1 _,by rw[aO];exact UG hown1 g1 3 _,(aiR leftL hgrow hB2 hown2).setCell hB 3 _⟩
      case rest=>
       rename World=>w5
       obtain⟨v2,sc5,own5,left5⟩:=hcut;clear k0 k1 k2 k3 f1 f3;obtain⟨k0,k1,k2,k3⟩:=sc5.cell;have f1:w5.frozen? (AAF b 1)=false:=aY sc5 1;have eE:((j:Int)+(k:Int)+4)=((j+(k+4):Nat):Int):=by omega
       have own6:w5.ownsRow B0 171 2 v2 (cs++(cs'++[(j,j+(k+4))])).length (uJ (cs++(cs'++[(j,j+(k+4))]))):=by
        rw[eE]at own5;rw[<- bT,aO,amH (cs++cs')];exact own5
       have HEE:=aM eE;clear eE own5;go_wp2_with fail
       go_roundg (s.size - (j+(k+4)))
       case rel=>
        refine⟨j+(k+4),v2,cs'++[(j,j+(k+4))],by omega,by omega,rfl,?_,?_,?_,UG own6 sc5 1 _,left5.setCell hB 1 _⟩
        ·rw[aO];show cs'.length+1<=_;omega
        ·rw[HQ.out,hst.out];simp
        ·rw[HEE.out];exact Aa.akM sc5 _
       case measure=>rw[HG.out];omega
   ·have hst:=aM (aeQ s j hbl hco);have hc2:(fR s (j:Int)==47)=false\/((fR s (j:Int)==47)=true/\(fR s ((j:Int)+1)==42)=false):=by
     by_cases h:fR s (j:Int)=47
     ·right;exact⟨by rw[h];rfl,by rw[dR];exact λh'=>hco ⟨h,h'⟩⟩
     ·left;rw[dR];exact h
    clear hbl hco
    rcases hc2 with c1|⟨c1,c2⟩
    ·exact PX
    ·exact PX
end
