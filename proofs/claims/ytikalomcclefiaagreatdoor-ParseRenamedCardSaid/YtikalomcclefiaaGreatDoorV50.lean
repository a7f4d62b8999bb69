/- Part 50. -/
import Derived.Test.YtikalomcclefiaaGreatDoorV49
set_option linter.all false
set_option maxHeartbeats 0
set_option maxRecDepth 100000
namespace Go.Proofs.YtikalomcclefiaaGreatDoor
section
open Go.ChangeShapes Go.WideShapes Go.Deep Go.RowKit Lx Px
def inR(n:Int):Prop:=-9223372036854775808<=n/\n<=9223372036854775807
def XJ: T->Prop:=ev λn _ _=>inR n
def abI{w:World}{b off:Nat}:∀ (m:Nat),(∀ i,i<m->∃ t us,us.length=5/\iB (λ_=>True) w t us/\XJ t/\∀ j u,us[j]?=some u->w.cell? (AAF b (off+(i*5+j)))=some u)->∃ l vs,l.length=m/\dO (λ_=>True) w l vs/\Xz (λn _ _=>inR n) l/\∀ j u,vs[j]?=some u->w.cell? (AAF b (off+j))=some u:=by
 intro m
 induction m with
 | zero=>intro _;exact⟨[],[],rfl,by unfold dO;rfl,by unfold Xz;trivial,λj u h=>by simp at h⟩
 | succ m ih=>
  intro h;obtain⟨l,vs,h1,h2,h3,h4⟩:=ih λi hi=>h i aB
  obtain⟨t,us,g1,g2,g3,g4⟩:=h m aB;have hvl:vs.length=m*5:=by rw[h2.len,h1]
  refine⟨l++[t],vs++us,by simp[h1],dO.app h2 (dO.one g2),(abO _).2 λx hx=>?_,λj u hj=>?_⟩
  ·rcases fP.1 hx with hx|hx
   ·exact(abO _).1 h3 x hx
   ·rw[cO.1 hx];exact g3
  ·rcases cY j vs.length with hlt|hge
   ·rw[Gc hlt]at hj;exact h4 j u hj
   ·rw[Ad hge]at hj;have:=g4 (j - vs.length) u hj;rw[show m*5+(j - vs.length)=j by omega]at this;exact this
section
variable {H:Type} {enc:TypeId×Value->H}
def azO{n:Int}(h:(Lit.int .i64 n).wf=true):inR n:=by
 unfold inR;unfold Lit.wf at h;rw[bA,dX,dX]at h;exact h
def avB{w:World}{base:Nat}{spare:Nat->Bool}{held:Bool}:∀ (fuel:Nat) (cs:List Value) (x:DataW H×List MemPlace),DataW.trod enc Tryz.prog w base spare held fuel 24 cs=some x->∃ (t:T) (k n a:Int) (s:dL) (ao:iD) (m c:Nat),cs=vT k n a s ao m c/\Tr w t (vT k n a s ao m c)/\XJ t:=by
 intro fuel
 induction fuel using Nat.strongRecOn with
 | _ fuel ih=>
  intro cs x h;obtain⟨xs,n',rfl,hx,hcl,hxl,hf⟩:=DataW.trod_struct Tryz.underlying24 h;have hcl5:cs.length=5:=hcl;have hxl5:xs.length=5:=hxl
  match cs,hcl5 with
  | [c0,c1,c2,c3,c4],_=>
  have h0:=(hf 0 _ rfl).trans (dQ aB);have h1:=(hf 1 _ rfl).trans (dQ aB);have h2:=(hf 2 _ rfl).trans (dQ aB);have h3:=(hf 3 _ rfl).trans (dQ aB);have h4:=(hf 4 _ rfl).trans (dQ aB);obtain⟨k,e0,_,_⟩:=zP Tryz.underlying3 h0;obtain⟨n,e1,_,hn⟩:=zP Tryz.underlying3 h1;obtain⟨a,e2,_,_⟩:=zP Tryz.underlying3 h2;obtain⟨s,e3,_,_⟩:=DataW.trod_string Tryz.underlying9 h3
  cases e0;cases e1;cases e2;cases e3
  rcases DataW.trod_slice Tryz.underlying22 h4 with ⟨e4,_⟩|⟨ad,len,cap,elems,rest,n2,hn2,e4,_,hb,hl,hm,hlen,hel,_,_⟩
  ·cases e4
   refine⟨.mk k n a s [],k,n,a,s,none,0,0,rfl,iB.leaf _ _ _ _ _ _ _,?_⟩;unfold XJ ev;exact⟨azO hn,by unfold Xz;trivial⟩
  ·cases e4
   obtain⟨b,off,spot⟩:=ad;have hspot:0<len->spot=none:=λhpos=>by
    have hc:=hel 0 hpos;rw[dQ aB]at hc;obtain⟨cs',h5,_⟩:=LH.1 hc;obtain⟨_,hcl',hat⟩:=Cs h5;have h5c:Tryz.prog.cellsOf 24=5:=by kernel_rfl
    have h6:=hat 0 (by rw[h5c];decide);rw[dQ (by rw[hcl',h5c];decide)]at h6
    simpa[Addr.add]using World.cell?_spot h6
   obtain⟨l,vs,g1,g2,g3,g4⟩:=abI (w:=w) (b:=b) (off:=off) len λi hi=>by
    have hc:=hel i hi;rw[dQ aB]at hc;obtain⟨cs',h5,h6⟩:=LH.1 hc;obtain⟨t,k1,n1,a1,s1,o1,m1,c1,rfl,hT,hE⟩:=ih n2 aB cs' _ h6;refine⟨t,_,rfl,hT,hE,λj u hj=>?_⟩;obtain⟨_,hcl',hat⟩:=Cs h5;have hspn:=hspot aB;subst hspn;have hj5:j<5:=(lS.1 hj).1;have h7:=hat j hj5;rw[hj,show Tryz.prog.cellsOf 24=5 by kernel_rfl,vL,vL]at h7;rw[show off+(i*5+j)=off+i*5+j by omega];exact h7
   subst g1;refine⟨.mk k n a s l,k,n,a,s,some ⟨b,off,spot⟩,l.length,cap,rfl,?_,?_⟩
   ·unfold Tr iB;refine⟨some ⟨b,off,spot⟩,cap,rfl,λhne=>?_,hl⟩;have hpos:0<l.length:=pE.2 hne;have hspn:=hspot hpos;subst hspn;have hv5:0<vs.length:=by rw[g2.len];omega
    have h0c:=g4 0 _ (dQ hv5);exact⟨b,off,vs,rfl,trivial,CD _ _ h0c,g2,g4⟩
   ·unfold XJ ev;exact⟨azO hn,g3⟩
end
end
section
open Go.RowKit Lx Px
def aFA(t:T):XJ t↔inR t.n/\∀ x,x∈t.l->XJ x:=by
 obtain⟨k,n,a,w,l⟩:=t;unfold XJ
 exact GW
def aES: ∀ (l:List T),(∀ x,x∈l->TJ x)->Vl l:=by
 intro l
 induction l with
 | nil=>intro _;unfold Vl;trivial
 | cons x r ih=>intro h;unfold Vl;exact⟨h x (.head _),ih λy hy=>h y (.tail _ hy)⟩
def aIM: ∀ d (t:T),depth t<=d->XJ t->nodes t<=1000000->TJ t:=by
 intro d
 induction d using Nat.strongRecOn with
 | _ d ih=>
  intro t hd hr hn;have H:=λ(x:T) (hx:x∈t.l)=>ih (depth x) (by have:=Px.sD hx;omega) x (aG _)
  have h1:=(aFA t).1 hr;have e1:nodes t=1+bV t.l:=by obtain⟨k,n,a,w,l⟩:=t;rw[nodes];rfl
  have h2:=lU t.l;have h3:Vl t.l:=aES _ λx hx=>H x hx (h1.2 x hx) (by have:=CK hx;omega)
  obtain⟨k,n,a,w,l⟩:=t;unfold TJ;exact⟨h1.1,by have:l.length<=bV l:=h2;have e2:nodes (T.mk k n a w l)=1+bV l:=e1;omega,h3⟩
def aIG: ∀ d (t:T),depth t<=d->wL t->Xp t:=by
 intro d
 induction d using Nat.strongRecOn with
 | _ d ih=>
  intro t hd hw;have H:=λ(x:T) (hx:x∈t.l)=>ih (depth x) (by have:=Px.sD hx;omega) x (aG _)
  have h1:=(aAr t).1 hw;obtain⟨k,n,a,w,l⟩:=t;unfold Xp;refine⟨aZ h1.1 aD,(afW l).2 λx hx=>H x hx (h1.2 x hx)⟩
def Tb{t:T}{v:Nat}(h:CF t v 1)(hv:v<=1000000)(hr:XJ t):TJ t/\Xp t:=⟨aIM _ t (aG _) hr (by have:=h.1;omega),aIG _ t (aG _) h.2.2⟩
def vG{w:World}{l:List T}{vs:List Value}(h:dO (λ_=>True) w l vs)(cs:Array Value)(hc:cs=vs.toArray)(n:Nat)(hn:n=l.length):Rw (w.alloc (.cells cs 24)) (.slice (some (AAF w.heap.size 0)) n n) l:=by
 subst hc hn;have b:=aJ w (.cells vs.toArray 24);have hn:=aP w (.cells vs.toArray 24);refine⟨_,_,vs,rfl,dO.kept (λ_ _ _=>trivial) b.size (λx _ hl=>b.block x hl) h,λ_=>⟨_,0,rfl,nK hn,λi u hu=>?_⟩⟩;rw[dT,aK _ _ i _ _ _ hn]
 simpa using hu
theorem Ei.take{w:World}{ao:iD}{c n:Nat}{p:List Int}(h:Ei w (.slice ao p.length c) p)(hn:n<=p.length):Ei w (.slice ao n c) (p.take n):=by
 obtain⟨ao',c',e,h,hc⟩:=h
 cases e
 refine⟨ao,c,by rw[jV,FW hn],λhne=>?_,by rw[jV];omega⟩;have hp:p≠[]:=λe=>hne (by rw[e,List.take_nil])
 obtain⟨b,off,e,hl,hu⟩:=h hp;refine⟨b,off,e,hl,λi hi=>?_⟩;rw[List.getElem_take];exact hu i (by rw[jV]at hi;omega)
def Ei.form{w:World}{v:Value}{p:List Int}(h:Ei w v p):∃ ao c,v=.slice ao p.length c/\p.length<=c:=by
 obtain⟨ao,c,e,_,hc⟩:=h;exact⟨ao,c,e,hc⟩
def rI.row{ob:Nat}{w:World}{v u:Value}{p:List Int}(h:rI ob w v u p):Ei w u p:=by
 rcases h with ⟨rfl,rfl⟩|⟨b,off,cap,rfl,h0,h1,h2,h3,h4,h5⟩
 ·exact⟨none,0,rfl,λh=>absurd rfl h,aG _⟩
 ·exact⟨_,cap,rfl,λ_=>⟨b,off,rfl,h1,h5⟩,h4⟩
def mV.get{ob:Nat}{w:World}{v:Value}:∀ {us:List Value} {ps:List (List Int)},mV ob w v us ps->∀ i,(hi:i<ps.length)->∃ u,us[i]?=some u/\Ei w u (ps[i]'hi):=by
 intro us
 induction us with
 | nil=>intro ps h i hi;cases ps with
  | nil=>exact Ja
  | cons p ps=>exact h.elim
 | cons u us ih=>intro ps h i hi;cases ps with
  | nil=>exact h.elim
  | cons p ps=>cases i with
   | zero=>exact⟨u,rfl,h.1.row⟩
   | succ i=>exact ih h.2 i wK
end
section
open Go.ChangeShapes Go.WideShapes Go.ChangeAt Go.RowKit Lx Px
section
variable {H:Type} {enc:TypeId×Value->H}
open Go.ChangeAt in
def Ce{C:Checked}{os:Os}{f:FuncId}{fn:Func}{s:ChangeSpec}{X:World->Array Value->Prop}(own:ownKnob C.prog.godebug=none)(started:os.Started)(noInit:C.prog.inits.idxOf? f=none)(hfn:C.prog.funcs[f]?=some fn)(witness:∃ (w:World) (tape:Tape) (i:Input),w.os=os/\(w.forCall tape i).Shaped C.prog/\i.vars=[]/\Input.okWide C.prog (w.forCall tape i) .any w.heap.size f i/\((s.pre enc C.prog fn [] false (w.forCall tape i).memory i.args/\X (w.forCall tape i).memory i.args)/\sizedMet enc C.prog fn (OpenSpec.ofChange s) false (w.forCall tape i).memory i.args)/\({}:Assume).holds C.prog (lone (Frame.enter C.prog f i.args .normal) [] (w.forCall tape i)))(contract:∀ (W:World) (base:Nat) (args:Array Value) (ds gs:List (DataW H)) (before:List MemPlace),(∀ (j:Nat) t v,fn.params[j]?=some t->args[j]?=some v->Value.okWide C.prog W .any base t v)->DataW.Whole enc C.prog fn.params.toList s.vars false W args.toList ds gs before->(DataW.weightsEach C.prog (fn.params.toList++s.plain.varTypes C.prog) (ds++gs)).all (·<=reachBytes)=true->W.ShapedOpen C.prog->X W.memory args->Calls C.prog f args W λe W'=>∃ v,e=.returned v/\s.post enc C.prog fn false true false false W args v W'):ReturnsInHanded {} C os f .any (λw args=>(s.pre enc C.prog fn [] false w args/\X w args)/\sizedMet enc C.prog fn (OpenSpec.ofChange s) false w args) (s.post enc C.prog fn false true false false):=by
 refine returnsInHanded_of_calls own started noInit witness ?_;intro w tape i _ hsh _ hok hpre hholds;obtain⟨_,_,_,fn',hfn',_,_,_,_,hval⟩:=hok;have e:fn'=fn:=Option.some.inj (hfn'.symm.trans hfn);subst e;obtain⟨⟨⟨ds,gs,before,hw,hc⟩,hx⟩,hz⟩:=hpre;have hw':=DataW.Whole.of_heap (w':=w.forCall tape i) mX hw;refine(contract (w.forCall tape i) w.heap.size i.args ds gs before hval hw' (hz.weights hw) hsh hx).mono λe W' ⟨v,he,hp⟩=>?_;subst he;exact ChangeSpec.post_blind hp
def Zq{P:Program}{w:World}{x:String×DataW Unit}{rest:List (String×DataW Unit)}{ps:List MemPlace}(h:DataW.LaidVars P w (x::rest) ps):∃ q,DataW.LaidVars P w rest q:=by
 obtain⟨_,_,_,_,_,q,_,_,_,_,h,_⟩:=h;exact⟨q,h⟩
def Xv{P:Program}{W:World}{name:String}{k:IntKind}{zs:List Int}{rest:List (String×DataW Unit)}{ps:List MemPlace}{g:Nat}{t e:TypeId}{n:Nat}(hg:P.globalNamed name=some g)(hty:(P.globals[g]?).map (·.type)=some t)(ht:P.underlying t=some (.array n e))(he:P.underlying e=some (.int k))(hce:P.cellsOf e=1)(hct:P.cellsOf t=n)(h:DataW.LaidVars P W ((name,Lib.tabData k zs)::rest) ps):Lib.TabIs P W name k zs:=by
 obtain⟨g',t',cs,fuel,p,q,hg',ht',hvar,hd,_,_⟩:=h;obtain rfl:=Option.some.inj (hg.symm.trans hg');obtain rfl:=Option.some.inj (hty.symm.trans ht');unfold Lib.TabIs;rw[hvar,<- Lib.cells_of_tab ht he hce hct hd]
def Vc{W:World}(h:laidMet Tryz.prog rH W):fQ W:=by
 obtain⟨ps,hv,_⟩:=h;obtain⟨q1,h1⟩:=Zq hv;obtain⟨q2,h2⟩:=Zq h1;exact Xv (g:=3) (t:=209) (e:=190) (n:=20) aQ aQ aQ aQ aQ aQ h2
end
end
section
open Go
set_option maxRecDepth 100000
def ayZ: Tryz.prog.laidByTextLater [("math/bits.deBruijn32tab",Rows.laid_math_bits_deBruijn32tab),("math/bits.deBruijn64tab",Rows.laid_math_bits_deBruijn64tab),("internal/strconv.uint64pow10",Rows.laid_internal_strconv_uint64pow10),("unicode/utf8.acceptRanges",Rows.laid_unicode_utf8_acceptRanges),("strconv.ErrRange",Rows.laid_strconv_ErrRange),("strconv.ErrSyntax",Rows.laid_strconv_ErrSyntax)] [.data,.data,.data,.data,.sentinel,.sentinel] true:=
 Program.laidByTextLater_by_one 72 8 65 aQ aQ aQ aQ aQ aQ (λ_ _=>by kernel_rfl)
def jD: Tryz.pinned.checked.prog.pinnedFits "unicode/utf8.first" = true:=by kernel_rfl
def afT: Tryz.pinned.checked.prog.headLifts.contains "ownunsafe" = false:=by kernel_rfl
def aiE: Tryz.pinned.checked.prog.listedFits [("math/bits.deBruijn32tab",Rows.laid_math_bits_deBruijn32tab),("math/bits.deBruijn64tab",Rows.laid_math_bits_deBruijn64tab),("internal/strconv.uint64pow10",Rows.laid_internal_strconv_uint64pow10),("unicode/utf8.acceptRanges",Rows.laid_unicode_utf8_acceptRanges),("strconv.ErrRange",Rows.laid_strconv_ErrRange),("strconv.ErrSyntax",Rows.laid_strconv_ErrSyntax),("unicode/utf8.first",Rows.laid_unicode_utf8_first)]=true:=by
 unfold Program.listedFits;rw[afT]
 kernel_rfl
def tie: Tryz.prog.laidByTextLater [("math/bits.deBruijn32tab",Rows.laid_math_bits_deBruijn32tab),("math/bits.deBruijn64tab",Rows.laid_math_bits_deBruijn64tab),("internal/strconv.uint64pow10",Rows.laid_internal_strconv_uint64pow10),("unicode/utf8.acceptRanges",Rows.laid_unicode_utf8_acceptRanges),("strconv.ErrRange",Rows.laid_strconv_ErrRange),("strconv.ErrSyntax",Rows.laid_strconv_ErrSyntax)] [.data,.data,.data,.data,.sentinel,.sentinel] true:=
 Program.laidByTextLater.sub ayZ ["math/bits.deBruijn32tab","math/bits.deBruijn64tab","internal/strconv.uint64pow10","unicode/utf8.acceptRanges","strconv.ErrRange","strconv.ErrSyntax"] aQ aQ
end
section
open Go.RowKit Lx Px
def Hy{t t':T}(h:dM t' t=true)(hc:CF t 4100 1)(hr:XJ t):CF t' 4100 1/\XJ t':=by
 obtain⟨h1,h2,h3⟩:=hc;exact⟨⟨by rw[Vt h];omega,by rw[Vp h];omega,aqS h h3⟩,aqS h hr⟩
def Tr.kid{wB w:World}(low:iY wB w){t:T}{k n a:Int}{s:dL}{ao:iD}{m c:Nat}(ht:Tr wB t (vT k n a s ao m c))(i:Nat)(hi:i<t.l.length):∃ b off k1 n1 a1 s1 o1 m1 c1,ao=some ⟨b,off,.none⟩/\m=t.l.length/\Tr wB (t.l[i]'hi) (vT k1 n1 a1 s1 o1 m1 c1)/\w.cell? ⟨b,off+i*5,.none⟩=some (.int .i64 k1)/\w.cell? ⟨b,off+i*5+1,.none⟩=some (.int .i64 n1)/\w.cell? ⟨b,off+i*5+4,.none⟩=some (.slice o1 m1 c1):=by
 obtain⟨ao1,c1',vs1,e,hTs,hrow⟩:=mH.tree (rv:=[]) low ht;obtain⟨b,off,rfl,_,hcell⟩:=hrow DE;simp only[dZ]at e
 obtain⟨rfl,rfl,rfl⟩:=e;obtain⟨k1,n1,a1,s1,o1,m1,c1,hTr,d0,d1,d2,d3,d4⟩:=Tr.elem hTs hcell i hi;exact⟨b,off,k1,n1,a1,s1,o1,m1,c1,rfl,rfl,hTr,d0,d1,d4⟩
def IC{t:T}(h:¬ qF t=true):qF t=false:=by
 cases e:qF t with
 | false=>rfl
 | true=>exact absurd e h
def EO(w:World)(t:T)(hn:nodes t<=1000000)(k n a:Int)(s:dL)(ao:iD)(m c:Nat)(ht:Tr w t (vT k n a s ao m c)):AAA 15 #[tg k n a s ao m c] w λe w'=>e=.returned (.bool (qF t))/\iY w w':=by
 have b1:=aJ w (.cells (tg k n a s ao m c) 24);have t1:=TV.new w k n a s (.slice ao m c);obtain⟨e1,u2,u3,u4,rfl⟩:=ht.split;have hk:k=14↔t.kind=14:=by rw[e1]
 have hk15:=lU t.l;have hnn:nodes t=1+bV t.l:=by obtain⟨k,n,a,w,l⟩:=t;rw[nodes];rfl
 have HP:=aN hk;clear e1 hk u2 u3 u4;go_in;go_upto_region 1 with fail;generalize World.alloc w _=w1 at b1 t1 ⊢;have:=AAD t1
 by_cases h1:k=14
 ·by_cases h2:t.l.length=1
  ·obtain⟨b,off,k1,n1,a1,s1,o1,m1,c1,rfl,_,hT1,d0,d1,d4⟩:=ht.kid b1 0 aB;simp only[Da,lE]at d0 d1 d4
   have e2:∃ x,t.l=[x]/\Tr w x (vT k1 n1 a1 s1 o1 m1 c1):=by
    obtain⟨x,hx⟩:=List.length_eq_one_iff.1 h2;have e9:t.l[0]' aB=x:=by simp only[hx,zI]
    rw[e9]at hT1;exact⟨x,hx,hT1⟩
   obtain⟨x,hx,hT2⟩:=e2;clear hT1;obtain⟨f1,f2,f3,f4,rfl⟩:=hT2.split;have hxn:nodes x<=1000000:=by rw[hx,bV,bV]at hnn;omega
   have hxl:=lU x.l;have hxx:nodes x=1+bV x.l:=by obtain⟨k,n,a,w,l⟩:=x;rw[nodes];rfl
   have HX:=aN hx;have HK1:=aN f1;have HN1:=aN f2;clear hx f1 f2 f3 f4
   by_cases h3:k1=15
   ·by_cases h4:n1=1
    ·by_cases h5:1<x.l.length
     ·obtain⟨b2,off2,k2,n2,a2,s2,o2,m2,c2,rfl,_,hT3,g0,g1,g4⟩:=hT2.kid b1 0 aB;simp only[Da,lE]at g0 g1 g4
      obtain⟨b3,off3,k3,n3,a3,s3,o3,m3,c3,e3,_,hT4,i0,i1,i4⟩:=hT2.kid b1 1 h5;simp only[Nat.one_mul]at i0 i1 i4
      cases e3
      obtain⟨p1,p3,p4,p5,rfl⟩:=hT3.split;obtain⟨p2,p6,p7,p8,p9⟩:=hT4.split;have hfin:qF t=(decide (x.l[0].l.length=0)&&decide (k3=10)):=by
       have e5:∃ y z r,x.l=y::z::r:=by
        match hl:x.l,h5 with
        | y::z::r,_=>exact⟨y,z,r,rfl⟩
       obtain⟨y,z,r,hyz⟩:=e5;obtain⟨kk,nn,aa,ww,ll⟩:=t;obtain⟨kx,nx,ax,wx,lx⟩:=x;obtain rfl:ll=_:=HX.out;obtain rfl:lx=_:=hyz;obtain rfl:kk=14:=HP.out.1 h1;obtain rfl:kx=15:=HK1.out.symm.trans h3;obtain rfl:nx=1:=HN1.out.symm.trans h4
       show (decide (y.l=[])&&decide (z.kind=10))=_
       rw[p2]
       congr 1
       exact decide_eq_decide.2 nN.symm
      have HFIN:=aN hfin;have y1:(k==(14:Int))=true:=by simp[h1]
      have y2:((t.l.length:Int)==1)=true:=by simp[h2]
      have y3:(k1==(15:Int))=true:=by simp[h3]
      have y4:(n1==(1:Int))=true:=by simp[h4]
      have y5:(1:Int)<(x.l.length:Int):=by omega
      have y8:(0:Int)<(t.l.length:Int):=by omega
      have y9:(0:Int)<(x.l.length:Int):=by omega
      clear hfin p1 p2 p3 p4 p5 p6 p7 p8 p9 hT3 hT4 ht h1 h2 h3 h4
      by_cases h6:x.l[0].l=[]
      ·by_cases h7:k3=10
       ·have HF:=aN (show qF t=true by rw[HFIN.out,h6,h7];rfl);have y7:(k3==(10:Int))=true:=by simp[h7]
        exact PC
       ·have HF:=aN (show qF t=false by rw[HFIN.out,bX h7,Bool.and_false]);have y7:(k3==(10:Int))=false:=by simp[h7]
        exact PC
      ·have HF:=aN (show qF t=false by rw[HFIN.out,bX (λe=>h6 (nN.1 e)),FL]);clear HFIN;go_wp2_with fail;go_ret;exact⟨by rw[HF.out];rfl,b1⟩
     ·have hfin:qF t=false:=IC λhp=>by
       obtain⟨_,a9,w9,y,z,r,hl,_⟩:=rZ hp;rw[HX.out]at hl
       cases hl
       simp[T.l]at h5
      have HFIN:=aN hfin;have y1:(k==(14:Int))=true:=by simp[h1]
      have y2:((t.l.length:Int)==1)=true:=by simp[h2]
      have y3:(k1==(15:Int))=true:=by simp[h3]
      have y4:(n1==(1:Int))=true:=by simp[h4]
      have y5:¬ (1:Int)<(x.l.length:Int):=by omega
      exact TF
    ·have hfin:qF t=false:=IC λhp=>by
      obtain⟨_,a9,w9,y,z,r,hl,_⟩:=rZ hp;rw[HX.out]at hl
      cases hl
      exact h4 HN1.out
     have HFIN:=aN hfin;have y1:(k==(14:Int))=true:=by simp[h1]
     have y2:((t.l.length:Int)==1)=true:=by simp[h2]
     have y3:(k1==(15:Int))=true:=by simp[h3]
     have y4:(n1==(1:Int))=false:=by simp[h4]
     exact TF
   ·have hfin:qF t=false:=IC λhp=>by
     obtain⟨_,a9,w9,y,z,r,hl,_⟩:=rZ hp;rw[HX.out]at hl
     cases hl
     exact h3 HK1.out
    have HFIN:=aN hfin;have y1:(k==(14:Int))=true:=by simp[h1]
    have y2:((t.l.length:Int)==1)=true:=by simp[h2]
    have y3:(k1==(15:Int))=false:=by simp[h3]
    have y8:(0:Int)<(t.l.length:Int):=by omega
    clear hfin ht hT2 h1 h2 h3;exact IA
  ·have hfin:qF t=false:=IC λhp=>by
    obtain⟨_,a9,w9,y,z,r,hl,_⟩:=rZ hp;exact h2 (by rw[hl];rfl)
   have HFIN:=aN hfin;have y1:(k==(14:Int))=true:=by simp[h1]
   have y2:((t.l.length:Int)==1)=false:=by simp;omega
   clear hfin ht h1 h2;exact IA
 ·have hfin:qF t=false:=IC λhp=>h1 (HP.out.2 (rZ hp).1)
  have HFIN:=aN hfin;have y1:(k==(14:Int))=false:=by simp[h1]
  clear hfin ht h1;exact IA
def FZ{t:T}(hc:De t=true):Px.gX t=(if 5000<(Eu t).length then([],2)else(Eu t,0)):=by unfold Px.gX;rw[aF hc]
end
section
open Go.ChangeShapes Go.WideShapes Go.ChangeAt Go.RowKit Lx Px
section
variable {H:Type} {enc:TypeId×Value->H}
def FH{base:Nat}{W:World}{v:Value}{d:DataW H}{ps:List MemPlace}(hval:Value.okWide Tryz.prog W .any base 24 v)(hd:DataW.Trod enc Tryz.prog W 0 (λ_=>true) true 24 v d ps):∃ (t:T) (k n a:Int) (s:dL) (ao:iD) (m c:Nat),v=.agg (tg k n a s ao m c)/\Tr W t (vT k n a s ao m c)/\XJ t:=by
 obtain⟨cs,rfl,hsz⟩:=okWide_struct Tryz.underlying24 hval;obtain⟨fuel,hf⟩:=hd;obtain⟨t,k,n,a,s,ao,m,c,e,hT,hE⟩:=avB fuel _ _ hf;refine⟨t,k,n,a,s,ao,m,c,?_,hT,hE⟩;simp only[Value.cells]at e
 rw[show cs=#[.int .i64 k,.int .i64 n,.int .i64 a,.string s,.slice ao m c]from by
  rw[<- Array.toList_inj];exact e]
end
end
