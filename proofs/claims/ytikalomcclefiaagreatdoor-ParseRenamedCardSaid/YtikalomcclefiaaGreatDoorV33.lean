/- Part 33. -/
import Derived.SevenTiedAt
import Derived.Test.YtikalomcclefiaaGreatDoorV32
set_option linter.all false
set_option maxHeartbeats 0
set_option maxRecDepth 100000
namespace Go.Proofs.YtikalomcclefiaaGreatDoor
section
open Go.ChangeShapes Go.WideShapes Go.ChangeAt Go.RowKit
def aDu: ownKnob Tryz.prog.godebug=none:=by kernel_rfl
def rH: List (String×DataW Unit):=Rows.parseOrderRow.laid
def Mi(os:Os):(World.laidAll Tryz.prog os rH).Shaped Tryz.prog:=World.shaped_of_ZipB aQ aQ
section
variable {H:Type} {enc:TypeId×Value->H}
end
def aeY{W:World}(h:W.ShapedOpen Tryz.prog):ML W:=by
 obtain⟨m,hm⟩:=cell_of_shapedOpen_int (g:=0) (t:=3) (zero:=#[.int .i64 0]) (k:=.i64) h (iG aQ) aQ rfl aQ aQ Tryz.underlying3;exact⟨CD _ _ hm,m,hm⟩
section
variable {H:Type} {enc:TypeId×Value->H}
def Hi{f:Func}{s:ChangeSpec}{W W':World}{args:Array Value}{ds:List (DataW H)}{before:List MemPlace}(hW:DataW.Whole enc Tryz.prog f.params.toList s.vars false W args.toList ds [] before)(hv:s.vars=[])(hr:f.resultTypes=#[4])(hs:s.fn H (ds++[]) = { results:=[.lit (.bool true)],args:=ds })(hargs:∀ sp:Nat->Bool,(∀ p∈before,sp p.block=true)->DataW.TrodAll enc Tryz.prog W' 0 sp true f.params.toList args.toList ds before)(hb:Below W.heap.size W W'):s.post enc Tryz.prog f false true false false W args (.bool true) W':=by
 have hlt:∀ p∈before,p.block<W.heap.size:=λp hp=>hW.lt p hp
 have hold:∀ p∈before,(λb=>decide (b<W.heap.size)) p.block=true:=λp hp=>by simpa using hlt p hp
 have hres:∀ (b:Nat) (sp:Nat->Bool) (hd:Bool),DataW.TrodAll enc Tryz.prog W' b sp hd f.resultTypes.toList ((Value.bool true).resultList f.resultTypes.size) (s.fn H (ds++[])).results []:=by
  intro b sp hd;rw[hr,hs];exact trodAll_mk1 (shut_bool Tryz.underlying4 _)
 have hvars:∀ sp:Nat->Bool,DataW.TrodVars enc Tryz.prog W' sp s.vars (s.fn H (ds++[])).vars []:=by
  intro sp;rw[hv,hs];exact rfl
 have hargs':∀ sp:Nat->Bool,(∀ p∈before,sp p.block=true)->DataW.TrodAll enc Tryz.prog W' 0 sp true f.params.toList args.toList (s.fn H (ds++[])).args before:=by
  intro sp hsp;rw[hs];exact hargs sp hsp
 refine⟨ds,[],before,[],before,[],hW,hres _ _ _,hargs' _ hold,hvars _,World.keptBut_mono (λp hp=>⟨hp,?_⟩) (hb.frame (·∈before)),λ_=>?_⟩
 ·exact Or.inr tT
 ·obtain⟨_,_,_,_,_,hz,hn⟩:=hW;refine⟨?_,_,_,([]++before)++[],⟨[]++before,[],trodAll_append (hargs' _ (λ_ _=>rfl)) (hres _ _ _),hvars _,rfl,?_,?_⟩,?_⟩
  ·exact ok_one hr rfl (okWide_bool_mk Tryz.underlying4 _)
  ·intro b off hp;have hin:MemPlace.cell b off∈before:=by simpa using hp
   rw[hb.frozen (hlt _ hin)];exact hz b off hin
  ·intro ha
   cases ha
  ·intro p hp _
   simpa using hp
end
end
section
open Go.ChangeShapes Go.WideShapes Go.Deep Go.RowKit
section
variable {H:Type} {enc:TypeId×Value->H} {P:Program} {w:World} {base:Nat} {spare:Nat->Bool} {held:Bool}
end
section
variable {H:Type} {enc:TypeId×Value->H}
def QG: laidOutB Tryz.prog=true:=by kernel_rfl
end
end
section
open Go.RowKit Lx Px
def Xf{α:Type}(p:α->Bool):List α->Nat->Int
 | [],_ => -1
 | t::r,k=>if p t then(k:Int)else Xf p r (k+1)
def Kk{α:Type}(p:α->Bool)(t:α)(r:List α)(k:Nat):Xf p (t::r) k=if p t then(k:Int)else Xf p r (k+1):=rfl
def azP{α:Type}(p:α->Bool):∀ (l:List α) (k:Nat),decide (0<=Xf p l k)=l.any p:=by
 intro l
 induction l with
 | nil=>intro k;rfl
 | cons t r ih=>
  intro k;rw[Kk]
  cases h:p t with
  | true=>simp[h]
  | false=>simp[h,ih]
def Zc{α:Type}[Inhabited α](p:α->Bool):∀ (l:List α) (k j:Nat),j<=l.length->(∀ i,i<j->p l[i]! = false)->Xf p l k=Xf p (l.drop j) (k+j):=by
 intro l
 induction l with
 | nil=>intro k j hj _;simp at hj;subst hj;rfl
 | cons t r ih=>
  intro k j hj h
  cases j with
  | zero=>rfl
  | succ j=>
   have h0:=h 0 aB;rw[Kk,aC (by rw[show (t::r)[0]! = t from rfl]at h0;rw[h0];decide),sJ,ih (k+1) j (by simpa using hj) (λi hi=>by have:=h (i+1) aB;simpa using this),Nat.add_right_comm,gJ]
section
variable(K:FuncId)(hK:∀ args w,(callFunc K args).run Tryz.prog w=.ok (.enter K args) w)(p:T3->Bool)(v:Value)(ts:List T3)
include K hK p v ts
theorem MD(hp:∀ t,t∈ts->∀ w,AAA K #[Ks t] w λe w'=>e=.returned (.bool (p t))/\iY w w')(w:World)(h:fJ w v ts)(hn:ts.length<=9223372036854775807):AAA 63 #[v,.func (.func K) #[] #[]] w λe w'=>e=.returned (.int .i64 (Xf p ts 0))/\iY w w':=by
 obtain⟨ao,cap,rfl,h⟩:=h;have HPP:=aN hp;clear hp;go_in;go_wp2_with fail;generalize hnn:ts.length=n at h hn ⊢;have HN:=aN hnn;have H1:=aN h;clear hnn h
 go_loopg [8] n (λgg q wr=>∃ kk:Nat,kk<=n/\n - kk<=gg/\q=.int .i64 kk/\Aside (iY w wr)/\Aside (∀ j,j<kk->p ts[j]! = false))
 case atStart=>exact DF
 case round=>
  obtain⟨kk,hkk,hg,rfl,BW,A⟩:=hrel
  by_cases hlt:kk<n
  ·have hltz:(kk:Int)<(n:Int):=by omega
   obtain⟨b1,o1,rfl,l1,c1⟩:=H1.out (by intro e;have:=HN.out;rw[e]at this;simp at this;omega);have r1:=zY c1 l1 BW.out kk hlt;clear c1 l1;generalize hxk:ts[kk]! = x at r1;have X:Aside (ts[kk]! = x):=hxk;have hmem:x∈ts:=by rw[<- hxk,kZ ts kk Dq];exact eJ _
   clear hxk;obtain⟨q0,q1,q2⟩:=r1;have hcall:=λW=>HPP.out x hmem W
   clear hmem;unfold Ks at hcall;have HC:=aN hcall;clear hcall;go_wp2_with fail;refine(HC.out _).mono ?_;rintro e w' ⟨rfl,hb⟩;have bb:=BW.out.trans (hb.mono BW.out.size)
   cases hq:p x with
   | true=>
    go_wp2_with fail;go_ret;refine⟨?_,bb⟩;have hk:kk<ts.length:=by rw[HN.out];exact hlt
    rw[Zc p ts 0 kk aB A.out,dT,zF hk];have hx:ts[kk]=x:=by rw[<- X.out,kZ ts kk hk]
    rw[Kk,hx,aF hq];rfl
   | false=>
    go_wp2_with fail
    go_roundg (n - (kk+1))
    case measure=>omega
    case rel=>
     refine⟨kk+1,by omega,by omega,by go_num,bb,(show Aside _ from λj hj=>?_)⟩
     by_cases e:j=kk
     ·subst e;rw[X.out];exact hq
     ·exact A.out j aB
  ·have hltz:¬ (kk:Int)<(n:Int):=by omega
   have hke:kk=n:=by omega
   subst hke;have hfin:Xf p ts 0 = -1:=by
    rw[Zc p ts 0 kk (by rw[HN.out];exact aG _) A.out,iF (by rw[HN.out];exact aG _)];rfl
   have HF:=aN hfin;clear hfin;go_wp2_with fail;go_ret;exact⟨by rw[HF.out];rfl,BW.out⟩
theorem QZ(hp:∀ t,t∈ts->∀ w,AAA K #[Ks t] w λe w'=>e=.returned (.bool (p t))/\iY w w')(w:World)(h:fJ w v ts)(hn:ts.length<=9223372036854775807):AAA 39 #[v,.func (.func K) #[] #[]] w λe w'=>e=.returned (.bool (ts.any p))/\iY w w':=by
 have hi:=MD K hK p v ts hp w h hn;have hf:=azP p ts 0;generalize Xf p ts 0=r at hi hf;have HI:=aN hi;have HF:=aN hf;clear hi hf;go_in;go_wp2_with fail;refine(HI.out).mono ?_;rintro e w' ⟨rfl,hb⟩;go_wp2_with fail;go_ret;exact⟨by rw[<- HF.out];rfl,hb⟩
end
def aJi: ∀ args w,(callFunc 43 args).run Tryz.prog w=.ok (.enter 43 args) w:=
 enters_of Tryz.func43 aD rfl
def Vb(t:T3):Bool:=!eP t.kind t.text
def aFf(t:T3)(ht:t.text.size<=140737488351232)(w:World):AAA 43 #[Ks t] w λe w'=>e=.returned (.bool (Vb t))/\iY w w':=by
 obtain⟨k,t,a⟩:=t;unfold Ks Vb;have hc:=λw=>EP k t a ht w
 have n1:=aP w (.cells #[iq k,.string t,iq a] 47);have b1:=aJ w (.cells #[iq k,.string t,iq a] 47);go_in;exact OY
def akN(w:World)(a:Addr)(m:Mode)(f:Fn)(x y:Array Value):(store a (.func f x y) m).run Tryz.prog w=stored Tryz.prog w a (.func f x y) m:=run_store _ w a _ m rfl
def akC(t:T):GO t 4000 1=oJ t:=by
 unfold GO oJ
 congr 1
 rw[decide_eq_decide];omega
def asI(w:World)(t:T)(k n a:Int)(s:dL)(ao:iD)(m c:Nat)(ht:Tr w t (vT k n a s ao m c)):AAA 41 #[tg k n a s ao m c] w λe w'=>e=.returned (.bool (oJ t))/\iY w w':=by
 have hmf:∀ (fn:Fn) (first cap:Array Value) (w:World),(Instr.makeFunc fn first cap).run Tryz.prog w=.ok (.func fn first cap) w:=λ_ _ _ _=>rfl
 have hst:=akN;have b1:=aJ w (.cells (tg k n a s ao m c) 24);have t1:=TV.new w k n a s (.slice ao m c);go_in;go_upto_region 1 with fail;generalize World.alloc w _=w1 at b1 t1 ⊢;have e2:=aP w1 (.cells #[iq 4000] 3);have c2:=aJ w1 (.cells #[iq 4000] 3);have z2:(w1.alloc (.cells #[iq 4000] 3)).heap.size=w1.heap.size+1:=by simp
 have e3:=aP (w1.alloc (.cells #[iq 4000] 3)) (.cells #[.nilFunc] 98);have c3:=aJ (w1.alloc (.cells #[iq 4000] 3)) (.cells #[.nilFunc] 98);have e2':=(c3.block _ aB).trans e2;have B2:=c2.trans (c3.mono c2.size);rw[z2]at e3;clear z2 c2 c3 e2;go_upto_region 3 with fail;generalize World.alloc (World.alloc w1 _) _=w2 at e2' e3 B2 ⊢;have t2:=t1.below B2;have f3:=aY e3 0;have k3:w2.cell? (AAF (w1.heap.size+1) 0)=some .nilFunc:=aK w2 _ 0 _ _ _ e3;have B2':=b1.trans (B2.mono b1.size);have h4:(w2.setCell (AAF (w1.heap.size+1) 0) (fvS w1.heap.size (w1.heap.size+1))).heap[w1.heap.size+1]?=some (cF (fvS w1.heap.size (w1.heap.size+1))):=by
  unfold cF;simp[World.setCell,pK,e3]
 have hlt:=t1.lt;have t4:TV (w2.setCell (AAF (w1.heap.size+1) 0) (fvS w1.heap.size (w1.heap.size+1))) _ _ _ _ _ _:=(dJ w2 (AAF (w1.heap.size+1) 0) (fvS w1.heap.size (w1.heap.size+1)) w.heap.size (show w.heap.size≠w1.heap.size+1 by omega)).trans t2;have h5:(w2.setCell (AAF (w1.heap.size+1) 0) (fvS w1.heap.size (w1.heap.size+1))).heap[w1.heap.size]?=some (cI 4000):=(dJ w2 (AAF (w1.heap.size+1) 0) (fvS w1.heap.size (w1.heap.size+1)) w1.heap.size (show w1.heap.size≠w1.heap.size+1 by omega)).trans e2';have B4:iY w (w2.setCell (AAF (w1.heap.size+1) 0) (fvS w1.heap.size (w1.heap.size+1))):=B2'.setCell (p:=(AAF (w1.heap.size+1) 0)) (show w.heap.size<=w1.heap.size+1 by omega) _;clear t2 B2 B2' e2' e3 t1;go_upto_region 4 with fail;unfold fvS at h4 h5 t4 B4;generalize World.setCell w2 _ _=w3 at h4 h5 t4 B4 ⊢;have hb1:=b1.size;have hh:=aGH w w1.heap.size (w1.heap.size+1) hb1 aB _ t (aG _) w3 4000 1 B4 aD aD h5 (show _=some (cF (fvS _ _))from h4) k n a s ao m c ht;rw[akC]at hh;have kf:w3.cell? (AAF (w1.heap.size+1) 0)=_:=apF h4;have:=AAD t4;clear h4 h5 f3 k3 ht;go_upto_block 4 with fail;refine hh.mono ?_;rintro e w4 ⟨rfl,g4,_⟩;clear hh;go_wp2_with fail;go_ret;exact⟨rfl,B4.grown g4 B4.size (λj hj=>by cases hj;exact hb1)⟩
end
