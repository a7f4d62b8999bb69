/- ParseWhole, part 31: what it stands on. -/
import Derived.Test.YtfdlmcgcckkkdaaGreatDoorTie
import Derived.Test.YtfdlmcgcckkkdaaGreatDoorCards
import Derived.Test.YtfdlmcgcckkkdaaGreatDoorV03
import Derived.ProofKit
import Derived.OpenShut
import Derived.LaidMore
import Derived.Lay
import Derived.SevenTiedAt
import Derived.Stop.Joined
import Derived.HandedShaped
import Derived.Shelf.Vars
import Derived.Test.YtfdlmcgcckkkdaaGreatDoorV07
import Derived.Deep.Slices
import Derived.Deep.Fields
import Derived.ChangeSame
import Derived.Carry
import Derived.Test.YtfdlmcgcckkkdaaGreatDoorV30
import Derived.Test.YtfdlmcgcckkkdaaGreatDoorV11
set_option linter.all false
set_option maxHeartbeats 40000000
set_option maxRecDepth 100000
namespace Go.Proofs.YtfdlmcgcckkkdaaGreatDoor
section
open Go.ChangeShapes Go.WideShapes Go.ChangeAt Go.RowKit
theorem Rx: ownKnob Tryz.prog.godebug=none:=by kernel_rfl
def Cy: List (String×DataW Unit):=Rows.parsePartsRow.laid
theorem Nl(os:Os):(World.laidAll Tryz.prog os Cy).Shaped Tryz.prog:=World.shaped_of_ZipB (by kernel_rfl) (by kernel_rfl)
section
variable {H:Type} {enc:TypeId×Value→H}
end
theorem Qr{W:World}(h:W.ShapedOpen Tryz.prog):ML W:=by
 obtain⟨m,hm⟩:=cell_of_shapedOpen_int (g:=0) (t:=3) (zero:=#[.int .i64 0]) (k:=.i64) h (of_decide_eq_true (by kernel_rfl)) (by kernel_rfl) rfl (by kernel_rfl) (by kernel_rfl) Tryz.underlying3;exact⟨World.block_lt_of_cell? _ _ hm,m,hm⟩
section
variable {H:Type} {enc:TypeId×Value→H}
theorem Lu{f:Func}{s:ChangeSpec}{W W':World}{args:Array Value}{ds:List (DataW H)}{before:List MemPlace}(hW:DataW.Whole enc Tryz.prog f.params.toList s.vars false W args.toList ds [] before)(hv:s.vars=[])(hr:f.resultTypes=#[4])(hs:s.fn H (ds++[]) = { results:=[.lit (.bool true)],args:=ds })(hargs:∀ sp:Nat→Bool,(∀ p∈before,sp p.block=true)→DataW.TrodAll enc Tryz.prog W' 0 sp true f.params.toList args.toList ds before)(hb:Below W.heap.size W W'):s.post enc Tryz.prog f false true false false W args (.bool true) W':=by
 have hlt:∀ p∈before,p.block<W.heap.size:=fun p hp=>hW.lt p hp
 have hold:∀ p∈before,(fun b=>decide (b<W.heap.size)) p.block=true:=fun p hp=>by simpa using hlt p hp
 have hres:∀ (b:Nat) (sp:Nat→Bool) (hd:Bool),DataW.TrodAll enc Tryz.prog W' b sp hd f.resultTypes.toList ((Value.bool true).resultList f.resultTypes.size) (s.fn H (ds++[])).results []:=by
  intro b sp hd;rw[hr,hs];exact trodAll_mk1 (shut_bool Tryz.underlying4 _)
 have hvars:∀ sp:Nat→Bool,DataW.TrodVars enc Tryz.prog W' sp s.vars (s.fn H (ds++[])).vars []:=by
  intro sp;rw[hv,hs];exact rfl
 have hargs':∀ sp:Nat→Bool,(∀ p∈before,sp p.block=true)→DataW.TrodAll enc Tryz.prog W' 0 sp true f.params.toList args.toList (s.fn H (ds++[])).args before:=by
  intro sp hsp;rw[hs];exact hargs sp hsp
 refine⟨ds,[],before,[],before,[],hW,hres _ _ _,hargs' _ hold,hvars _,World.keptBut_mono (fun p hp=>⟨hp,?_⟩) (hb.frame (·∈before)),fun _=>?_⟩
 ·exact Or.inr (by simpa using hp)
 ·obtain⟨_,_,_,_,_,hz,hn⟩:=hW;refine⟨?_,_,_,([]++before)++[],⟨[]++before,[],trodAll_append (hargs' _ (fun _ _=>rfl)) (hres _ _ _),hvars _,rfl,?_,?_⟩,?_⟩
  ·exact ok_one hr rfl (okWide_bool_mk Tryz.underlying4 _)
  ·intro b off hp;have hin:MemPlace.cell b off∈before:=by simpa using hp
   rw[hb.frozen (hlt _ hin)];exact hz b off hin
  ·intro ha
   cases ha
  ·intro p hp _
   simpa using hp
end
end
section
open Go.ChangeShapes Go.WideShapes Go.Deep Go.RowKit
section
variable {H:Type} {enc:TypeId×Value→H} {P:Program} {w:World} {base:Nat} {spare:Nat→Bool} {held:Bool}
end
section
variable {H:Type} {enc:TypeId×Value→H}
theorem Ls: laidOutB Tryz.prog=true:=by kernel_rfl
end
end
section
open Go.RowKit Lx Px
def Kh{α:Type}(p:α→Bool):List α→Nat→Int
 | [],_ => -1
 | t::r,k=>if p t then(k:Int)else Kh p r (k+1)
theorem rT{α:Type}(p:α→Bool)(t:α)(r:List α)(k:Nat):Kh p (t::r) k=if p t then(k:Int)else Kh p r (k+1):=rfl
theorem KQ{α:Type}(p:α→Bool):∀ (l:List α) (k:Nat),decide (0≤Kh p l k)=l.any p:=by
 intro l
 induction l with
 | nil=>intro k;rfl
 | cons t r ih=>
  intro k;rw[rT]
  cases h:p t with
  | true=>simp[h]
  | false=>simp[h,ih]
theorem Bn{α:Type}[Inhabited α](p:α→Bool):∀ (l:List α) (k j:Nat),j≤l.length→(∀ i,i<j→p l[i]! = false)→Kh p l k=Kh p (l.drop j) (k+j):=by
 intro l
 induction l with
 | nil=>intro k j hj _;simp at hj;subst hj;rfl
 | cons t r ih=>
  intro k j hj h
  cases j with
  | zero=>rfl
  | succ j=>
   have h0:=h 0 (by omega);rw[rT,if_neg (by rw[show (t::r)[0]! = t from rfl]at h0;rw[h0];decide),List.drop_succ_cons,ih (k+1) j (by simpa using hj) (fun i hi=>by have:=h (i+1) (by omega);simpa using this),Nat.add_right_comm,Nat.add_assoc]
theorem tH(K:FuncId)(hK:∀ args w,(callFunc K args).run Tryz.prog w=.ok (.enter K args) w)(p:T3→Bool)(v:Value)(ts:List T3)(hp:∀ t,t∈ts→∀ w,Calls Tryz.prog K #[SU t] w fun e w'=>e=.returned (.bool (p t))∧Below w.heap.size w w')(w:World)(h:cK w v ts)(hn:ts.length≤9223372036854775807):Calls Tryz.prog 78 #[v,.func (.func K) #[] #[]] w fun e w'=>e=.returned (.int .i64 (Kh p ts 0))∧Below w.heap.size w w':=by
 obtain⟨ao,cap,rfl,h⟩:=h;have HPP:=hdq hp;clear hp;go_enter Tryz.func78,Tryz.ntmps78;go_wp2_with fail;generalize hnn:ts.length=n at h hn ⊢;have HN:=hdq hnn;have H1:=hdq h;clear hnn h
 go_loopg [8] n (fun gg q wr=>∃ kk:Nat,kk≤n∧n - kk≤gg∧q=.int .i64 kk∧Aside (Below w.heap.size w wr)∧Aside (∀ j,j<kk→p ts[j]! = false))
 case atStart=>exact⟨0,Nat.zero_le _,by omega,rfl,Below.refl _ w,fun j hj=>absurd hj (Nat.not_lt_zero _)⟩
 case round=>
  obtain⟨kk,hkk,hg,rfl,BW,A⟩:=hrel
  by_cases hlt:kk<n
  ·have hltz:(kk:Int)<(n:Int):=by omega
   obtain⟨b1,o1,rfl,l1,c1⟩:=H1.out (by intro e;have:=HN.out;rw[e]at this;simp at this;omega);have r1:=jV c1 l1 BW.out kk hlt;clear c1 l1;generalize hxk:ts[kk]! = x at r1;have X:Aside (ts[kk]! = x):=hxk;have hmem:x∈ts:=by rw[← hxk,getElem!_pos ts kk (by rw[HN.out];exact hlt)];exact List.getElem_mem _
   clear hxk;obtain⟨q0,q1,q2⟩:=r1;have hcall:=fun W=>HPP.out x hmem W
   clear hmem;unfold SU at hcall;have HC:=hdq hcall;clear hcall;go_wp2_with fail;refine(HC.out _).mono ?_;rintro e w' ⟨rfl,hb⟩;have bb:=BW.out.trans (hb.mono BW.out.size)
   cases hq:p x with
   | true=>
    go_wp2_with fail;go_ret;refine⟨?_,bb⟩;have hk:kk<ts.length:=by rw[HN.out];exact hlt
    rw[Bn p ts 0 kk (by omega) A.out,Nat.zero_add,List.drop_eq_getElem_cons hk];have hx:ts[kk]=x:=by rw[← X.out,getElem!_pos ts kk hk]
    rw[rT,hx,if_pos hq];rfl
   | false=>
    go_wp2_with fail
    go_roundg (n - (kk+1))
    case measure=>omega
    case rel=>
     refine⟨kk+1,by omega,by omega,by go_num,bb,(show Aside _ from fun j hj=>?_)⟩
     by_cases e:j=kk
     ·subst e;rw[X.out];exact hq
     ·exact A.out j (by omega)
  ·have hltz:¬ (kk:Int)<(n:Int):=by omega
   have hke:kk=n:=by omega
   subst hke;have hfin:Kh p ts 0 = -1:=by
    rw[Bn p ts 0 kk (by rw[HN.out];exact Nat.le_refl _) A.out,List.drop_of_length_le (by rw[HN.out];exact Nat.le_refl _)];rfl
   have HF:=hdq hfin;clear hfin;go_wp2_with fail;go_ret;exact⟨by rw[HF.out];rfl,BW.out⟩
theorem DK(K:FuncId)(hK:∀ args w,(callFunc K args).run Tryz.prog w=.ok (.enter K args) w)(p:T3→Bool)(v:Value)(ts:List T3)(hp:∀ t,t∈ts→∀ w,Calls Tryz.prog K #[SU t] w fun e w'=>e=.returned (.bool (p t))∧Below w.heap.size w w')(w:World)(h:cK w v ts)(hn:ts.length≤9223372036854775807):Calls Tryz.prog 47 #[v,.func (.func K) #[] #[]] w fun e w'=>e=.returned (.bool (ts.any p))∧Below w.heap.size w w':=by
 have hi:=tH K hK p v ts hp w h hn;have hf:=KQ p ts 0;generalize Kh p ts 0=r at hi hf;have HI:=hdq hi;have HF:=hdq hf;clear hi hf;go_enter Tryz.func47,Tryz.ntmps47;go_wp2_with fail;refine(HI.out).mono ?_;rintro e w' ⟨rfl,hb⟩;go_wp2_with fail;go_ret;exact⟨by rw[← HF.out];rfl,hb⟩
theorem QK: ∀ args w,(callFunc 51 args).run Tryz.prog w=.ok (.enter 51 args) w:=
 enters_of Tryz.func51 (by decide) rfl
def Hl(t:T3):Bool:=!bX t.kind t.text
theorem NU(t:T3)(ht:t.text.size≤140737488351232)(w:World):Calls Tryz.prog 51 #[SU t] w fun e w'=>e=.returned (.bool (Hl t))∧Below w.heap.size w w':=by
 obtain⟨k,t,a⟩:=t;unfold SU Hl;have hc:=fun w=>nG k t a ht w
 have n1:=heap_alloc_new w (.cells #[.int .i64 k,.string t,.int .i64 a] 43);have b1:=aC w (.cells #[.int .i64 k,.string t,.int .i64 a] 43);go_enter Tryz.func51,Tryz.ntmps51;go_upto_region 1 with fail;generalize World.alloc w _=w1 at b1 n1 ⊢;have c0:w1.cell? ⟨w.heap.size,0,none⟩=some (.int .i64 k):=cell_of_row w1 _ 0 _ _ _ n1;have c1:w1.cell? ⟨w.heap.size,1,none⟩=some (.string t):=cell_of_row w1 _ 1 _ _ _ n1;have c2:w1.cell? ⟨w.heap.size,2,none⟩=some (.int .i64 a):=cell_of_row w1 _ 2 _ _ _ n1
 cases hq:bX k t with
 | true=>
  rw[hq]at hc;have HQ:=hdq hq;clear hq;go_wp2_with (go_at_call 23;refine(hc _).mono ?_;rintro e w2 ⟨rfl,hb⟩;unfold qB);go_ret;exact⟨by rw[HQ.out];rfl,b1.trans (hb.mono b1.size)⟩
 | false=>
  rw[hq]at hc;have HQ:=hdq hq;clear hq;go_wp2_with (go_at_call 23;refine(hc _).mono ?_;rintro e w2 ⟨rfl,hb⟩;unfold qB);go_ret;exact⟨by rw[HQ.out];rfl,b1.trans (hb.mono b1.size)⟩
theorem Fx(w:World)(a:Addr)(m:Mode)(f:Fn)(x y:Array Value):(store a (.func f x y) m).run Tryz.prog w=stored Tryz.prog w a (.func f x y) m:=run_store _ w a _ m rfl
theorem Gj(t:T):Ba t 4000 1=lH t:=by
 unfold Ba lH
 congr 1
 rw[decide_eq_decide];omega
theorem Hx(w:World)(t:T)(k n a:Int)(s:ByteArray)(ao:Option Addr)(m c:Nat)(ht:Tr w t (vT k n a s ao m c)):Calls Tryz.prog 49 #[tg k n a s ao m c] w fun e w'=>e=.returned (.bool (lH t))∧Below w.heap.size w w':=by
 have hmf:∀ (fn:Fn) (first cap:Array Value) (w:World),(Instr.makeFunc fn first cap).run Tryz.prog w=.ok (.func fn first cap) w:=fun _ _ _ _=>rfl
 have hst:=Fx;have b1:=aC w (.cells (tg k n a s ao m c) 24);have t1:=TV.new w k n a s (.slice ao m c);go_enter Tryz.func49,Tryz.ntmps49;go_upto_region 1 with fail;generalize World.alloc w _=w1 at b1 t1 ⊢;have e2:=heap_alloc_new w1 (.cells #[.int .i64 4000] 3);have c2:=aC w1 (.cells #[.int .i64 4000] 3);have z2:(w1.alloc (.cells #[.int .i64 4000] 3)).heap.size=w1.heap.size+1:=by simp
 have e3:=heap_alloc_new (w1.alloc (.cells #[.int .i64 4000] 3)) (.cells #[.nilFunc] 71);have c3:=aC (w1.alloc (.cells #[.int .i64 4000] 3)) (.cells #[.nilFunc] 71);have e2':=(c3.block _ (by omega)).trans e2;have B2:=c2.trans (c3.mono c2.size);rw[z2]at e3;clear z2 c2 c3 e2;go_upto_region 3 with fail;generalize World.alloc (World.alloc w1 _) _=w2 at e2' e3 B2 ⊢;have t2:=t1.below B2;have f3:=Lib.frozen_of_heap e3 0;have k3:w2.cell? ⟨w1.heap.size+1,0,none⟩=some .nilFunc:=cell_of_row w2 _ 0 _ _ _ e3;have B2':=b1.trans (B2.mono b1.size);have h4:(w2.setCell ⟨w1.heap.size+1,0,none⟩ (fvS w1.heap.size (w1.heap.size+1))).heap[w1.heap.size+1]?=some (cF (fvS w1.heap.size (w1.heap.size+1))):=by
  unfold cF;simp[World.setCell,Array.getElem?_modify,e3]
 have hlt:=t1.lt;have t4:TV (w2.setCell ⟨w1.heap.size+1,0,none⟩ (fvS w1.heap.size (w1.heap.size+1))) _ _ _ _ _ _:=(Below.heap_setCell w2 ⟨w1.heap.size+1,0,none⟩ (fvS w1.heap.size (w1.heap.size+1)) w.heap.size (show w.heap.size≠w1.heap.size+1 by omega)).trans t2;have h5:(w2.setCell ⟨w1.heap.size+1,0,none⟩ (fvS w1.heap.size (w1.heap.size+1))).heap[w1.heap.size]?=some (cI 4000):=(Below.heap_setCell w2 ⟨w1.heap.size+1,0,none⟩ (fvS w1.heap.size (w1.heap.size+1)) w1.heap.size (show w1.heap.size≠w1.heap.size+1 by omega)).trans e2';have B4:Below w.heap.size w (w2.setCell ⟨w1.heap.size+1,0,none⟩ (fvS w1.heap.size (w1.heap.size+1))):=B2'.setCell (p:=⟨w1.heap.size+1,0,none⟩) (show w.heap.size≤w1.heap.size+1 by omega) _;clear t2 B2 B2' e2' e3 t1;go_upto_region 4 with fail;unfold fvS at h4 h5 t4 B4;generalize World.setCell w2 _ _=w3 at h4 h5 t4 B4 ⊢;have hb1:=b1.size;have hh:=Np w w1.heap.size (w1.heap.size+1) hb1 (by omega) _ t (Nat.le_refl _) w3 4000 1 B4 (by decide) (by decide) h5 (show _=some (cF (fvS _ _))from h4) k n a s ao m c ht;rw[Gj]at hh;have kf:w3.cell? ⟨w1.heap.size+1,0,none⟩=_:=JE h4;have:=TV.facts t4;clear h4 h5 f3 k3 ht;go_upto_block 4 with fail;refine hh.mono ?_;rintro e w4 ⟨rfl,g4,_⟩;clear hh;go_wp2_with fail;go_ret;exact⟨rfl,B4.grown g4 B4.size (fun j hj=>by cases hj;exact hb1)⟩
end
end Go.Proofs.YtfdlmcgcckkkdaaGreatDoor
