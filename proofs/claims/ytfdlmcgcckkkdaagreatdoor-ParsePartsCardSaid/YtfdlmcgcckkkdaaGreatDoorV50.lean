/- ParseParts, part 50: what it stands on. -/
import Derived.Test.YtfdlmcgcckkkdaaGreatDoorV49
import Derived.Test.YtfdlmcgcckkkdaaGreatDoorV51
import Derived.Test.YtfdlmcgcckkkdaaGreatDoorV30
import Derived.Shelf.SlicesE.Equal
import Derived.Deep.RegionLaw
import Derived.Test.YtfdlmcgcckkkdaaGreatDoorV46
import Derived.Test.YtfdlmcgcckkkdaaGreatDoorV47
import Derived.Test.YtfdlmcgcckkkdaaGreatDoorV45
import Derived.Test.YtfdlmcgcckkkdaaGreatDoorV31
import Derived.Test.YtfdlmcgcckkkdaaGreatDoorV44
set_option linter.all false
set_option maxHeartbeats 40000000
set_option maxRecDepth 100000
namespace Go.Proofs.YtfdlmcgcckkkdaaGreatDoor
section
open Go.RowKit Lx Px
def Tryz.DH: Go.Shelf.Ren:=⟨fun|33=>36|n=>n,fun|22=>64|23=>9|4=>4|3=>3|0=>0|n=>n,fun|n=>n⟩
theorem Tryz.Oc: Go.Proofs.SlLaysE.n33 Tryz.prog Tryz.DH:={
 mixed:=by kernel_rfl
 f33:=⟨Tryz.f36.name,by decide,Tryz.func36.trans (congrArg some (by kernel_rfl))⟩
 t0:=Tryz.underlying0
 a0:=Tryz.isAgg0
 z0:=Tryz.sizeOf0
 v0:=Tryz.zeroValue0
 t3:=Tryz.underlying3
 a3:=Tryz.isAgg3
 z3:=Tryz.sizeOf3
 v3:=Tryz.zeroValue3
 t4:=Tryz.underlying4
 a4:=Tryz.isAgg4
 z4:=Tryz.sizeOf4
 v4:=Tryz.zeroValue4
 t22:=Tryz.underlying64
 a22:=Tryz.isAgg64
 z22:=Tryz.sizeOf64
 v22:=Tryz.zeroValue64
 a23:=Tryz.isAgg9
 z23:=Tryz.sizeOf9 }
theorem Dd(w:World)(v:Value)(ss:List ByteArray)(B:Nat)(h0:ss≠[])(hn:ss.length≤1000000)(h:w.ownsRow B 9 1 v (ss.map Value.string).length (ss.map Value.string))(b2:Nat)(c2:Nat)(h2:∀ j,(hj:j<ss.length)→w.cell? ⟨b2,j,none⟩=some (.string (ss[j]'hj))):Calls Tryz.prog 36 #[v,.slice (some ⟨b2,0,none⟩) ss.length c2] w fun e w'=>e=.returned (.bool true)∧∃ q,w'=w.drewN q:=by
 have hpos:0<ss.length:=List.length_pos_iff.2 h0
 rcases h.2 with ⟨_,h1⟩|⟨g,cap,cur,rfl,hB,hg,hle,hmx,hsz,htk⟩
 ·rw[List.length_map]at h1;omega
 ·rw[List.length_map]at hle htk ⊢;refine(AnyE.slices_Equal Tryz.Oc Value.string _ (NeqAt.string Tryz.prog 9) g 0 ss.length cap b2 0 ss.length c2 ss ss w (Nat.le_refl _) (Nat.le_refl _) (by omega) (by omega) (fun j hj=>?_) (fun j hj=>?_)).mono ?_
  ·rw[Nat.zero_add,cell_of_row w g j _ _ _ hg,← Array.getElem?_toList];have h1:(List.take (ss.length*1) cur.toList)[j]?=(ss.map Value.string)[j]?:=by rw[htk]
   rw[List.getElem?_take,if_pos (by omega)]at h1;rw[h1,List.getElem?_map,getElem!_pos ss j hj,List.getElem?_eq_getElem hj];rfl
  ·rw[Nat.zero_add,getElem!_pos ss j hj];exact h2 j hj
  ·rintro e w' ⟨rfl,q,rfl⟩;refine⟨?_,q,rfl⟩;rw[List.take_length];have:∀ l:List ByteArray,Lib.allEq (fun x y=>x.toList==y.toList) l l=true:=by
    intro l
    induction l with
    | nil=>rfl
    | cons x r ih=>simp[Lib.allEq,ih]
   rw[this]
def Tryz.CE: Go.Shelf.Ren:=⟨fun|33=>30|n=>n,fun|22=>47|23=>3|4=>4|3=>3|0=>0|n=>n,fun|n=>n⟩
theorem Tryz.OB: Go.Proofs.SlLaysE.n33 Tryz.prog Tryz.CE:={
 mixed:=by kernel_rfl
 f33:=⟨Tryz.f30.name,by decide,Tryz.func30.trans (congrArg some (by kernel_rfl))⟩
 t0:=Tryz.underlying0
 a0:=Tryz.isAgg0
 z0:=Tryz.sizeOf0
 v0:=Tryz.zeroValue0
 t3:=Tryz.underlying3
 a3:=Tryz.isAgg3
 z3:=Tryz.sizeOf3
 v3:=Tryz.zeroValue3
 t4:=Tryz.underlying4
 a4:=Tryz.isAgg4
 z4:=Tryz.sizeOf4
 v4:=Tryz.zeroValue4
 t22:=Tryz.underlying47
 a22:=Tryz.isAgg47
 z22:=Tryz.sizeOf47
 v22:=Tryz.zeroValue47
 a23:=Tryz.isAgg3
 z23:=Tryz.sizeOf3 }
theorem Pn(p q:List Int):Lib.allEq (fun x y=>x==y) p q=decide (p=q):=by
 induction p generalizing q with
 | nil=>cases q<;>simp[Lib.allEq]
 | cons x r ih=>cases q with
  | nil=>simp[Lib.allEq]
  | cons y s=>
   simp only[Lib.allEq,ih]
   rw[Bool.eq_iff_iff]
   simp
theorem Gk(a b:Value)(p q:List Int)(w:World)(h1:BN w a p)(h2:BN w b q)(hp:p.length≤1000000)(hq:q.length≤1000000):Calls Tryz.prog 30 #[a,b] w fun e w'=>e=.returned (.bool (decide (p=q)))∧∃ n,w'=w.drewN n:=by
 obtain⟨ao,ac,rfl,h1,_⟩:=h1;obtain⟨bo,bc,rfl,h2,_⟩:=h2
 by_cases hl:p.length=q.length
 ·by_cases h0:p=[]
  ·subst h0;have:q=[]:=List.eq_nil_of_length_eq_zero (by simpa using hl.symm);subst this;go_enter Tryz.func30,Tryz.ntmps30;go_wp2_with fail
   go_loopw [13] (fun q wr=>q=.int .i64 0∧wr=w) (fun _ _=>0)
   case atStart=>exact⟨rfl,rfl⟩
   case round=>
    obtain⟨rfl,rfl⟩:=hrel;go_wp2_with fail;go_ret;exact⟨rfl,0,rfl⟩
  ·have h0':q≠[]:=fun e=>h0 (List.eq_nil_of_length_eq_zero (by rw[hl,e];rfl))
   obtain⟨b1,o1,rfl,l1,c1⟩:=h1 h0;obtain⟨b2,o2,rfl,l2,c2⟩:=h2 h0';refine(AnyE.slices_Equal Tryz.OB (Value.int .i64) _ (NeqAt.int Tryz.prog 3 .i64) b1 o1 p.length ac b2 o2 q.length bc p q w (Nat.le_refl _) (Nat.le_refl _) (by omega) (by omega) (fun j hj=>by rw[getElem!_pos p j hj];exact c1 j hj) (fun j hj=>by rw[getElem!_pos q j hj];exact c2 j hj)).mono ?_;rintro e w' ⟨rfl,n,rfl⟩;exact⟨by rw[List.take_length,List.take_length,Pn],n,rfl⟩
 ·have hd:decide (p=q)=false:=decide_eq_false fun e=>hl (by rw[e])
  have hl':¬ (p.length:Int)=q.length:=by omega
  rw[hd];clear h1 h2 hd;go_enter Tryz.func30,Tryz.ntmps30;go_wp2_with fail;go_ret;exact⟨rfl,0,rfl⟩
theorem Kc(t:T)(p:List Int):(∃ a,atR t p=(a,0)∧atT t p=some a∧chk t=true)∨atR t p=(gI,4)∨atR t p=(gI,71):=by
 unfold atR
 cases hc:chk t with
 | false=>right;right;rfl
 | true=>
  cases ha:atT t p with
  | none=>right;left;rfl
  | some a=>left;exact⟨a,rfl,rfl,rfl⟩
theorem zK{t a:T}{p:List Int}(hc:chk t=true)(ha:atT t p=some a):atR t p=(a,0):=by
 unfold atR;rw[if_pos hc,ha]
theorem El{t:T}{p:List Int}(hc:chk t=true)(ha:atT t p=none):atR t p=(gI,4):=by
 unfold atR;rw[if_pos hc,ha]
theorem Hy{t a:T}{p:List Int}(hc:chk t=true)(ha:atT t p=some a):Mn t p a=(t,0):=by
 unfold Mn;rw[zK hc ha,if_pos rfl,Mm p t a ha,if_pos hc]
theorem NL{t a x:T}{p:List Int}(hc:chk t=true)(ha:atT t p=some a)(h:chk (kN t p x)=true):Mn t p x=(kN t p x,0):=by
 unfold Mn;rw[zK hc ha,if_pos rfl,if_pos h]
theorem Nn{t a x:T}{p:List Int}(hc:chk t=true)(ha:atT t p=some a)(h:chk (kN t p x)=false):Mn t p x=(gI,1):=by
 unfold Mn;rw[zK hc ha,if_pos rfl,if_neg (by rw[h];decide)]
theorem En{w:World}{l:List T}{vs:List Value}(h:aW (fun _=>True) w l vs)(cs:Array Value)(hc:cs=vs.toArray)(n:Nat)(hn:n=l.length):Rw (w.alloc (.cells cs 24)) (.slice (some ⟨w.heap.size,0,none⟩) n n) l:=by
 subst hc hn;have b:=aC w (.cells vs.toArray 24);have hn:=heap_alloc_new w (.cells vs.toArray 24);refine⟨_,_,vs,rfl,aW.kept (fun _ _ _=>trivial) b.size (fun x _ hl=>b.block x hl) h,fun _=>⟨_,0,rfl,fP hn,fun i u hu=>?_⟩⟩;rw[Nat.zero_add,cell_of_row _ _ i _ _ _ hn]
 simpa using hu
theorem BN.take{w:World}{ao:Option Addr}{c n:Nat}{p:List Int}(h:BN w (.slice ao p.length c) p)(hn:n≤p.length):BN w (.slice ao n c) (p.take n):=by
 obtain⟨ao',c',e,h,hc⟩:=h
 cases e
 refine⟨ao,c,by rw[List.length_take,Nat.min_eq_left hn],fun hne=>?_,by rw[List.length_take];omega⟩;have hp:p≠[]:=fun e=>hne (by rw[e,List.take_nil])
 obtain⟨b,off,e,hl,hu⟩:=h hp;refine⟨b,off,e,hl,fun i hi=>?_⟩;rw[List.getElem_take];exact hu i (by rw[List.length_take]at hi;omega)
theorem BN.form{w:World}{v:Value}{p:List Int}(h:BN w v p):∃ ao c,v=.slice ao p.length c∧p.length≤c:=by
 obtain⟨ao,c,e,_,hc⟩:=h;exact⟨ao,c,e,hc⟩
theorem LY{t u:T}{q:List Int}(hc:chk t=true)(hu:chk u=true)(h:atT u q=atT t q)(ht:CF t 4100 1):∃ r e,atR t q=(r,e)∧atR u q=(r,e)∧CF r 4100 1:=by
 cases hb:atT t q with
 | none=>exact⟨gI,4,El hc hb,El hu (h.trans hb),Of⟩
 | some b=>exact⟨b,0,zK hc hb,zK hu (h.trans hb),PN ht hb⟩
end
end Go.Proofs.YtfdlmcgcckkkdaaGreatDoor
