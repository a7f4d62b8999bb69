/- ParseWhole, part 6: what it stands on. -/
import Derived.Test.YtfdlmcgcckkkdaaGreatDoorV05
import Derived.Test.YtfdlmcgcckkkdaaGreatDoorV03
set_option linter.all false
set_option maxHeartbeats 40000000
set_option maxRecDepth 100000
namespace Go.Proofs.YtfdlmcgcckkkdaaGreatDoor
section
open Go.RowKit Lx
theorem Ol(b r:Nat)(s:ByteArray)(i:Nat)(v:Value)(hi:i<s.size)(hs:s.size≤2147483647)(w:World)(hsc:Scn w b s i r v)(hm:bG w r aI)(ho:Ro s i):Calls Tryz.prog 134 #[.pointer (some ⟨b,0,none⟩)] w fun e w'=>e=.returned (Ke (iL aI (s.data.toList.drop i)) i)∧Below w.heap.size w w':=by
 have hblt:=hsc.lt;have ra:=eV s (i:Int);have h1:=ho.h1;have e39:(atI s (i:Int)==39)=false:=by rw[beq_eq_false_iff_ne];exact ho.h2
 have h3:=ho.h3;have HN:=Lib.hid (Lz s i ho);have hnp:(atI s (i:Int)==46)=false∨((atI s (i:Int)==46)=true∧iP (atI s ((i:Int)+1))=false):=by
  by_cases h:atI s (i:Int)=46
  ·right;exact⟨by rw[h];rfl,by rw[Bool.eq_false_iff];exact fun h'=>ho.h4 ⟨h,h'⟩⟩
  ·left;rw[beq_eq_false_iff_ne];exact h
 clear ho;go_enter Tryz.func134,Tryz.ntmps134;go_upto_region 1 with fail;have b1:=aC w (.cells #[.int .i64 0,.string ⟨#[]⟩,.int .i64 0] 43);have n1:=heap_alloc_new w (.cells #[.int .i64 0,.string ⟨#[]⟩,.int .i64 0] 43);generalize w.alloc (.cells #[.int .i64 0,.string ⟨#[]⟩,.int .i64 0] 43)=w1 at b1 n1 ⊢;have sc1:=hsc.below b1;have hm1:=hm.below b1 hm.lt;obtain⟨k0,k1,k2,k3⟩:=sc1.cell;have N1:=Lib.hid n1;have hBlt:=(Array.getElem?_eq_some_iff.1 n1).1;clear n1;go_wp2_with fail
 go_quiet ((go_at_call 101;exact Calls.quiet_of_same (bU _ _ _)))
 have b2:=below_drewN b1 nq;have n2:(w1.drewN nq).heap[w.heap.size]?=_:=N1.out;have sc2:Scn (w1.drewN nq) b s i r v:=sc1;have hm2:bG (w1.drewN nq) r aI:=hm1;have hB2:w.heap.size<(w1.drewN nq).heap.size:=hBlt;generalize w1.drewN nq=w2 at b2 n2 sc2 hm2 hB2 ⊢;clear k0 k1 k2 k3 N1 sc1 b1 hm1 hBlt;have N2:=Lib.hid n2;have HM:=Lib.hid hm2;clear n2 hm2;obtain⟨k0,k1,k2,k3⟩:=sc2.cell;go_upto_region 10 with (first|(go_at_call 104;refine(iJ _ ra.1 ra.2 _).mono ?_;rintro e w' ⟨rfl,n,rfl⟩)|(go_at_call 101;refine(bU _ _ _).mono ?_;rintro e w' ⟨rfl,hw⟩;rw[hw];clear hw)|(go_at_call 102;refine(dE _ _).mono ?_;rintro e w' ⟨rfl,hw⟩;rw[hw];clear hw));have sc3:Scn (w2.drewN n) b s i r v:=sc2;have n3:(w2.drewN n).heap[w.heap.size]?=_:=N2.out;have hm3:bG (w2.drewN n) r aI:=HM.out;have b3:=below_drewN b2 n;have hB3:w.heap.size<(w2.drewN n).heap.size:=hB2;generalize w2.drewN n=w3 at b3 n3 sc3 hm3 hB3 ⊢;clear k0 k1 k2 k3 N2 HM sc2 b2 hB2;have N3:=Lib.hid n3;clear n3;obtain⟨k0,k1,k2,k3⟩:=sc3.cell;go_cut [58] (fun c wx=>c=.bool false∧∃ n,wx=w3.drewN n)
 case first=>
  rcases hnp with h4|⟨h4,h5⟩
  ·go_quiet ((first|(go_at_call 101;exact Calls.quiet_of_same (bU _ _ _))|(go_at_call 102;exact Calls.quiet_of_same (dE _ _))))
   go_wp2_with fail;go_meet
   case rel=>exact⟨rfl,_,rfl⟩
  ·go_quiet ((first|(go_at_call 101;exact Calls.quiet_of_same (bU _ _ _))|(go_at_call 102;exact Calls.quiet_of_same (dE _ _))))
   go_wp2_with fail;go_meet
   case rel=>exact⟨rfl,_,rfl⟩
 case rest=>
  obtain⟨rfl,m,rfl⟩:=hcut;have sc4:Scn (w3.drewN m) b s i r v:=sc3;have n4:(w3.drewN m).heap[w.heap.size]?=_:=N3.out;have b4:=below_drewN b3 m;have hm4:bG (w3.drewN m) r aI:=hm3;have hB4:w.heap.size<(w3.drewN m).heap.size:=hB3;generalize w3.drewN m=w4 at b4 n4 sc4 hm4 hB4 ⊢;clear k0 k1 k2 k3 N3 sc3 b3 hm3 hB3;obtain⟨k0,k1,k2,k3⟩:=sc4.cell;have l2:∀ n,(Instr.lookup 99 (.map (some r)) (.string (s.extract i (i+2))) false).run Tryz.prog (w4.drewN n)=.ok (.bool (mV (s.extract i (i+2)) aI)) (w4.drewN n):=
   fun n=>jR (w4.drewN n) _ _ _ Qg Mo Od _ _ hm4 _
  have l1:∀ n,(Instr.lookup 99 (.map (some r)) (.string (s.extract i (i+1))) false).run Tryz.prog (w4.drewN n)=.ok (.bool (mV (s.extract i (i+1)) aI)) (w4.drewN n):=
   fun n=>jR (w4.drewN n) _ _ _ Qg Mo Od _ _ hm4 _
  have HN4:=Lib.hid n4;have HM4:=Lib.hid hm4;clear n4 hm4;go_wp2_with fail;refine wp_loop_rounds 3 ?_;rw[rounds_succ];have ex2:i+2≤s.size→mV (s.extract i (i+2)) aI=iE ((s.data.toList.drop i).take 2) aI:=fun h=>by
   rw[eP s i (i+2) (by omega) h];simp[mV,iE]
  have ex1:mV (s.extract i (i+1)) aI=iE ((s.data.toList.drop i).take 1) aI:=by
   rw[eP s i (i+1) (by omega) (by omega)];simp[mV,iE]
  have hlen:(s.data.toList.drop i).length=s.size - i:=by
   have:s.data.toList.length=s.size:=rfl;rw[List.length_drop,this]
  have F1:=Hr (B:=w.heap.size) (b:=b) (by omega);have q0:w4.cell? ⟨w.heap.size,0,none⟩=some (.int .i64 0):=cell_of_row _ _ 0 _ _ _ HN4.out;have q1:w4.cell? ⟨w.heap.size,1,none⟩=some (.string ⟨#[]⟩):=cell_of_row _ _ 1 _ _ _ HN4.out;have q2:w4.cell? ⟨w.heap.size,2,none⟩=some (.int .i64 0):=cell_of_row _ _ 2 _ _ _ HN4.out;have f0:=Lib.frozen_of_heap HN4.out 0;have f1:=Lib.frozen_of_heap HN4.out 1;have f2:=Lib.frozen_of_heap HN4.out 2;have d3:decide (((i:Int)+1)≤(s.size:Int))=true:=by simp;omega
  have d4:(i:Int)+1≤(s.size:Int):=by omega
  by_cases hA:i+2≤s.size
  ·have d1:decide (((i:Int)+2)≤(s.size:Int))=true:=by simp;omega
   have d2:(i:Int)+2≤(s.size:Int):=by omega
   by_cases hM:mV (s.extract i (i+2)) aI=true
   ·have hres : (if 2 ≤ (s.data.toList.drop i).length ∧ iE ((s.data.toList.drop i).take 2) aI = true then some (⟨6, (s.data.toList.drop i).take 2, 2, true⟩ : Got)
        else if 1 ≤ (s.data.toList.drop i).length ∧ iE ((s.data.toList.drop i).take 1) aI = true then some ⟨6, (s.data.toList.drop i).take 1, 1, true⟩
        else none) = some ⟨6, (s.data.toList.drop i).take 2, 2, true⟩ := if_pos ⟨by omega, by rw [← ex2 hA]; exact hM⟩
    have HR:=Lib.hid hres;clear ex2 ex1 hlen hres;go_upto_region 15 with fail
    go_quiet (fail)
    go_upto_region 16 with fail;have z1:(i:Int)≤(i:Int)+2:=by omega
    have z2:(0:Int)≤(i:Int)+2:=by omega
    have z3:IntKind.i64.wrap ((i:Int)+2)=(i:Int)+2:=IntWalk.i64_in _ (by omega);have z4:((i:Int)+2).toNat=i+2:=by omega
    go_region_held3 (fun w'=>w'.cell? ⟨b,0,none⟩=some (.string s)∧w'.cell? ⟨b,1,none⟩=some (.int .i64 i)) (go_keep) (first|fail)
    clear z3 z4;go_wp2_with fail;refine bodyPost_ret (v:=.tuple #[.agg #[.int .i64 6,.string (s.extract i (i+2)),.int .i64 i],.int .i64 ((i:Int)+2),.bool true]) (by simp[results,Tryz.results134,go_sem,q0,q1,q2]) rfl ⟨?_,cO (below_drewN b4 _) _ _ _⟩;rw[HN.out,HR.out];exact jZ (by rw[eP s i (i+2) (by omega) (by omega)];simp) (by omega) rfl
   ·have hM0:mV (s.extract i (i+2)) aI=false:=by simpa using hM
    by_cases hM1:mV (s.extract i (i+1)) aI=true
    ·have hres : (if 2 ≤ (s.data.toList.drop i).length ∧ iE ((s.data.toList.drop i).take 2) aI = true then some (⟨6, (s.data.toList.drop i).take 2, 2, true⟩ : Got)
         else if 1 ≤ (s.data.toList.drop i).length ∧ iE ((s.data.toList.drop i).take 1) aI = true then some ⟨6, (s.data.toList.drop i).take 1, 1, true⟩
         else none) = some ⟨6, (s.data.toList.drop i).take 1, 1, true⟩ := by
      rw[if_neg (by rintro⟨_,h⟩;rw[← ex2 hA]at h;exact hM h),if_pos ⟨by omega,by rw[← ex1];exact hM1⟩]
     have HR:=Lib.hid hres;clear ex2 ex1 hlen hres hM;go_upto_region 15 with fail
     go_quiet (fail)
     go_upto_region 13 with fail;rw[rounds_succ];go_upto_region 15 with fail
     go_quiet (fail)
     go_upto_region 16 with fail;have z1:(i:Int)≤(i:Int)+1:=by omega
     have z2:(0:Int)≤(i:Int)+1:=by omega
     have z3:IntKind.i64.wrap ((i:Int)+1)=(i:Int)+1:=IntWalk.i64_in _ (by omega);have z4:((i:Int)+1).toNat=i+1:=by omega
     go_region_held3 (fun w'=>w'.cell? ⟨b,0,none⟩=some (.string s)∧w'.cell? ⟨b,1,none⟩=some (.int .i64 i)) (go_keep) (first|fail)
     clear z3 z4;go_wp2_with fail;refine bodyPost_ret (v:=.tuple #[.agg #[.int .i64 6,.string (s.extract i (i+1)),.int .i64 i],.int .i64 ((i:Int)+1),.bool true]) (by simp[results,Tryz.results134,go_sem,q0,q1,q2]) rfl ⟨?_,cO (below_drewN b4 _) _ _ _⟩;rw[HN.out,HR.out];exact jZ (by rw[eP s i (i+1) (by omega) (by omega)];simp) (by omega) rfl
    ·have hM2:mV (s.extract i (i+1)) aI=false:=by simpa using hM1
     have hres : (if 2 ≤ (s.data.toList.drop i).length ∧ iE ((s.data.toList.drop i).take 2) aI = true then some (⟨6, (s.data.toList.drop i).take 2, 2, true⟩ : Got)
         else if 1 ≤ (s.data.toList.drop i).length ∧ iE ((s.data.toList.drop i).take 1) aI = true then some ⟨6, (s.data.toList.drop i).take 1, 1, true⟩
         else none) = none := by
      rw[if_neg (by rintro⟨_,h⟩;rw[← ex2 hA]at h;exact hM h),if_neg (by rintro⟨_,h⟩;rw[← ex1]at h;exact hM1 h)]
     have HR:=Lib.hid hres;clear ex2 ex1 hlen hres hM hM1;go_upto_region 15 with fail
     go_quiet (fail)
     go_upto_region 13 with fail;rw[rounds_succ];go_upto_region 15 with fail
     go_quiet (fail)
     go_upto_region 13 with fail;rw[rounds_succ];go_wp2_with fail;refine bodyPost_ret (v:=.tuple #[.agg #[.int .i64 0,.string ⟨#[]⟩,.int .i64 0],.int .i64 0,.bool false]) (by simp[results,Tryz.results134,go_sem,q0,q1,q2]) rfl ⟨by rw[HN.out,HR.out];rfl,cO (below_drewN b4 _) _ _ _⟩
  ·have d1:decide (((i:Int)+2)≤(s.size:Int))=false:=by simp;omega
   have d2:¬ (i:Int)+2≤(s.size:Int):=by omega
   by_cases hM1:mV (s.extract i (i+1)) aI=true
   ·have hres : (if 2 ≤ (s.data.toList.drop i).length ∧ iE ((s.data.toList.drop i).take 2) aI = true then some (⟨6, (s.data.toList.drop i).take 2, 2, true⟩ : Got)
        else if 1 ≤ (s.data.toList.drop i).length ∧ iE ((s.data.toList.drop i).take 1) aI = true then some ⟨6, (s.data.toList.drop i).take 1, 1, true⟩
        else none) = some ⟨6, (s.data.toList.drop i).take 1, 1, true⟩ := by
     rw[if_neg (by rintro⟨h,_⟩;omega),if_pos ⟨by omega,by rw[← ex1];exact hM1⟩]
    have HR:=Lib.hid hres;clear ex2 ex1 hlen hres;go_upto_region 15 with fail
    go_quiet (fail)
    go_upto_region 13 with fail;rw[rounds_succ];go_upto_region 15 with fail
    go_quiet (fail)
    go_upto_region 16 with fail;have z1:(i:Int)≤(i:Int)+1:=by omega
    have z2:(0:Int)≤(i:Int)+1:=by omega
    have z3:IntKind.i64.wrap ((i:Int)+1)=(i:Int)+1:=IntWalk.i64_in _ (by omega);have z4:((i:Int)+1).toNat=i+1:=by omega
    go_region_held3 (fun w'=>w'.cell? ⟨b,0,none⟩=some (.string s)∧w'.cell? ⟨b,1,none⟩=some (.int .i64 i)) (go_keep) (first|fail)
    clear z3 z4;go_wp2_with fail;refine bodyPost_ret (v:=.tuple #[.agg #[.int .i64 6,.string (s.extract i (i+1)),.int .i64 i],.int .i64 ((i:Int)+1),.bool true]) (by simp[results,Tryz.results134,go_sem,q0,q1,q2]) rfl ⟨?_,cO (below_drewN b4 _) _ _ _⟩;rw[HN.out,HR.out];exact jZ (by rw[eP s i (i+1) (by omega) (by omega)];simp) (by omega) rfl
   ·have hM2:mV (s.extract i (i+1)) aI=false:=by simpa using hM1
    have hres : (if 2 ≤ (s.data.toList.drop i).length ∧ iE ((s.data.toList.drop i).take 2) aI = true then some (⟨6, (s.data.toList.drop i).take 2, 2, true⟩ : Got)
        else if 1 ≤ (s.data.toList.drop i).length ∧ iE ((s.data.toList.drop i).take 1) aI = true then some ⟨6, (s.data.toList.drop i).take 1, 1, true⟩
        else none) = none := by
     rw[if_neg (by rintro⟨h,_⟩;omega),if_neg (by rintro⟨_,h⟩;rw[← ex1]at h;exact hM1 h)]
    have HR:=Lib.hid hres;clear ex2 ex1 hlen hres hM1;go_upto_region 15 with fail
    go_quiet (fail)
    go_upto_region 13 with fail;rw[rounds_succ];go_upto_region 15 with fail
    go_quiet (fail)
    go_upto_region 13 with fail;rw[rounds_succ];go_wp2_with fail;refine bodyPost_ret (v:=.tuple #[.agg #[.int .i64 0,.string ⟨#[]⟩,.int .i64 0],.int .i64 0,.bool false]) (by simp[results,Tryz.results134,go_sem,q0,q1,q2]) rfl ⟨by rw[HN.out,HR.out];rfl,cO (below_drewN b4 _) _ _ _⟩
theorem Eh(b r:Nat)(s:ByteArray)(i:Nat)(v:Value)(hi:i<s.size)(hs:s.size≤2147483647)(w:World)(hsc:Scn w b s i r v)(hm:bG w r aI):Calls Tryz.prog 134 #[.pointer (some ⟨b,0,none⟩)] w fun e w'=>e=.returned (Ke (iL aI (s.data.toList.drop i)) i)∧Below w.heap.size w w':=by
 by_cases h1:xX (atI s i)=true
 ·exact Hh b r s i v hi hs w hsc hm h1
 ·have h1':xX (atI s i)=false:=by simpa using h1
  by_cases h2:atI s i=39
  ·exact EW b r s i v hi hs w hsc hm h1' h2
  ·by_cases h3:iP (atI s i)=true
   ·exact GI b r s i v hi hs w hsc hm h1' h2 h3
   ·have h3':iP (atI s i)=false:=by simpa using h3
    by_cases h4:atI s i=46∧iP (atI s (i+1))=true
    ·exact Fe b r s i v hi hs w hsc hm h1' h2 h3' h4.1 h4.2
    ·exact Ol b r s i v hi hs w hsc hm ⟨h1',h2,h3',h4⟩
end
section
namespace Lx
theorem jL(f i nt:Nat):sN f [] i nt=⟨[],[],0,0⟩:=by
 cases f with
 | zero=>rfl
 | succ f=>unfold sN;rw[if_pos rfl]
theorem sZ(f:Nat)(l:Bs)(i nt:Nat):sN (f+1) l i nt =
 if l=[]then⟨[],[],0,0⟩
 else if hd l=32∨hd l=10 then sN f (l.drop 1) (i+1) nt
 else if hd l=47∧hd (l.drop 1)=42 then
  match cmt l with
  | none=>⟨[],[],i,50⟩
  | some n=>(sN f (l.drop n) (i+n) nt).Qb (i,i+n)
 else
  match iL aI l with
  | none=>⟨[],[],i,50⟩
  | some g=>
   if g.ok=false∨bX g.kind ⟨g.text.toArray⟩=false then⟨[],[],i,50⟩
   else if nt=5000 then⟨[],[],i,2⟩
   else(sN f (l.drop g.len) (i+g.len) (nt+1)).OM ⟨g.kind,⟨g.text.toArray⟩,i⟩:=rfl
theorem sQ: ∀ (f g:Nat) (l:Bs) (i nt:Nat),l.length≤f→l.length≤g→sN f l i nt=sN g l i nt:=by
 intro f
 induction f with
 | zero=>
  intro g l i nt hf hg;have:l=[]:=List.eq_nil_of_length_eq_zero (by omega);subst this;rw[jL,jL]
 | succ f ih=>
  intro g l i nt hf hg
  cases g with
  | zero=>
   have:l=[]:=List.eq_nil_of_length_eq_zero (by omega);subst this;rw[jL,jL]
  | succ g=>
   cases l with
   | nil=>rw[jL,jL]
   | cons c l=>
    simp only[List.length_cons]at hf hg
    have hne:¬ (c::l)=[]:=by simp
    rw[sZ,sZ,if_neg hne,if_neg hne]
    by_cases hb:hd (c::l)=32∨hd (c::l)=10
    ·rw[if_pos hb,if_pos hb];exact ih g _ _ _ (by simp;omega) (by simp;omega)
    ·rw[if_neg hb,if_neg hb]
     by_cases hc:hd (c::l)=47∧hd ((c::l).drop 1)=42
     ·rw[if_pos hc,if_pos hc]
      rcases hm:cmt (c::l)with _|n
      ·rfl
      ·have:=vI hm;simp only
       rw[ih g ((c::l).drop n) (i+n) nt (by simp;omega) (by simp;omega)]
     ·rw[if_neg hc,if_neg hc]
      rcases hm:iL aI (c::l)with _|gt
      ·rfl
      ·have:=vV _ _ _ hm;simp only
       rw[ih g ((c::l).drop gt.len) (i+gt.len) (nt+1) (by simp;omega) (by simp;omega)]
def scn(s:ByteArray)(i nt:Nat):Res:=sN (s.size - i) (s.data.toList.drop i) i nt
theorem Kp(s:ByteArray)(h:s.size≤20000):dC s=scn s 0 0:=by unfold dC scn;rw[if_neg (by omega)];rfl
theorem Ni(s:ByteArray)(nt:Nat):scn s s.size nt=⟨[],[],0,0⟩:=by
 unfold scn;rw[List.drop_of_length_le (by have:s.data.toList.length=s.size:=rfl;omega),jL]
theorem jH (s : ByteArray) (j nt : Nat) (hj : j < s.size) : scn s j nt =
    if atI s j = 32 ∨ atI s j = 10 then scn s (j + 1) nt
    else if atI s j = 47 ∧ atI s (j + 1) = 42 then
      match cmt (s.data.toList.drop j) with
      | none => ⟨[], [], j, 50⟩
      | some n => (scn s (j + n) nt).Qb (j, j + n)
    else
      match iL aI (s.data.toList.drop j) with
      | none => ⟨[], [], j, 50⟩
      | some g =>
        if g.ok = false ∨ bX g.kind ⟨g.text.toArray⟩ = false then ⟨[], [], j, 50⟩
        else if nt = 5000 then ⟨[], [], j, 2⟩
        else (scn s (j + g.len) (nt + 1)).OM ⟨g.kind, ⟨g.text.toArray⟩, j⟩ := by
  have e : (j : Int) + 1 = ((j + 1 : Nat) : Int) := by omega
  rw [e, dO s (j + 1), dO s j]
  unfold scn
  obtain ⟨f, hf⟩ : ∃ f, s.size - j = f + 1 := ⟨s.size - j - 1, by omega⟩
  rw [hf]
  rw [sZ, if_neg (by intro h; have := eK s j; rw [h] at this; simp at this; omega), List.drop_drop]
  by_cases hb : hd (s.data.toList.drop j) = 32 ∨ hd (s.data.toList.drop j) = 10
  · rw [if_pos hb, if_pos hb]
    exact sQ _ _ _ _ _ (by rw [eK]; omega) (by rw [eK]; omega)
  · rw [if_neg hb, if_neg hb]
    by_cases hc : hd (s.data.toList.drop j) = 47 ∧ hd (s.data.toList.drop (j + 1)) = 42
    · rw [if_pos hc, if_pos hc]
      rcases hm : cmt (s.data.toList.drop j) with _ | n
      · rfl
      · have := vI hm
        simp only [List.drop_drop]
        rw [sQ f (s.size - (j + n)) _ _ _ (by rw [eK]; omega) (by rw [eK]; omega)]
    · rw [if_neg hc, if_neg hc]
      rcases hm : iL aI (s.data.toList.drop j) with _ | g
      · rfl
      · have := vV _ _ _ hm
        simp only [List.drop_drop]
        rw [sQ f (s.size - (j + g.len)) _ _ _ (by rw [eK]; omega) (by rw [eK]; omega)]
def Res.pre(ts:List Tok)(cs:List (Nat×Nat))(r:Res):Res:=⟨ts++r.toks,cs++r.coms,r.at_,r.err⟩
theorem CM(t1 t2:List Tok)(c1 c2:List (Nat×Nat))(r:Res):(r.pre t2 c2).pre t1 c1=r.pre (t1++t2) (c1++c2):=by simp[Res.pre]
theorem LP(c:Nat×Nat)(r:Res):r.Qb c=r.pre [] [c]:=rfl
theorem Lf(t:Tok)(r:Res):r.OM t=r.pre [t] []:=rfl
theorem PM{s:ByteArray}{j n:Nat}(h:cmt (s.data.toList.drop j)=some n):j+n≤s.size:=by
 have h0:=h;unfold cmt at h
 split at h
 ·cases h
 ·rename_i hneg
  obtain⟨k,hk⟩:=Int.eq_ofNat_of_zero_le (by omega:0≤Lib.index ((s.data.toList.drop j).drop 2) [42,47])
  split at h
  ·simp at h
   have hr:=(JH s j k (by rw[pV,← hk,List.drop_drop])).1;have:n=k+4:=by rw[List.drop_drop]at hk;rw[← h,hk];simp
   omega
  ·cases h
theorem Hs(s:ByteArray):∀ (d i:Nat),s.size - i=d→i≤s.size→∀ (nt:Nat) (ok:Bool) (j:Nat) (cs:List (Nat×Nat)),spc s i=(ok,j,cs)→i≤j∧j≤s.size∧cs.length≤j - i∧(ok=true→¬ (atI s j=32∨atI s j=10)∧¬ (atI s j=47∧atI s (j+1)=42)∧scn s i nt=(scn s j nt).pre [] cs)∧(ok=false→scn s i nt=⟨[],cs,j,50⟩):=by
 intro d
 induction d using Nat.strongRecOn with
 | ind d ih=>
  intro i hd hi nt ok j cs hs
  by_cases hb:atI s (i:Int)=32∨atI s (i:Int)=10
  ·have hlt:=kU s i (by omega);rw[Bz s i hb]at hs;obtain⟨h1,h2,h3,h4,h5⟩:=ih (s.size - (i+1)) (by omega) (i+1) rfl (by omega) nt ok j cs hs;refine⟨by omega,h2,by omega,fun h=>?_,fun h=>?_⟩
   ·obtain⟨a,b,c⟩:=h4 h;exact⟨a,b,by rw[jH s i nt hlt,if_pos hb,c]⟩
   ·rw[jH s i nt hlt,if_pos hb,h5 h]
  ·by_cases hc:atI s (i:Int)=47∧atI s ((i:Int)+1)=42
   ·have hlt:=kU s i (by omega)
    cases hm:cmt (s.data.toList.drop i) with
    | none=>
     rw[AX s i hc.1 hc.2 hm]at hs;simp only[Prod.mk.injEq]at hs
     obtain⟨rfl,rfl,rfl⟩:=hs;refine⟨Nat.le_refl _,hi,by simp,(fun h=>by cases h),fun _=>?_⟩;rw[jH s i nt hlt,if_neg hb,if_pos hc,hm]
    | some n=>
     have hn:=vI hm;have hle:=PM hm;rw[JI s i n hc.1 hc.2 hm]at hs;simp only[Prod.mk.injEq]at hs
     obtain⟨e1,e2,e3⟩:=hs;obtain⟨h1,h2,h3,h4,h5⟩:=ih (s.size - (i+n)) (by omega) (i+n) rfl hle nt ok j (spc s (i+n)).2.2 (by rw[← e1,← e2]);subst e3;refine⟨by omega,h2,by simp;omega,fun h=>?_,fun h=>?_⟩
     ·obtain⟨a,b,c⟩:=h4 h;refine⟨a,b,?_⟩;rw[jH s i nt hlt,if_neg hb,if_pos hc,hm];simp only
      rw[c,LP,CM];rfl
     ·rw[jH s i nt hlt,if_neg hb,if_pos hc,hm];simp only
      rw[h5 h];rfl
   ·rw[Ee s i hb hc]at hs;simp only[Prod.mk.injEq]at hs
    obtain⟨rfl,rfl,rfl⟩:=hs;exact⟨Nat.le_refl _,hi,by simp,fun _=>⟨hb,hc,by simp[Res.pre]⟩,(fun h=>by cases h)⟩
theorem ND (s : ByteArray) (j nt : Nat) (hj : j < s.size) (hb : ¬ (atI s j = 32 ∨ atI s j = 10)) (hc : ¬ (atI s j = 47 ∧ atI s (j + 1) = 42)) : scn s j nt =
      match iL aI (s.data.toList.drop j) with
      | none => ⟨[], [], j, 50⟩
      | some g =>
        if g.ok = false ∨ bX g.kind ⟨g.text.toArray⟩ = false then ⟨[], [], j, 50⟩
        else if nt = 5000 then ⟨[], [], j, 2⟩
        else (scn s (j + g.len) (nt + 1)).OM ⟨g.kind, ⟨g.text.toArray⟩, j⟩ := by
  rw [jH s j nt hj, if_neg hb, if_neg hc]
theorem EV(signs:List ByteArray)(l:Bs)(g:Got)(h:iL signs l=some g):g.text.length≤l.length:=by
 unfold iL at h
 split at h
 ·cases h;simp;omega
 ·split at h
  ·unfold nN at h;rw[Option.map_eq_some_iff]at h;obtain⟨x,hx,rfl⟩:=h;have:=Dv _ _ _ hx
   simp at this
   split<;>simp<;>omega
  ·split at h
   ·cases h;unfold mQ;simp only;split<;>simp<;>omega
   ·split at h
    ·cases h;simp;omega
    ·split at h
     ·cases h;simp;omega
     ·cases h
theorem JJ(signs:List ByteArray)(s:ByteArray)(j:Nat)(g:Got)(h:iL signs (s.data.toList.drop j)=some g)(hok:g.ok=true)(hj:j<s.size):j+g.len≤s.size:=by
 have hl:=eK s j;unfold iL at h
 split at h
 ·cases h;have:=Fh (s.data.toList.drop j);simp only;omega
 ·split at h
  ·unfold nN at h;rw[Option.map_eq_some_iff]at h;obtain⟨x,hx,rfl⟩:=h;have hq:=Dv _ _ _ hx;rw[List.length_drop]at hq
   split
   ·rename_i hb
    simp only
    have:x.2+1<(s.data.toList.drop j).length:=by
     rcases Nat.lt_or_ge (x.2+1) (s.data.toList.drop j).length with h'|h'
     ·exact h'
     ·rw[List.drop_of_length_le h']at hb;exact absurd hb (by decide)
    omega
   ·simp only;omega
  ·split at h
   ·cases h
    have hn:=Fa (s.data.toList.drop j) false;unfold mQ;simp only
    split
    ·rename_i hb
     simp only
     have:(cV (s.data.toList.drop j) false).1<(s.data.toList.drop j).length:=by
      rcases Nat.lt_or_ge (cV (s.data.toList.drop j) false).1 (s.data.toList.drop j).length with h'|h'
      ·exact h'
      ·rw[List.drop_of_length_le h']at hb;exact absurd hb.1 (by decide)
     omega
    ·simp only;omega
   ·split at h
    ·rename_i hb;cases h;simp only;omega
    ·split at h
     ·cases h;simp only;omega
     ·cases h
end Lx
namespace Lx
theorem Iy(s:ByteArray):s.data.toList.length=s.size:=rfl
def kt(t:Tok):Int×ByteArray:=(t.kind,t.text)
end Lx
namespace Lx
theorem JQ(t:ByteArray):(⟨t.data.toList.toArray⟩:ByteArray)=t:=by cases t;simp
theorem tR{a b:ByteArray}(h:a.data.toList=b.data.toList):a=b:=by
 rw[← JQ a,← JQ b,h]
def spl(a:Int×ByteArray):Bs:=(aZ a.1 a.2).data.toList
def okI(a:Int×ByteArray):Bool:=bX a.1 a.2
end Lx
namespace Lx
def pE(a:Int×ByteArray):Bool:=decide (a.1=6)&&decide (a.2=⟨#[59]⟩)
def rH(a b:Int×ByteArray):Bool:=decide ((dC (aZ a.1 a.2++aZ b.1 b.2)).err=0)&&decide ((dC (aZ a.1 a.2++aZ b.1 b.2)).toks.map kt=[a,b])
def nM(a:Int×ByteArray):List (Int×ByteArray)→Bs
 | []=>if pE a then [10]else []
 | b::_=>if pE a then [10]else if rH a b then []else [32]
def eU: List (Int×ByteArray)→Bs
 | []=>[]
 | a::r=>spl a++(nM a r++eU r)
theorem Df(a b:Int×ByteArray)(r:List (Int×ByteArray)):nM a (b::r)=if pE a then [10]else if rH a b then []else [32]:=rfl
theorem vJ(a:Int×ByteArray)(r:List (Int×ByteArray)):eU (a::r)=spl a++(nM a r++eU r):=rfl
def cL(l:List (Int×ByteArray)):ByteArray×Int:=
 if 5000<l.length then(⟨#[]⟩,2)
 else if l.all okI=false then(⟨#[]⟩,50)
 else if 20000<(eU l).length then(⟨#[]⟩,2)
 else(⟨(eU l).toArray⟩,0)
end Lx
end
end Go.Proofs.YtfdlmcgcckkkdaaGreatDoor
