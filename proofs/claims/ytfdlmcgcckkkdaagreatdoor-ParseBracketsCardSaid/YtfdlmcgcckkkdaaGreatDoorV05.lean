/- ParseWhole, part 5: what it stands on. -/
import Derived.Test.YtfdlmcgcckkkdaaGreatDoorV04
set_option linter.all false
set_option maxHeartbeats 40000000
set_option maxRecDepth 100000
namespace Go.Proofs.YtfdlmcgcckkkdaaGreatDoor
section
open Go.RowKit Lx
theorem Qs: (Tryz.prog.info? 5).map (fun i=>(i.zero,i.size,i.bytes))=some (some (.int .u8 0),1,1):=by kernel_rfl
def nL(l:Bs):List Value:=l.map fun c=>.int .u8 c.toNat
theorem wN(l:Bs)(c:UInt8):nL (l++[c])=nL l++[.int .u8 c.toNat]:=by simp[nL]
theorem tS(W:World)(B:Nat)(bv:Value)(t:Bs)(hown:W.ownsRow B 5 1 bv t.length (nL t)):(convert 124 9 bv).run Tryz.prog W=.ok (.string ⟨t.toArray⟩) W:=by
 rcases hown.2 with ⟨rfl,h0⟩|⟨g,cap,cur,rfl,hB,hg,hnc,hcm,hcs,htake⟩
 ·have:t=[]:=List.eq_nil_of_length_eq_zero h0;subst this;exact run_convert_bytes_nil W _ _ FT PY _ _ _ Mo
 ·have h := run_convert_bytes_arg (P := Tryz.prog) W 124 5 FT PY g 0 t.length cap (t.map fun c => ((c.toNat : Nat) : Int)) (by simp) (fun i hi => by
    have hc := hown.cells (g := g) rfl i (.int .u8 ((t[i]'hi).toNat : Nat)) (by simp [nL, hi])
    have ha : (⟨g, 0, none⟩ : Addr).add i = ⟨g, 0 + i, none⟩ := by unfold Addr.add; split <;> simp_all
    rw [ha] at hc
    rw [hc, Dm _ i 0 (by simpa using hi)]; simp) 9 Mo
  refine h.trans ?_;rw[show strOfNums (t.map fun c=>((c.toNat:Nat):Int))=⟨t.toArray⟩from tR (by simp[strOfNums,Function.comp_def])]
theorem xF(b r:Nat)(s:ByteArray)(i:Nat)(v:Value)(hi:i<s.size)(hs:s.size≤2147483647)(w:World)(hsc:Scn w b s i r v):Calls Tryz.prog 153 #[.pointer (some ⟨b,0,none⟩)] w fun e w'=>e=.returned (Ke (nN (s.data.toList.drop i)) i)∧Below w.heap.size w w':=by
 obtain⟨i0,hi0,hz0,hz1,hz2⟩:=info_parts Qs;have hblt:=hsc.lt;obtain⟨k0,k1,k2,k3⟩:=hsc.cell;go_enter Tryz.func153,Tryz.ntmps153;go_upto_block 0 with fail;have b1:=aC w (.cells #[.int .i64 0,.string ⟨#[]⟩,.int .i64 0] 43);have n1:=heap_alloc_new w (.cells #[.int .i64 0,.string ⟨#[]⟩,.int .i64 0] 43);generalize w.alloc (.cells #[.int .i64 0,.string ⟨#[]⟩,.int .i64 0] 43)=w1 at b1 n1 ⊢;have sc1:=hsc.below b1;have N1:=Lib.hid n1;clear n1 k0 k1 k2 k3;have hBlt:=(Array.getElem?_eq_some_iff.1 N1.out).1;go_cut [5,6] (fun bv q wx=>∃ (t:Bs) (n:Nat),quo (s.data.toList.drop (i+1))=some (t,n)∧q=.int .i64 (i+1+n:Nat)∧wx.ownsRow w1.heap.size 5 1 bv t.length (nL t)∧Below w1.heap.size w1 wx)
 case first=>
  go_wp2_with fail
  go_loopw [5, 6] (fun bv q wr => ∃ (j : Nat) (acc : Bs), i + 1 ≤ j ∧ j ≤ s.size ∧ q = .int .i64 j ∧ quo (s.data.toList.drop (i + 1)) = (quo (s.data.toList.drop j)).map (fun x => (acc ++ x.1, x.2 + (j - (i + 1)))) ∧ acc.length ≤ j - (i + 1) ∧
    wr.ownsRow w1.heap.size 5 1 bv acc.length (nL acc) ∧ Below w1.heap.size w1 wr) (fun _ q _ => s.size - (intOf q).toNat)
  case atStart=>exact⟨i+1,[],Nat.le_refl _,by omega,by go_num,by simp,by simp,World.ownsRow_nil _ _ _ _,Below.refl _ _⟩
  case round=>
   obtain⟨j,acc,hij,hj,rfl,hq,hal,hown,hbr⟩:=hrel;have HQ:=Lib.hid hq;clear hq;have scr:Scn wr b s i r v:=(hbr.block b sc1.lt).trans sc1;obtain⟨k0,k1,k2,k3⟩:=scr.cell;have hra:=eV s (j:Int)
   by_cases hsh:dZ (atI s (j:Int))=true
   ·obtain⟨lo,hi2⟩:=Ka hsh;have hlt:=kU s j (by omega);have d1:decide (atI s (j:Int)<32)=false:=by simp;omega
    have d2:decide (126<atI s (j:Int))=false:=by simp;omega
    have hby:(atI s (j:Int))=((s[j]'hlt).toNat:Int):=lY s j hlt
    by_cases h39:atI s (j:Int)=39
    ·have e39:(atI s (j:Int)==39)=true:=by rw[h39];rfl
     by_cases h2:atI s ((j:Int)+1)=39
     ·have n39:(atI s ((j:Int)+1) != 39)=false:=by rw[h2];rfl
      have hst:=Lib.hid (MY s j h39 h2);have hlt2:j+1<s.size:=kU s (j+1) (by rw[show ((j+1:Nat):Int)=(j:Int)+1 from by omega];omega);have H39:=Lib.hid h39;have HBY:=Lib.hid hby;clear h39 h2 hby;go_wp2_with (first|(go_at_call 101;refine(bU _ _ _).mono ?_;rintro e w' ⟨rfl,hw⟩;rw[hw];clear hw)|(at_builtin;refine wpList_append_own _ rfl _ _ 124 rfl w1.heap.size 5 i0 (.int .u8 0) 1 1 FT hi0 hz0 hz1 hz2 rfl (by decide) _ _ _ rfl (hown.alloc _) ⟨wr.heap.size,0,none⟩ 1 1 [.int .u8 (atI s (j:Int))] rfl rfl ?c1 ?c2 ?c3 ?c4 ?c5 ?_))
      case c1=>
       intro jj u hj
       match jj,hj with
       | 0,hj=>simp at hj;subst hj;simp[Addr.add]
      case c2=>intro u hu;simp at hu;subst hu;rfl
      case c3=>unfold maxLen;omega
      case c4=>omega
      case c5=>have:=hbr.size;simp;omega
      intro v' w2 hown' hgrow _;have hb2:Below w1.heap.size w1 w2:=(hbr.alloc hbr.size _).grown hgrow (by have:=hbr.size;simp;omega) (fun k hk=>(hown.lt k hk).1);have hx:nL acc++[.int .u8 (atI s (j:Int))]=nL (acc++[39]):=by rw[wN,H39.out];rfl
      rw[hx]at hown';clear hx;go_wp2_with fail
      go_roundw
      case rel=>exact⟨j+2,acc++[39],by omega,by omega,by go_num,by rw[HQ.out,hst.out,Jv,show j - (i+1)+2=j+2 - (i+1)from by omega],by rw[List.length_append];show acc.length+1≤_;omega,by simpa using hown',hb2⟩
      case measure=>simp[intOf];omega
     ·have n39:(atI s ((j:Int)+1) != 39)=true:=by rw[bne_iff_ne];exact h2
      have hend:quo (s.data.toList.drop (i+1))=some (acc,j - i):=by rw[HQ.out,Nb s j h39 h2];simp;omega
      have HE:=Lib.hid hend;clear h39 h2 hby hend;go_wp2_with (go_at_call 101;refine(bU _ _ _).mono ?_;rintro e w' ⟨rfl,hw⟩;rw[hw];clear hw);go_meet
      case rel=>exact⟨acc,j - i,HE.out,by go_num,hown,hbr⟩
    ·have e39:(atI s (j:Int)==39)=false:=by rw[beq_eq_false_iff_ne];exact h39
     have hst:=Lib.hid (Ha s j hlt hsh h39);have HBY:=Lib.hid hby;clear h39 hby;go_wp2_with (first|(go_at_call 101;refine(bU _ _ _).mono ?_;rintro e w' ⟨rfl,hw⟩;rw[hw];clear hw)|(at_builtin;refine wpList_append_own _ rfl _ _ 124 rfl w1.heap.size 5 i0 (.int .u8 0) 1 1 FT hi0 hz0 hz1 hz2 rfl (by decide) _ _ _ rfl (hown.alloc _) ⟨wr.heap.size,0,none⟩ 1 1 [.int .u8 (atI s (j:Int))] rfl rfl ?c1 ?c2 ?c3 ?c4 ?c5 ?_))
     case c1=>
      intro jj u hj
      match jj,hj with
      | 0,hj=>simp at hj;subst hj;simp[Addr.add]
     case c2=>intro u hu;simp at hu;subst hu;rfl
     case c3=>unfold maxLen;omega
     case c4=>omega
     case c5=>have:=hbr.size;simp;omega
     intro v' w2 hown' hgrow _;have hb2:Below w1.heap.size w1 w2:=(hbr.alloc hbr.size _).grown hgrow (by have:=hbr.size;simp;omega) (fun k hk=>(hown.lt k hk).1);have hx:nL acc++[.int .u8 (atI s (j:Int))]=nL (acc++[s[j]]):=by rw[wN,HBY.out]
     rw[hx]at hown';clear hx;go_wp2_with fail
     go_roundw
     case rel=>exact⟨j+1,acc++[s[j]],by omega,by omega,by go_num,by rw[HQ.out,hst.out,Jv,show j - (i+1)+1=j+1 - (i+1)from by omega],by rw[List.length_append];show acc.length+1≤_;omega,by simpa using hown',hb2⟩
     case measure=>simp[intOf];omega
   ·have hsh0:dZ (atI s (j:Int))=false:=by simpa using hsh
    have hnone:quo (s.data.toList.drop (i+1))=none:=by rw[HQ.out,NS s j hsh0];rfl
    have HT:=Lib.hid (CC s i hnone);have r1:wr.heap[w.heap.size]?=_:=(hbr.block _ hBlt).trans N1.out;have q0:=cell_of_row _ _ 0 _ _ _ r1;have q1:=cell_of_row _ _ 1 _ _ _ r1;have q2:=cell_of_row _ _ 2 _ _ _ r1;have f0:=Lib.frozen_of_heap r1 0;have f1:=Lib.frozen_of_heap r1 1;have f2:=Lib.frozen_of_heap r1 2;have HB:=Lib.hid hbr;clear hnone HQ hbr hown;have hc:decide (atI s (j:Int)<32)=true∨(decide (atI s (j:Int)<32)=false∧decide (126<atI s (j:Int))=true):=by
     unfold dZ at hsh0
     by_cases h:atI s (j:Int)<32
     ·left;simpa using h
     ·right;simp at hsh0 ⊢; omega
    clear hsh hsh0
    rcases hc with hc|⟨hc,hc2⟩
    all_goals
     go_wp2_with (go_at_call 101;refine(bU _ _ _).mono ?_;rintro e w' ⟨rfl,hw⟩;rw[hw];clear hw);refine bodyPost_ret (v:=.tuple #[.agg #[.int .i64 0,.string ⟨#[]⟩,.int .i64 0],.int .i64 0,.bool false]) (by simp[results,Tryz.results153,go_sem,q0,q1,q2]) rfl ⟨by rw[HT.out];rfl,cO (b1.trans (HB.out.mono b1.size)) _ _ _⟩
 case rest=>
  rename World=>wd
  obtain⟨t,n,hq,rfl,hown,hbc⟩:=hcut;have hlen:=Dv _ _ _ hq;have hn:n≤2147483647:=by
   have:=hlen.1;simp at this;have h2:s.data.size=s.size:=rfl;omega
  have HT:=Lib.hid (Ec s i t n hq);have scc:Scn wd b s i r v:=(hbc.block b sc1.lt).trans sc1;obtain⟨k0,k1,k2,k3⟩:=scc.cell;have a0:∀ o,(wd.alloc o).cell? ⟨b,0,none⟩=some (.string s):=fun o=>(scc.below (aC wd o)).cell.1
  have a1:∀ o,(wd.alloc o).cell? ⟨b,1,none⟩=some (.int .i64 i):=fun o=>(scc.below (aC wd o)).cell.2.1
  have r0:wd.heap[w.heap.size]?=_:=(hbc.block _ hBlt).trans N1.out;have hBlt2:=(Array.getElem?_eq_some_iff.1 r0).1;have R0:=Lib.hid r0;have c1:=tS wd.drew _ _ t hown;have c2:=tS (wd.alloc (.cells #[.int .i64 0,.string ⟨#[]⟩,.int .i64 0] 43)).drew _ _ t (hown.alloc _);have HBC:=Lib.hid hbc;clear hq hlen r0 hbc;go_upto_region 11 with fail;go_cut [8] (fun p8 wx=>p8=.pointer (some ⟨wd.heap.size,0,none⟩)∧wx.heap[wd.heap.size]?=some (.cells #[.int .i64 4,.string ⟨t.toArray⟩,.int .i64 i] 43 (0,0))∧Below wd.heap.size wd wx)
  case first=>
   go_region
   all_goals
    go_wp2_with fail;go_meet
    case rel=>exact⟨rfl,heap_alloc_new wd (.cells #[.int .i64 4,.string ⟨t.toArray⟩,.int .i64 i] 43),(aC wd (.cells #[.int .i64 4,.string ⟨t.toArray⟩,.int .i64 i] 43)).drew⟩
  case rest=>
  rename World=>w2
  obtain⟨rfl,n2,b2⟩:=hcut;clear a0 a1 c1 c2 k0 k1 k2 k3;have hbc:=HBC.out;have r0:=R0.out;have sc2:=scc.below b2;obtain⟨k0,k1,k2,k3⟩:=sc2.cell;have t0:w2.cell? ⟨wd.heap.size,0,none⟩=some (.int .i64 4):=cell_of_row w2 wd.heap.size 0 _ _ _ n2;have f0:=Lib.frozen_of_heap n2 0;have N2:=Lib.hid n2;clear n2;obtain⟨q,hqe⟩:∃ q:Int,q=(i:Int)+1+n:=⟨_,rfl⟩
  have eq1:((i+1+n:Nat):Int)=q:=by omega
  have eq2:((i+1+n+1:Nat):Int)=q+1:=by omega
  rw[eq1,eq2]at HT;have hq0:0≤q∧q≤4294967299:=by omega
  have HQE:=Lib.hid hqe
  first|simp only[eq1]|simp only[← hqe]
  clear hqe eq1 eq2;go_upto_region 13 with (go_at_call 101;refine(bU _ _ _).mono ?_;rintro e w' ⟨rfl,hw⟩;rw[hw];clear hw);go_cut [64] (fun c wx=>w2=wx∧c=.bool (isB (atI s q)))
  case first=>
   have h2:((atI s q==66)=true∧isB (atI s q)=true)∨((atI s q==66)=false∧(atI s q==98)=true∧isB (atI s q)=true)∨((atI s q==66)=false∧(atI s q==98)=false∧isB (atI s q)=false):=by
    unfold isB
    cases (atI s q==66)<;>cases (atI s q==98)<;>simp
   rcases h2 with ⟨h2,h3⟩|⟨h2,h3,h4⟩|⟨h2,h3,h4⟩
   all_goals
    go_wp2_with fail;go_meet
    case rel=>exact⟨rfl,by simp[*]⟩
  case rest=>
   obtain⟨rfl,rfl⟩:=hcut;have F1:=Hr (B:=w.heap.size) (b:=b) (by have:=hblt;omega);have F2:=Hr (B:=w.heap.size) (b:=wd.heap.size) (by omega);clear k0 k1 k2 k3;obtain⟨c,hc⟩:∃ c,c=isB (atI s q):=⟨_,rfl⟩
   have HIS:=Lib.hid hc.symm;simp only[← hc]
   clear hc
   cases c
   ·go_upto_region 16 with fail;have hr:=eV s q;have b3:=b2;have n3:=N2.out;have r1:w2.heap[w.heap.size]?=_:=(b3.block _ hBlt2).trans r0;have sc3:Scn w2 b s i r v:=(b3.block b scc.lt).trans scc;obtain⟨k0,k1,k2,k3⟩:=sc3.cell;have t0:w2.cell? ⟨wd.heap.size,0,none⟩=some (.int .i64 4):=cell_of_row _ _ 0 _ _ _ n3;have t1:w2.cell? ⟨wd.heap.size,1,none⟩=some (.string ⟨t.toArray⟩):=cell_of_row _ _ 1 _ _ _ n3;have t2:w2.cell? ⟨wd.heap.size,2,none⟩=some (.int .i64 i):=cell_of_row _ _ 2 _ _ _ n3;have q0:w2.cell? ⟨w.heap.size,0,none⟩=some (.int .i64 0):=cell_of_row _ _ 0 _ _ _ r1;have q1:w2.cell? ⟨w.heap.size,1,none⟩=some (.string ⟨#[]⟩):=cell_of_row _ _ 1 _ _ _ r1;have q2:w2.cell? ⟨w.heap.size,2,none⟩=some (.int .i64 0):=cell_of_row _ _ 2 _ _ _ r1;have f0:=Lib.frozen_of_heap r1 0;have f1:=Lib.frozen_of_heap r1 1;have f2:=Lib.frozen_of_heap r1 2;have B3:=Lib.hid b3;clear r1 n3 b3 sc3
    go_region_held3 (fun w'=>w'.cell? ⟨b,0,none⟩=some (.string s)∧w'.cell? ⟨wd.heap.size,0,none⟩=some (.int .i64 4)∧w'.cell? ⟨wd.heap.size,1,none⟩=some (.string ⟨t.toArray⟩)∧w'.cell? ⟨wd.heap.size,2,none⟩=some (.int .i64 i)) (go_keep) (first|(go_at_call 101;refine(bU _ _ _).mono ?_;rintro e w' ⟨rfl,hw⟩;rw[hw];clear hw)|(go_at_call 105;refine(kG _ hr.1 hr.2 _).mono ?_;rintro e w' ⟨rfl,n,rfl⟩))
    go_wp2_with fail;refine bodyPost_ret (v:=.tuple #[.agg #[.int .i64 4,.string ⟨t.toArray⟩,.int .i64 i],.int .i64 q,.bool (!fW (atI s q))]) (by simp[results,Tryz.results153,go_sem,q0,q1,q2]) rfl ⟨?_,?_⟩
    ·rw[HT.out,HIS.out];exact jZ rfl (by have:=HQE.out;omega) (by have:=HQE.out;rfl)
    ·exact cO (below_drewN (b1.trans ((hbc.trans (B3.out.mono hbc.size)).mono b1.size)) _) _ _ _
   ·go_upto_region 16 with fail;have hr:=eV s (q+1);have b3:=b2.setCell (p:=⟨wd.heap.size,0,none⟩) (Nat.le_refl _) (.int .i64 5);have n3:(w2.setCell ⟨wd.heap.size,0,none⟩ (.int .i64 5)).heap[wd.heap.size]?=some (.cells #[.int .i64 5,.string ⟨t.toArray⟩,.int .i64 i] 43 (0,0)):=by
     simp[World.setCell,Array.getElem?_modify,N2.out]
    generalize w2.setCell ⟨wd.heap.size,0,none⟩ (.int .i64 5)=w3 at b3 n3 ⊢;have r1:w3.heap[w.heap.size]?=_:=(b3.block _ hBlt2).trans r0;have sc3:Scn w3 b s i r v:=(b3.block b scc.lt).trans scc;obtain⟨k0,k1,k2,k3⟩:=sc3.cell;have t0:w3.cell? ⟨wd.heap.size,0,none⟩=some (.int .i64 5):=cell_of_row _ _ 0 _ _ _ n3;have t1:w3.cell? ⟨wd.heap.size,1,none⟩=some (.string ⟨t.toArray⟩):=cell_of_row _ _ 1 _ _ _ n3;have t2:w3.cell? ⟨wd.heap.size,2,none⟩=some (.int .i64 i):=cell_of_row _ _ 2 _ _ _ n3;have q0:w3.cell? ⟨w.heap.size,0,none⟩=some (.int .i64 0):=cell_of_row _ _ 0 _ _ _ r1;have q1:w3.cell? ⟨w.heap.size,1,none⟩=some (.string ⟨#[]⟩):=cell_of_row _ _ 1 _ _ _ r1;have q2:w3.cell? ⟨w.heap.size,2,none⟩=some (.int .i64 0):=cell_of_row _ _ 2 _ _ _ r1;have f0:=Lib.frozen_of_heap r1 0;have f1:=Lib.frozen_of_heap r1 1;have f2:=Lib.frozen_of_heap r1 2;have B3:=Lib.hid b3;clear r1 n3 b3 sc3
    go_region_held3 (fun w'=>w'.cell? ⟨b,0,none⟩=some (.string s)∧w'.cell? ⟨wd.heap.size,0,none⟩=some (.int .i64 5)∧w'.cell? ⟨wd.heap.size,1,none⟩=some (.string ⟨t.toArray⟩)∧w'.cell? ⟨wd.heap.size,2,none⟩=some (.int .i64 i)) (go_keep) (first|(go_at_call 101;refine(bU _ _ _).mono ?_;rintro e w' ⟨rfl,hw⟩;rw[hw];clear hw)|(go_at_call 105;refine(kG _ hr.1 hr.2 _).mono ?_;rintro e w' ⟨rfl,n,rfl⟩))
    go_wp2_with fail;refine bodyPost_ret (v:=.tuple #[.agg #[.int .i64 5,.string ⟨t.toArray⟩,.int .i64 i],.int .i64 (q+1),.bool (!fW (atI s (q+1)))]) (by simp[results,Tryz.results153,go_sem,q0,q1,q2]) rfl ⟨?_,?_⟩
    ·rw[HT.out,HIS.out];exact jZ rfl (by have:=HQE.out;omega) (by have:=HQE.out;rfl)
    ·exact cO (below_drewN (b1.trans ((hbc.trans (B3.out.mono hbc.size)).mono b1.size)) _) _ _ _
theorem wT(g:Option Got)(i:Nat):∃ (k:Int) (t:ByteArray) (a m:Int) (ok:Bool),Ke g i=.tuple #[.agg #[.int .i64 k,.string t,.int .i64 a],.int .i64 m,.bool ok]:=by
 cases g with
 | none=>exact⟨_,_,_,_,_,rfl⟩
 | some g=>exact⟨_,_,_,_,_,rfl⟩
theorem Du(s:ByteArray)(i:Nat)(h1:xX (atI s i)=false)(h2:atI s i=39):iL aI (s.data.toList.drop i)=nN (s.data.toList.drop i):=by
 unfold iL;rw[← dO,if_neg (by rw[h1];decide),if_pos h2]
theorem Bt(s:ByteArray)(i:Nat)(h1:xX (atI s i)=false)(h2:¬ atI s i=39)(h3:iP (atI s i)=true∨(atI s i=46∧iP (atI s (i+1))=true)):iL aI (s.data.toList.drop i)=some (mQ (s.data.toList.drop i)):=by
 have e:(i:Int)+1=((i+1:Nat):Int):=by omega
 rw[e,dO s (i+1)]at h3;unfold iL;rw[List.drop_drop,← dO s i,if_neg (by rw[h1];decide),if_neg h2,if_pos h3]
theorem GC(s:ByteArray)(i:Nat)(h1:xX (atI s i)=true):iL aI (s.data.toList.drop i)=some ⟨1,((s.data.toList.drop i).take (gA (s.data.toList.drop i))).map upC,gA (s.data.toList.drop i),true⟩:=by
 unfold iL;rw[← dO,if_pos h1]
theorem EW(b r:Nat)(s:ByteArray)(i:Nat)(v:Value)(hi:i<s.size)(hs:s.size≤2147483647)(w:World)(hsc:Scn w b s i r v)(hm:bG w r aI)(h1:xX (atI s i)=false)(h2:atI s i=39):Calls Tryz.prog 134 #[.pointer (some ⟨b,0,none⟩)] w fun e w'=>e=.returned (Ke (iL aI (s.data.toList.drop i)) i)∧Below w.heap.size w w':=by
 have hblt:=hsc.lt;have ra:=eV s (i:Int);have e39:(atI s (i:Int)==39)=true:=by rw[h2];rfl
 have HN:=Lib.hid (Du s i h1 h2);clear h2;go_enter Tryz.func134,Tryz.ntmps134;go_upto_region 1 with fail;have b1:=aC w (.cells #[.int .i64 0,.string ⟨#[]⟩,.int .i64 0] 43);have n1:=heap_alloc_new w (.cells #[.int .i64 0,.string ⟨#[]⟩,.int .i64 0] 43);generalize w.alloc (.cells #[.int .i64 0,.string ⟨#[]⟩,.int .i64 0] 43)=w1 at b1 n1 ⊢;have sc1:=hsc.below b1;have hm1:=hm.below b1 hm.lt;obtain⟨k0,k1,k2,k3⟩:=sc1.cell;have N1:=Lib.hid n1;have hBlt:=(Array.getElem?_eq_some_iff.1 n1).1;clear n1;go_wp2_with fail
 go_quiet ((go_at_call 101;exact Calls.quiet_of_same (bU _ _ _)))
 have b2:=below_drewN b1 nq;have n2:(w1.drewN nq).heap[w.heap.size]?=_:=N1.out;have sc2:Scn (w1.drewN nq) b s i r v:=sc1;have hm2:bG (w1.drewN nq) r aI:=hm1;have hB2:w.heap.size<(w1.drewN nq).heap.size:=hBlt;generalize w1.drewN nq=w2 at b2 n2 sc2 hm2 hB2 ⊢;clear k0 k1 k2 k3 N1 sc1 b1 hm1 hBlt;have N2:=Lib.hid n2;have HM:=Lib.hid hm2;clear n2 hm2;obtain⟨k0,k1,k2,k3⟩:=sc2.cell;obtain⟨kk,t,a,m,ok,hg⟩:=wT (nN (s.data.toList.drop i)) i;have hcon:∀ n,Calls Tryz.prog 153 #[.pointer (some ⟨b,0,none⟩)] (w2.drewN n) fun e w'=>e=.returned (.tuple #[.agg #[.int .i64 kk,.string t,.int .i64 a],.int .i64 m,.bool ok])∧Below (w2.drewN n).heap.size (w2.drewN n) w':=by
  intro n;rw[← hg];exact xF b r s i v hi hs (w2.drewN n) sc2
 have HC:=Lib.hid hcon;have HG:=Lib.hid hg;clear hcon hg;go_wp2_with (first|(go_at_call 104;refine(iJ _ ra.1 ra.2 _).mono ?_;rintro e w' ⟨rfl,n,rfl⟩)|(go_at_call 101;refine(bU _ _ _).mono ?_;rintro e w' ⟨rfl,hw⟩;rw[hw];clear hw)|(go_at_call 102;refine(dE _ _).mono ?_;rintro e w' ⟨rfl,hw⟩;rw[hw];clear hw)|(go_at_call 153;refine(HC.out _).mono ?_;rintro e w' ⟨rfl,hb⟩;have rr:=(hb.block _ hB2).trans N2.out;have q0:w'.cell? ⟨w.heap.size,0,none⟩=some (.int .i64 0):=cell_of_row _ _ 0 _ _ _ rr;have q1:w'.cell? ⟨w.heap.size,1,none⟩=some (.string ⟨#[]⟩):=cell_of_row _ _ 1 _ _ _ rr;have q2:w'.cell? ⟨w.heap.size,2,none⟩=some (.int .i64 0):=cell_of_row _ _ 2 _ _ _ rr;have f0:=Lib.frozen_of_heap rr 0;have f1:=Lib.frozen_of_heap rr 1;have f2:=Lib.frozen_of_heap rr 2;clear rr));refine bodyPost_ret (v:=.tuple #[.agg #[.int .i64 kk,.string t,.int .i64 a],.int .i64 m,.bool ok]) (by simp[results,Tryz.results134,go_sem,q0,q1,q2]) rfl ⟨by rw[HN.out,HG.out],cO (b2.trans ((below_drewN (Below.refl _ _) _).trans (hb.mono (Nat.le_of_lt hB2)))) _ _ _⟩
theorem GI(b r:Nat)(s:ByteArray)(i:Nat)(v:Value)(hi:i<s.size)(hs:s.size≤2147483647)(w:World)(hsc:Scn w b s i r v)(hm:bG w r aI)(h1:xX (atI s i)=false)(h2:¬ atI s i=39)(h3:iP (atI s i)=true):Calls Tryz.prog 134 #[.pointer (some ⟨b,0,none⟩)] w fun e w'=>e=.returned (Ke (iL aI (s.data.toList.drop i)) i)∧Below w.heap.size w w':=by
 have hblt:=hsc.lt;have ra:=eV s (i:Int);have e39:(atI s (i:Int)==39)=false:=by rw[beq_eq_false_iff_ne];exact h2
 have HN:=Lib.hid (Bt s i h1 h2 (.inl h3));clear h2;go_enter Tryz.func134,Tryz.ntmps134;go_upto_region 1 with fail;have b1:=aC w (.cells #[.int .i64 0,.string ⟨#[]⟩,.int .i64 0] 43);have n1:=heap_alloc_new w (.cells #[.int .i64 0,.string ⟨#[]⟩,.int .i64 0] 43);generalize w.alloc (.cells #[.int .i64 0,.string ⟨#[]⟩,.int .i64 0] 43)=w1 at b1 n1 ⊢;have sc1:=hsc.below b1;have hm1:=hm.below b1 hm.lt;obtain⟨k0,k1,k2,k3⟩:=sc1.cell;have N1:=Lib.hid n1;have hBlt:=(Array.getElem?_eq_some_iff.1 n1).1;clear n1;go_wp2_with fail
 go_quiet ((go_at_call 101;exact Calls.quiet_of_same (bU _ _ _)))
 have b2:=below_drewN b1 nq;have n2:(w1.drewN nq).heap[w.heap.size]?=_:=N1.out;have sc2:Scn (w1.drewN nq) b s i r v:=sc1;have hm2:bG (w1.drewN nq) r aI:=hm1;have hB2:w.heap.size<(w1.drewN nq).heap.size:=hBlt;generalize w1.drewN nq=w2 at b2 n2 sc2 hm2 hB2 ⊢;clear k0 k1 k2 k3 N1 sc1 b1 hm1 hBlt;have N2:=Lib.hid n2;have HM:=Lib.hid hm2;clear n2 hm2;obtain⟨k0,k1,k2,k3⟩:=sc2.cell;obtain⟨kk,t,a,m,ok,hg⟩:=wT (some (mQ (s.data.toList.drop i))) i;have hcon:∀ n,Calls Tryz.prog 154 #[.pointer (some ⟨b,0,none⟩)] (w2.drewN n) fun e w'=>e=.returned (.tuple #[.agg #[.int .i64 kk,.string t,.int .i64 a],.int .i64 m,.bool ok])∧Below (w2.drewN n).heap.size (w2.drewN n) w':=by
  intro n;rw[← hg];exact pJ b r s i v hi hs (w2.drewN n) sc2
 have HC:=Lib.hid hcon;have HG:=Lib.hid hg;clear hcon hg;go_wp2_with (first|(go_at_call 104;refine(iJ _ ra.1 ra.2 _).mono ?_;rintro e w' ⟨rfl,n,rfl⟩)|(go_at_call 101;refine(bU _ _ _).mono ?_;rintro e w' ⟨rfl,hw⟩;rw[hw];clear hw)|(go_at_call 102;refine(dE _ _).mono ?_;rintro e w' ⟨rfl,hw⟩;rw[hw];clear hw)|(go_at_call 154;refine(HC.out _).mono ?_;rintro e w' ⟨rfl,hb⟩;have rr:=(hb.block _ hB2).trans N2.out;have q0:w'.cell? ⟨w.heap.size,0,none⟩=some (.int .i64 0):=cell_of_row _ _ 0 _ _ _ rr;have q1:w'.cell? ⟨w.heap.size,1,none⟩=some (.string ⟨#[]⟩):=cell_of_row _ _ 1 _ _ _ rr;have q2:w'.cell? ⟨w.heap.size,2,none⟩=some (.int .i64 0):=cell_of_row _ _ 2 _ _ _ rr;have f0:=Lib.frozen_of_heap rr 0;have f1:=Lib.frozen_of_heap rr 1;have f2:=Lib.frozen_of_heap rr 2;clear rr));refine bodyPost_ret (v:=.tuple #[.agg #[.int .i64 kk,.string t,.int .i64 a],.int .i64 m,.bool ok]) (by simp[results,Tryz.results134,go_sem,q0,q1,q2]) rfl ⟨by rw[HN.out,HG.out],cO (b2.trans ((below_drewN (Below.refl _ _) _).trans (hb.mono (Nat.le_of_lt hB2)))) _ _ _⟩
theorem Fe(b r:Nat)(s:ByteArray)(i:Nat)(v:Value)(hi:i<s.size)(hs:s.size≤2147483647)(w:World)(hsc:Scn w b s i r v)(hm:bG w r aI)(h1:xX (atI s i)=false)(h2:¬ atI s i=39)(h3:iP (atI s i)=false)(h4:atI s i=46)(h5:iP (atI s (i+1))=true):Calls Tryz.prog 134 #[.pointer (some ⟨b,0,none⟩)] w fun e w'=>e=.returned (Ke (iL aI (s.data.toList.drop i)) i)∧Below w.heap.size w w':=by
 have hblt:=hsc.lt;have ra:=eV s (i:Int);have e39:(atI s (i:Int)==39)=false:=by rw[beq_eq_false_iff_ne];exact h2
 have e46:(atI s (i:Int)==46)=true:=by rw[h4];rfl
 have HN:=Lib.hid (Bt s i h1 h2 (.inr ⟨h4,h5⟩));clear h2 h4;go_enter Tryz.func134,Tryz.ntmps134;go_upto_region 1 with fail;have b1:=aC w (.cells #[.int .i64 0,.string ⟨#[]⟩,.int .i64 0] 43);have n1:=heap_alloc_new w (.cells #[.int .i64 0,.string ⟨#[]⟩,.int .i64 0] 43);generalize w.alloc (.cells #[.int .i64 0,.string ⟨#[]⟩,.int .i64 0] 43)=w1 at b1 n1 ⊢;have sc1:=hsc.below b1;have hm1:=hm.below b1 hm.lt;obtain⟨k0,k1,k2,k3⟩:=sc1.cell;have N1:=Lib.hid n1;have hBlt:=(Array.getElem?_eq_some_iff.1 n1).1;clear n1;go_wp2_with fail
 go_quiet ((go_at_call 101;exact Calls.quiet_of_same (bU _ _ _)))
 have b2:=below_drewN b1 nq;have n2:(w1.drewN nq).heap[w.heap.size]?=_:=N1.out;have sc2:Scn (w1.drewN nq) b s i r v:=sc1;have hm2:bG (w1.drewN nq) r aI:=hm1;have hB2:w.heap.size<(w1.drewN nq).heap.size:=hBlt;generalize w1.drewN nq=w2 at b2 n2 sc2 hm2 hB2 ⊢;clear k0 k1 k2 k3 N1 sc1 b1 hm1 hBlt;have N2:=Lib.hid n2;have HM:=Lib.hid hm2;clear n2 hm2;obtain⟨k0,k1,k2,k3⟩:=sc2.cell;obtain⟨kk,t,a,m,ok,hg⟩:=wT (some (mQ (s.data.toList.drop i))) i;have hcon:∀ n,Calls Tryz.prog 154 #[.pointer (some ⟨b,0,none⟩)] (w2.drewN n) fun e w'=>e=.returned (.tuple #[.agg #[.int .i64 kk,.string t,.int .i64 a],.int .i64 m,.bool ok])∧Below (w2.drewN n).heap.size (w2.drewN n) w':=by
  intro n;rw[← hg];exact pJ b r s i v hi hs (w2.drewN n) sc2
 have HC:=Lib.hid hcon;have HG:=Lib.hid hg;clear hcon hg;go_upto_region 10 with (first|(go_at_call 104;refine(iJ _ ra.1 ra.2 _).mono ?_;rintro e w' ⟨rfl,n,rfl⟩)|(go_at_call 101;refine(bU _ _ _).mono ?_;rintro e w' ⟨rfl,hw⟩;rw[hw];clear hw)|(go_at_call 102;refine(dE _ _).mono ?_;rintro e w' ⟨rfl,hw⟩;rw[hw];clear hw))
 go_quiet ((first|(go_at_call 101;exact dA (bU _ _ _))|(go_at_call 102;exact dA (dE _ _))))
 go_wp2_with (go_at_call 154;refine(HC.out _).mono ?_;rintro e w' ⟨rfl,hb⟩;have rr:=(hb.block _ hB2).trans N2.out;have q0:w'.cell? ⟨w.heap.size,0,none⟩=some (.int .i64 0):=cell_of_row _ _ 0 _ _ _ rr;have q1:w'.cell? ⟨w.heap.size,1,none⟩=some (.string ⟨#[]⟩):=cell_of_row _ _ 1 _ _ _ rr;have q2:w'.cell? ⟨w.heap.size,2,none⟩=some (.int .i64 0):=cell_of_row _ _ 2 _ _ _ rr;have f0:=Lib.frozen_of_heap rr 0;have f1:=Lib.frozen_of_heap rr 1;have f2:=Lib.frozen_of_heap rr 2;clear rr);refine bodyPost_ret (v:=.tuple #[.agg #[.int .i64 kk,.string t,.int .i64 a],.int .i64 m,.bool ok]) (by simp[results,Tryz.results134,go_sem,q0,q1,q2]) rfl ⟨by rw[HN.out,HG.out],cO (b2.trans ((below_drewN (Below.refl _ _) _).trans (hb.mono (Nat.le_of_lt hB2)))) _ _ _⟩
theorem Hh(b r:Nat)(s:ByteArray)(i:Nat)(v:Value)(hi:i<s.size)(hs:s.size≤2147483647)(w:World)(hsc:Scn w b s i r v)(hm:bG w r aI)(h1:xX (atI s i)=true):Calls Tryz.prog 134 #[.pointer (some ⟨b,0,none⟩)] w fun e w'=>e=.returned (Ke (iL aI (s.data.toList.drop i)) i)∧Below w.heap.size w w':=by
 have hblt:=hsc.lt;have ra:=eV s (i:Int);have HN:=Lib.hid (GC s i h1);go_enter Tryz.func134,Tryz.ntmps134;go_upto_region 1 with fail;have b1:=aC w (.cells #[.int .i64 0,.string ⟨#[]⟩,.int .i64 0] 43);have n1:=heap_alloc_new w (.cells #[.int .i64 0,.string ⟨#[]⟩,.int .i64 0] 43);generalize w.alloc (.cells #[.int .i64 0,.string ⟨#[]⟩,.int .i64 0] 43)=w1 at b1 n1 ⊢;have sc1:=hsc.below b1;have hm1:=hm.below b1 hm.lt;obtain⟨k0,k1,k2,k3⟩:=sc1.cell;have N1:=Lib.hid n1;have hBlt:=(Array.getElem?_eq_some_iff.1 n1).1;clear n1;go_wp2_with fail
 go_quiet ((go_at_call 101;exact Calls.quiet_of_same (bU _ _ _)))
 have b2:=below_drewN b1 nq;have n2:(w1.drewN nq).heap[w.heap.size]?=_:=N1.out;have sc2:Scn (w1.drewN nq) b s i r v:=sc1;have hm2:bG (w1.drewN nq) r aI:=hm1;have hB2:w.heap.size<(w1.drewN nq).heap.size:=hBlt;generalize w1.drewN nq=w2 at b2 n2 sc2 hm2 hB2 ⊢;clear k0 k1 k2 k3 N1 sc1 b1 hm1 hBlt;have N2:=Lib.hid n2;have HM:=Lib.hid hm2;clear n2 hm2;obtain⟨k0,k1,k2,k3⟩:=sc2.cell;go_upto_region 3 with (go_at_call 104;refine(iJ _ ra.1 ra.2 _).mono ?_;rintro e w' ⟨rfl,n,rfl⟩);go_wp2_with fail;have sc3:Scn (w2.drewN n) b s i r v:=sc2;have n3:(w2.drewN n).heap[w.heap.size]?=_:=N2.out;have b3:=below_drewN b2 n;have hB3:w.heap.size<(w2.drewN n).heap.size:=hB2;generalize w2.drewN n=w3 at b3 n3 sc3 hB3 ⊢;clear k0 k1 k2 k3 N2 HM sc2 b2 hB2;have N3:=Lib.hid n3;clear n3;obtain⟨k0,k1,k2,k3⟩:=sc3.cell
 go_loopw [6] (fun q wr=>∃ (j m:Nat),i≤j∧j≤s.size∧q=.int .i64 j∧gA (s.data.toList.drop i)=gA (s.data.toList.drop j)+(j - i)∧wr=w3.drewN m) (fun q _=>s.size - (intOf q).toNat)
 case atStart=>exact⟨i,0,Nat.le_refl _,by omega,rfl,by simp,rfl⟩
 case round=>
  obtain⟨j,m,hij,hj,rfl,hq,rfl⟩:=hrel;have HQ:=Lib.hid hq;clear hq;have hr:=eV s (j:Int)
  by_cases hp:fW (atI s (j:Int))=true
  ·have hlt:=MM s j hp;have hst:=Lib.hid (BP s j hp hlt);go_wp2_with (first|(go_at_call 101;refine(bU _ _ _).mono ?_;rintro e w' ⟨rfl,hw⟩;rw[hw];clear hw)|(go_at_call 105;refine(kG _ hr.1 hr.2 _).mono ?_;rintro e w' ⟨rfl,n,rfl⟩))
   go_roundw
   case rel=>exact⟨j+1,_,by omega,by omega,by go_num,by rw[HQ.out,hst.out];omega,rfl⟩
   case measure=>simp[intOf];omega
  ·have hp0:fW (atI s (j:Int))=false:=by simpa using hp
   have hlen:gA (s.data.toList.drop i)=j - i:=by rw[HQ.out,DD s j hp0];omega
   have HL:=Lib.hid hlen;clear hp HQ hlen;have hx:(i:Int)≤j:=by omega
   have hx2:(j:Int)≤s.size:=by omega
   have hsz:(s.extract i j).size≤140737488351232:=by rw[ByteArray.size_extract];omega
   go_upto_region 6 with (first|(go_at_call 101;refine(bU _ _ _).mono ?_;rintro e w' ⟨rfl,hw⟩;rw[hw];clear hw)|(go_at_call 105;refine(kG _ hr.1 hr.2 _).mono ?_;rintro e w' ⟨rfl,n,rfl⟩));have F1:=Hr (B:=w.heap.size) (b:=b) (by omega);have hb3lt:=sc3.lt;have q0:w3.cell? ⟨w.heap.size,0,none⟩=some (.int .i64 0):=cell_of_row _ _ 0 _ _ _ N3.out;have q1:w3.cell? ⟨w.heap.size,1,none⟩=some (.string ⟨#[]⟩):=cell_of_row _ _ 1 _ _ _ N3.out;have q2:w3.cell? ⟨w.heap.size,2,none⟩=some (.int .i64 0):=cell_of_row _ _ 2 _ _ _ N3.out;have f0:=Lib.frozen_of_heap N3.out 0;have f1:=Lib.frozen_of_heap N3.out 1;have f2:=Lib.frozen_of_heap N3.out 2
   go_region_held3 (fun w'=>w'.cell? ⟨b,0,none⟩=some (.string s)∧w'.cell? ⟨b,1,none⟩=some (.int .i64 i)) (go_keep) (first|(go_at_call 73;refine(BX _ hsz _).mono ?_;rintro e w' ⟨rfl,hb⟩;have g0:=(hb.cell (p:=⟨b,0,none⟩) hb3lt).trans k0;have g1:=(hb.cell (p:=⟨b,1,none⟩) hb3lt).trans k1;have rr:=(hb.block _ hB3).trans N3.out;clear q0 q1 q2 f0 f1 f2;have q0:w'.cell? ⟨w.heap.size,0,none⟩=some (.int .i64 0):=cell_of_row _ _ 0 _ _ _ rr;have q1:w'.cell? ⟨w.heap.size,1,none⟩=some (.string ⟨#[]⟩):=cell_of_row _ _ 1 _ _ _ rr;have q2:w'.cell? ⟨w.heap.size,2,none⟩=some (.int .i64 0):=cell_of_row _ _ 2 _ _ _ rr;have f0:=Lib.frozen_of_heap rr 0;have f1:=Lib.frozen_of_heap rr 1;have f2:=Lib.frozen_of_heap rr 2;clear rr))
   go_wp2_with fail;refine bodyPost_ret (v:=.tuple #[.agg #[.int .i64 1,.string (upS (s.extract i j)),.int .i64 i],.int .i64 j,.bool true]) (by simp[results,Tryz.results134,go_sem,q0,q1,q2]) rfl ⟨?_,cO (b3.trans ((below_drewN (Below.refl _ _) _).trans (hb.mono (Nat.le_of_lt hB3)))) _ _ _⟩;rw[HN.out,HL.out];exact jZ (by rw[eP s i j hij hj];rfl) (by omega) rfl
structure Ro (s:ByteArray) (i:Nat):Prop where
 h1:xX (atI s i)=false
 h2:¬ atI s i=39
 h3:iP (atI s i)=false
 h4:¬ (atI s i=46∧iP (atI s (i+1))=true)
theorem Lz(s:ByteArray)(i:Nat)(h:Ro s i):iL aI (s.data.toList.drop i)=if 2≤(s.data.toList.drop i).length∧iE ((s.data.toList.drop i).take 2) aI=true then some ⟨6,(s.data.toList.drop i).take 2,2,true⟩else if 1≤(s.data.toList.drop i).length∧iE ((s.data.toList.drop i).take 1) aI=true then some ⟨6,(s.data.toList.drop i).take 1,1,true⟩else none:=by
 obtain⟨h1,h2,h3,h4⟩:=h;have e:(i:Int)+1=((i+1:Nat):Int):=by omega
 rw[e,dO s (i+1)]at h4;unfold iL;rw[List.drop_drop,← dO s i,if_neg (by rw[h1];decide),if_neg h2,if_neg (by rintro (h|h);exact absurd h (by rw[h3];decide);exact h4 h)]
end
end Go.Proofs.YtfdlmcgcckkkdaaGreatDoor
