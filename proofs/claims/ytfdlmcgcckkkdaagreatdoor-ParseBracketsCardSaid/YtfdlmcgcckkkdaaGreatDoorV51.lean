/- ParseBrackets, part 51: what it stands on. -/
import Derived.Test.YtfdlmcgcckkkdaaGreatDoorV45
import Derived.Test.YtfdlmcgcckkkdaaGreatDoorV50
import Derived.Test.YtfdlmcgcckkkdaaGreatDoorV52
import Derived.Test.YtfdlmcgcckkkdaaGreatDoorV11
import Derived.Test.YtfdlmcgcckkkdaaGreatDoorV30
import Derived.Test.YtfdlmcgcckkkdaaGreatDoorV47
import Derived.Test.YtfdlmcgcckkkdaaGreatDoorV31
import Derived.Test.YtfdlmcgcckkkdaaGreatDoorV21
import Derived.Test.YtfdlmcgcckkkdaaGreatDoorV44
set_option linter.all false
set_option maxHeartbeats 40000000
set_option maxRecDepth 100000
namespace Go.Proofs.YtfdlmcgcckkkdaaGreatDoor
section
open Go.RowKit Lx Px
theorem LS.Ws{w:World}{ts:List (T×List Value)}(h:∀ p,p∈ts→Tr w p.1 p.2):LS w w [] [] ts:=
 ⟨Below.refl _ _,fun _ h=>(by cases h),.nil,fun _ h=>(by cases h),fun p hp=>(h p hp).kept (fun _ _ _ q hq=>(by cases hq)) (Nat.le_refl _) (fun _ _ _=>rfl)⟩
end
section
open Px
namespace Px
mutual
def ev(P:Int→ByteArray→Nat→Prop):T→Prop
 | .mk _ n _ w l=>P n w l.length∧evs P l
def evs(P:Int→ByteArray→Nat→Prop):List T→Prop
 | []=>True
 | t::r=>ev P t∧evs P r
end
theorem LB{P:Int→ByteArray→Nat→Prop}:∀ (l:List T),evs P l↔∀ x,x∈l→ev P x:=by
 intro l
 induction l with
 | nil=>exact⟨fun _ x h=>(nomatch h),fun _=>by unfold evs;trivial⟩
 | cons y r ih=>
  unfold evs;rw[ih];exact⟨fun h x hx=>by rcases List.mem_cons.1 hx with rfl|hx;exact h.1;exact h.2 x hx,fun h=>⟨h y (.head _),fun x hx=>h x (.tail _ hx)⟩⟩
end Px
end
section
open Go.RowKit Lx Px
def wL: T→Prop:=ev fun _ w _=>w.size≤1000
def CF(t:T)(v dep:Nat):Prop:=nodes t≤v∧dep+depth t≤71∧wL t
def CFs(l:List T)(v dep:Nat):Prop:=aH l≤v∧∀ x,x∈l→dep+depth x≤71∧wL x
theorem Va(t:T):wL t↔t.word.size≤1000∧∀ x,x∈t.l→wL x:=by
 obtain⟨k,n,a,w,l⟩:=t;unfold wL
 conv=>lhs;unfold ev
 rw[LB];rfl
theorem Ww(t:T)(v dep:Nat):CF t (v+1) dep↔dep≤70∧t.word.size≤1000∧CFs t.l v (dep+1):=by
 have e1:nodes t=1+aH t.l:=by obtain⟨k,n,a,w,l⟩:=t;rw[nodes];rfl
 have e2:depth t=1+fG t.l:=by obtain⟨k,n,a,w,l⟩:=t;rw[depth];rfl
 have:=Bh t.l (70 - dep);unfold CF CFs;rw[e1,e2,Va]
 constructor
 ·rintro⟨h1,h2,h3,h4⟩;exact⟨by omega,h3,by omega,fun x hx=>⟨by have:=this.1 (by omega) x hx;omega,h4 x hx⟩⟩
 ·rintro⟨h1,h2,h3,h4⟩;have:=this.2 (fun x hx=>by have:=(h4 x hx).1;omega);exact⟨by omega,by omega,h2,fun x hx=>(h4 x hx).2⟩
def Wu(w:World)(C:Nat)(t:T)(v dep:Nat)(e:Ending)(w':World):Prop:=∃ b:Bool,e=.returned (.bool b)∧w.grownBy w' (some C)∧(b=true↔CF t v dep)∧(b=true→w'.heap[C]?=some (cI (v - nodes t:Nat)))
theorem Wu.no{w:World}{C:Nat}{t:T}{v dep:Nat}{w':World}(h:¬ CF t v dep)(g:w.grownBy w' (some C)):Wu w C t v dep (.returned (.bool false)) w':=⟨false,rfl,g,⟨fun e=>(nomatch e),fun e=>absurd e h⟩,fun e=>(nomatch e)⟩
theorem Wu.yes{w:World}{C:Nat}{t:T}{v dep:Nat}{w':World}(h:CF t v dep)(g:w.grownBy w' (some C))(hc:w'.heap[C]?=some (cI (v - nodes t:Nat))):Wu w C t v dep (.returned (.bool true)) w':=⟨true,rfl,g,⟨fun _=>h,fun _=>rfl⟩,fun _=>hc⟩
theorem NG(wB:World)(C:Nat)(hCb:wB.heap.size≤C):∀ d (t:T),depth t≤d→∀ (w:World) (v dep:Nat),Below wB.heap.size wB w→v≤8300→dep≤71→w.heap[C]?=some (cI v)→∀ (k n a:Int) (s:ByteArray) (ao:Option Addr) (m c:Nat),Tr wB t (vT k n a s ao m c)→Calls Tryz.prog 46 #[tg k n a s ao m c,pq C,dep] w (Wu w C t v dep):=by
 intro d
 induction d using Nat.strongRecOn with
 | _ d ih=>
  intro t hd w v dep low hv hdep hC k n a s ao m c ht;have H:=hdq (fun (x:T) (hx:x∈t.l)=>ih (depth x) (by have:=Px.iQ hx;omega) x (Nat.le_refl _));clear ih hd;have lC:=fP hC;have b1:=aC w (.cells (tg k n a s ao m c) 24);have t1:=TV.new w k n a s (.slice ao m c);have hsw:s=t.word:=ht.split.2.2.2.1;have HSW:=hdq hsw;obtain rfl:m=t.l.length:=ht.split.2.2.2.2;clear hsw
  by_cases hv0:v=0
  ·subst hv0;have HZ:=hdq (show ¬ CF t 0 dep from fun h=>by have:=h.1;have:=vM t;omega);go_enter Tryz.func46,Tryz.ntmps46;go_upto_region 1 with fail;generalize World.alloc w _=w2 at t1 b1 ⊢;have hC2:=(b1.block _ lC).trans hC;have c0:=kM hC2;have f0:=rK hC2;have c1:(w2.setCell ⟨C,0,none⟩ (.int .i64 (-1))).cell? ⟨C,0,none⟩=some (.int .i64 (-1)):=kM (Ej hC2 (-1));have g3:=(aF (some C) b1).trans (dJ w2 C 0 (.int .i64 (-1)));clear hC hC2 t1;go_wp2_with fail;go_ret;exact .no HZ.out g3
  ·obtain⟨u,rfl⟩:∃ u,v=u+1:=⟨v - 1,by omega⟩
   clear hv0;have x0:((u+1:Nat):Int)=(u:Int)+1:=by omega
   rw[x0]at hC;have x1:IntKind.i64.wrap (u:Int)=(u:Int):=IntWalk.i64_in _ (by omega);have x2:¬ (u:Int)<0:=by omega
   clear x0;have HI:=hdq (Ww t u dep);go_enter Tryz.func46,Tryz.ntmps46;go_upto_region 1 with fail;generalize World.alloc w _=w2 at t1 b1 ⊢;have hC2:=(b1.block _ lC).trans hC;have c0:=kM hC2;have f0:=rK hC2;have hC3:=Ej hC2 (u:Int);have t3:TV (w2.setCell ⟨C,0,none⟩ (.int .i64 u)) _ _ _ _ _ _:=(Below.heap_setCell w2 ⟨C,0,none⟩ (.int .i64 u) _ (show w.heap.size≠C by omega)).trans t1;have g3:=(aF (some C) b1).trans (dJ w2 C 0 (.int .i64 u));clear hC hC2 t1;go_upto_region 2 with fail;generalize World.setCell w2 _ _=w3 at hC3 t3 g3 ⊢;clear c0 f0;have c0:=kM hC3;have low3:=rS low hCb g3;have:=TV.facts t3
   by_cases hd70:dep≤70
   ·have x3:¬ (70:Int)<(dep:Int):=by omega
    by_cases hw:s.size≤1000
    ·have x4:¬ (1000:Int)<(s.size:Int):=by omega
     have HI2:=hdq (show CF t (u+1) dep↔CFs t.l u (dep+1) from⟨fun h=>(HI.out.1 h).2.2,fun h=>HI.out.2 ⟨hd70,by rw[← HSW.out];exact hw,h⟩⟩);have e1:nodes t=1+aH t.l:=by obtain⟨k,n,a,w,l⟩:=t;rw[nodes];rfl
     have E1:=hdq e1;have HT:=hdq ht;clear HI HSW e1 ht;go_wp2_with fail
     go_loopg [31] t.l.length (fun g tt wr=>∃ q:Nat,tt=.int .i64 q∧q≤t.l.length∧g=t.l.length - q∧w.grownBy wr (some C)∧aH (t.l.take q)≤u∧wr.heap[C]?=some (cI (u - aH (t.l.take q):Nat))∧Aside (∀ x,x∈t.l.take q→dep+1+depth x≤71∧wL x))
     case atStart=>exact⟨0,rfl,Nat.zero_le _,rfl,g3,Nat.zero_le _,hC3,fun x h=>(nomatch h)⟩
     case round=>
      clear t3 hC3 g3 c0;obtain⟨q,rfl,hq,hg,hB,hn,hCr,A⟩:=hrel;have HG:=hdq hg;clear hg;have lowr:=rS low hCb hB
      by_cases hlt:q<t.l.length
      ·obtain⟨ao1,c1',vs1,e,hTs,hrow⟩:=eF.tree (rv:=[]) lowr HT.out;obtain⟨b,off,rfl,_,hcell⟩:=hrow (by intro e;rw[e]at hlt;simp at hlt);simp only[Value.slice.injEq,true_and]at e
       obtain⟨rfl,rfl⟩:=e;obtain⟨k1,n1,a1,s1,o1,m1,c1,hTr,d0,d1,d2,d3,d4⟩:=Tr.elem hTs hcell q hlt;have hS:=H.out _ (List.getElem_mem hlt);have nt:=sL t.l q hlt;have tk:=List.take_succ_eq_append_getElem hlt;have hmem:=List.getElem_mem hlt;have hqv:q≤u:=by have:=eY (t.l.take q);rw[List.length_take]at this;omega
       generalize t.l[q]'hlt=y at hTr hS nt tk hmem;have b2:=aC wr (.cells (tg k1 n1 a1 s1 o1 m1 c1) 24);have t2:=TV.new wr k1 n1 a1 s1 (.slice o1 m1 c1);have lCr:=fP hCr;have x5:(q:Int)<(t.l.length:Int):=by omega
       have x6:IntKind.i64.wrap ((dep:Int)+1)=(dep:Int)+1:=IntWalk.i64_in _ (by omega);have x7:(((dep+1:Nat)):Int)=(dep:Int)+1:=by omega
       have NT:=hdq nt;have TK:=hdq tk;go_upto_region 7 with fail;generalize World.alloc wr _=w4 at b2 t2 ⊢;have hC4:=(b2.block _ lCr).trans hCr;have hcall:=hS w4 (u - aH (t.l.take q)) (dep+1) (lowr.trans (b2.mono lowr.size)) (by omega) (by omega) hC4 k1 n1 a1 s1 o1 m1 c1 hTr;rw[x7]at hcall;have hB4:=hB.trans (aF (some C) b2);clear hS hCr hC4 nt tk x7 d0 d1 d2 d3 d4 hcell b2;have:=TV.facts t2;go_upto_block 7 with fail;refine hcall.mono ?_;rintro e w5 ⟨bb,rfl,g5,hiff,hcc⟩;have HIFF:=hdq hiff;have HCC:=hdq hcc;clear hiff hcc hcall t2
       cases bb with
       | true=>
        have hf:=HIFF.out.1 rfl;have HF:=hdq hf;have hc2:=HCC.out rfl;clear hf HCC HIFF;go_wp2_with fail
        go_roundg (t.l.length - (q+1))
        case measure=>rw[HG.out];omega
        case rel => exact ⟨q + 1, by go_num, hlt, rfl, hB4.trans g5, by rw [NT.out]; have := HF.out.1; omega, by rw [hc2, NT.out]; exact congrArg _ (congrArg _ (by have := HF.out.1; omega)), fun x hx => by
          rw [TK.out] at hx
          rcases List.mem_append.1 hx with hx | hx
          · exact A.out x hx
          · rw [List.mem_singleton.1 hx]; exact HF.out.2⟩
       | false=>
        have HNO := hdq (show ¬ CF t (u + 1) dep from fun h => by
          have h1 := HI2.out.1 h
          have h2 := jT t.l (q + 1)
          have h3 := h1.1
          rw [NT.out] at h2
          exact (nomatch HIFF.out.2 ⟨by omega, h1.2 y hmem⟩))
        go_wp2_with fail;go_ret;exact .no HNO.out (hB4.trans g5)
      ·have x5:¬ (q:Int)<(t.l.length:Int):=by omega
       have htk:t.l.take q=t.l:=List.take_of_length_le (by omega);have AA:=A.out;rw[htk]at hn hCr AA;have HF2:=hdq (HI2.out.2 ⟨hn,AA⟩);clear htk A AA;go_wp2_with fail;go_ret;exact .yes HF2.out hB (by rw[hCr,E1.out];exact congrArg _ (congrArg _ (by omega)))
    ·have x4:(1000:Int)<(s.size:Int):=by omega
     have HZ:=hdq (show ¬ CF t (u+1) dep from fun h=>hw (by rw[HSW.out];exact(HI.out.1 h).2.1));clear ht;go_wp2_with fail;go_ret;exact .no HZ.out g3
   ·have x3:(70:Int)<(dep:Int):=by omega
    have HZ:=hdq (show ¬ CF t (u+1) dep from fun h=>hd70 (HI.out.1 h).1);clear ht;go_wp2_with fail;go_ret;exact .no HZ.out g3
def Rw(w:World)(v:Value)(l:List T):Prop:=∃ ao c vs,v=.slice ao l.length c∧aW (fun _=>True) w l vs∧(l≠[]→∃ b off,ao=some ⟨b,off,none⟩∧b<w.heap.size∧∀ (i:Nat) (u:Value),vs[i]?=some u→w.cell? ⟨b,off+i,none⟩=some u)
def UU(w:World)(p:Prop)(e:Ending)(w':World):Prop:=∃ b:Bool,e=.returned (.bool b)∧(b=true↔p)∧Below w.heap.size w w'
theorem UU.no{w w':World}{p:Prop}(h:¬ p)(b:Below w.heap.size w w'):UU w p (.returned (.bool false)) w':=⟨false,rfl,⟨fun e=>(nomatch e),fun e=>absurd e h⟩,b⟩
theorem UU.yes{w w':World}{p:Prop}(h:p)(b:Below w.heap.size w w'):UU w p (.returned (.bool true)) w':=⟨true,rfl,⟨fun _=>h,fun _=>rfl⟩,b⟩
theorem OK(w:World)(t:T)(most:Nat)(hm:most≤8300)(k n a:Int)(s:ByteArray)(ao:Option Addr)(m c:Nat)(ht:Tr w t (vT k n a s ao m c)):Calls Tryz.prog 37 #[tg k n a s ao m c,most] w (UU w (CF t most 1)):=by
 have b1:=aC w (.cells (tg k n a s ao m c) 24);have t1:=TV.new w k n a s (.slice ao m c);have z1:(w.alloc (.cells (tg k n a s ao m c) 24)).heap.size=w.heap.size+1:=by simp
 have n2:=heap_alloc_new (w.alloc (.cells (tg k n a s ao m c) 24)) (.cells #[.int .i64 most] 3);have b2:=aC (w.alloc (.cells (tg k n a s ao m c) 24)) (.cells #[.int .i64 most] 3);have t2:=t1.below b2;have B2:=b1.trans (b2.mono b1.size);rw[z1]at n2;clear z1 b1 b2 t1;go_enter Tryz.func37,Tryz.ntmps37;go_upto_region 1 with fail;generalize World.alloc (World.alloc w _) _=w2 at n2 t2 B2 ⊢;have hcall:=NG w (w.heap.size+1) (Nat.le_succ _) _ t (Nat.le_refl _) w2 most 1 B2 hm (by decide) n2 k n a s ao m c ht;have:=TV.facts t2;clear n2 t2 ht;go_upto_block 1 with fail;refine hcall.mono ?_;rintro e w3 ⟨b,rfl,g,hb,_⟩;have HB:=hdq hb;clear hcall hb;go_wp2_with fail;go_ret;exact⟨b,rfl,HB.out,B2.grown g B2.size (fun j hj=>by cases hj;exact Nat.le_succ _)⟩
theorem UW(w:World)(v:Value)(l:List T)(hl:Rw w v l)(hn:l.length≤1000):Calls Tryz.prog 12 #[v] w (UU w (∀ t,t∈l→CF t 4100 1)):=by
 obtain⟨ao,c,vs,rfl,hTs,hrow⟩:=hl;have HR:=hdq hrow;clear hrow;go_enter Tryz.func12,Tryz.ntmps12;go_wp2_with fail
 go_loopg [8] l.length (fun g tt wr=>∃ q:Nat,tt=.int .i64 q∧q≤l.length∧g=l.length - q∧Below w.heap.size w wr∧Aside (∀ x,x∈l.take q→CF x 4100 1))
 case atStart=>exact⟨0,rfl,Nat.zero_le _,rfl,Below.refl _ _,fun x h=>(nomatch h)⟩
 case round=>
  obtain⟨q,rfl,hq,hg,hB,A⟩:=hrel;have HG:=hdq hg;clear hg
  by_cases hlt:q<l.length
  ·obtain⟨b,off,rfl,hb,hcell⟩:=HR.out (by intro e;rw[e]at hlt;simp at hlt);obtain⟨k1,n1,a1,s1,o1,m1,c1,hTr,d0,d1,d2,d3,d4⟩:=Tr.elem hTs (fun i u hu=>(hB.cell (p:=⟨b,off+i,none⟩) hb).trans (hcell i u hu)) q hlt;have tk:=List.take_succ_eq_append_getElem hlt;have hmem:=List.getElem_mem hlt;generalize l[q]'hlt=y at hTr tk hmem;have TK:=hdq tk;have x5:(q:Int)<(l.length:Int):=by omega
   have b2:=aC wr (.cells (tg k1 n1 a1 s1 o1 m1 c1) 24);have t2:=TV.new wr k1 n1 a1 s1 (.slice o1 m1 c1);go_upto_region 4 with fail;generalize World.alloc wr _=w2 at b2 t2 ⊢;have n3:=heap_alloc_new w2 (.cells #[.int .i64 4100] 3);have b3:=aC w2 (.cells #[.int .i64 4100] 3);have t3:=t2.below b3;have hB3:=hB.trans ((b2.trans (b3.mono b2.size)).mono hB.size);have hw2:w.heap.size≤w2.heap.size:=by have h1:=hB.size;have h2:=b2.size;omega
   go_upto_region 5 with fail;generalize World.alloc w2 _=w3 at n3 t3 hB3 ⊢;have hcall:=NG w w2.heap.size hw2 _ y (Nat.le_refl _) w3 4100 1 hB3 (by decide) (by decide) n3 k1 n1 a1 s1 o1 m1 c1 hTr;clear tk d0 d1 d2 d3 d4 hcell b2 b3 t2 n3;have:=TV.facts t3;go_upto_block 5 with fail;refine hcall.mono ?_;rintro e w4 ⟨bb,rfl,g4,hiff,_⟩;have HIFF:=hdq hiff;have hB4:=hB3.grown g4 hB3.size (fun j hj=>by cases hj;exact hw2);clear hiff hcall t3
   cases bb with
   | true=>
    have hf:=HIFF.out.1 rfl;have HF:=hdq hf;clear hf HIFF;go_wp2_with fail
    go_roundg (l.length - (q+1))
    case measure=>rw[HG.out];omega
    case rel => exact ⟨q + 1, by go_num, hlt, rfl, hB4, fun x hx => by
      rw [TK.out] at hx
      rcases List.mem_append.1 hx with hx | hx
      · exact A.out x hx
      · rw [List.mem_singleton.1 hx]; exact HF.out⟩
   | false=>
    have HNO:=hdq (show ¬ (∀ t,t∈l→CF t 4100 1)from fun h=>(nomatch HIFF.out.2 (h y hmem)));clear HIFF;go_wp2_with fail;go_ret;exact .no HNO.out hB4
  ·have x5:¬ (q:Int)<(l.length:Int):=by omega
   have AA:=A.out;rw[List.take_of_length_le (by omega)]at AA;have HF:=hdq AA;clear A AA;go_wp2_with fail;go_ret;exact .yes HF.out hB
theorem Wl{w:World}{l:List T}{vs:List Value}(h:aW (fun _=>True) w l vs)(cs:Array Value)(hc:cs=vs.toArray)(n:Nat)(hn:n=l.length):Rw (w.alloc (.cells cs 24)) (.slice (some ⟨w.heap.size,0,none⟩) n n) l:=by
 subst hc hn;have b:=aC w (.cells vs.toArray 24);have hn:=heap_alloc_new w (.cells vs.toArray 24);refine⟨_,_,vs,rfl,aW.kept (fun _ _ _=>trivial) b.size (fun x _ hl=>b.block x hl) h,fun _=>⟨_,0,rfl,fP hn,fun i u hu=>?_⟩⟩;rw[Nat.zero_add,cell_of_row _ _ i _ _ _ hn]
 simpa using hu
end
section
open Go.ChangeShapes Go.WideShapes Go.Deep Go.RowKit Lx Px
def inR(n:Int):Prop:=-9223372036854775808≤n∧n≤9223372036854775807
def evR: T→Prop:=ev fun n _ _=>inR n
theorem Na{w:World}{b off:Nat}:∀ (m:Nat),(∀ i,i<m→∃ t us,us.length=5∧TrC (fun _=>True) w t us∧evR t∧∀ j u,us[j]?=some u→w.cell? ⟨b,off+(i*5+j),none⟩=some u)→∃ l vs,l.length=m∧aW (fun _=>True) w l vs∧evs (fun n _ _=>inR n) l∧∀ j u,vs[j]?=some u→w.cell? ⟨b,off+j,none⟩=some u:=by
 intro m
 induction m with
 | zero=>intro _;exact⟨[],[],rfl,by unfold aW;rfl,by unfold evs;trivial,fun j u h=>by simp at h⟩
 | succ m ih=>
  intro h;obtain⟨l,vs,h1,h2,h3,h4⟩:=ih fun i hi=>h i (by omega)
  obtain⟨t,us,g1,g2,g3,g4⟩:=h m (by omega);have hvl:vs.length=m*5:=by rw[h2.len,h1]
  refine⟨l++[t],vs++us,by simp[h1],aW.app h2 (aW.one g2),(LB _).2 fun x hx=>?_,fun j u hj=>?_⟩
  ·rcases List.mem_append.1 hx with hx|hx
   ·exact(LB _).1 h3 x hx
   ·rw[List.mem_singleton.1 hx];exact g3
  ·rcases Nat.lt_or_ge j vs.length with hlt|hge
   ·rw[List.getElem?_append_left hlt]at hj;exact h4 j u hj
   ·rw[List.getElem?_append_right hge]at hj;have:=g4 (j - vs.length) u hj;rw[show m*5+(j - vs.length)=j by omega]at this;exact this
section
variable {H:Type} {enc:TypeId×Value→H}
theorem VK{n:Int}(h:(Lit.int .i64 n).wf=true):inR n:=by
 unfold inR;unfold Lit.wf at h;rw[Bool.and_eq_true,decide_eq_true_eq,decide_eq_true_eq]at h;exact h
theorem open_tree{w:World}{base:Nat}{spare:Nat→Bool}{held:Bool}:∀ (fuel:Nat) (cs:List Value) (x:DataW H×List MemPlace),DataW.trod enc Tryz.prog w base spare held fuel 24 cs=some x→∃ (t:T) (k n a:Int) (s:ByteArray) (ao:Option Addr) (m c:Nat),cs=vT k n a s ao m c∧Tr w t (vT k n a s ao m c)∧evR t:=by
 intro fuel
 induction fuel using Nat.strongRecOn with
 | _ fuel ih=>
  intro cs x h;obtain⟨xs,n',rfl,hx,hcl,hxl,hf⟩:=DataW.trod_struct Tryz.underlying24 h;have hcl5:cs.length=5:=hcl;have hxl5:xs.length=5:=hxl
  match cs,hcl5 with
  | [c0,c1,c2,c3,c4],_=>
  have h0:=(hf 0 _ rfl).trans (List.getElem?_eq_getElem (by omega));have h1:=(hf 1 _ rfl).trans (List.getElem?_eq_getElem (by omega));have h2:=(hf 2 _ rfl).trans (List.getElem?_eq_getElem (by omega));have h3:=(hf 3 _ rfl).trans (List.getElem?_eq_getElem (by omega));have h4:=(hf 4 _ rfl).trans (List.getElem?_eq_getElem (by omega));obtain⟨k,e0,_,_⟩:=DataW.trod_int Tryz.underlying3 h0;obtain⟨n,e1,_,hn⟩:=DataW.trod_int Tryz.underlying3 h1;obtain⟨a,e2,_,_⟩:=DataW.trod_int Tryz.underlying3 h2;obtain⟨s,e3,_,_⟩:=DataW.trod_string Tryz.underlying9 h3
  cases e0;cases e1;cases e2;cases e3
  rcases DataW.trod_slice Tryz.underlying22 h4 with ⟨e4,_⟩|⟨ad,len,cap,elems,rest,n2,hn2,e4,_,hb,hl,hm,hlen,hel,_,_⟩
  ·cases e4
   refine⟨.mk k n a s [],k,n,a,s,none,0,0,rfl,TrC.leaf _ _ _ _ _ _ _,?_⟩;unfold evR ev;exact⟨VK hn,by unfold evs;trivial⟩
  ·cases e4
   obtain⟨b,off,spot⟩:=ad;have hspot:0<len→spot=none:=fun hpos=>by
    have hc:=hel 0 hpos;rw[List.getElem?_eq_getElem (by omega)]at hc;obtain⟨cs',h5,_⟩:=Option.bind_eq_some_iff.1 hc;obtain⟨_,hcl',hat⟩:=World.cells?_some h5;have h5c:Tryz.prog.cellsOf 24=5:=by kernel_rfl
    have h6:=hat 0 (by rw[h5c];decide);rw[List.getElem?_eq_getElem (by rw[hcl',h5c];decide)]at h6
    simpa[Addr.add]using World.cell?_spot h6
   obtain⟨l,vs,g1,g2,g3,g4⟩:=Na (w:=w) (b:=b) (off:=off) len fun i hi=>by
    have hc:=hel i hi;rw[List.getElem?_eq_getElem (by omega)]at hc;obtain⟨cs',h5,h6⟩:=Option.bind_eq_some_iff.1 hc;obtain⟨t,k1,n1,a1,s1,o1,m1,c1,rfl,hT,hE⟩:=ih n2 (by omega) cs' _ h6;refine⟨t,_,rfl,hT,hE,fun j u hj=>?_⟩;obtain⟨_,hcl',hat⟩:=World.cells?_some h5;have hspn:=hspot (by omega);subst hspn;have hj5:j<5:=(List.getElem?_eq_some_iff.1 hj).1;have h7:=hat j hj5;rw[hj,show Tryz.prog.cellsOf 24=5 by kernel_rfl,Go.WideShapes.add_plain,Go.WideShapes.add_plain]at h7;rw[show off+(i*5+j)=off+i*5+j by omega];exact h7
   subst g1;refine⟨.mk k n a s l,k,n,a,s,some ⟨b,off,spot⟩,l.length,cap,rfl,?_,?_⟩
   ·unfold Tr TrC;refine⟨some ⟨b,off,spot⟩,cap,rfl,fun hne=>?_,hl⟩;have hpos:0<l.length:=List.length_pos_iff.2 hne;have hspn:=hspot hpos;subst hspn;have hv5:0<vs.length:=by rw[g2.len];omega
    have h0c:=g4 0 _ (List.getElem?_eq_getElem hv5);exact⟨b,off,vs,rfl,trivial,World.block_lt_of_cell? _ _ h0c,g2,g4⟩
   ·unfold evR ev;exact⟨VK hn,g3⟩
end
end
section
open Go.RowKit Lx Px
theorem Wb(t:T):evR t↔inR t.n∧∀ x,x∈t.l→evR x:=by
 obtain⟨k,n,a,w,l⟩:=t;unfold evR
 conv=>lhs;unfold ev
 rw[LB];rfl
theorem Wi: ∀ (l:List T),(∀ x,x∈l→okT x)→Hn l:=by
 intro l
 induction l with
 | nil=>intro _;unfold Hn;trivial
 | cons x r ih=>intro h;unfold Hn;exact⟨h x (.head _),ih fun y hy=>h y (.tail _ hy)⟩
theorem Wr: ∀ d (t:T),depth t≤d→evR t→nodes t≤1000000→okT t:=by
 intro d
 induction d using Nat.strongRecOn with
 | _ d ih=>
  intro t hd hr hn;have H:=fun (x:T) (hx:x∈t.l)=>ih (depth x) (by have:=Px.iQ hx;omega) x (Nat.le_refl _)
  have h1:=(Wb t).1 hr;have e1:nodes t=1+aH t.l:=by obtain⟨k,n,a,w,l⟩:=t;rw[nodes];rfl
  have h2:=eY t.l;have h3:Hn t.l:=Wi _ fun x hx=>H x hx (h1.2 x hx) (by have:=tF hx;omega)
  obtain⟨k,n,a,w,l⟩:=t;unfold okT;exact⟨h1.1,by have:l.length≤aH l:=h2;have e2:nodes (T.mk k n a w l)=1+aH l:=e1;omega,h3⟩
theorem Wm: ∀ d (t:T),depth t≤d→wL t→wdT t:=by
 intro d
 induction d using Nat.strongRecOn with
 | _ d ih=>
  intro t hd hw;have H:=fun (x:T) (hx:x∈t.l)=>ih (depth x) (by have:=Px.iQ hx;omega) x (Nat.le_refl _)
  have h1:=(Va t).1 hw;obtain⟨k,n,a,w,l⟩:=t;unfold wdT;refine⟨Nat.le_trans h1.1 (by decide),(EC l).2 fun x hx=>H x hx (h1.2 x hx)⟩
theorem WA{t:T}{v:Nat}(h:CF t v 1)(hv:v≤1000000)(hr:evR t):okT t∧wdT t:=⟨Wr _ t (Nat.le_refl _) hr (by have:=h.1;omega),Wm _ t (Nat.le_refl _) h.2.2⟩
end
end Go.Proofs.YtfdlmcgcckkkdaaGreatDoor
