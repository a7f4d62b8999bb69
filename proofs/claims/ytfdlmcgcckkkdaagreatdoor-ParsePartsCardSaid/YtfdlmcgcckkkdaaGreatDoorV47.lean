/- ParseParts, part 47: what it stands on. -/
import Derived.Test.YtfdlmcgcckkkdaaGreatDoorV46
import Derived.Test.YtfdlmcgcckkkdaaGreatDoorV45
import Derived.Test.YtfdlmcgcckkkdaaGreatDoorV17
import Derived.Deep.RegionHeld3
set_option linter.all false
set_option maxHeartbeats 40000000
set_option maxRecDepth 100000
namespace Go.Proofs.YtfdlmcgcckkkdaaGreatDoor
section
open Go.RowKit Lx Px
theorem RW{w:World}{g:Nat}{vs:List Value}(hv:∀ (i:Nat) (u:Value),vs[i]?=some u→w.cell? ⟨g,i,none⟩=some u)(o:Nat)(ho:o+5≤vs.length)(x y z u v:Value)(i:Nat)(q:Value)(hq:(vs.take o++([x,y,z,u,v]++vs.drop (o+5)))[i]?=some q):(((((w.setCell ⟨g,o,none⟩ x).setCell ⟨g,o+1,none⟩ y).setCell ⟨g,o+2,none⟩ z).setCell ⟨g,o+3,none⟩ u).setCell ⟨g,o+4,none⟩ v).cell? ⟨g,i,none⟩=some q:=by
 have hl:(vs.take o).length=o:=by rw[List.length_take];omega
 have hex:∀ k,k<5→∃ c,w.cell? ⟨g,o+k,none⟩=some c:=fun k hk=>⟨_,hv (o+k) _ (List.getElem?_eq_getElem (by omega))⟩
 have hne:∀ k k',k≠k'→(⟨g,o+k,none⟩:Addr)≠⟨g,o+k',none⟩:=fun k k' h e=>by
  simp only[Addr.mk.injEq,true_and,and_true]at e;omega
 by_cases h1:i<o
 ·rw[List.getElem?_append_left (by omega),List.getElem?_take,if_pos h1]at hq;rw[Bj (.inl h1)];exact hv i q hq
 ·by_cases h2:o+5≤i
  ·rw[List.getElem?_append_right (by omega),List.getElem?_append_right (by rw[hl];simp;omega),List.getElem?_drop,hl]at hq;rw[Bj (.inr h2)];refine hv i q ?_;rw[← hq]
   congr 1
   simp only[List.length_cons,List.length_nil];omega
  ·obtain⟨r,hr,hi⟩:∃ r,r<5∧i=o+r:=⟨i - o,by omega,by omega⟩
   subst hi;rw[List.getElem?_append_right (by omega),hl,show o+r - o=r by omega,List.getElem?_append_left (by simpa using hr)]at hq;obtain⟨c0,e0⟩:=hex 0 (by decide);obtain⟨c1,e1⟩:=hex 1 (by decide);obtain⟨c2,e2⟩:=hex 2 (by decide);obtain⟨c3,e3⟩:=hex 3 (by decide);obtain⟨c4,e4⟩:=hex 4 (by decide);have o1:∀ (w:World) (v:Value) k k',k≠k'→(w.setCell ⟨g,o+k,none⟩ v).cell? ⟨g,o+k',none⟩=w.cell? ⟨g,o+k',none⟩:=fun w v k k' h=>World.cell?_setCell_other w _ _ _ (hne k k' h)
   have z0:(⟨g,o,none⟩:Addr)=⟨g,o+0,none⟩:=rfl;rw[z0]
   match r,hr,hq with
   | 0,_,hq=>
    cases hq
    rw[o1 _ _ 4 0 (by decide),o1 _ _ 3 0 (by decide),o1 _ _ 2 0 (by decide),o1 _ _ 1 0 (by decide)];exact World.cell?_setCell_same _ _ _ e0
   | 1,_,hq=>
    cases hq
    rw[o1 _ _ 4 1 (by decide),o1 _ _ 3 1 (by decide),o1 _ _ 2 1 (by decide)];exact World.cell?_setCell_same _ _ _ ((o1 _ _ 0 1 (by decide)).trans e1)
   | 2,_,hq=>
    cases hq
    rw[o1 _ _ 4 2 (by decide),o1 _ _ 3 2 (by decide)];exact World.cell?_setCell_same _ _ _ ((o1 _ _ 1 2 (by decide)).trans ((o1 _ _ 0 2 (by decide)).trans e2))
   | 3,_,hq=>
    cases hq
    rw[o1 _ _ 4 3 (by decide)];exact World.cell?_setCell_same _ _ _ ((o1 _ _ 2 3 (by decide)).trans ((o1 _ _ 1 3 (by decide)).trans ((o1 _ _ 0 3 (by decide)).trans e3)))
   | 4,_,hq=>
    cases hq
    exact World.cell?_setCell_same _ _ _ ((o1 _ _ 3 4 (by decide)).trans ((o1 _ _ 2 4 (by decide)).trans ((o1 _ _ 1 4 (by decide)).trans ((o1 _ _ 0 4 (by decide)).trans e4))))
theorem aW.setAt{av:Nat→Prop}{w:World}{y:T}{ys:List Value}(hy:TrC av w y ys):∀ {l:List T} {vs:List Value} (j:Nat),aW av w l vs→j<l.length→aW av w (l.set j y) (vs.take (j*5)++(ys++vs.drop (j*5+5))):=by
 intro l
 induction l with
 | nil=>intro vs j _ h;exact absurd h (Nat.not_lt_zero _)
 | cons t r ih=>
  intro vs j h hj;unfold aW at h;obtain⟨u1,u2,rfl,h1,h2⟩:=h;have l1:=h1.len
  cases j with
  | zero=>
   show aW av w (y::r) _
   unfold aW;refine⟨ys,u2,?_,hy,h2⟩;rw[Nat.zero_mul,List.take_zero,List.nil_append,Nat.zero_add,List.drop_append_of_le_length (by omega),List.drop_of_length_le (by omega),List.nil_append]
  | succ j=>
   show aW av w (t::r.set j y) _
   unfold aW;refine⟨u1,u2.take (j*5)++(ys++u2.drop (j*5+5)),?_,h1,ih j h2 (by simpa using hj)⟩;rw[show (j+1)*5=u1.length+j*5 by omega,List.take_length_add_append,show u1.length+j*5+5=u1.length+(j*5+5)by omega,List.drop_length_add_append,List.append_assoc]
theorem JC{B b:Nat}(h:B≠b)(w:World)(o:Nat)(x y z u v:Value):(((((w.setCell ⟨B,o,none⟩ x).setCell ⟨B,o+1,none⟩ y).setCell ⟨B,o+2,none⟩ z).setCell ⟨B,o+3,none⟩ u).setCell ⟨B,o+4,none⟩ v).heap[b]?=w.heap[b]?:=by
 rw[Below.heap_setCell _ _ _ _ (fun e=>h e.symm),Below.heap_setCell _ _ _ _ (fun e=>h e.symm),Below.heap_setCell _ _ _ _ (fun e=>h e.symm),Below.heap_setCell _ _ _ _ (fun e=>h e.symm),Below.heap_setCell _ _ _ _ (fun e=>h e.symm)]
theorem Ht{N B:Nat}{w0 w:World}(hb:Below N w0 w)(hB:N≤B)(o:Nat)(x y z u v:Value):Below N w0 (((((w.setCell ⟨B,o,none⟩ x).setCell ⟨B,o+1,none⟩ y).setCell ⟨B,o+2,none⟩ z).setCell ⟨B,o+3,none⟩ u).setCell ⟨B,o+4,none⟩ v):=
 ((((hb.setCell (p:=⟨B,o,none⟩) hB _).setCell (p:=⟨B,o+1,none⟩) hB _).setCell (p:=⟨B,o+2,none⟩) hB _).setCell (p:=⟨B,o+3,none⟩) hB _).setCell (p:=⟨B,o+4,none⟩) hB _
theorem NX{B b:Nat}(h:B≠b)(w:World)(o j:Nat)(x y z u v:Value):(((((w.setCell ⟨B,o,none⟩ x).setCell ⟨B,o+1,none⟩ y).setCell ⟨B,o+2,none⟩ z).setCell ⟨B,o+3,none⟩ u).setCell ⟨B,o+4,none⟩ v).cell? ⟨b,j,none⟩=w.cell? ⟨b,j,none⟩:=by
 rw[World.cell?_setCell_far _ _ _ _ h,World.cell?_setCell_far _ _ _ _ h,World.cell?_setCell_far _ _ _ _ h,World.cell?_setCell_far _ _ _ _ h,World.cell?_setCell_far _ _ _ _ h]
def Mix(wB w:World)(b:Nat):Prop:=b<wB.heap.size∨w.heap.size≤b
def OD(wB w:World)(t:T)(e:Ending)(w':World):Prop:=Below w.heap.size w w'∧∃ k n a s ao m c,e=.returned (tg k n a s ao m c)∧TrC (Mix wB w) w' t (vT k n a s ao m c)
theorem OD.mk{wB w:World}{w':World}{t t':T}(h:t=t')(b:Below w.heap.size w w'){k n a:Int}{s:ByteArray}{ao:Option Addr}{m c:Nat}(ht:TrC (Mix wB w) w' t' (vT k n a s ao m c)):OD wB w t (.returned (tg k n a s ao m c)) w':=by
 subst h;exact⟨b,k,n,a,s,ao,m,c,rfl,ht⟩
theorem Tr.mix{wB w:World}{t:T}{us:List Value}(h:Tr wB t us)(w0:World)(b:Below wB.heap.size wB w):TrC (Mix wB w0) w t us:=
 TrC.kept (fun b _ hb=>.inl hb) b.size (fun k _ hk=>b.block k hk) h
theorem aW.mix{wB w:World}{l:List T}{us:List Value}(h:aW (fun _=>True) wB l us)(w0:World)(b:Below wB.heap.size wB w):aW (Mix wB w0) w l us:=
 aW.kept (fun b _ hb=>.inl hb) b.size (fun k _ hk=>b.block k hk) h
theorem Is(wB:World)(x:T)(kx nx ax:Int)(sx:ByteArray)(aox:Option Addr)(mx cx:Nat)(hx:Tr wB x (vT kx nx ax sx aox mx cx)):∀ (p:List Int) (t a0:T),nodes t≤1000000→p.length≤1000000→atT t p=some a0→∀ (w:World),Below wB.heap.size wB w→∀ (k n a:Int) (s:ByteArray) (ao:Option Addr) (m c:Nat),Tr wB t (vT k n a s ao m c)→∀ v,BN w v p→Calls Tryz.prog 77 #[tg k n a s ao m c,v,tg kx nx ax sx aox mx cx] w (OD wB w (kN t p x)):=by
 intro p
 induction p with
 | nil=>
  intro t a0 _ _ _ w low k n a s ao m c ht v hv;obtain⟨pao,pcap,rfl,_⟩:=hv;obtain⟨t1,t2,t3,B⟩:=qL w k n a s (.slice ao m c) kx nx ax sx (.slice aox mx cx);unfold zT at t1 t2 t3 B;have lowB:=low.trans (B.mono low.size);go_enter Tryz.func77,Tryz.ntmps77;go_upto_region 1 with fail;generalize World.alloc (World.alloc (World.alloc w _) _) _=w3 at t1 t2 t3 B lowB ⊢;clear t1;have:=TV.facts t2;have:=TV.facts t3;go_wp2_with fail;have B5:=bO B (show w.heap.size≤w.heap.size+2 by omega) kx nx ax sx (.slice aox mx cx);have L5:=bO lowB (show wB.heap.size≤w.heap.size+2 by have:=low.size;omega) kx nx ax sx (.slice aox mx cx);refine rtv (t3.set _ _ _ _ _) Tryz.results77 ?_;exact OD.mk (by unfold kN;rfl) B5 (hx.mix w L5)
 | cons i r ih=>
  intro t a0 hN hp0 hat w low k n a s ao m c ht v hv;obtain⟨h0,hi,h2⟩:=oG hat;obtain⟨j,rfl⟩:∃ j:Nat,i=(j:Int):=⟨i.toNat,by omega⟩
  have hj:j<t.l.length:=hi;obtain⟨t1,t2,t3,B⟩:=qL w k n a s (.slice ao m c) kx nx ax sx (.slice aox mx cx);unfold zT at t1 t2 t3 B;have lowB:=low.trans (B.mono low.size);have hfm:=hv;obtain⟨pao,pcap,rfl,hcell,hpc⟩:=hfm;obtain⟨pb,poff,rfl,hpb,hpcell⟩:=hcell (by simp);have HV:=hdq hv;have hnl:t.l.length≤1000000:=by
   have e4:=eY t.l;have e1:nodes t=1+aH t.l:=by obtain⟨k,n,a,w,l⟩:=t;rw[nodes];rfl
   omega
  have hcl:=fun (W:World) (lw:Below wB.heap.size wB W)=>KK wB t (by intro e;rw[e]at hj;simp at hj) hnl W lw k n a s ao m c ht
  have hpj:=hpcell 0 (by simp);obtain⟨M,hM⟩:∃ M,r.length=M:=⟨_,rfl⟩
  rw[show ((j:Int)::r).length=M+1 by rw[List.length_cons,hM]]at hpc hp0 ⊢;have LM:=hdq hM;clear hM;have hpj:w.cell? ⟨pb,poff,none⟩=some (.int .i64 j):=hpj;go_enter Tryz.func77,Tryz.ntmps77;go_upto_region 1 with fail;generalize World.alloc (World.alloc (World.alloc w _) _) _=w3 at t1 t2 t3 B lowB ⊢;have hC:=hcl w3 lowB;clear hcl hv hcell;have:=TV.facts t1;go_upto_region 4 with (go_at_call 107;refine hC.mono ?_;rintro e w4 ⟨g,gcap,vs,cur,rfl,hg,hgl,hblk,hvs,hgc,hTs,b4⟩;have t14:=t1.below b4;have:=TV.facts t14);have t24:=t2.below b4;have t34:=t3.below b4;have B4:=B.trans (b4.mono B.size);have L4:=lowB.trans (b4.mono lowB.size);have hpj4:=(B4.cell (p:=⟨pb,poff,none⟩) hpb).trans hpj;have h3sz:=t3.lt;clear t1 t2 t3 B lowB hpj b4 hC;have P1:=t14.RO (.slice (some ⟨g,0,none⟩) t.l.length gcap);have P2:TV (w4.setCell ⟨w.heap.size,4,none⟩ (.slice (some ⟨g,0,none⟩) t.l.length gcap)) (w.heap.size+1) _ _ _ _ _:=(Below.heap_setCell w4 ⟨w.heap.size,4,none⟩ (.slice (some ⟨g,0,none⟩) t.l.length gcap) _ (show w.heap.size+1≠w.heap.size by omega)).trans t24;have P3:TV (w4.setCell ⟨w.heap.size,4,none⟩ (.slice (some ⟨g,0,none⟩) t.l.length gcap)) (w.heap.size+2) _ _ _ _ _:=(Below.heap_setCell w4 ⟨w.heap.size,4,none⟩ (.slice (some ⟨g,0,none⟩) t.l.length gcap) _ (show w.heap.size+2≠w.heap.size by omega)).trans t34;have P4:=B4.setCell (p:=⟨w.heap.size,4,none⟩) (Nat.le_refl _) (.slice (some ⟨g,0,none⟩) t.l.length gcap);have P5:=L4.setCell (p:=⟨w.heap.size,4,none⟩) low.size (.slice (some ⟨g,0,none⟩) t.l.length gcap);have P6:=(Below.heap_setCell w4 ⟨w.heap.size,4,none⟩ (.slice (some ⟨g,0,none⟩) t.l.length gcap) g (show g≠w.heap.size by omega)).trans hblk;have P7:∀ (i:Nat) (u:Value),vs[i]?=some u→(w4.setCell ⟨w.heap.size,4,none⟩ (.slice (some ⟨g,0,none⟩) t.l.length gcap)).cell? ⟨g,i,none⟩=some u:=fun i u hu=>(World.cell?_setCell_far _ _ _ _ (show w.heap.size≠g by omega)).trans (hvs i u hu)
  have P8:=(World.cell?_setCell_far w4 ⟨w.heap.size,4,none⟩ ⟨pb,poff,none⟩ (.slice (some ⟨g,0,none⟩) t.l.length gcap) (show w.heap.size≠pb by omega)).trans hpj4;have hsz5:(w4.setCell ⟨w.heap.size,4,none⟩ (.slice (some ⟨g,0,none⟩) t.l.length gcap)).heap.size=w4.heap.size:=by simp[World.setCell]
  generalize World.setCell w4 _ _=w5 at P1 P2 P3 P4 P5 P6 P7 P8 hsz5 ⊢;rw[← hsz5]at hgl;clear t14 t24 t34 B4 L4 hpj4 hblk hvs hsz5;obtain⟨k1,n1,a1,s1,o1,m1,c1,hTr,d0,d1,d2,d3,d4⟩:=Tr.elem (w:=w5) (b:=g) (off:=0) hTs (fun i u hu=>by rw[Nat.zero_add];exact P7 i u hu) j hj;simp only[Nat.zero_add]at d0 d1 d2 d3 d4
  have hjt:(j:Int)<(t.l.length:Int):=by omega
  have fz:=fun o=>Lib.frozen_of_heap P6 o
  obtain⟨AO,hif⟩:∃ AO:Option Addr,(if pcap=1 then some (⟨pb,poff,none⟩:Addr)else some ⟨pb,poff+1,none⟩)=AO:=⟨_,rfl⟩
  have hIR:∀ w6,Below w5.heap.size w5 w6→BN w6 (.slice AO M (pcap - 1)) r:=fun w6 b6=>by
   refine⟨_,_,by rw[LM.out],fun hne=>⟨pb,poff+1,?_,?_,fun i hi=>?_⟩,by rw[LM.out];omega⟩
   ·have h1:=List.length_pos_iff.2 hne;have h3:=LM.out;rw[← hif,if_neg (by omega)]
   ·have h1:=P4.size;have h2:=b6.size;omega
   ·have h1:=hpcell (i+1) (by simp;omega);rw[List.getElem_cons_succ]at h1;have hpb5:pb<w5.heap.size:=by have:=P4.size;omega
    rw[b6.cell (p:=⟨pb,poff+1+i,none⟩) hpb5,P4.cell (p:=⟨pb,poff+1+i,none⟩) hpb,show poff+1+i=poff+(i+1)by omega];exact h1
  have hlt5:w.heap.size+2<w5.heap.size:=P3.lt;have hpb5:pb<w5.heap.size:=by omega
  have hny:nodes (t.l[j]'hj)≤1000000:=by
   have e1:nodes t=1+aH t.l:=by obtain⟨k,n,a,w,l⟩:=t;rw[nodes];rfl
   have h9:=tF (List.getElem_mem hj);omega
  have hput:∀ w6,Below w5.heap.size w5 w6→Calls Tryz.prog 77 #[tg k1 n1 a1 s1 o1 m1 c1,.slice AO M (pcap - 1),tg kx nx ax sx aox mx cx] w6 (OD wB w6 (kN (t.l[j]'hj) r x)):=fun w6 b6=>
   ih (t.l[j]'hj) a0 hny (by have:=LM.out;omega) h2 w6 (P5.trans (b6.mono P5.size)) k1 n1 a1 s1 o1 m1 c1 hTr _ (hIR w6 b6)
  have HPUT:=hdq hput;clear hput hIR ih hat h2 hpcell;have q1:(1:Int)≤(M:Int)+1:=by omega
  have q2:(M:Int)+1≤(pcap:Int):=by omega
  have q3:(0:Int)≤1:=by decide
  have hA:=fun (w':World) x y z u v=>NX (show g≠w.heap.size by omega) w' (j*5) 4 x y z u v
  have hB:=fun (w':World) x y z u v=>NX (show g≠pb by omega) w' (j*5) poff x y z u v
  have hD:=fun (i:Nat) (w':World) x y z u v=>NX (show g≠w.heap.size+1 by omega) w' (j*5) i x y z u v
  have:=TV.facts P1;have:=TV.facts P2;refine wp_region_held_drew (S:=(fun w'=>w'.cell? ⟨w.heap.size,4,none⟩=some (.slice (some ⟨g,0,none⟩) t.l.length gcap)∧w'.cell? ⟨pb,poff,none⟩=some (.int .i64 j)∧w'.cell? ⟨w.heap.size+1,0,none⟩=some (.int .i64 kx)∧w'.cell? ⟨w.heap.size+1,1,none⟩=some (.int .i64 nx)∧w'.cell? ⟨w.heap.size+1,2,none⟩=some (.int .i64 ax)∧w'.cell? ⟨w.heap.size+1,3,none⟩=some (.string sx)∧w'.cell? ⟨w.heap.size+1,4,none⟩=some (.slice aox mx cx))) (by kernel_rfl) (by first|go_keep|simp[*]) (fun RY=>?_);refine tkH 0 ?_;refine tkH 1 ?_;refine tkH 2 ?_;refine tkH 3 ?_;refine tkH 4 ?_;refine tkH 5 ?_;refine tkH 6 ?_;refine tkH 7 ?_;refine tkH 8 ?_;refine tkH 9 ?_;refine tkH 10 ?_;refine tkH 12 ?_;refine tkH 13 ?_;refine tkH 14 ?_;refine bA 11 fun Kx RZ=>?_;go_simp;refine goH RZ RY fun RY=>?_;clear RZ Kx;refine bA 15 fun Kx RZ=>?_;go_simp;refine(HPUT.out _ (Below.refl _ _).drew).mono ?_;rintro e w6 ⟨b6,k2,n2,a2,s2,o2,m2,c2,rfl,hTy⟩;have P16:=P1.drew.below b6;have P26:=P2.drew.below b6;have P36:=P3.drew.below b6;have P66:=(b6.block g hgl).trans P6;have g8:=(b6.cell (p:=⟨pb,poff,none⟩) hpb5).trans P8;have e0:=(b6.cell (p:=⟨g,j*5,none⟩) hgl).trans d0;have e1:=(b6.cell (p:=⟨g,j*5+1,none⟩) hgl).trans d1;have e2:=(b6.cell (p:=⟨g,j*5+2,none⟩) hgl).trans d2;have e3:=(b6.cell (p:=⟨g,j*5+3,none⟩) hgl).trans d3;have e4:=(b6.cell (p:=⟨g,j*5+4,none⟩) hgl).trans d4;have z0:=Lib.frozen_of_heap P66 (j*5);have z1:=Lib.frozen_of_heap P66 (j*5+1);have z2:=Lib.frozen_of_heap P66 (j*5+2);have z3:=Lib.frozen_of_heap P66 (j*5+3);have z4:=Lib.frozen_of_heap P66 (j*5+4);have h164:=(TV.facts P16).2.2.2.2.1;obtain⟨r0,r1,r2,r3,r4,_⟩:=TV.facts P26;refine goH RZ ⟨h164,g8,r0,r1,r2,r3,r4⟩ fun RY=>?_;clear RZ Kx;refine tkH 16 ?_;refine bA 17 fun Kx RZ=>?_;go_simp;refine goH RZ ⟨(hA _ _ _ _ _ _).trans h164,(hB _ _ _ _ _ _).trans g8,(hD 0 _ _ _ _ _ _).trans r0,(hD 1 _ _ _ _ _ _).trans r1,(hD 2 _ _ _ _ _ _).trans r2,(hD 3 _ _ _ _ _ _).trans r3,(hD 4 _ _ _ _ _ _).trans r4⟩ fun RY=>?_;clear RZ Kx;refine cW ?_;have B6:=P4.trans ((Below.refl w5.heap.size w5).drew.trans b6 |>.mono P4.size);have L6:=P5.trans ((Below.refl w5.heap.size w5).drew.trans b6 |>.mono P5.size);have hg3:w.heap.size+2<g:=by omega
  have hwB:=low.size;have B7:=Ht B6 (show w.heap.size≤g by omega) (j*5) k2 n2 a2 s2 (.slice o2 m2 c2);have L7:=Ht L6 (show wB.heap.size≤g by omega) (j*5) k2 n2 a2 s2 (.slice o2 m2 c2);have Q1:=(JC (show g≠w.heap.size by omega) w6 (j*5) k2 n2 a2 s2 (.slice o2 m2 c2)).trans P16;have Q3:=(JC (show g≠w.heap.size+2 by omega) w6 (j*5) k2 n2 a2 s2 (.slice o2 m2 c2)).trans P36;have hlt6:g<w6.heap.size:=fP P66;have hv6:∀ (i:Nat) (u:Value),vs[i]?=some u→w6.cell? ⟨g,i,none⟩=some u:=fun i u hu=>(b6.cell (p:=⟨g,i,none⟩) hgl).trans (P7 i u hu)
  have hvl:=hTs.len;have Q5:=fun i q hq=>RW hv6 (j*5) (by omega) k2 n2 a2 s2 (.slice o2 m2 c2) i q hq
  have hput2:=NG t (j:Int) r x hj;have hPU:kN t ((j:Int)::r) x=.mk k n a s (t.l.set j (kN (t.l[j]'hj) r x)):=by
   obtain⟨f1,f2,f3,f4,_⟩:=ht.split;obtain⟨k',n',a',s',l⟩:=t;rw[qR k' n' a' s' l (j:Int) r x hj];subst f1 f2 f3 f4;rfl
  have HPU:=hdq hPU;have hcellG:∀ (w':World) (i:Nat) (q:Value),(((((w'.setCell ⟨w.heap.size+2,0,none⟩ (.int .i64 k)).setCell ⟨w.heap.size+2,1,none⟩ (.int .i64 n)).setCell ⟨w.heap.size+2,2,none⟩ (.int .i64 a)).setCell ⟨w.heap.size+2,3,none⟩ (.string s)).setCell ⟨w.heap.size+2,4,none⟩ (.slice (some ⟨g,0,none⟩) t.l.length gcap)).cell? ⟨g,i,none⟩=w'.cell? ⟨g,i,none⟩:=fun w' i q=>On (show w.heap.size+2≠g by omega) w' i _ _ _ _ _
  have hHeapO:∀ b,b≠g→(((((w6.setCell ⟨g,j*5,none⟩ (.int .i64 k2)).setCell ⟨g,j*5+1,none⟩ (.int .i64 n2)).setCell ⟨g,j*5+2,none⟩ (.int .i64 a2)).setCell ⟨g,j*5+3,none⟩ (.string s2)).setCell ⟨g,j*5+4,none⟩ (.slice o2 m2 c2)).heap[b]?=w6.heap[b]?:=fun b hb=>JC (fun e=>hb e.symm) w6 (j*5) _ _ _ _ _
  have hsz7:w6.heap.size≤(((((w6.setCell ⟨g,j*5,none⟩ (.int .i64 k2)).setCell ⟨g,j*5+1,none⟩ (.int .i64 n2)).setCell ⟨g,j*5+2,none⟩ (.int .i64 a2)).setCell ⟨g,j*5+3,none⟩ (.string s2)).setCell ⟨g,j*5+4,none⟩ (.slice o2 m2 c2)).heap.size:=by simp[World.setCell]
  clear hput2 hPU hA hB hD e0 e1 e2 e3 e4 z0 z1 z2 z3 z4 g8 h164 r0 r1 r2 r3 r4 d0 d1 d2 d3 d4 fz P1 P2 P3 P16 P26 P36;generalize World.setCell (World.setCell (World.setCell (World.setCell (World.setCell w6 _ _) _ _) _ _) _ _) _ _=w7 at B7 L7 Q1 Q3 Q5 hHeapO hsz7 ⊢;have HO7:=hdq hHeapO;have HQ5:=hdq Q5;have HCG:=hdq hcellG;clear hHeapO Q5 hcellG;have R3:=TV.set (show TV w7 (w.heap.size+2) _ _ _ _ _ from Q3) k n a s (.slice (some ⟨g,0,none⟩) t.l.length gcap);have B8:=bO B7 (show w.heap.size≤w.heap.size+2 by omega) k n a s (.slice (some ⟨g,0,none⟩) t.l.length gcap);have L8:=bO L7 (show wB.heap.size≤w.heap.size+2 by omega) k n a s (.slice (some ⟨g,0,none⟩) t.l.length gcap);have H8:∀ b,b≠w.heap.size+2→(((((w7.setCell ⟨w.heap.size+2,0,none⟩ (.int .i64 k)).setCell ⟨w.heap.size+2,1,none⟩ (.int .i64 n)).setCell ⟨w.heap.size+2,2,none⟩ (.int .i64 a)).setCell ⟨w.heap.size+2,3,none⟩ (.string s)).setCell ⟨w.heap.size+2,4,none⟩ (.slice (some ⟨g,0,none⟩) t.l.length gcap)).heap[b]?=w7.heap[b]?:=fun b hb=>nV (fun e=>hb e.symm) w7 _ _ _ _ _
  have hsz8:w7.heap.size≤(((((w7.setCell ⟨w.heap.size+2,0,none⟩ (.int .i64 k)).setCell ⟨w.heap.size+2,1,none⟩ (.int .i64 n)).setCell ⟨w.heap.size+2,2,none⟩ (.int .i64 a)).setCell ⟨w.heap.size+2,3,none⟩ (.string s)).setCell ⟨w.heap.size+2,4,none⟩ (.slice (some ⟨g,0,none⟩) t.l.length gcap)).heap.size:=by simp[World.setCell]
  have HH8:=hdq H8;have HCG7:=hdq (HCG.out w7);have hb5:=b6.size;clear H8;have:=TV.facts Q1;have:=TV.facts Q3;go_wp2_with fail;have H8:=HH8.out;have C8:=HCG7.out;generalize World.setCell (World.setCell (World.setCell (World.setCell (World.setCell w7 _ _) _ _) _ _) _ _) _ _=w8 at R3 B8 L8 H8 C8 hsz8 ⊢;refine rtv R3 Tryz.results77 ?_;refine OD.mk HPU.out B8 ?_
  have hTy8 : TrC (Mix wB w) w8 (kN (t.l[j]'hj) r x) (vT k2 n2 a2 s2 o2 m2 c2) := hTy.kept (fun b hb _ => by unfold Mix at hb ⊢; rcases hb with hb | hb; exact .inl hb; exact .inr (by have : w5.heap.size ≤ b := hb; omega)) (Nat.le_trans hsz7 hsz8) (fun b hb _ => by
    have hne : b ≠ g ∧ b ≠ w.heap.size + 2 := by
      unfold Mix at hb
      rcases hb with hb | hb
      · exact ⟨by omega, by omega⟩
      · have : w5.heap.size ≤ b := hb
        exact ⟨by omega, by omega⟩
    exact (H8 b hne.2).trans (HO7.out b hne.1))
  have hrow:=aW.setAt hTy8 j (hTs.mix w L8) hj;unfold TrC;refine⟨some ⟨g,0,none⟩,gcap,by rw[List.length_set];rfl,fun _=>⟨g,0,_,rfl,.inr (by omega),by omega,hrow,fun i q hq=>?_⟩,by rw[List.length_set];exact hgc⟩;rw[Nat.zero_add];exact(C8 i q).trans (HQ5.out i q hq)
def Mn(t:T)(p:List Int)(x:T):T×Int:=if (atR t p).2=0 then(if chk (kN t p x)=true then(kN t p x,0)else(gI,1))else(gI,(atR t p).2)
theorem PK{t:T}{p:List Int}(h:(atR t p).2=0):chk t=true∧∃ a,atT t p=some a∧atR t p=(a,0):=by
 unfold atR at h ⊢
 split at h
 ·rename_i hc
  rw[if_pos hc];refine⟨hc,?_⟩
  cases e:atT t p with
  | none=>rw[e]at h;cases h
  | some a=>exact⟨a,rfl,rfl⟩
 ·cases h
theorem Je(w:World)(hTab:eJ w)(t:T)(ho:okT t)(hwd:wdT t)(k n a:Int)(s:ByteArray)(ao:Option Addr)(m c:Nat)(ht:Tr w t (vT k n a s ao m c))(v:Value)(p:List Int)(hp:BN w v p)(hpl:p.length≤1000000)(x:T)(kx nx ax:Int)(sx:ByteArray)(aox:Option Addr)(mx cx:Nat)(hx:Tr w x (vT kx nx ax sx aox mx cx))(hN:nodes t≤1000000)(h2:∀ a,atT t p=some a→okT (kN t p x)∧wdT (kN t p x)):Calls Tryz.prog 40 #[tg k n a s ao m c,v,tg kx nx ax sx aox mx cx] w (EQ w (Mn t p x)):=by
 obtain⟨t1,t2,t3,B⟩:=qL w k n a s (.slice ao m c) kx nx ax sx (.slice aox mx cx);unfold zT at t1 t2 t3 B;have hfm:=hp;obtain⟨pao,pcap,rfl,-⟩:=hfm;go_enter Tryz.func40,Tryz.ntmps40;go_upto_region 1 with fail;generalize World.alloc (World.alloc (World.alloc w _) _) _=w3 at t1 t2 t3 B ⊢;have hA:=BY w3 (hTab.below B) t ho hwd k n a s ao m c (ht.low B) _ p (hp.below B) hpl;have HU:=hdq (show Mn t p x=if (atR t p).2=0 then(if chk (kN t p x)=true then(kN t p x,0)else(gI,1))else(gI,(atR t p).2)from rfl);have HOK:=hdq (@PK t p);obtain⟨r,hr⟩:∃ r,atR t p=r:=⟨_,rfl⟩
 rw[hr]at hA HU HOK;clear hr;obtain⟨ra,re⟩:=r;have:=TV.facts t1;go_upto_region 2 with (go_at_call 29;refine hA.mono ?_;rintro e w4 ⟨b4,k4,n4,a4,s4,o4,m4,c4,rfl,hT4⟩);have b5:=aC w4 (.cells (tg k4 n4 a4 s4 o4 m4 c4) 24);generalize World.alloc w4 _=w5 at b5 ⊢;have b45:=b4.trans (b5.mono b4.size);have u1:=t1.below b45;have u2:=t2.below b45;have u3:=t3.below b45;have B5:=B.trans (b45.mono B.size);clear t1 t2 t3 b4 b5 b45 hA hT4
 by_cases hre:re=0
 ·subst hre;obtain⟨hc,a0,ha0,_⟩:=HOK.out rfl;have HU2:=hdq (HU.out.trans (if_pos rfl));have hP:=Is w x kx nx ax sx aox mx cx hx p t a0 hN hpl ha0 w5 B5 k n a s ao m c ht _ (hp.below B5);obtain⟨ho2,hwd2⟩:=h2 a0 ha0;have HO2:=hdq ho2;have HW2:=hdq hwd2;clear HU HOK ha0 hc h2 ho hwd ht hx hp ho2 hwd2;generalize kN t p x=y at hP HU2 HO2 HW2;have:=TV.facts u1;have:=TV.facts u2;go_upto_region 5 with (go_at_call 77;refine hP.mono ?_;rintro e w6 ⟨b6,k6,n6,a6,s6,o6,m6,c6,rfl,hT6⟩);have hT6':Tr w6 y (vT k6 n6 a6 s6 o6 m6 c6):=hT6.kept (fun _ _ _=>trivial) (Nat.le_refl _) (fun _ _ _=>rfl);have b7:=aC w6 (.cells (tg k6 n6 a6 s6 o6 m6 c6) 24);have v7:=TV.new w6 k6 n6 a6 s6 (.slice o6 m6 c6);generalize World.alloc w6 _=w7 at b7 v7 ⊢;have b67:=b6.trans (b7.mono b6.size);have u37:=u3.below b67;have B7:=B5.trans (b67.mono B5.size);have hT7:=hT6'.low b7;have hC:=jG w7 (hTab.below B7) y HO2.out HW2.out k6 n6 a6 s6 o6 m6 c6 hT7;unfold Db at hC;have hlt5:w.heap.size+2<w5.heap.size:=u3.lt;have hTM:TrC (Mix w w5) w7 y (vT k6 n6 a6 s6 o6 m6 c6):=hT6.kept (fun _ h _=>h) b7.size (fun k _ hk=>b7.block k hk);clear hT6 hT6' hP u1 u2 u3 b6 b7 b67 B5;have:=TV.facts v7
  cases hc:chk y with
  | true=>
   rw[hc]at hC;have HU3:=hdq (HU2.out.trans (if_pos hc));clear hc HU2;go_upto_region 7 with (go_at_call 14;refine hC.mono ?_;rintro e w8 ⟨rfl,b8⟩);have u8:=u37.below b8;have v8:=v7.below b8;have B8:=B7.trans (b8.mono B7.size);have hT8:TrC (Mix w w5) w8 y (vT k6 n6 a6 s6 o6 m6 c6):=hTM.kept (fun _ h _=>h) b8.size (fun k _ hk=>b8.block k hk);clear hC u37 v7 B7 hT7 hTM;have:=TV.facts v8;have:=TV.facts u8;go_wp2_with fail;have B9:=bO B8 (show w.heap.size≤w.heap.size+2 by omega) k6 n6 a6 s6 (.slice o6 m6 c6);refine dL (.tuple #[tg k6 n6 a6 s6 o6 m6 c6,.int .i64 0]) (u8.set _ _ _ _ _) (fun q0 q1 q2 q3 q4=>by simp[results,Tryz.results40,go_sem,q0,q1,q2,q3,q4]) rfl ?_;refine EQ.mk HU3.out B9 ?_;exact(hT8.xO (w.heap.size+2) (fun b hb=>by unfold Mix at hb;omega) _ _ _ _ _).kept (fun _ _ _=>trivial) (Nat.le_refl _) (fun _ _ _=>rfl)
  | false=>
   rw[hc]at hC;have HU3:=hdq (HU2.out.trans (if_neg (by rw[hc];decide)));clear hc HU2;go_upto_region 6 with (go_at_call 14;refine hC.mono ?_;rintro e w8 ⟨rfl,b8⟩);have u8:=u37.below b8;have B8:=B7.trans (b8.mono B7.size);clear hC u37 v7 B7 hT7;have:=TV.facts u8;go_wp2_with fail;refine dL (.tuple #[tg 0 0 0 ⟨#[]⟩ none 0 0,.int .i64 1]) (u8.set _ _ _ _ _) (fun q0 q1 q2 q3 q4=>by simp[results,Tryz.results40,go_sem,q0,q1,q2,q3,q4]) rfl ?_;exact EQ.mk HU3.out (bO B8 (show w.heap.size≤w.heap.size+2 by omega) _ _ _ _ _) (Tr.zero _)
 ·have HU2:=hdq (HU.out.trans (if_neg hre));clear HU HOK h2 ho hwd ht hx hp u1 u2;have:=TV.facts u3;go_wp2_with fail;refine dL (.tuple #[tg 0 0 0 ⟨#[]⟩ none 0 0,.int .i64 re]) (u3.set _ _ _ _ _) (fun q0 q1 q2 q3 q4=>by simp[results,Tryz.results40,go_sem,q0,q1,q2,q3,q4]) rfl ?_;exact EQ.mk HU2.out (bO B5 (show w.heap.size≤w.heap.size+2 by omega) _ _ _ _ _) (Tr.zero _)
end
end Go.Proofs.YtfdlmcgcckkkdaaGreatDoor
