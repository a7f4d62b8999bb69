/- ParseParts, part 46: what it stands on. -/
import Derived.Test.YtfdlmcgcckkkdaaGreatDoorV44
import Derived.Test.YtfdlmcgcckkkdaaGreatDoorV11
import Derived.Shelf.SlicesE.Clone
import Derived.Laws.OwnMore
set_option linter.all false
set_option maxHeartbeats 40000000
set_option maxRecDepth 100000
namespace Go.Proofs.YtfdlmcgcckkkdaaGreatDoor
section
open Go.RowKit Lx Px
def BN(w:World)(v:Value)(p:List Int):Prop:=∃ ao cap,v=.slice ao p.length cap∧(p≠[]→∃ b off,ao=some ⟨b,off,none⟩∧b<w.heap.size∧∀ i,(hi:i<p.length)→w.cell? ⟨b,off+i,none⟩=some (.int .i64 (p[i]'hi)))∧p.length≤cap
theorem BN.below{w w':World}{v:Value}{p:List Int}(h:BN w v p)(hb:Below w.heap.size w w'):BN w' v p:=by
 obtain⟨ao,cap,rfl,h,hc⟩:=h;refine⟨ao,cap,rfl,fun hne=>?_,hc⟩;obtain⟨b,off,e,hlt,hcell⟩:=h hne;exact⟨b,off,e,Nat.lt_of_lt_of_le hlt hb.size,fun i hi=>(hb.cell (p:=⟨b,off+i,none⟩) hlt).trans (hcell i hi)⟩
def atR(t:T)(p:List Int):T×Int:=if chk t=true then(match atT t p with|some a=>(a,0)|none=>(gI,4))else(gI,71)
def EQ(w:World)(r:T×Int)(e:Ending)(w':World):Prop:=Below w.heap.size w w'∧∃ k n a s ao m c,e=.returned (.tuple #[tg k n a s ao m c,.int .i64 r.2])∧Tr w' r.1 (vT k n a s ao m c)
theorem EQ.mk{w:World}{r:T×Int}{w':World}{t:T}{x:Int}(h:r=(t,x))(b:Below w.heap.size w w'){k n a:Int}{s:ByteArray}{ao:Option Addr}{m c:Nat}(ht:Tr w' t (vT k n a s ao m c)):EQ w r (.returned (.tuple #[tg k n a s ao m c,.int .i64 x])) w':=by
 subst h;exact⟨b,k,n,a,s,ao,m,c,rfl,ht⟩
theorem Tr.zero(w:World):Tr w gI (vT 0 0 0 ⟨#[]⟩ Option.none 0 0):=TrC.leaf _ _ _ _ _ _ _
theorem BY(w:World)(hTab:eJ w)(t:T)(ho:okT t)(hwd:wdT t)(k n a:Int)(s:ByteArray)(ao:Option Addr)(m c:Nat)(ht:Tr w t (vT k n a s ao m c))(v:Value)(p:List Int)(hp:BN w v p)(hpl:p.length≤1000000):Calls Tryz.prog 29 #[tg k n a s ao m c,v] w (EQ w (atR t p)):=by
 have b1:=aC w (.cells (tg k n a s ao m c) 24);have t1:=TV.new w k n a s (.slice ao m c);have z1:(w.alloc (.cells (tg k n a s ao m c) 24)).heap.size=w.heap.size+1:=by simp
 have b2:=aC (w.alloc (.cells (tg k n a s ao m c) 24)) (.cells zT 24);have r2:=TV.new (w.alloc (.cells (tg k n a s ao m c) 24)) (.int .i64 0) (.int .i64 0) (.int .i64 0) (.string ⟨#[]⟩) (.slice none 0 0);have t2:=t1.below b2;have B2:=b1.trans (b2.mono b1.size);rw[z1]at r2;clear z1 b1 b2 t1;unfold zT at t2 B2;have hfm:=hp;obtain⟨pao,pcap,rfl,-⟩:=hfm;go_enter Tryz.func29,Tryz.ntmps29;go_upto_region 1 with fail;generalize World.alloc (World.alloc w _) _=w2 at t2 r2 B2 ⊢;have hC:=jG w2 (hTab.below B2) t ho hwd k n a s ao m c (ht.low B2);unfold Db at hC;have:=TV.facts t2
 cases hc:chk t with
 | false=>
  rw[hc]at hC;have HU:=hdq (show atR t p=(gI,71)by unfold atR;rw[hc];rfl);clear hc ht ho hwd hp;go_upto_region 3 with (go_at_call 14;refine hC.mono ?_;rintro e w3 ⟨rfl,b3⟩);have r3:=r2.below b3;have B3:=B2.trans (b3.mono B2.size);clear hC r2 B2 b3;have:=TV.facts r3;go_wp2_with fail;refine dL (.tuple #[tg 0 0 0 ⟨#[]⟩ none 0 0,.int .i64 71]) (r3.set _ _ _ _ _) (fun q0 q1 q2 q3 q4=>by simp[results,Tryz.results29,go_sem,q0,q1,q2,q3,q4]) rfl ?_;exact EQ.mk HU.out (bO B3 (by omega) _ _ _ _ _) (Tr.zero _)
 | true=>
  rw[hc]at hC;have HU:=hdq (show atR t p=match atT t p with|some a=>(a,0)|none=>(gI,4)by unfold atR;rw[if_pos hc]);clear hc ho hwd;obtain⟨N,hN1⟩:∃ N,p.length=N:=⟨_,rfl⟩
  have L1:=hdq hN1;have HP:=hdq hp;rw[hN1];rw[hN1]at hpl;clear hp hN1;go_wp2_with (go_at_call 14;refine hC.mono ?_;rintro e w3 ⟨rfl,b3⟩);have t3:=t2.below b3;have r3:=r2.below b3;have B3:=B2.trans (b3.mono B2.size);have hw3:w.heap.size+1<w3.heap.size:=r3.lt;clear hC r2 B2 b3 t2
  go_loopg [17] N (fun g tt wr=>∃ (q:Nat) (cur:T) (k n a:Int) (s:ByteArray) (ao:Option Addr) (m c:Nat),tt=.int .i64 q∧q≤N∧g=N - q∧TV wr w.heap.size k n a s (.slice ao m c)∧TV wr (w.heap.size+1) (.int .i64 0) (.int .i64 0) (.int .i64 0) (.string ⟨#[]⟩) (.slice none 0 0)∧Below w.heap.size w wr∧Tr w cur (vT k n a s ao m c)∧Aside (atT t p=atT cur (p.drop q)))
  case atStart=>exact⟨0,t,k,n,a,s,ao,m,c,rfl,Nat.zero_le _,rfl,t3,r3,B3,ht,rfl⟩
  case round=>
   clear t3 r3 ht B3;obtain⟨q,cur,k,n,a,s,ao,m,c,rfl,hq,hg,tq,rq,hB,hTr,A⟩:=hrel;have HG:=hdq hg;clear hg;obtain rfl:m=cur.l.length:=hTr.split.2.2.2.2
   by_cases hlt:q<N
   ·have x1:(q:Int)<(N:Int):=by omega
    have hqp:q<p.length:=by rw[L1.out];exact hlt
    obtain⟨ao5,cap5,e5,hcell,_⟩:=HP.out.below hB;obtain⟨b,off,rfl,hb,hc⟩:=hcell (by intro e;rw[e]at hqp;simp at hqp);simp only[Value.slice.injEq,true_and]at e5
    obtain⟨rfl,rfl⟩:=e5;have h2:=hc q hqp;have hdr:=List.drop_eq_getElem_cons hqp;generalize p[q]'hqp=i at h2 hdr;have AA:=A.out;rw[hdr]at AA;have HA:=hdq AA;clear A AA hdr hc hcell;have hNone:(¬ (0≤i∧i.toNat<cur.l.length))→atT t p=Option.none:=fun h=>by
     rw[HA.out];unfold atT
     by_cases h0:0≤i
     ·rw[if_pos h0,List.getElem?_eq_none (by have:¬ i.toNat<cur.l.length:=fun e=>h ⟨h0,e⟩;omega)]
     ·rw[if_neg h0]
    by_cases hi0:i<0
    ·have HN:=hdq (HU.out.trans (by rw[hNone (by omega)]):atR t p=(gI,4));clear hNone HA HU;have:=TV.facts tq;have:=TV.facts rq;go_wp2_with fail;refine dL (.tuple #[tg 0 0 0 ⟨#[]⟩ Option.none 0 0,.int .i64 4]) (rq.set _ _ _ _ _) (fun q0 q1 q2 q3 q4=>by simp[results,Tryz.results29,go_sem,q0,q1,q2,q3,q4]) rfl ?_;exact EQ.mk HN.out (bO hB (Nat.le_succ _) _ _ _ _ _) (Tr.zero _)
    ·by_cases hil:i.toNat<cur.l.length
     ·obtain⟨j,rfl⟩:∃ j:Nat,i=(j:Int):=⟨i.toNat,by omega⟩
      have hjl:j<cur.l.length:=by omega
      have x2:(j:Int)<(cur.l.length:Int):=by omega
      have x3:¬ (j:Int)<0:=by omega
      have hstep:atT t p=atT (cur.l[j]'hjl) (p.drop (q+1)):=by rw[HA.out,KE (by omega) (show (j:Int).toNat<cur.l.length by omega)];rfl
      obtain⟨ao6,c6,vs6,e6,hTs6,hrow6⟩:=eF.tree (rv:=[]) hB hTr;obtain⟨b',off',rfl,_,hcell6⟩:=hrow6 (by intro e;rw[e]at hjl;simp at hjl);simp only[Value.slice.injEq,true_and]at e6
      obtain⟨rfl,rfl⟩:=e6;obtain⟨k3,n3,a3,s3,o3,m3,c3,hTr3,d0,d1,d2,d3,d4⟩:=Tr.elem hTs6 hcell6 j hjl;generalize cur.l[j]'hjl=y at hTr3 hstep;have HST:=hdq hstep;clear hNone HA hi0 hil hstep hcell6 hTs6 hrow6;have P1:=tq.set k3 n3 a3 s3 (.slice o3 m3 c3);have P2:=bO hB (Nat.le_refl _) k3 n3 a3 s3 (.slice o3 m3 c3);have P3:TV (((((wr.setCell ⟨w.heap.size,0,none⟩ (.int .i64 k3)).setCell ⟨w.heap.size,1,none⟩ (.int .i64 n3)).setCell ⟨w.heap.size,2,none⟩ (.int .i64 a3)).setCell ⟨w.heap.size,3,none⟩ (.string s3)).setCell ⟨w.heap.size,4,none⟩ (.slice o3 m3 c3)) (w.heap.size+1) _ _ _ _ _:=(nV (show w.heap.size≠w.heap.size+1 by omega) _ _ _ _ _ _).trans rq;have:=TV.facts tq;go_upto_region 10 with fail;generalize World.setCell (World.setCell (World.setCell (World.setCell (World.setCell wr _ _) _ _) _ _) _ _) _ _=w5 at P1 P2 P3 ⊢;go_wp2_with fail
      go_roundg (N - (q+1))
      case measure=>rw[HG.out];omega
      case rel=>exact⟨q+1,y,k3,n3,a3,s3,o3,m3,c3,by go_num,hlt,rfl,P1,P3,P2,hTr3,HST.out⟩
     ·have x2:¬ i<(cur.l.length:Int):=by omega
      have HN:=hdq (HU.out.trans (by rw[hNone (fun h=>hil h.2)]):atR t p=(gI,4));clear hNone HA HU;have:=TV.facts tq;have:=TV.facts rq;go_wp2_with fail;refine dL (.tuple #[tg 0 0 0 ⟨#[]⟩ Option.none 0 0,.int .i64 4]) (rq.set _ _ _ _ _) (fun q0 q1 q2 q3 q4=>by simp[results,Tryz.results29,go_sem,q0,q1,q2,q3,q4]) rfl ?_;exact EQ.mk HN.out (bO hB (Nat.le_succ _) _ _ _ _ _) (Tr.zero _)
   ·have x1:¬ (q:Int)<(N:Int):=by omega
    have AA:=A.out;rw[List.drop_of_length_le (by rw[L1.out];omega)]at AA;have HN:=hdq (HU.out.trans (by rw[AA];unfold atT;rfl):atR t p=(cur,0));clear A AA HU;have:=TV.facts tq;have:=TV.facts rq;go_wp2_with fail;refine dL (.tuple #[tg k n a s ao cur.l.length c,.int .i64 0]) (rq.set _ _ _ _ _) (fun q0 q1 q2 q3 q4=>by simp[results,Tryz.results29,go_sem,q0,q1,q2,q3,q4]) rfl ?_;have hB5:=bO hB (Nat.le_succ _) k n a s (.slice ao cur.l.length c);exact EQ.mk HN.out hB5 (hTr.low hB5)
def Tryz.xR: Go.Shelf.Ren:=⟨fun|41=>107|n=>n,fun|22=>22|23=>24|4=>4|n=>n,fun|n=>n⟩
theorem Tryz.GJ: Go.Proofs.SlLaysE0.n41 Tryz.prog Tryz.xR:={
 mixed:=by kernel_rfl
 f41:=⟨Tryz.f107.name,by decide,Tryz.func107.trans (congrArg some (by kernel_rfl))⟩
 t4:=Tryz.underlying4
 a4:=Tryz.isAgg4
 z4:=Tryz.sizeOf4
 v4:=Tryz.zeroValue4
 t22:=Tryz.underlying22
 a22:=Tryz.isAgg22
 z22:=Tryz.sizeOf22
 v22:=Tryz.zeroValue22 }
theorem aW.RC{av:Nat→Prop}{w:World}:∀ {l:List T} {vs:List Value},aW av w l vs→∀ u∈vs,u.oneCell'=true:=by
 intro l
 induction l with
 | nil=>intro vs h u hu;unfold aW at h;subst h;cases hu
 | cons t r ih=>
  intro vs h u hu;unfold aW at h;obtain⟨u1,u2,rfl,h1,h2⟩:=h
  rcases List.mem_append.1 hu with hu|hu
  ·exact h1.one u hu
  ·exact ih h2 u hu
theorem DO(wB:World)(t:T)(hne:t.l≠[])(hN:t.l.length≤1000000)(w:World)(low:Below wB.heap.size wB w)(k n a:Int)(s:ByteArray)(ao:Option Addr)(m c:Nat)(ht:Tr wB t (vT k n a s ao m c)):Calls Tryz.prog 107 #[.slice ao m c] w fun e w'=>∃ v' vs,e=.returned v'∧w'.ownsRow w.heap.size 24 5 v' t.l.length vs∧aW (fun _=>True) wB t.l vs∧Below w.heap.size w w':=by
 obtain rfl:m=t.l.length:=ht.split.2.2.2.2;have hcap:t.l.length≤c:=by
  obtain⟨k,n,a,s,l⟩:=t;unfold Tr TrC at ht;obtain⟨ao',cap,e,_,h⟩:=ht;unfold vT at e;simp only[List.cons.injEq,Value.slice.injEq,true_and,and_true]at e
  obtain⟨_,_,_,_,_,_,e⟩:=e
  show l.length≤_
  omega
 obtain⟨ao1,c1,vs,e,hTs,hrow⟩:=eF.tree (rv:=[]) low ht;obtain⟨b,off,rfl,_,hcell⟩:=hrow hne;simp only[Value.slice.injEq,true_and]at e
 obtain⟨rfl,rfl⟩:=e;obtain⟨i0,hi0,hz0,hz1,hz2⟩:=info_parts tX;have hpos:0<t.l.length:=List.length_pos_iff.2 hne;refine(AnyE.slices_Clone Tryz.GJ i0 _ 5 64 hi0 hz0 hz1 hz2 rfl (by decide) Tryz.sizeOf24 b off t.l.length c vs w hTs.len (by unfold maxLen;omega) (by omega) (fun m u hm=>hcell m u hm) hTs.RC).mono ?_;rintro e w' ⟨v',rfl,hown,_,hb⟩;exact⟨v',vs,rfl,hown,hTs,hb⟩
theorem KK(wB:World)(t:T)(hne:t.l≠[])(hN:t.l.length≤1000000)(w:World)(low:Below wB.heap.size wB w)(k n a:Int)(s:ByteArray)(ao:Option Addr)(m c:Nat)(ht:Tr wB t (vT k n a s ao m c)):Calls Tryz.prog 107 #[.slice ao m c] w fun e w'=>∃ g gcap vs,∃ cur:Array Value,e=.returned (.slice (some ⟨g,0,none⟩) t.l.length gcap)∧w.heap.size≤g∧g<w'.heap.size∧w'.heap[g]?=some (.cells cur 24 (0,0))∧(∀ (i:Nat) (u:Value),vs[i]?=some u→w'.cell? ⟨g,i,none⟩=some u)∧t.l.length≤gcap∧aW (fun _=>True) wB t.l vs∧Below w.heap.size w w':=by
 have hpos:0<t.l.length:=List.length_pos_iff.2 hne;refine(DO wB t hne hN w low k n a s ao m c ht).mono ?_;rintro e w' ⟨v',vs,rfl,⟨hvl,hown⟩,hTs,hb⟩
 rcases hown with ⟨_,h0⟩|⟨g,cap,cur,rfl,hg,hblk,hle,hmx,hsz,htk⟩
 ·omega
 ·refine⟨g,cap,vs,cur,rfl,hg,(Array.getElem?_eq_some_iff.1 hblk).1,hblk,fun i u hu=>?_,hle,hTs,hb⟩;rw[cell_of_row w' g i _ _ _ hblk,← Array.getElem?_toList];rw[← htk,List.getElem?_take]at hu
  split at hu
  ·exact hu
  ·cases hu
theorem TV.RO{w:World}{b:Nat}{x y z u v:Value}(h:TV w b x y z u v)(v':Value):TV (w.setCell ⟨b,4,none⟩ v') b x y z u v':=by
 unfold TV at *
 simp[World.setCell,Array.getElem?_modify,h]
theorem Bj{w:World}{g o i:Nat}(h:i<o∨o+5≤i)(x y z u v:Value):(((((w.setCell ⟨g,o,none⟩ x).setCell ⟨g,o+1,none⟩ y).setCell ⟨g,o+2,none⟩ z).setCell ⟨g,o+3,none⟩ u).setCell ⟨g,o+4,none⟩ v).cell? ⟨g,i,none⟩=w.cell? ⟨g,i,none⟩:=by
 have hne:∀ k,k<5→(⟨g,i,none⟩:Addr)≠⟨g,o+k,none⟩:=fun k hk e=>by
  simp only[Addr.mk.injEq,true_and,and_true]at e;omega
 rw[World.cell?_setCell_other _ ⟨g,o+4,none⟩ _ _ (hne 4 (by decide)).symm,World.cell?_setCell_other _ ⟨g,o+3,none⟩ _ _ (hne 3 (by decide)).symm,World.cell?_setCell_other _ ⟨g,o+2,none⟩ _ _ (hne 2 (by decide)).symm,World.cell?_setCell_other _ ⟨g,o+1,none⟩ _ _ (hne 1 (by decide)).symm,World.cell?_setCell_other _ ⟨g,o,none⟩ _ _ (hne 0 (by decide)).symm]
end
end Go.Proofs.YtfdlmcgcckkkdaaGreatDoor
