/- ParseWhole, part 15: what it stands on. -/
import Derived.Test.YtfdlmcgcckkkdaaGreatDoorV14
import Derived.Deep.RegionWith
import Derived.RegionDies
set_option linter.all false
set_option maxHeartbeats 40000000
set_option maxRecDepth 100000
namespace Go.Proofs.YtfdlmcgcckkkdaaGreatDoor
section
open Go.RowKit Lx Px
theorem aD.okd{pb:Nat}{L:List T3}{w w':World}{t:T}{j:Nat}{e:Ending}(h:aD pb L w (.ok (t,j)) e w'):∃ k n a s ao m c,e=.returned (tg k n a s ao m c)∧TrC (Fr w) w' t (vT k n a s ao m c)∧Ok pb L j w w':=by
 rcases h.split with ⟨t',j',k,n,a,s,ao,m,c,h1,h2,h3,h4⟩|⟨a,h1,_⟩
 ·cases h1;exact⟨k,n,a,s,ao,m,c,h2,h3,h4⟩
 ·cases h1
theorem TrC.lit{av:Nat→Prop}{w w':World}{l:List T}{us:List Value}(h:aW av w l us)(hv:av w.heap.size)(hb:Below (w.alloc (.cells us.toArray 24)).heap.size (w.alloc (.cells us.toArray 24)) w')(k n a:Int)(s:ByteArray)(c:Nat)(hcap:l.length≤c:=by exact Nat.le_refl _):TrC av w' (.mk k n a s l) [.int .i64 k,.int .i64 n,.int .i64 a,.string s,.slice (some ⟨w.heap.size,0,none⟩) l.length c]:=by
 unfold TrC;have hn:=heap_alloc_new w (.cells us.toArray 24);have hs:=hb.size;have hsz:(w.alloc (.cells us.toArray 24)).heap.size=w.heap.size+1:=by simp
 have h':w'.heap[w.heap.size]?=some (.cells us.toArray 24 (0,0)):=(hb.block _ (by omega)).trans hn;refine⟨_,c,rfl,fun _=>⟨w.heap.size,0,us,rfl,hv,by omega,h.kept (fun _ hb _=>hb) (by omega) (fun b _ hl=>(hb.block b (by omega)).trans (Below.heap_alloc w _ b hl)),fun i u hi=>?_⟩,hcap⟩;rw[Nat.zero_add,cell_of_row w' _ i _ _ _ h']
 simpa using hi
theorem aW.two{av:Nat→Prop}{w:World}{x y:T}{us vs:List Value}(h:TrC av w x us)(k:TrC av w y vs):aW av w [x,y] (us++vs):=(aW.one h).app (aW.one k)
theorem vC{w w':World}{r:Option Nat}(h:w.drew.grownBy w' r):w.grownBy w' r:=⟨h.os,h.tape,h.output,h.size,h.block⟩
theorem aD.vC{pb:Nat}{L:List T3}{w w':World}{r:R T}{e:Ending}(h:aD pb L w.drew r e w'):aD pb L w r e w':=by
 cases r with
 | ok tj=>obtain⟨us,h1,h2,h3⟩:=h;exact⟨us,h1,h2,_root_.Go.Proofs.YtfdlmcgcckkkdaaGreatDoor.vC h3.1,h3.2⟩
 | error a=>exact⟨h.1,_root_.Go.Proofs.YtfdlmcgcckkkdaaGreatDoor.vC h.2⟩
theorem qT(pb:Nat)(L:List T3)(lo:Nat)(expr:Nat→R T)(up:∀ i,Up (i+1) (expr i))(hE:Reads 52 pb L (lo+1) expr):Reads 146 pb L lo (cU (lk L) expr):=by
 intro i w hi h;have hPart:=wU pb L lo expr up hE;have HU:=hdq (show cU (lk L) expr i=aB (iN (lk L) expr i) fun x j=>qG (lk L) expr i ((lk L).length+1) x j from rfl);go_enter Tryz.func146,Tryz.ntmps146;go_upto_region 1 with fail;obtain⟨t0,b0⟩:=tv0 w;generalize World.alloc w _=w0 at t0 b0 ⊢;have h0:=h.below b0;have hpl:=h.lt;have hpl0:=h0.lt;have hle:=h.le;have hbd:=h.bd;have hne:w.heap.size≠pb:=by omega
 have hlt0:=t0.lt;obtain⟨c0,_⟩:=h0.cells;go_upto_block 2 with fail;refine(hPart i _ hi h0).mono ?_;intro e w1 hp
 rcases hp.split with ⟨t,j,k,n,a,s,ao,m,c,hr1,rfl,ht,hok⟩|⟨a,hr1,rfl,hg⟩
 ·have hj:i+1≤j:=jK (lk L) up i t j hr1;have hok2:=hok.then (aC w1 (.cells (vT k n a s ao m c).toArray 24));have t1:=t0.step hne hok.1;have hlB:=t1.lt;replace t1:=t1.below (aC w1 (.cells (vT k n a s ao m c).toArray 24));have x1:=TV.new w1 k n a s (.slice ao m c);have ht1:TrC (fun b=>w0.heap.size≤b∧b≠w1.heap.size) (w1.alloc (.cells (vT k n a s ao m c).toArray 24)) t _:=ht.kept (fun b hb hl=>⟨hb,by omega⟩) (by simp) (fun b _ hl=>Below.heap_alloc w1 _ b hl);have hjl:=hok.2.le;have HR:=hdq (show cU (lk L) expr i=qG (lk L) expr i ((lk L).length+1) t j by rw[HU.out,hr1];rfl);have hB0:=hok.1.size;generalize hB:w1.heap.size=B at x1 hlB ht1 hB0;have hBpb:B≠pb:=by omega
  clear hp hr1 hok ht HU h t0 h0 c0;go_upto_region 3 with fail;replace hok2:Ok pb L j w0 (w1.alloc (.cells (tg k n a s ao m c) 24)):=hok2;replace t1:TV (w1.alloc (.cells (tg k n a s ao m c) 24)) w.heap.size _ _ _ _ _:=t1;replace ht1:TrC _ (w1.alloc (.cells (tg k n a s ao m c) 24)) _ _:=ht1;generalize w1.alloc (.cells (tg k n a s ao m c) 24)=w2 at x1 hok2 t1 ht1 ⊢
  go_loopg [] (L.length - j) (fun g wr => ∃ (x : T) (jj : Nat) (k n a : Int) (s : ByteArray) (ao : Option Addr) (m c q : Nat), TrC (fun b => w0.heap.size ≤ b ∧ b ≠ B) wr x (vT k n a s ao m c) ∧ TV wr B k n a s (.slice ao m c) ∧ Ok pb L jj w0 wr ∧
    TV wr w.heap.size (.int .i64 0) (.int .i64 0) (.int .i64 0) (.string ⟨#[]⟩) (.slice none 0 0) ∧ i + 1 ≤ jj ∧ g = L.length - jj ∧ L.length + 1 ≤ q + jj ∧ cU (lk L) expr i = qG (lk L) expr i q x jj)
  case atStart=>exact⟨t,j,k,n,a,s,ao,m,c,L.length+1,ht1,x1,hok2,t1,hj,rfl,by omega,by rw[HR.out,List.length_map]⟩
  case round=>
   obtain⟨x,jj,k,n,a,s,ao,m,c,q,hx,xv,hO,tv,hij,hg,hq0,hq⟩:=hrel;have HQ:=hdq hq;have HG:=hdq hg;clear hq hg hok2 HR t1 ht1 x1;have hjL:=hO.2.le;have hT:=iY pb L jj ⟨#[45,62]⟩ wr hO.2;obtain⟨q,rfl⟩:∃ q',q=q'+1:=⟨q - 1,by omega⟩
   cases hs:sgn (lk L) jj [⟨#[45,62]⟩] with
   | true=>
    rw[hs]at hT
    have HQ2 := hdq (show cU (lk L) expr i = aB (iN (lk L) expr (jj + 1)) fun y j' => qG (lk L) expr i q (node 4 i [x, y]) j' by
      rw [HQ.out]
      conv => lhs; unfold qG
      rw [if_pos (show sgn (lk L) jj [hJ] = true from hs)])
    have hjlt:=kR hs;clear HQ hs;go_upto_region 4 with (go_at_call 135;refine hT.mono ?_;rintro e w3 ⟨rfl,h3⟩);replace h3:Ok pb L (jj+1) wr w3:=h3;have hO3:=hO.trans h3;have t3:=tv.step hne h3.1;have x3:=xv.step hBpb h3.1;have hx3:TrC (fun b=>w0.heap.size≤b∧b≠B) w3 x (vT k n a s ao m c):=hx.kept (fun _ hb _=>hb) h3.1.size (fun b hb hl=>h3.1.block b hl (fun e=>by cases e;omega));clear hT hO h3 tv xv hx
    cases hr1:iN (lk L) expr (jj+1) with
    | error a'=>
     have hP:=(hPart (jj+1) w3.drew (by omega) (hO3.2.drewN 1)).mono (fun _ _ h=>h.vC);rw[hr1]at hP;have HE:=hdq (show cU (lk L) expr i=.error a' by rw[HQ2.out,hr1];rfl);have:=TV.facts x3
     go_region_dies
     all_goals
      refine hP.mono ?_;rintro e w4 ⟨rfl,hg4⟩;unfold pan;exact⟨rfl,aD.err a' HE.out ((aF _ b0).trans (hO3.1.trans hg4))⟩
    | ok yj=>
     obtain⟨y,j'⟩:=yj;have hP:=(hPart (jj+1) w3.drew (by omega) (hO3.2.drewN 1)).mono (fun _ _ h=>h.vC);rw[hr1]at hP;have HQ3:=hdq (show cU (lk L) expr i=qG (lk L) expr i q (node 4 i [x,y]) j' by rw[HQ2.out,hr1];rfl);have hj':jj+2≤j':=jK (lk L) up (jj+1) y j' hr1;clear hr1 HQ2;have:=TV.facts x3
     go_region_with (first|(go_at_call 160;go_loud (refine hP.mono ?_;intro e w4 hp;obtain⟨k',n',a',s',ao',m',c',rfl,hy,hok⟩:=hp.okd;have x4:=x3.step hBpb hok.1;have:=TV.facts x4))|(go_at_call 97;refine(iZ _ _ _ _ _ _).mono ?_;rintro e w5 ⟨rfl,hb5⟩;have x5:=(x4.below (aC w4 _)).below hb5;have:=TV.facts x5))
     all_goals
      have hlB3:=x3.lt;have hx4:TrC (fun b=>w0.heap.size≤b∧b≠B) w4 x (vT k n a s ao m c):=hx3.kept (fun _ hb _=>hb) hok.1.size (fun b hb hl=>hok.1.block b hl (fun e=>by cases e;omega));have hy4:TrC (fun b=>w0.heap.size≤b∧b≠B) w4 y (vT k' n' a' s' ao' m' c'):=hy.kept (fun b hb _=>by unfold Fr at hb;have:=hO3.1.size;exact⟨by omega,by omega⟩) (Nat.le_refl _) (fun _ _ _=>rfl);have hxy:=TrC.lit (aW.two hx4 hy4) (w':=w5) ⟨(hO3.trans hok).1.size,Nat.ne_of_gt x4.lt⟩ hb5 4 0 i ⟨#[]⟩ 2;have hO5:=((hO3.trans hok).then (aC w4 _)).then hb5;have t5:=((t3.step hne hok.1).below (aC w4 _)).below hb5;have hjl':=hO5.2.le;go_wp2_with fail
      go_roundg (L.length - j')
      case measure=>rw[HG.out];omega
      case rel=>exact⟨node 4 i [x,y],j',4,0,i,⟨#[]⟩,some ⟨w4.heap.size,0,none⟩,2,2,q,hxy.oM (fun b hb _=>hb.2) _ _ _ _ _,x5.set _ _ _ _ _,hO5.oM hpl0 (by omega) _ _ _ _ _,(nV (by omega) _ _ _ _ _ _).trans t5,by omega,rfl,by omega,HQ3.out⟩
   | false=>
    rw[hs]at hT
    have HQ2 := hdq (show cU (lk L) expr i = .ok (x, jj) by
      rw [HQ.out]
      unfold qG
      rw [if_neg (by rw [show sgn (lk L) jj [hJ] = false from hs]; decide)])
    clear HQ hs;go_wp2_with (go_at_call 135;refine hT.mono ?_;rintro e w3 ⟨rfl,h3⟩;have t3:=tv.step hne h3.1;have x3:=xv.step hBpb h3.1;have:=TV.facts x3;have:=TV.facts t3);refine rtv (t3.set _ _ _ _ _) Tryz.results146 ?_;have hx3:TrC (fun b=>w0.heap.size≤b∧b≠B) w3 x (vT k n a s ao m c):=hx.kept (fun _ hb _=>hb) h3.1.size (fun b hb hl=>h3.1.block b hl (fun e=>by cases e;omega));exact aD.ok HQ2.out (vT k n a s ao m c) rfl ((hx3.oM (fun b hb hl=>by omega) _ _ _ _ _).kept (fun b hb _=>Nat.le_trans b0.size hb.1) (Nat.le_refl _) (fun _ _ _=>rfl)) ((Ok.below b0 (hO.trans h3)).oM hpl (Nat.le_refl _) _ _ _ _ _)
 ·unfold pan;go_wp2_with fail;exact⟨rfl,aD.err a (by rw[HU.out,hr1];rfl) ((aF _ b0).trans hg)⟩
theorem bJ.FH(w:World)(ss:List ByteArray)(cs:Array Value)(hc:cs=(ss.map Value.string).toArray)(n:Nat)(hn:n=ss.length):bJ (w.alloc (.cells cs 9)) (.slice (some ⟨w.heap.size,0,none⟩) n n) ss:=by
 subst hc hn;refine⟨_,0,_,rfl,by simp,fun j hj=>?_⟩;rw[Nat.zero_add,cell_of_row _ _ j _ _ _ (heap_alloc_new w _)]
 simp[List.getElem!_eq_getElem?_getD,List.getElem?_eq_getElem hj]
theorem PS.text{w:World}{pb:Nat}{L:List T3}{i j:Nat}(h:PS w pb L j)(hi:i<L.length):∃ b off cap,w.cell? ⟨pb,0,none⟩=some (.slice (some ⟨b,off,none⟩) L.length cap)∧w.cell? ⟨b,off+i*3+1,none⟩=some (.string (tok (lk L) i).text)∧b<pb:=by
 obtain⟨ao,cap,h1,h2⟩:=h.blk;obtain⟨b,off,rfl,_,hn,hc⟩:=h2 (by intro e;rw[e]at hi;simp at hi);refine⟨b,off,cap,cell_of_row _ _ 0 _ _ _ h1,?_,hn⟩;rw[show tok (lk L) i=_ from Bw hi];exact hc i hi 1 _ rfl
theorem CZ(L:List Tk)(f i:Nat):eB L (f+1) i=if sgn L i [dN,bP,kJ]then aB (eB L f (i+1)) fun x j=>.ok (.mk 5 0 i (tok L i).text [x],j)else if sgn L i [sLP]then aB (pC L f (i+1)) fun x j=>aB (aM L j sRP) fun _ j'=>.ok (x,j')else if bQ L i then bH L i else cU L (pC L f) i:=by
 conv=>lhs;unfold eB
 rfl
theorem Gv(pb:Nat)(L:List T3)(lo f:Nat)(hUn:Reads 123 pb L (lo+1) (eB (lk L) f))(hE:Reads 52 pb L (lo+1) (pC (lk L) f)):Reads 123 pb L lo (eB (lk L) (f+1)):=by
 intro i w hi h;have HU:=hdq (CZ (lk L) f i);go_enter Tryz.func123,Tryz.ntmps123;go_upto_region 1 with fail;obtain⟨t0,b0⟩:=tv0 w;generalize World.alloc w _=w0 at t0 b0 ⊢;have h0:=h.below b0;have hpl:=h.lt;have hpl0:=h0.lt;have hle:=h.le;have hbd:=h.bd;have hne:w.heap.size≠pb:=by omega
 have hlt0:=t0.lt;have hS:=oR pb L i 0 (by decide) (.slice (some ⟨w0.heap.size,0,none⟩) 3 3) [dN,bP,kJ] (by decide) _ (h0.below (aC w0 (.cells #[.string ⟨#[43]⟩,.string ⟨#[45]⟩,.string ⟨#[94]⟩] 9))) (bJ.FH w0 [dN,bP,kJ] _ rfl 3 rfl);rw[Nat.add_zero]at hS
 cases hs:sgn (lk L) i [dN,bP,kJ] with
 | true=>
  have hlt:=kR hs;have HQ:=hdq (show eB (lk L) (f+1) i=aB (eB (lk L) f (i+1)) fun x j=>.ok (.mk 5 0 i (tok (lk L) i).text [x],j)by rw[HU.out,if_pos hs]);rw[hs]at hS;clear hs HU;go_upto_region 2 with (go_at_call 124;refine hS.mono ?_;rintro e w1 ⟨rfl,hb⟩);have B1:=aT _ _ _ hb;have h1:=h0.below B1;have t1:=t0.below B1;obtain⟨c1,f1⟩:=h1.cells;clear hS hb h0 t0;go_upto_region 4 with fail;have g2:=dJ w1 pb 1 (.int .i64 ((i:Int)+1));have h2:PS (w1.setCell ⟨pb,1,none⟩ (.int .i64 ((i:Int)+1))) pb L (i+1):=h1.set (i+1) (by omega);have t2:=t1.step hne g2;have hO2:Ok pb L (i+1) w (w1.setCell ⟨pb,1,none⟩ (.int .i64 ((i:Int)+1))):=⟨(aF _ (b0.trans (B1.mono b0.size))).trans g2,h2⟩
  generalize w1.setCell ⟨pb,1,none⟩ (.int .i64 ((i:Int)+1))=w2 at h2 t2 hO2 ⊢;clear c1 f1 g2 t1 h1;obtain⟨b,off,cap,k0,c1,hb⟩:=h2.text hlt;have hlt':(i:Int)<(L.length:Int):=by omega
  have hge:(0:Int)≤(i:Int):=by omega
  have hP:=(hUn (i+1) w2.drew (by omega) (h2.drewN 1)).mono (fun _ _ h=>h.vC)
  cases hr1:eB (lk L) f (i+1) with
  | error a'=>
   rw[hr1]at hP;have HE:=hdq (show eB (lk L) (f+1) i=.error a' by rw[HQ.out,hr1];rfl);clear HQ hr1;have:=TV.facts t2
   go_region_dies
   all_goals
    refine hP.mono ?_;rintro e w4 ⟨rfl,hg4⟩;unfold pan;exact⟨rfl,aD.err a' HE.out (hO2.1.trans hg4)⟩
  | ok yj=>
   obtain⟨y,j'⟩:=yj;rw[hr1]at hP;have HR:=hdq (show eB (lk L) (f+1) i=.ok (.mk 5 0 i (tok (lk L) i).text [y],j')by rw[HQ.out,hr1];rfl);clear HQ hr1;generalize htx:(tok (lk L) i).text=tx at c1 HR;have HTX:=hdq htx;clear htx;have:=TV.facts t2
   go_region_with (go_at_call 123;go_loud (refine hP.mono ?_;intro e w4 hp;obtain⟨k',n',a',s',ao',m',c',rfl,hy,hok⟩:=hp.okd;have t4:=t2.step hne hok.1;have:=TV.facts t4;have c1':=(World.cell?_of_block (a:=⟨b,off+i*3+1,none⟩) (hok.1.block b (by have:=h2.lt;show b<_;omega) (fun e=>by cases e;omega))).trans c1;obtain⟨b',off',cap',k0',c1'',hb'⟩:=hok.2.text hlt;rw[HTX.out]at c1'';have ba:=aC w4 (.cells (tg k' n' a' s' ao' m' c') 24);have ta:=t4.below ba;have:=TV.facts ta;have hb4:b<w4.heap.size:=Nat.lt_trans hb hok.2.lt;have e1:=(ba.cell (p:=⟨b,off+i*3+1,none⟩) hb4).trans c1';have e2:=(ba.cell (p:=⟨b',off'+i*3+1,none⟩) (Nat.lt_trans hb' hok.2.lt)).trans c1'';have e3:=(ba.cell (p:=⟨pb,0,none⟩) hok.2.lt).trans k0'))
   all_goals
    have hlw2:=t2.lt;have hT5:=(TrC.lit (aW.one hy) (show Fr w2 w4.heap.size from hok.1.size) (Below.refl _ _) 5 0 i tx 1).oM (B:=w.heap.size) (fun b hb _=>by unfold Fr at hb;omega) (.int .i64 5) (.int .i64 0) i tx (.slice (some ⟨w4.heap.size,0,none⟩) 1 1);have hO5:=((hO2.trans hok).then (aC w4 (.cells (vT k' n' a' s' ao' m' c').toArray 24))).oM hpl (Nat.le_refl _) (.int .i64 5) (.int .i64 0) i tx (.slice (some ⟨w4.heap.size,0,none⟩) 1 1);go_wp2_with fail;refine rtv (ta.set _ _ _ _ _) Tryz.results123 ?_;exact aD.ok HR.out (vT 5 0 i tx (some ⟨w4.heap.size,0,none⟩) 1 1) rfl (hT5.since hO2.1.size) hO5
 | false=>
  have HQ := hdq (show eB (lk L) (f + 1) i = if sgn (lk L) i [sLP] then aB (pC (lk L) f (i + 1)) fun x j => aB (aM (lk L) j sRP) fun _ j' => .ok (x, j')
    else if bQ (lk L) i then bH (lk L) i else cU (lk L) (pC (lk L) f) i by rw [HU.out, if_neg (by rw [hs]; decide)])
  rw[hs]at hS;clear hs HU;go_upto_region 5 with (go_at_call 124;refine hS.mono ?_;rintro e w1 ⟨rfl,hb⟩);have B1:=aT _ _ _ hb;have h1:=h0.below B1;have t1:=t0.below B1;have hO1:Ok pb L i w w1:=⟨aF _ (b0.trans (B1.mono b0.size)),h1⟩
  have hsz1:=B1.size;clear hS hb h0 t0 B1;have hT:=iY pb L i ⟨#[40]⟩ w1 h1
  cases hs:sgn (lk L) i [⟨#[40]⟩] with
  | true=>
   have HQ2:=hdq (show eB (lk L) (f+1) i=aB (pC (lk L) f (i+1)) fun x j=>aB (aM (lk L) j sRP) fun _ j'=>.ok (x,j')by rw[HQ.out,if_pos (show sgn (lk L) i [sLP]=true from hs)]);rw[hs]at hT;clear hs HQ;go_upto_block 6 with (go_at_call 135;refine hT.mono ?_;rintro e w2 ⟨rfl,h2⟩);replace h2:Ok pb L (i+1) w1 w2:=h2;have t2:=t1.step hne h2.1;have hO2:=hO1.trans h2;clear hT;refine(hE (i+1) w2 (by omega) h2.2).mono ?_;intro e w3 hp
   rcases hp.split with ⟨t,j,k,n,a,s,ao,m,c,hr1,rfl,ht,hok⟩|⟨a,hr1,rfl,hg⟩
   ·have HQ3:=hdq (show eB (lk L) (f+1) i=aB (aM (lk L) j sRP) fun _ j'=>.ok (t,j')by rw[HQ2.out,hr1];rfl);have t3:=t2.step hne hok.1;have hlB:=t3.lt;have x4:=TV.new w3 k n a s (.slice ao m c);have t4:=t3.below (aC w3 (.cells (tg k n a s ao m c) 24));have hO4:=(hO2.trans hok).then (aC w3 (.cells (tg k n a s ao m c) 24));have ht4:=ht.step h2.2.lt (aF (some pb) (aC w3 (.cells (tg k n a s ao m c) 24)));have hlw2:=t2.lt;clear hp hr1 HQ2 hok ht t3;go_upto_region 7 with fail;generalize w3.alloc (.cells (tg k n a s ao m c) 24)=w4 at x4 t4 hO4 ht4 ⊢;generalize w3.heap.size=B at x4 hlB ⊢;have hnB:B≠pb:=by omega
    have hN:=Ac pb L j ⟨#[41]⟩ w4 hO4.2;go_upto_block 7 with fail;refine hN.mono ?_;intro e w5 hq
    rcases hq.split with ⟨j2,hr2,rfl,hok2⟩|⟨a,hr2,rfl,hg2⟩
    ·have t5:=t4.step hne hok2.1;have x5:=x4.step hnB hok2.1;have ht5:=ht4.step h2.2.lt hok2.1;have:=TV.facts t5;have:=TV.facts x5;go_wp2_with fail;refine rtv (t5.set _ _ _ _ _) Tryz.results123 ?_;exact aD.ok (by rw[HQ3.out,show aM (lk L) j sRP=_ from hr2];rfl) (vT k n a s ao m c) rfl ((ht5.oM (fun b hb hl=>by unfold Fr at hb;omega) _ _ _ _ _).since hO2.1.size) ((hO4.trans hok2).oM hpl (Nat.le_refl _) _ _ _ _ _)
    ·unfold pan;go_wp2_with fail;exact⟨rfl,aD.err a (by rw[HQ3.out,show aM (lk L) j sRP=_ from hr2];rfl) (hO4.1.trans hg2)⟩
   ·unfold pan;go_wp2_with fail;exact⟨rfl,aD.err a (by rw[HQ2.out,hr1];rfl) (hO2.1.trans hg)⟩
  | false=>
   have HQ2:=hdq (show eB (lk L) (f+1) i=if bQ (lk L) i then bH (lk L) i else cU (lk L) (pC (lk L) f) i by rw[HQ.out,if_neg (by rw[show sgn (lk L) i [sLP]=false from hs];decide)]);rw[hs]at hT;clear hs HQ;go_upto_block 9 with (go_at_call 135;refine hT.mono ?_;rintro e w2 ⟨rfl,h2⟩);replace h2:Ok pb L i w1 w2:=h2;have t2:=t1.step hne h2.1;have hO2:=hO1.trans h2;clear hT;have hC:=gF pb L i 0 (by decide) w2 h2.2;rw[Nat.add_zero]at hC;refine hC.mono ?_;rintro e w3 ⟨rfl,hb3⟩;have t3:=t2.below hb3;have hO3:=hO2.then hb3;have hlw3:=t3.lt
   cases hc:bQ (lk L) i with
   | true=>
    have HR:=hdq (show eB (lk L) (f+1) i=bH (lk L) i by rw[HQ2.out,if_pos hc]);clear HQ2 hC hc;go_upto_block 10 with fail;refine(eC pb L i w3 hO3.2).mono ?_;intro e w4 hp
    rcases hp.split with ⟨t,j,k,n,a,s,ao,m,c,hr1,rfl,ht,hok⟩|⟨a,hr1,rfl,hg⟩
    ·have t4:=t3.step hne hok.1;have:=TV.facts t4;clear hp;go_wp2_with fail;refine rtv (t4.set _ _ _ _ _) Tryz.results123 ?_;exact aD.ok (by rw[HR.out,hr1]) (vT k n a s ao m c) rfl ((ht.oM (fun b hb hl=>by unfold Fr at hb;omega) _ _ _ _ _).since hO3.1.size) ((hO3.trans hok).oM hpl (Nat.le_refl _) _ _ _ _ _)
    ·unfold pan;go_wp2_with fail;exact⟨rfl,aD.err a (by rw[HR.out,hr1]) (hO3.1.trans hg)⟩
   | false=>
    have HR:=hdq (show eB (lk L) (f+1) i=cU (lk L) (pC (lk L) f) i by rw[HQ2.out,if_neg (by rw[hc];decide)]);clear HQ2 hC hc;go_upto_block 11 with fail;refine(qT pb L lo (pC (lk L) f) (EK (lk L) f) hE i w3 hi hO3.2).mono ?_;intro e w4 hp
    rcases hp.split with ⟨t,j,k,n,a,s,ao,m,c,hr1,rfl,ht,hok⟩|⟨a,hr1,rfl,hg⟩
    ·have t4:=t3.step hne hok.1;have:=TV.facts t4;clear hp;go_wp2_with fail;refine rtv (t4.set _ _ _ _ _) Tryz.results123 ?_;exact aD.ok (by rw[HR.out,hr1]) (vT k n a s ao m c) rfl ((ht.oM (fun b hb hl=>by unfold Fr at hb;omega) _ _ _ _ _).since hO3.1.size) ((hO3.trans hok).oM hpl (Nat.le_refl _) _ _ _ _ _)
    ·unfold pan;go_wp2_with fail;exact⟨rfl,aD.err a (by rw[HR.out,hr1]) (hO3.1.trans hg)⟩
theorem jI(w:World):Calls Tryz.prog 116 #[] w fun e w'=>(∃ v0 v1 v2 v3 v4 v5,e=.returned (.agg #[v0,v1,v2,v3,v4,v5])∧bJ w' v0 (eO 0)∧bJ w' v1 (eO 1)∧bJ w' v2 (eO 2)∧bJ w' v3 (eO 3)∧bJ w' v4 (eO 4)∧bJ w' v5 (eO 5))∧Below w.heap.size w w':=by
 go_enter Tryz.func116,Tryz.ntmps116;go_wp2_with fail;have n1:=heap_alloc_new w (.cells #[Value.slice (some ⟨w.heap.size+1,0,none⟩) 1 1,Value.slice (some ⟨w.heap.size+1+1,0,none⟩) 1 1,Value.slice (some ⟨w.heap.size+1+1+1,0,none⟩) 8 8,Value.slice (some ⟨w.heap.size+1+1+1+1,0,none⟩) 1 1,Value.slice (some ⟨w.heap.size+1+1+1+1+1,0,none⟩) 2 2,Value.slice (some ⟨w.heap.size+1+1+1+1+1+1,0,none⟩) 2 2] 155);have b1:=aC w (.cells #[Value.slice (some ⟨w.heap.size+1,0,none⟩) 1 1,Value.slice (some ⟨w.heap.size+1+1,0,none⟩) 1 1,Value.slice (some ⟨w.heap.size+1+1+1,0,none⟩) 8 8,Value.slice (some ⟨w.heap.size+1+1+1+1,0,none⟩) 1 1,Value.slice (some ⟨w.heap.size+1+1+1+1+1,0,none⟩) 2 2,Value.slice (some ⟨w.heap.size+1+1+1+1+1+1,0,none⟩) 2 2] 155);have z1:(w.alloc (.cells #[Value.slice (some ⟨w.heap.size+1,0,none⟩) 1 1,Value.slice (some ⟨w.heap.size+1+1,0,none⟩) 1 1,Value.slice (some ⟨w.heap.size+1+1+1,0,none⟩) 8 8,Value.slice (some ⟨w.heap.size+1+1+1+1,0,none⟩) 1 1,Value.slice (some ⟨w.heap.size+1+1+1+1+1,0,none⟩) 2 2,Value.slice (some ⟨w.heap.size+1+1+1+1+1+1,0,none⟩) 2 2] 155)).heap.size=w.heap.size+1:=by simp
 generalize w.alloc (.cells #[Value.slice (some ⟨w.heap.size+1,0,none⟩) 1 1,Value.slice (some ⟨w.heap.size+1+1,0,none⟩) 1 1,Value.slice (some ⟨w.heap.size+1+1+1,0,none⟩) 8 8,Value.slice (some ⟨w.heap.size+1+1+1+1,0,none⟩) 1 1,Value.slice (some ⟨w.heap.size+1+1+1+1+1,0,none⟩) 2 2,Value.slice (some ⟨w.heap.size+1+1+1+1+1+1,0,none⟩) 2 2] 155)=W1 at n1 b1 z1 ⊢;have s0:=bJ.FH W1 (eO 0) _ rfl 1 rfl;replace s0:bJ (W1.alloc (.cells #[.string ⟨#[124]⟩] 9)) _ (eO 0):=s0;rw[z1]at s0;have z2:(W1.alloc (.cells #[.string ⟨#[124]⟩] 9)).heap.size=w.heap.size+1+1:=by simp[z1]
 have c2:=aC W1 (.cells #[.string ⟨#[124]⟩] 9);generalize W1.alloc (.cells #[.string ⟨#[124]⟩] 9)=W2 at s0 z2 c2 ⊢;have b2:=b1.trans (c2.mono b1.size);have n2:=(c2.block w.heap.size (by omega)).trans n1;have s1:=bJ.FH W2 (eO 1) _ rfl 1 rfl;replace s1:bJ (W2.alloc (.cells #[.string ⟨#[38]⟩] 9)) _ (eO 1):=s1;rw[z2]at s1;have z3:(W2.alloc (.cells #[.string ⟨#[38]⟩] 9)).heap.size=w.heap.size+1+1+1:=by simp[z2]
 have c3:=aC W2 (.cells #[.string ⟨#[38]⟩] 9);generalize W2.alloc (.cells #[.string ⟨#[38]⟩] 9)=W3 at s1 z3 c3 ⊢;have b3:=b2.trans (c3.mono b2.size);have n3:=(c3.block w.heap.size (by omega)).trans n2;replace s0:=s0.below c3;have s2:=bJ.FH W3 (eO 2) _ rfl 8 rfl;replace s2:bJ (W3.alloc (.cells #[.string ⟨#[61]⟩,.string ⟨#[94,61]⟩,.string ⟨#[60]⟩,.string ⟨#[60,61]⟩,.string ⟨#[62]⟩,.string ⟨#[62,61]⟩,.string ⟨#[94,60]⟩,.string ⟨#[94,62]⟩] 9)) _ (eO 2):=s2;rw[z3]at s2;have z4:(W3.alloc (.cells #[.string ⟨#[61]⟩,.string ⟨#[94,61]⟩,.string ⟨#[60]⟩,.string ⟨#[60,61]⟩,.string ⟨#[62]⟩,.string ⟨#[62,61]⟩,.string ⟨#[94,60]⟩,.string ⟨#[94,62]⟩] 9)).heap.size=w.heap.size+1+1+1+1:=by simp[z3]
 have c4:=aC W3 (.cells #[.string ⟨#[61]⟩,.string ⟨#[94,61]⟩,.string ⟨#[60]⟩,.string ⟨#[60,61]⟩,.string ⟨#[62]⟩,.string ⟨#[62,61]⟩,.string ⟨#[94,60]⟩,.string ⟨#[94,62]⟩] 9);generalize W3.alloc (.cells #[.string ⟨#[61]⟩,.string ⟨#[94,61]⟩,.string ⟨#[60]⟩,.string ⟨#[60,61]⟩,.string ⟨#[62]⟩,.string ⟨#[62,61]⟩,.string ⟨#[94,60]⟩,.string ⟨#[94,62]⟩] 9)=W4 at s2 z4 c4 ⊢;have b4:=b3.trans (c4.mono b3.size);have n4:=(c4.block w.heap.size (by omega)).trans n3;replace s0:=s0.below c4;replace s1:=s1.below c4;have s3:=bJ.FH W4 (eO 3) _ rfl 1 rfl;replace s3:bJ (W4.alloc (.cells #[.string ⟨#[124,124]⟩] 9)) _ (eO 3):=s3;rw[z4]at s3;have z5:(W4.alloc (.cells #[.string ⟨#[124,124]⟩] 9)).heap.size=w.heap.size+1+1+1+1+1:=by simp[z4]
 have c5:=aC W4 (.cells #[.string ⟨#[124,124]⟩] 9);generalize W4.alloc (.cells #[.string ⟨#[124,124]⟩] 9)=W5 at s3 z5 c5 ⊢;have b5:=b4.trans (c5.mono b4.size);have n5:=(c5.block w.heap.size (by omega)).trans n4;replace s0:=s0.below c5;replace s1:=s1.below c5;replace s2:=s2.below c5;have s4:=bJ.FH W5 (eO 4) _ rfl 2 rfl;replace s4:bJ (W5.alloc (.cells #[.string ⟨#[43]⟩,.string ⟨#[45]⟩] 9)) _ (eO 4):=s4;rw[z5]at s4;have z6:(W5.alloc (.cells #[.string ⟨#[43]⟩,.string ⟨#[45]⟩] 9)).heap.size=w.heap.size+1+1+1+1+1+1:=by simp[z5]
 have c6:=aC W5 (.cells #[.string ⟨#[43]⟩,.string ⟨#[45]⟩] 9);generalize W5.alloc (.cells #[.string ⟨#[43]⟩,.string ⟨#[45]⟩] 9)=W6 at s4 z6 c6 ⊢;have b6:=b5.trans (c6.mono b5.size);have n6:=(c6.block w.heap.size (by omega)).trans n5;replace s0:=s0.below c6;replace s1:=s1.below c6;replace s2:=s2.below c6;replace s3:=s3.below c6;have s5:=bJ.FH W6 (eO 5) _ rfl 2 rfl;replace s5:bJ (W6.alloc (.cells #[.string ⟨#[42]⟩,.string ⟨#[47]⟩] 9)) _ (eO 5):=s5;rw[z6]at s5;have z7:(W6.alloc (.cells #[.string ⟨#[42]⟩,.string ⟨#[47]⟩] 9)).heap.size=w.heap.size+1+1+1+1+1+1+1:=by simp[z6]
 have c7:=aC W6 (.cells #[.string ⟨#[42]⟩,.string ⟨#[47]⟩] 9);generalize W6.alloc (.cells #[.string ⟨#[42]⟩,.string ⟨#[47]⟩] 9)=W7 at s5 z7 c7 ⊢;have b7:=b6.trans (c7.mono b6.size);have n7:=(c7.block w.heap.size (by omega)).trans n6;replace s0:=s0.below c7;replace s1:=s1.below c7;replace s2:=s2.below c7;replace s3:=s3.below c7;replace s4:=s4.below c7;have q0:=cell_of_row W7 w.heap.size 0 _ _ _ n7;have q1:=cell_of_row W7 w.heap.size 1 _ _ _ n7;have q2:=cell_of_row W7 w.heap.size 2 _ _ _ n7;have q3:=cell_of_row W7 w.heap.size 3 _ _ _ n7;have q4:=cell_of_row W7 w.heap.size 4 _ _ _ n7;have q5:=cell_of_row W7 w.heap.size 5 _ _ _ n7;refine bodyPost_ret (v:=.agg #[Value.slice (some ⟨w.heap.size+1,0,none⟩) 1 1,Value.slice (some ⟨w.heap.size+1+1,0,none⟩) 1 1,Value.slice (some ⟨w.heap.size+1+1+1,0,none⟩) 8 8,Value.slice (some ⟨w.heap.size+1+1+1+1,0,none⟩) 1 1,Value.slice (some ⟨w.heap.size+1+1+1+1+1,0,none⟩) 2 2,Value.slice (some ⟨w.heap.size+1+1+1+1+1+1,0,none⟩) 2 2]) (by simp[results,Tryz.results116,go_sem,q0,q1,q2,q3,q4,q5]) rfl ⟨⟨_,_,_,_,_,_,rfl,s0,s1,s2,s3,s4,s5⟩,b7⟩
end
end Go.Proofs.YtfdlmcgcckkkdaaGreatDoor
