/- ParseWhole, part 16: what it stands on. -/
import Derived.Test.YtfdlmcgcckkkdaaGreatDoorV15
set_option linter.all false
set_option maxHeartbeats 40000000
set_option maxRecDepth 100000
namespace Go.Proofs.YtfdlmcgcckkkdaaGreatDoor
section
open Go.RowKit Lx Px
theorem IW(n:Nat)(hn:n<6)(v0 v1 v2 v3 v4 v5:Value)(w:World)(h0:bJ w v0 (eO 0))(h1:bJ w v1 (eO 1))(h2:bJ w v2 (eO 2))(h3:bJ w v3 (eO 3))(h4:bJ w v4 (eO 4))(h5:bJ w v5 (eO 5)):∃ v,bJ w v (eO n)∧∀ w',(Instr.index 155 (.agg #[v0,v1,v2,v3,v4,v5]) (.int .i64 n)).run Tryz.prog w'=.ok v w':=by
 rcases (by omega:n=0∨n=1∨n=2∨n=3∨n=4∨n=5)with rfl|rfl|rfl|rfl|rfl|rfl
 ·exact⟨v0,h0,fun w'=>by kernel_rfl⟩
 ·exact⟨v1,h1,fun w'=>by kernel_rfl⟩
 ·exact⟨v2,h2,fun w'=>by kernel_rfl⟩
 ·exact⟨v3,h3,fun w'=>by kernel_rfl⟩
 ·exact⟨v4,h4,fun w'=>by kernel_rfl⟩
 ·exact⟨v5,h5,fun w'=>by kernel_rfl⟩
theorem BR(n:Nat)(hn:n<6):(eO n).length≤1000:=by
 rcases (by omega:n=0∨n=1∨n=2∨n=3∨n=4∨n=5)with rfl|rfl|rfl|rfl|rfl|rfl<;>decide
theorem DZ(pb:Nat)(L:List T3)(lo:Nat)(prim:Nat→R T)(hUn:Reads 123 pb L lo prim)(i:Nat)(hi:lo≤i)(w:World)(h:PS w pb L i):Calls Tryz.prog 83 #[pq pb,.int .i64 (6:Nat)] w (aD pb L w (prim i)):=by
 go_enter Tryz.func83,Tryz.ntmps83;go_upto_region 1 with fail;obtain⟨t0,b0⟩:=tv0 w;generalize World.alloc w _=w0 at t0 b0 ⊢;have h0:=h.below b0;have hpl:=h.lt;have hne:w.heap.size≠pb:=by omega
 go_upto_block 2 with (go_at_call 116;refine(jI _).mono ?_;rintro e w1 ⟨⟨v0,v1,v2,v3,v4,v5,rfl,_⟩,hb1⟩);have h1:=h0.below hb1;have t1:=t0.below hb1;have hO1:Ok pb L i w w1:=⟨aF _ (b0.trans (hb1.mono b0.size)),h1⟩
 have hlw:=t1.lt;refine(hUn i w1 hi h1).mono ?_;intro e w4 hp
 rcases hp.split with ⟨t,j,k,n,a,s,ao,m,c,hr1,rfl,ht,hok⟩|⟨a,hr1,rfl,hg⟩
 ·have t4:=t1.step hne hok.1;have:=TV.facts t4;have HR:=hdq hr1;clear hp hr1;go_wp2_with fail;refine rtv (t4.set _ _ _ _ _) Tryz.results83 ?_;exact aD.ok HR.out (vT k n a s ao m c) rfl ((ht.oM (fun b hb hl=>by unfold Fr at hb;omega) _ _ _ _ _).since hO1.1.size) ((hO1.trans hok).oM hpl (Nat.le_refl _) _ _ _ _ _)
 ·unfold pan;have HR:=hdq hr1;clear hp hr1;go_wp2_with fail;exact⟨rfl,aD.err a HR.out (hO1.1.trans hg)⟩
theorem CJ(pb:Nat)(L:List T3)(lo:Nat)(prim:Nat→R T)(up:∀ i,Up (i+1) (prim i))(q:Nat)(hq:q<6)(ih:∀ i w,lo≤i→PS w pb L i→Calls Tryz.prog 83 #[pq pb,.int .i64 ((6 - q:Nat):Int)] w (aD pb L w (tG (lk L) prim q i)))(i:Nat)(hi:lo≤i)(w:World)(h:PS w pb L i):Calls Tryz.prog 83 #[pq pb,.int .i64 ((5 - q:Nat):Int)] w (aD pb L w (tG (lk L) prim (q+1) i)):=by
 have upq:=Az (lk L) up q;have HU:=hdq (show tG (lk L) prim (q+1) i=aB (tG (lk L) prim q i) fun x j=>nF (lk L) (tG (lk L) prim q) (eO (5 - q)) i ((lk L).length+1) x j from rfl);have hv:((6 - q:Nat):Int)=((5 - q:Nat):Int)+1:=by omega
 have hlv6:¬ ((5 - q:Nat):Int)=6:=by omega
 have hlev:=IW (5 - q) (by omega);have hol:=BR (5 - q) (by omega);rw[hv]at ih;generalize hlv:5 - q=lv at hlev hlv6 ih HU hol ⊢;have hlv5:lv≤5:=by omega
 go_enter Tryz.func83,Tryz.ntmps83;go_upto_region 1 with fail;obtain⟨t0,b0⟩:=tv0 w;generalize World.alloc w _=w0 at t0 b0 ⊢;have h0:=h.below b0;have hpl:=h.lt;have hbd:=h.bd;have hle:=h.le;have hne:w.heap.size≠pb:=by omega
 go_upto_region 3 with (go_at_call 116;refine(jI _).mono ?_;rintro e w1 ⟨⟨v0,v1,v2,v3,v4,v5,rfl,_⟩,hb1⟩);have h1:=h0.below hb1;have t1:=t0.below hb1;have hO1:Ok pb L i w w1:=⟨aF _ (b0.trans (hb1.mono b0.size)),h1⟩
 have hlw:=t1.lt;obtain⟨c1,_⟩:=h1.cells;go_upto_block 4 with fail;refine(ih i w1 hi h1).mono ?_;intro e w2 hp
 rcases hp.split with ⟨t,j,k,n,a,s,ao,m,c,hr1,rfl,ht,hok⟩|⟨a,hr1,rfl,hg⟩
 ·have hj:i+1≤j:=upq i t j hr1;have hok2:=(hO1.trans hok).then (aC w2 (.cells (vT k n a s ao m c).toArray 24));have t2:=t1.step hne hok.1;have hlB:=t2.lt;replace t2:=t2.below (aC w2 (.cells (vT k n a s ao m c).toArray 24));have x2:=TV.new w2 k n a s (.slice ao m c);have hw01:=hO1.1.size;have ht2:TrC (fun b=>w1.heap.size≤b∧b≠w2.heap.size) (w2.alloc (.cells (vT k n a s ao m c).toArray 24)) t _:=ht.kept (fun b hb hl=>⟨hb,by omega⟩) (by simp) (fun b _ hl=>Below.heap_alloc w2 _ b hl);have hjl:=hok.2.le;have hB0:=hok.1.size;have HR:=hdq (show tG (lk L) prim (q+1) i=nF (lk L) (tG (lk L) prim q) (eO lv) i ((lk L).length+1) t j by rw[HU.out,hr1];rfl);generalize hB:w2.heap.size=B at x2 hlB ht2 hB0;have hBpb:B≠pb:=by omega
  clear hp hr1 hok ht HU h t0 h0 c1;go_upto_region 5 with fail;replace hok2:Ok pb L j w (w2.alloc (.cells (tg k n a s ao m c) 24)):=hok2;replace t2:TV (w2.alloc (.cells (tg k n a s ao m c) 24)) w.heap.size _ _ _ _ _:=t2;replace ht2:TrC _ (w2.alloc (.cells (tg k n a s ao m c) 24)) _ _:=ht2;generalize w2.alloc (.cells (tg k n a s ao m c) 24)=w3 at x2 hok2 t2 ht2 ⊢
  go_loopg [] (L.length - j) (fun g wr => ∃ (x : T) (jj : Nat) (k n a : Int) (s : ByteArray) (ao : Option Addr) (m c z : Nat), TrC (fun b => w1.heap.size ≤ b ∧ b ≠ B) wr x (vT k n a s ao m c) ∧ TV wr B k n a s (.slice ao m c) ∧ Ok pb L jj w wr ∧
    TV wr w.heap.size (.int .i64 0) (.int .i64 0) (.int .i64 0) (.string ⟨#[]⟩) (.slice none 0 0) ∧ i + 1 ≤ jj ∧ g = L.length - jj ∧ L.length + 1 ≤ z + jj ∧ w1.heap.size ≤ wr.heap.size ∧ tG (lk L) prim (q + 1) i = nF (lk L) (tG (lk L) prim q) (eO lv) i z x jj)
  case atStart=>exact⟨t,j,k,n,a,s,ao,m,c,L.length+1,ht2,x2,hok2,t2,hj,rfl,by omega,by have:=x2.lt;omega,by rw[HR.out,List.length_map]⟩
  case round=>
   obtain⟨x,jj,k,n,a,s,ao,m,c,z,hx,xv,hO,tv,hij,hg,hz0,hwr1,hq⟩:=hrel;have HQ:=hdq hq;have HG:=hdq hg;clear hq hg hok2 HR t2 ht2 x2;have hjL:=hO.2.le;obtain⟨z,rfl⟩:∃ z',z=z'+1:=⟨z - 1,by omega⟩
   cases hs:sgn (lk L) jj (eO lv) with
   | true=>
    have hjlt:=kR hs
    have HQ2 := hdq (show tG (lk L) prim (q + 1) i = aB (tG (lk L) prim q (jj + 1)) fun y j' => nF (lk L) (tG (lk L) prim q) (eO lv) i z (.mk 6 0 i (tok (lk L) (jj + 0)).text [x, y]) j' by
      rw [HQ.out]
      conv => lhs; unfold nF
      rw [if_pos hs]; rfl)
    have hs':sgn (lk L) (jj+0) (eO lv)=true:=hs;have HS:=hdq hs';clear HQ hs hs';go_upto_region 6 with (first|(go_at_call 116;refine(jI _).mono ?_;rintro e w3 ⟨⟨v0,v1,v2,v3,v4,v5,rfl,s0,s1,s2,s3,s4,s5⟩,hb3⟩;obtain⟨sv,hsv,hix⟩:=hlev v0 v1 v2 v3 v4 v5 w3 s0 s1 s2 s3 s4 s5;have h3:=hO.2.below hb3)|(go_at_call 124;refine(oR pb L jj 0 (by decide) sv (eO lv) hol _ h3 hsv).mono ?_;rintro e w4 ⟨he,hb4⟩;rw[HS.out]at he;subst he));have B34:=hb3.trans (hb4.mono hb3.size);have hO4:=hO.then B34;have t4:=tv.below B34;have x4:=xv.below B34;have hx4:=hx.kept (av':=fun b=>w1.heap.size≤b∧b≠B) (fun _ hb _=>hb) B34.size (fun b hb hl=>B34.block b hl);have hw14:=Nat.le_trans hwr1 B34.size;clear hO tv xv hx h3 hsv hix s0 s1 s2 s3 s4 s5;have hf1:=Mp;have hT:=aX pb L jj 0 (by decide) w4 hO4.2;generalize htx:(tok (lk L) (jj+0)).text=tx at HQ2;rw[show (tok (L.map T3.tk) (jj+0)).text=tx from htx]at hT;clear htx;go_upto_region 7 with (go_at_call 125;refine hT.mono ?_;rintro e w5 ⟨⟨p5,rfl⟩,hb5⟩);have hO5:=hO4.then hb5;have t5:=t4.below hb5;have x5:=x4.below hb5;have hx5:=hx4.kept (av':=fun b=>w1.heap.size≤b∧b≠B) (fun _ hb _=>hb) hb5.size (fun b hb hl=>hb5.block b hl);have hw15:=Nat.le_trans hw14 hb5.size;obtain⟨c5,f5⟩:=hO5.2.cells;clear hO4 t4 x4 hx4 hT;go_upto_region 8 with fail;have g6:=dJ w5 pb 1 (.int .i64 ((jj:Int)+1));have h6:PS (w5.setCell ⟨pb,1,none⟩ (.int .i64 ((jj:Int)+1))) pb L (jj+1):=hO5.2.set (jj+1) (by omega);have t6:=t5.step hne g6;have x6:=x5.step hBpb g6;have hx6:TrC (fun b=>w1.heap.size≤b∧b≠B) (w5.setCell ⟨pb,1,none⟩ (.int .i64 ((jj:Int)+1))) x (vT k n a s ao m c):=hx5.kept (fun _ hb _=>hb) g6.size (fun b hb hl=>g6.block b hl (fun e=>by cases e;omega));have hO6:Ok pb L (jj+1) w (w5.setCell ⟨pb,1,none⟩ (.int .i64 ((jj:Int)+1))):=⟨hO5.1.trans g6,h6⟩
    have hw16:=Nat.le_trans hw15 g6.size;generalize w5.setCell ⟨pb,1,none⟩ (.int .i64 ((jj:Int)+1))=w6 at h6 t6 x6 hx6 hO6 hw16 ⊢;clear c5 f5 g6 t5 x5 hx5 hO5;have hwl:IntKind.i64.wrap ((lv:Int)+1)=(lv:Int)+1:=IntWalk.i64_in _ (by omega);have hP:=(ih (jj+1) w6.drew (by omega) (h6.drewN 1)).mono (fun _ _ h=>h.vC)
    cases hr1:tG (lk L) prim q (jj+1) with
    | error a'=>
     rw[hr1]at hP;have HE:=hdq (show tG (lk L) prim (q+1) i=.error a' by rw[HQ2.out,hr1];rfl);clear hr1 HQ2;have:=TV.facts x6
     go_region_dies
     all_goals
      refine hP.mono ?_;rintro e w7 ⟨rfl,hg7⟩;unfold pan;exact⟨rfl,aD.err a' HE.out (hO6.1.trans hg7)⟩
    | ok yj=>
     obtain⟨y,j'⟩:=yj;rw[hr1]at hP;have HQ3:=hdq (show tG (lk L) prim (q+1) i=nF (lk L) (tG (lk L) prim q) (eO lv) i z (.mk 6 0 i tx [x,y]) j' by rw[HQ2.out,hr1];rfl);have hj':jj+2≤j':=upq (jj+1) y j' hr1;clear hr1 HQ2;have:=TV.facts x6
     go_region_with (go_at_call 83;go_loud (refine hP.mono ?_;intro e w7 hp;obtain⟨k',n',a',s',ao',m',c',rfl,hy,hok⟩:=hp.okd;have x7:=x6.step hBpb hok.1;have:=TV.facts x7;have ba:=aC w7 (.cells #[.int .i64 k,.int .i64 n,.int .i64 a,.string s,.slice ao m c,.int .i64 k',.int .i64 n',.int .i64 a',.string s',.slice ao' m' c'] 24);have xa:=x7.below ba;have:=TV.facts xa))
     all_goals
      have hlB3:=x6.lt;have hx7:TrC (fun b=>w1.heap.size≤b∧b≠B) w7 x (vT k n a s ao m c):=hx6.kept (fun _ hb _=>hb) hok.1.size (fun b hb hl=>hok.1.block b hl (fun e=>by cases e;omega));have hy7:TrC (fun b=>w1.heap.size≤b∧b≠B) w7 y (vT k' n' a' s' ao' m' c'):=hy.kept (fun b hb _=>by unfold Fr at hb;exact⟨by omega,by omega⟩) (Nat.le_refl _) (fun _ _ _=>rfl);have hxy:=TrC.lit (aW.two hx7 hy7) (w':=w7.alloc (.cells (vT k n a s ao m c++vT k' n' a' s' ao' m' c').toArray 24)) ⟨Nat.le_trans hw16 hok.1.size,Nat.ne_of_gt x7.lt⟩ (Below.refl _ _) 6 0 i tx 2;have hO8:=(hO6.trans hok).then ba;have t8:=(t6.step hne hok.1).below ba;have hjl':=hO8.2.le;have hw18:=Nat.le_trans (Nat.le_trans hw16 hok.1.size) ba.size;go_wp2_with fail
      go_roundg (L.length - j')
      case measure=>rw[HG.out];omega
      case rel=>exact⟨.mk 6 0 i tx [x,y],j',6,0,i,tx,some ⟨w7.heap.size,0,none⟩,2,2,z,hxy.oM (fun b hb _=>hb.2) _ _ _ _ _,xa.set _ _ _ _ _,hO8.oM hpl (by omega) _ _ _ _ _,(nV (by omega) _ _ _ _ _ _).trans t8,by omega,rfl,by omega,Nat.le_trans hw18 (bO (Below.refl 0 _) (Nat.zero_le _) _ _ _ _ _).size,HQ3.out⟩
   | false=>
    have HQ2 := hdq (show tG (lk L) prim (q + 1) i = .ok (x, jj) by
      rw [HQ.out]
      unfold nF
      rw [if_neg (by rw [hs]; decide)])
    have HS:=hdq (show sgn (lk L) (jj+0) (eO lv)=false from hs);clear HQ hs;go_wp2_with (first|(go_at_call 116;refine(jI _).mono ?_;rintro e w3 ⟨⟨v0,v1,v2,v3,v4,v5,rfl,s0,s1,s2,s3,s4,s5⟩,hb3⟩;obtain⟨sv,hsv,hix⟩:=hlev v0 v1 v2 v3 v4 v5 w3 s0 s1 s2 s3 s4 s5;have h3:=hO.2.below hb3)|(go_at_call 124;refine(oR pb L jj 0 (by decide) sv (eO lv) hol _ h3 hsv).mono ?_;rintro e w4 ⟨he,hb4⟩;rw[HS.out]at he;subst he;have B34:=hb3.trans (hb4.mono hb3.size);have t4:=tv.below B34;have x4:=xv.below B34;have:=TV.facts t4;have:=TV.facts x4));have hx4:=hx.kept (av':=fun b=>w1.heap.size≤b∧b≠B) (fun _ hb _=>hb) B34.size (fun b hb hl=>B34.block b hl);refine rtv (t4.set _ _ _ _ _) Tryz.results83 ?_;exact aD.ok HQ2.out (vT k n a s ao m c) rfl ((hx4.oM (fun b hb hl=>by omega) _ _ _ _ _).kept (fun b hb _=>Nat.le_trans hw01 hb.1) (Nat.le_refl _) (fun _ _ _=>rfl)) ((hO.then B34).oM hpl (Nat.le_refl _) _ _ _ _ _)
 ·unfold pan;have HR:=hdq (show tG (lk L) prim (q+1) i=.error a by rw[HU.out,hr1];rfl);clear hp hr1 HU;go_wp2_with fail;exact⟨rfl,aD.err a HR.out (hO1.1.trans hg)⟩
theorem GF(pb:Nat)(L:List T3)(lo:Nat)(prim:Nat→R T)(up:∀ i,Up (i+1) (prim i))(hUn:Reads 123 pb L lo prim):∀ q,q≤6→∀ i w,lo≤i→PS w pb L i→Calls Tryz.prog 83 #[pq pb,.int .i64 ((6 - q:Nat):Int)] w (aD pb L w (tG (lk L) prim q i)):=by
 intro q
 induction q with
 | zero=>intro _ i w hi h;exact DZ pb L lo prim hUn i hi w h
 | succ q ih=>
  intro hq i w hi h;rw[show 6 - (q+1)=5 - q from by omega];exact CJ pb L lo prim up q (by omega) (ih (by omega)) i hi w h
theorem vY(pb:Nat)(L:List T3)(lo f:Nat)(hUn:Reads 123 pb L lo (eB (lk L) f)):Reads 52 pb L lo (pC (lk L) f):=by
 intro i w hi h;have hB:=fun w (h:PS w pb L i)=>GF pb L lo (eB (lk L) f) (Bo (lk L) f) hUn 6 (by decide) i w hi h
 go_enter Tryz.func52,Tryz.ntmps52;go_upto_region 1 with fail;obtain⟨t0,b0⟩:=tv0 w;generalize World.alloc w _=w0 at t0 b0 ⊢;have h0:=h.below b0;have hpl:=h.lt;have hne:w.heap.size≠pb:=by omega
 have hlw:=t0.lt;go_upto_block 1 with fail;refine(hB w0 h0).mono ?_;intro e w4 hp
 rcases hp.split with ⟨t,j,k,n,a,s,ao,m,c,hr1,rfl,ht,hok⟩|⟨a,hr1,rfl,hg⟩
 ·have t4:=t0.step hne hok.1;have:=TV.facts t4;have HR:=hdq (show pC (lk L) f i=.ok (t,j)from hr1);clear hp hr1;go_wp2_with fail;refine rtv (t4.set _ _ _ _ _) Tryz.results52 ?_;exact aD.ok HR.out (vT k n a s ao m c) rfl ((ht.oM (fun b hb hl=>by unfold Fr at hb;omega) _ _ _ _ _).since b0.size) ((Ok.below b0 hok).oM hpl (Nat.le_refl _) _ _ _ _ _)
 ·unfold pan;have HR:=hdq (show pC (lk L) f i=.error a from hr1);clear hp hr1;go_wp2_with fail;exact⟨rfl,aD.err a HR.out ((aF _ b0).trans hg)⟩
theorem Mj(pb:Nat)(L:List T3):∀ f lo,L.length+1≤f+lo→Reads 123 pb L lo (eB (lk L) f)∧Reads 52 pb L lo (pC (lk L) f):=by
 intro f
 induction f with
 | zero=>
  intro lo hlo;exact⟨fun i w hi h=>absurd h.le (by omega),fun i w hi h=>absurd h.le (by omega)⟩
 | succ f ih=>
  intro lo hlo;have h1:=ih (lo+1) (by omega);have h2:=Gv pb L lo f h1.1 h1.2;exact⟨h2,vY pb L lo (f+1) h2⟩
theorem aV(pb:Nat)(L:List T3):Reads 52 pb L 0 (bM (lk L)):=by
 have:=(Mj pb L ((lk L).length+1) 0 (by rw[List.length_map];omega)).2;exact this
theorem qO(pb:Nat)(L:List T3):Reads 146 pb L 0 (Cr (lk L)):=
 qT pb L 0 (bM (lk L)) (bD (lk L)) (fun i w _ h=>aV pb L i w (Nat.zero_le _) h)
theorem PS.kt{w:World}{pb:Nat}{L:List T3}{n j:Nat}(h:PS w pb L j)(hi:n<L.length):∃ b off cap,w.cell? ⟨pb,0,none⟩=some (.slice (some ⟨b,off,none⟩) L.length cap)∧w.cell? ⟨b,off+n*3,none⟩=some (.int .i64 (tok (lk L) n).kind)∧w.cell? ⟨b,off+n*3+1,none⟩=some (.string (tok (lk L) n).text):=by
 obtain⟨ao,cap,h1,h2⟩:=h.blk;obtain⟨b,off,rfl,_,hn,hc⟩:=h2 (by intro e;rw[e]at hi;simp at hi);refine⟨b,off,cap,cell_of_row _ _ 0 _ _ _ h1,?_,?_⟩
 ·rw[show tok (lk L) n=_ from Bw hi];exact hc n hi 0 _ rfl
 ·rw[show tok (lk L) n=_ from Bw hi];exact hc n hi 1 _ rfl
theorem PS.row{w:World}{pb:Nat}{L:List T3}{j:Nat}(h:PS w pb L j):∃ ao cap,w.cell? ⟨pb,0,none⟩=some (.slice ao L.length cap):=by
 obtain⟨ao,cap,h1,h2⟩:=h.blk;exact⟨ao,cap,cell_of_row _ _ 0 _ _ _ h1⟩
theorem kK(s t:ByteArray):(s.toList=t.toList)=(s=t):=by
 rw[ByteArray.toList_eq,ByteArray.toList_eq];obtain⟨⟨x⟩⟩:=s;obtain⟨⟨y⟩⟩:=t;simp
theorem iH(pb:Nat)(L:List T3)(i cb n:Nat)(hn:n≤2000000)(s:ByteArray)(w:World)(h:PS w pb L i)(hc:w.cell? ⟨cb,0,none⟩=some (.pointer (some ⟨pb,0,none⟩))):Calls Tryz.prog 177 #[n,s,pq cb] w fun e w'=>e=.returned (.bool (sgn (lk L) n [s]))∧w'=w:=by
 have hbd:=h.bd
 by_cases hlt:n<L.length
 ·obtain⟨b,off,cap,k0,k1,k2⟩:=h.kt hlt;have hlt':(n:Int)<(L.length:Int):=by omega
  have hq:∀ t:Tk,t=tok (lk L) n→sgn (lk L) n [s]=(t.kind==6&&mV t.text [s]):=fun t e=>by rw[e];rfl
  generalize tok (lk L) n=t at k1 k2 hq;have HQ:=hdq (hq t rfl);clear hq h
  by_cases hk:t.kind=6
  ·by_cases hs:t.text=s
   ·go_enter Tryz.func177,Tryz.ntmps177;go_wp2_with fail;go_ret;refine⟨aR ?_,rfl⟩;rw[HQ.out,hk,hs];simp[mV]
   ·go_enter Tryz.func177,Tryz.ntmps177;go_wp2_with fail;go_ret;refine⟨aR ?_,rfl⟩;have h1:(t.text.toList==s.toList)=false:=beq_eq_false_iff_ne.2 fun e=>by rw[kK]at e;exact hs e
    have h2:decide (s=t.text)=false:=decide_eq_false fun e=>hs e.symm
    rw[HQ.out,hk];simp[mV,h1,h2]
  ·go_enter Tryz.func177,Tryz.ntmps177;go_wp2_with fail;go_ret;refine⟨aR ?_,rfl⟩;rw[HQ.out,beq_eq_false_iff_ne.2 hk];rfl
 ·obtain⟨ao,cap,k0⟩:=h.row;have hlt':¬ (n:Int)<(L.length:Int):=by omega
  have HQ:=hdq (show sgn (lk L) n [s]=false by unfold sgn;rw[show tok (lk L) n=_ from wS (by omega)];rfl);clear h;go_enter Tryz.func177,Tryz.ntmps177;go_wp2_with fail;go_ret;exact⟨aR (by rw[HQ.out]),rfl⟩
theorem Qm: ∀ args w,(callFunc 177 args).run Tryz.prog w=.ok (.enter 177 args) w:=
 enters_of Tryz.func177 (by decide) rfl
theorem jU(L:List Tk)(f i deep:Nat):hY L (f+1) i deep=if L.length≤i then none else(if sgn L i [sRP]then(if (if sgn L i [sLP]then deep+1 else deep)=1 then some (i+1)else hY L f (i+1) ((if sgn L i [sLP]then deep+1 else deep) - 1))else hY L f (i+1) (if sgn L i [sLP]then deep+1 else deep)):=by
 conv=>lhs;unfold hY
theorem uZ (L : List Tk) (f i : Nat) : dQ L (f + 1) i = if isName L i = false then none else match (if sgn L (i + 1) [sLP] then hY L (L.length + 1) (i + 1) 0 else some (i + 1)) with
    | none => none
    | some j => if sgn L j [uM] || sgn L j [hJ] then dQ L f (j + 1) else some j := by
  conv => lhs; unfold dQ
  rfl
theorem Lk(L:List Tk)(i:Nat)(h:sgn L i [sLP]=true):sgn L i [sRP]=false:=by
 unfold sgn at h ⊢;simp only[Bool.and_eq_true,beq_iff_eq]at h
 have:(tok L i).text=sLP:=by have:=(uR _ _).1 h.2;simpa using this
 rw[h.1,this];decide +kernel
def rE: Option Nat→Ending
 | some j=>.returned (.tuple #[.int .i64 j,.bool true])
 | none=>.returned (.tuple #[.int .i64 0,.bool false])
theorem Hf(pb:Nat)(L:List T3)(i n:Nat)(hn:n≤L.length)(w:World)(h:PS w pb L i):Calls Tryz.prog 161 #[pq pb,n] w fun e w'=>e=rE (dQ (lk L) (L.length+1) n)∧Below w.heap.size w w':=by
 have hK:=Qm;have hbd:=h.bd;go_enter Tryz.func161,Tryz.ntmps161;go_upto_region 1 with fail;have b1:=aC w (.cells #[pq pb] 86);have n1:=heap_alloc_new w (.cells #[pq pb] 86);generalize w.alloc (.cells #[pq pb] 86)=W at b1 n1 ⊢;have hp:=h.below b1;have hc:W.cell? ⟨w.heap.size,0,none⟩=some (.pointer (some ⟨pb,0,none⟩)):=cell_of_row W _ 0 _ _ _ n1;clear n1 h;obtain⟨ao,cap,kr⟩:=hp.row;go_upto_region 2 with fail;have hkr:∀ k,dQ (lk L) (L.length+1) n=dQ (lk L) k n→True:=fun _ _=>trivial
 go_loopg [1] (L.length - n) (fun g s1 wr=>∃ (m f:Nat),s1=.int .i64 m∧wr=W∧n≤m∧m≤L.length∧g=L.length - m∧L.length+1≤f+m∧dQ (lk L) (L.length+1) n=dQ (lk L) f m)
 case atStart=>exact⟨n,L.length+1,rfl,rfl,Nat.le_refl _,hn,rfl,by omega,rfl⟩
 case round=>
  obtain⟨m,f,rfl,rfl,hnm,hmL,hg,hf,hq⟩:=hrel;have HQ:=hdq hq;have HG:=hdq hg;clear hq hg hkr;obtain⟨f,rfl⟩:∃ f',f=f'+1:=⟨f - 1,by omega⟩
  cases hnm1:isName (lk L) m with
  | false=>
   have HR:=hdq (show dQ (lk L) (L.length+1) n=none by rw[HQ.out,uZ,if_pos hnm1])
   by_cases hml:m<L.length
   ·obtain⟨b,off,cap2,k0,k1,k2⟩:=hp.kt hml;have hk:¬ (tok (lk L) m).kind=1:=by unfold isName at hnm1;simpa using hnm1
    generalize tok (lk L) m=t at k1 k2 hk;have hk2:(t.kind != 1)=true:=by simpa using hk
    have hlt':(m:Int)<(L.length:Int):=by omega
    clear kr hnm1;go_wp2_with fail;refine bodyPost_ret (v:=.tuple #[.int .i64 0,.bool false]) (by simp[results,Tryz.results161,go_sem]) rfl ?_;rw[HR.out];exact⟨rfl,b1⟩
   ·have hlt':¬ (m:Int)<(L.length:Int):=by omega
    clear hnm1;go_wp2_with fail;refine bodyPost_ret (v:=.tuple #[.int .i64 0,.bool false]) (by simp[results,Tryz.results161,go_sem]) rfl ?_;rw[HR.out];exact⟨rfl,b1⟩
  | true=>
   have hml:m<L.length:=pK (by unfold isName at hnm1;rw[beq_iff_eq.1 hnm1];decide);have hk:(tok (lk L) m).kind=1:=by unfold isName at hnm1;simpa using hnm1
   have HQ2 := hdq (show dQ (lk L) (L.length + 1) n = match (if sgn (lk L) (m + 1) [sLP] then hY (lk L) (L.length + 1) (m + 1) 0 else some (m + 1)) with
     | none => none
     | some j => if sgn (lk L) j [uM] || sgn (lk L) j [hJ] then dQ (lk L) f (j + 1) else some j by rw [HQ.out, uZ, if_neg (by rw [hnm1]; decide), List.length_map])
   obtain⟨b,off,cap2,k0,k1,k2⟩:=hp.kt hml;rw[hk]at k1;have hlt':(m:Int)<(L.length:Int):=by omega
   clear kr hnm1 hk HQ;go_upto_region 5 with fail;have hcm:((m+1:Nat):Int)=(m:Int)+1:=by omega
   have hCM:=hdq hcm;clear hcm;have hO:=iH pb L i w.heap.size (m+1) (by omega) ⟨#[40]⟩ wr hp hc;rw[hCM.out]at hO
   cases hl:sgn (lk L) (m+1) [⟨#[40]⟩] with
   | false=>
    have HT:=hdq (show dQ (lk L) (L.length+1) n=if sgn (lk L) (m+1) [uM]||sgn (lk L) (m+1) [hJ]then dQ (lk L) f (m+1+1)else some (m+1)by rw[HQ2.out,show sgn (lk L) (m+1) [sLP]=false from hl];rfl);rw[hl]at hO;clear hl HQ2;go_upto_region 17 with (go_at_call 177;refine(hO).mono ?_;rintro e w' ⟨rfl,hw⟩;rw[hw];clear hw);have hA:=iH pb L i w.heap.size (m+1) (by omega) ⟨#[46]⟩ wr hp hc;rw[hCM.out]at hA;have hB:=iH pb L i w.heap.size (m+1) (by omega) ⟨#[45,62]⟩ wr hp hc;rw[hCM.out]at hB
    cases h1:sgn (lk L) (m+1) [⟨#[46]⟩] with
    | true=>
     have hjl:=kR h1;have HR:=hdq (show dQ (lk L) (L.length+1) n=dQ (lk L) f ((m+1)+1)by rw[HT.out,show sgn (lk L) (m+1) [uM]=true from h1];rfl);rw[h1]at hA;clear h1 HT hB;go_wp2_with (go_at_call 177;refine Calls.mono (by with_reducible exact hA) ?_;rintro e w' ⟨rfl,hw⟩;rw[hw];clear hw)
     go_roundg (L.length - ((m+1)+1))
     case measure=>rw[HG.out];omega
     case rel=>exact⟨(m+1)+1,f,congrArg (Value.int .i64) (by omega),rfl,by omega,by omega,rfl,by omega,HR.out⟩
    | false=>
     rw[h1]at hA
     cases h2:sgn (lk L) (m+1) [⟨#[45,62]⟩] with
     | true=>
      have hjl:=kR h2;have HR:=hdq (show dQ (lk L) (L.length+1) n=dQ (lk L) f ((m+1)+1)by rw[HT.out,show sgn (lk L) (m+1) [uM]=false from h1,show sgn (lk L) (m+1) [hJ]=true from h2];rfl);rw[h2]at hB;clear h1 h2 HT;go_wp2_with (first|(go_at_call 177;refine Calls.mono (by with_reducible exact hA) ?_;rintro e w' ⟨rfl,hw⟩;rw[hw];clear hw)|(go_at_call 177;refine Calls.mono (by with_reducible exact hB) ?_;rintro e w' ⟨rfl,hw⟩;rw[hw];clear hw))
      go_roundg (L.length - ((m+1)+1))
      case measure=>rw[HG.out];omega
      case rel=>exact⟨(m+1)+1,f,congrArg (Value.int .i64) (by omega),rfl,by omega,by omega,rfl,by omega,HR.out⟩
     | false=>
      have HR:=hdq (show dQ (lk L) (L.length+1) n=some ((m+1))by rw[HT.out,show sgn (lk L) (m+1) [uM]=false from h1,show sgn (lk L) (m+1) [hJ]=false from h2];rfl);rw[h2]at hB;clear h1 h2 HT;go_wp2_with (first|(go_at_call 177;refine Calls.mono (by with_reducible exact hA) ?_;rintro e w' ⟨rfl,hw⟩;rw[hw];clear hw)|(go_at_call 177;refine Calls.mono (by with_reducible exact hB) ?_;rintro e w' ⟨rfl,hw⟩;rw[hw];clear hw));refine bodyPost_ret (v:=.tuple #[.int .i64 (((m+1):Nat):Int),.bool true]) (by simp[results,Tryz.results161,go_sem]) rfl ?_;rw[HR.out];exact⟨rfl,b1⟩
   | true=>
    have hjl0:=kR hl
    have HT0 := hdq (show dQ (lk L) (L.length + 1) n = match hY (lk L) (L.length + 1) (m + 1) 0 with
      | none => none
      | some j => if sgn (lk L) j [uM] || sgn (lk L) j [hJ] then dQ (lk L) f (j + 1) else some j by rw [HQ2.out, show sgn (lk L) (m + 1) [sLP] = true from hl]; rfl)
    have HL:=hdq hl;rw[hl]at hO;clear hl HQ2;go_upto_region 7 with (go_at_call 177;refine Calls.mono (by with_reducible exact hO) ?_;rintro e w' ⟨rfl,hw⟩;rw[hw];clear hw)
    go_loopg [1,7] (L.length - (m+1)) (fun g s1 s7 wx=>∃ (jj d F:Nat),s1=.int .i64 jj∧s7=.int .i64 d∧wx=wr∧m+1≤jj∧jj≤L.length∧g=L.length - jj∧L.length+1≤F+jj∧d≤jj∧(1≤d∨sgn (lk L) jj [sLP]=true)∧hY (lk L) (L.length+1) (m+1) 0=hY (lk L) F jj d)
    case atStart=>exact⟨m+1,0,L.length+1,hCM.out ▸ rfl,rfl,rfl,Nat.le_refl _,by omega,rfl,by omega,by omega,.inr HL.out,rfl⟩
    case round=>
     obtain⟨jj,d,F,rfl,rfl,rfl,hmj,hjL,hg7,hF,hdj,hd,hq7⟩:=hrel;have HQ7:=hdq hq7;have HG7:=hdq hg7;have HD:=hdq hd;clear hq7 hg7 hO hd;obtain⟨F,rfl⟩:∃ F',F=F'+1:=⟨F - 1,by omega⟩
     by_cases hjl:jj<L.length
     ·have hlt7:(jj:Int)<(L.length:Int):=by omega
      have hP:=iH pb L i w.heap.size jj (by omega) ⟨#[40]⟩ wr hp hc;have hR:=iH pb L i w.heap.size jj (by omega) ⟨#[41]⟩ wr hp hc;have hlen:¬ (lk L).length≤jj:=by rw[List.length_map];omega
      have HL7:=hdq hlen;clear hlen
      cases hb1:sgn (lk L) jj [⟨#[40]⟩] with
      | true=>
       have hb2:sgn (lk L) jj [⟨#[41]⟩]=false:=Lk _ _ hb1
       have HN := hdq (show hY (lk L) (L.length + 1) (m + 1) 0 = hY (lk L) F (jj + 1) (d + 1) by
         rw [HQ7.out, jU, if_neg HL7.out, if_neg (by rw [show sgn (lk L) jj [sRP] = false from hb2]; decide), if_pos (show sgn (lk L) jj [sLP] = true from hb1)])
       rw[hb1]at hP;rw[hb2]at hR;clear hb1 hb2 HQ7;go_wp2_with (first|(go_at_call 177;refine Calls.mono (by with_reducible exact hP) ?_;rintro e w' ⟨rfl,hw⟩;rw[hw];clear hw)|(go_at_call 177;refine Calls.mono (by with_reducible exact hR) ?_;rintro e w' ⟨rfl,hw⟩;rw[hw];clear hw))
       go_roundg (L.length - (jj+1))
       case measure=>rw[HG7.out];omega
       case rel=>exact⟨jj+1,d+1,F,congrArg (Value.int .i64) (by omega),congrArg (Value.int .i64) (by omega),rfl,by omega,by omega,rfl,by omega,by omega,.inl (by omega),HN.out⟩
      | false=>
       have hd1:1≤d:=HD.out.resolve_right (by rw[show sgn (lk L) jj [sLP]=false from hb1];decide)
       cases hb2:sgn (lk L) jj [⟨#[41]⟩] with
       | true=>
        by_cases hd2:d=1
        ·subst hd2
         have HT := hdq (show dQ (lk L) (L.length + 1) n = if sgn (lk L) (jj + 1) [uM] || sgn (lk L) (jj + 1) [hJ] then dQ (lk L) f (jj + 1 + 1) else some (jj + 1) by
           rw [HT0.out, HQ7.out, jU, if_neg HL7.out, if_pos (show sgn (lk L) jj [sRP] = true from hb2), if_neg (show ¬ sgn (lk L) jj [sLP] = true by rw [show sgn (lk L) jj [sLP] = false from hb1]; decide), if_pos rfl])
         have hCJ:=hdq (show ((jj+1:Nat):Int)=(jj:Int)+1 by omega);rw[hb1]at hP;rw[hb2]at hR;clear hb1 hb2 HQ7 HT0;go_upto_region 16 with (first|(go_at_call 177;refine Calls.mono (by with_reducible exact hP) ?_;rintro e w' ⟨rfl,hw⟩;rw[hw];clear hw)|(go_at_call 177;refine Calls.mono (by with_reducible exact hR) ?_;rintro e w' ⟨rfl,hw⟩;rw[hw];clear hw));have hlt8:¬ (L.length:Int)≤(jj:Int):=by omega
         go_upto_region 17 with fail;have hA:=iH pb L i w.heap.size (jj+1) (by omega) ⟨#[46]⟩ wr hp hc;rw[hCJ.out]at hA;have hB:=iH pb L i w.heap.size (jj+1) (by omega) ⟨#[45,62]⟩ wr hp hc;rw[hCJ.out]at hB
         cases h1:sgn (lk L) (jj+1) [⟨#[46]⟩] with
         | true=>
          have hjl:=kR h1;have HR:=hdq (show dQ (lk L) (L.length+1) n=dQ (lk L) f ((jj+1)+1)by rw[HT.out,show sgn (lk L) (jj+1) [uM]=true from h1];rfl);rw[h1]at hA;clear h1 HT hB;go_wp2_with (go_at_call 177;refine Calls.mono (by with_reducible exact hA) ?_;rintro e w' ⟨rfl,hw⟩;rw[hw];clear hw)
          go_roundg (L.length - ((jj+1)+1))
          case measure=>rw[HG.out];omega
          case rel=>exact⟨(jj+1)+1,f,congrArg (Value.int .i64) (by omega),rfl,by omega,by omega,rfl,by omega,HR.out⟩
         | false=>
          rw[h1]at hA
          cases h2:sgn (lk L) (jj+1) [⟨#[45,62]⟩] with
          | true=>
           have hjl:=kR h2;have HR:=hdq (show dQ (lk L) (L.length+1) n=dQ (lk L) f ((jj+1)+1)by rw[HT.out,show sgn (lk L) (jj+1) [uM]=false from h1,show sgn (lk L) (jj+1) [hJ]=true from h2];rfl);rw[h2]at hB;clear h1 h2 HT;go_wp2_with (first|(go_at_call 177;refine Calls.mono (by with_reducible exact hA) ?_;rintro e w' ⟨rfl,hw⟩;rw[hw];clear hw)|(go_at_call 177;refine Calls.mono (by with_reducible exact hB) ?_;rintro e w' ⟨rfl,hw⟩;rw[hw];clear hw))
           go_roundg (L.length - ((jj+1)+1))
           case measure=>rw[HG.out];omega
           case rel=>exact⟨(jj+1)+1,f,congrArg (Value.int .i64) (by omega),rfl,by omega,by omega,rfl,by omega,HR.out⟩
          | false=>
           have HR:=hdq (show dQ (lk L) (L.length+1) n=some ((jj+1))by rw[HT.out,show sgn (lk L) (jj+1) [uM]=false from h1,show sgn (lk L) (jj+1) [hJ]=false from h2];rfl);rw[h2]at hB;clear h1 h2 HT;go_wp2_with (first|(go_at_call 177;refine Calls.mono (by with_reducible exact hA) ?_;rintro e w' ⟨rfl,hw⟩;rw[hw];clear hw)|(go_at_call 177;refine Calls.mono (by with_reducible exact hB) ?_;rintro e w' ⟨rfl,hw⟩;rw[hw];clear hw));refine bodyPost_ret (v:=.tuple #[.int .i64 (((jj+1):Nat):Int),.bool true]) (by simp[results,Tryz.results161,go_sem]) rfl ?_;rw[HR.out];exact⟨rfl,b1⟩
        ·have HN := hdq (show hY (lk L) (L.length + 1) (m + 1) 0 = hY (lk L) F (jj + 1) (d - 1) by
           rw [HQ7.out, jU, if_neg HL7.out, if_pos (show sgn (lk L) jj [sRP] = true from hb2), if_neg (show ¬ sgn (lk L) jj [sLP] = true by rw [show sgn (lk L) jj [sLP] = false from hb1]; decide), if_neg hd2])
         have hd3:¬ (d:Int) - 1=0:=by omega
         rw[hb1]at hP;rw[hb2]at hR;clear hb1 hb2 HQ7;go_wp2_with (first|(go_at_call 177;refine Calls.mono (by with_reducible exact hP) ?_;rintro e w' ⟨rfl,hw⟩;rw[hw];clear hw)|(go_at_call 177;refine Calls.mono (by with_reducible exact hR) ?_;rintro e w' ⟨rfl,hw⟩;rw[hw];clear hw))
         go_roundg (L.length - (jj+1))
         case measure=>rw[HG7.out];omega
         case rel=>exact⟨jj+1,d - 1,F,congrArg (Value.int .i64) (by omega),congrArg (Value.int .i64) (by omega),rfl,by omega,by omega,rfl,by omega,by omega,.inl (by omega),HN.out⟩
       | false=>
        have HN := hdq (show hY (lk L) (L.length + 1) (m + 1) 0 = hY (lk L) F (jj + 1) d by
          rw [HQ7.out, jU, if_neg HL7.out, if_neg (by rw [show sgn (lk L) jj [sRP] = false from hb2]; decide), if_neg (by rw [show sgn (lk L) jj [sLP] = false from hb1]; decide)])
        rw[hb1]at hP;rw[hb2]at hR;clear hb1 hb2 HQ7;go_wp2_with (first|(go_at_call 177;refine Calls.mono (by with_reducible exact hP) ?_;rintro e w' ⟨rfl,hw⟩;rw[hw];clear hw)|(go_at_call 177;refine Calls.mono (by with_reducible exact hR) ?_;rintro e w' ⟨rfl,hw⟩;rw[hw];clear hw))
        go_roundg (L.length - (jj+1))
        case measure=>rw[HG7.out];omega
        case rel=>exact⟨jj+1,d,F,congrArg (Value.int .i64) (by omega),rfl,rfl,by omega,by omega,rfl,by omega,by omega,.inl hd1,HN.out⟩
     ·have HN := hdq (show hY (lk L) (L.length + 1) (m + 1) 0 = none by
        rw [HQ7.out, jU, if_pos (by rw [List.length_map]; omega)])
      have hlt7:¬ (jj:Int)<(L.length:Int):=by omega
      clear HQ7;go_wp2_with fail;refine bodyPost_ret (v:=.tuple #[.int .i64 0,.bool false]) (by simp[results,Tryz.results161,go_sem]) rfl ?_;rw[HT0.out,HN.out];exact⟨rfl,b1⟩
end
end Go.Proofs.YtfdlmcgcckkkdaaGreatDoor
