/- ParseWhole, part 45: what it stands on. -/
import Derived.Test.YtfdlmcgcckkkdaaGreatDoorV44
import Derived.Test.YtfdlmcgcckkkdaaGreatDoorV30
import Derived.Test.YtfdlmcgcckkkdaaGreatDoorV11
import Derived.Shelf.SlicesE.Clone
import Derived.Laws.OwnMore
import Derived.Test.YtfdlmcgcckkkdaaGreatDoorV17
import Derived.Deep.RegionHeld3
set_option linter.all false
set_option maxHeartbeats 40000000
set_option maxRecDepth 100000
namespace Go.Proofs.YtfdlmcgcckkkdaaGreatDoor
section
open Go.RowKit Lx Px
def Kf(s:ByteArray):List Tk:=lk ((sS s).map Tok.t3)
theorem AK{w:World}{B:Nat}{e:TypeId}{n:Nat}{v:Value}{len:Nat}{cs:List Value}(h:w.ownsRow B e n v len cs):len≤9223372036854775807:=by
 obtain⟨_,h⟩:=h
 rcases h with ⟨_,h⟩|⟨g,cap,cur,_,_,_,h1,h2,_⟩
 ·omega
 ·have:maxLen=9223372036854775807:=rfl;omega
def Bm(s:ByteArray):T×Int:=if (dC s).err=0 then((jS gH (Kf s)).1,(jS gH (Kf s)).2.2)else(gI,(dC s).err)
def RQ(w:World)(r:T×Int)(e:Ending)(w':World):Prop:=Below w.heap.size w w'∧∃ k n a s ao m c at_,e=.returned (.tuple #[tg k n a s ao m c,.int .i64 at_,.int .i64 r.2])∧TrC (Fr w) w' r.1 (vT k n a s ao m c)
theorem RQ.mk{w:World}{r:T×Int}{w':World}{t:T}{x y:Int}(h:r=(t,y))(b:Below w.heap.size w w'){k n a:Int}{s:ByteArray}{ao:Option Addr}{m c:Nat}(ht:TrC (Fr w) w' t (vT k n a s ao m c)):RQ w r (.returned (.tuple #[tg k n a s ao m c,.int .i64 x,.int .i64 y])) w':=by
 subst h;exact⟨b,k,n,a,s,ao,m,c,x,rfl,ht⟩
theorem LU{read:List Tk→Nat→R T}{L:List Tk}{t:T}{x:Int}(h:jS read L=(t,x,70)):∃ a:Nat,x=a:=by
 unfold jS at h
 split at h
 ·cases h
 ·split at h
  ·cases h
  ·split at h
   ·cases h;exact⟨_,rfl⟩
   ·split at h<;>cases h
theorem IP(s:ByteArray)(hs:s.size≤2147483647)(w:World)(hml:ML w)(hsz:∀ t,t∈(sS s).map Tok.t3→t.text.size≤140737488351232):Calls Tryz.prog 19 #[s] w (RQ w (Bm s)):=by
 have hTk:=fun w1 (h:ML w1)=>oQ s (by omega) w1 h
 have b1:=aC w (.cells zT 24);have t1:=TV.new w (.int .i64 0) (.int .i64 0) (.int .i64 0) (.string ⟨#[]⟩) (.slice none 0 0);have hUU:Bm s=if (dC s).err=0 then((jS gH (Kf s)).1,(jS gH (Kf s)).2.2)else(gI,(dC s).err):=rfl
 have HUU:=hdq hUU;clear hUU;go_enter Tryz.func19,Tryz.ntmps19;go_upto_region 1 with fail;unfold zT at b1;generalize World.alloc w _=w1 at b1 t1 ⊢;have h1:=hTk w1 (hml.below b1);unfold AT at h1;clear hTk
 by_cases hx:(dC s).err=0
 ·have HU:=hdq (HUU.out.trans (if_pos hx));rw[hx]at h1;generalize (dC s).at_=sa at h1;clear HUU hx;go_upto_region 4 with (go_at_call 57;refine h1.mono ?_;rintro e w2 ⟨lv,rfl,hown,b2⟩);have hrow:cK w2 lv ((sS s).map Tok.t3):=cK.Bu (B:=w1.heap.size) (by rw[List.length_map,← jB];exact hown);have hLl:((sS s).map Tok.t3).length≤9223372036854775807:=by rw[List.length_map];exact AK hown
  unfold Kf at HU;have hvb:∀ (b off len cap:Nat),lv=.slice (some ⟨b,off,none⟩) len cap→w1.heap.size≤b:=fun b off len cap e=>by
   obtain⟨_,h⟩:=hown
   rcases h with ⟨h,_⟩|⟨g,cap2,cur,h,h1,_⟩
   ·rw[h]at e;cases e
   ·rw[h]at e;cases e;exact h1
  have hlt1:=t1.lt;clear hown h1;generalize (sS s).map Tok.t3=L at HU hrow hLl hsz;have t2:=t1.below b2;have B2:=b1.trans (b2.mono b1.size);have hP:=Fc L hsz lv w2 hrow hLl;clear t1 b1 b2;have HRW:=hdq hrow;obtain⟨vao,vcap,rfl,-⟩:=hrow;obtain⟨r,hr⟩:∃ r,jS gH (lk L)=r:=⟨_,rfl⟩
  rw[hr]at hP HU;obtain⟨rt,rx,ry⟩:=r;have hlt2:w.heap.size<w2.heap.size:=t2.lt
  by_cases h7:ry=70
  ·subst h7;obtain⟨a,rfl⟩:=LU hr;clear hr;go_upto_region 5 with (go_at_call 22;refine hP.mono ?_;rintro e w3 ⟨b3,k1,n1,a1,s1,o1,m1,c1,rfl,htr⟩);have b4:=aC w3 (.cells (tg k1 n1 a1 s1 o1 m1 c1) 24);have t4:=TV.new w3 k1 n1 a1 s1 (.slice o1 m1 c1);have htr4:TrC (Fr w2) (w3.alloc (.cells (tg k1 n1 a1 s1 o1 m1 c1) 24)) rt (vT k1 n1 a1 s1 o1 m1 c1):=htr.kept (fun _ h _=>h) b4.size (fun k _ hk=>b4.block k hk);generalize World.alloc w3 _=w4 at b4 t4 htr4 ⊢;have b34:=b3.trans (b4.mono b3.size);have tr4:=t2.below b34;have hrow4:=HRW.out.below b34 (Nat.le_refl _);have B4:=B2.trans (b34.mono B2.size);clear t2 hP htr b34 b3 b4 B2
   by_cases hal:a<L.length
   ·have hal':(a:Int)<(L.length:Int):=by omega
    obtain⟨ao5,cap5,e5,hcell⟩:=hrow4;obtain⟨b,off,rfl,hb,hc⟩:=hcell (by intro e;rw[e]at hal;simp at hal);simp only[Value.slice.injEq,true_and]at e5
    obtain⟨rfl,rfl⟩:=e5;have h2:=hc a hal 2 _ rfl;obtain⟨za,hza⟩:∃ z,L[a]!.at_=z:=⟨_,rfl⟩
    rw[hza]at h2;clear hc hcell hza;have hne:w.heap.size≠b:=by have:=hvb b off _ _ rfl;omega
    have h2f:=fun (w':World) x y z u v=>(On hne w' (off+a*3+2) x y z u v)
    have h2g:=(h2f w4 k1 n1 a1 s1 (.slice o1 m1 c1)).trans h2;clear h2f hvb;have:=TV.facts t4;have:=TV.facts tr4;go_upto_region 7 with fail;have P1:=tr4.set k1 n1 a1 s1 (.slice o1 m1 c1);have P2:=bO B4 (Nat.le_refl _) k1 n1 a1 s1 (.slice o1 m1 c1);have P3:=(htr4.xO w.heap.size (fun b hb=>by unfold Fr at hb;omega) k1 n1 a1 s1 (.slice o1 m1 c1)).kept (av':=Fr w) (fun b hb _=>by unfold Fr at hb ⊢; omega) (Nat.le_refl _) (fun _ _ _=>rfl)
    go_region
    generalize World.setCell (World.setCell (World.setCell (World.setCell (World.setCell w4 _ _) _ _) _ _) _ _) _ _=w5 at P1 P2 P3 ⊢;go_wp2_with fail;refine dL (.tuple #[tg k1 n1 a1 s1 o1 m1 c1,.int .i64 za,.int .i64 70]) P1.drew (fun q0 q1 q2 q3 q4=>by simp[results,Tryz.results19,go_sem,q0,q1,q2,q3,q4]) rfl ?_;exact RQ.mk HU.out P2.drew (TrC.kept (w:=w5) (w':=w5.drew) (fun b hb _=>hb) (Nat.le_refl _) (fun _ _ _=>rfl) P3)
   ·have hal':¬ (a:Int)<(L.length:Int):=by omega
    have:=TV.facts t4;have:=TV.facts tr4;go_wp2_with fail;refine dL (.tuple #[tg k1 n1 a1 s1 o1 m1 c1,.int .i64 s.size,.int .i64 70]) (tr4.set _ _ _ _ _) (fun q0 q1 q2 q3 q4=>by simp[results,Tryz.results19,go_sem,q0,q1,q2,q3,q4]) rfl ?_;refine RQ.mk HU.out (bO B4 (Nat.le_refl _) _ _ _ _ _) ?_;exact(htr4.xO _ (fun b hb=>by unfold Fr at hb;omega) _ _ _ _ _).kept (fun b hb _=>by unfold Fr at hb ⊢; omega) (Nat.le_refl _) (fun _ _ _=>rfl)
  ·clear hr;go_upto_region 5 with (go_at_call 22;refine hP.mono ?_;rintro e w3 ⟨b3,k1,n1,a1,s1,o1,m1,c1,rfl,htr⟩);have b4:=aC w3 (.cells (tg k1 n1 a1 s1 o1 m1 c1) 24);have t4:=TV.new w3 k1 n1 a1 s1 (.slice o1 m1 c1);have htr4:TrC (Fr w2) (w3.alloc (.cells (tg k1 n1 a1 s1 o1 m1 c1) 24)) rt (vT k1 n1 a1 s1 o1 m1 c1):=htr.kept (fun _ h _=>h) b4.size (fun k _ hk=>b4.block k hk);generalize World.alloc w3 _=w4 at b4 t4 htr4 ⊢;have b34:=b3.trans (b4.mono b3.size);have tr4:=t2.below b34;have B4:=B2.trans (b34.mono B2.size);clear t2 hP htr b34 b3 b4 B2;have:=TV.facts t4;have:=TV.facts tr4;go_wp2_with fail;refine dL (.tuple #[tg k1 n1 a1 s1 o1 m1 c1,.int .i64 rx,.int .i64 ry]) (tr4.set _ _ _ _ _) (fun q0 q1 q2 q3 q4=>by simp[results,Tryz.results19,go_sem,q0,q1,q2,q3,q4]) rfl ?_;refine RQ.mk HU.out (bO B4 (Nat.le_refl _) _ _ _ _ _) ?_;exact(htr4.xO _ (fun b hb=>by unfold Fr at hb;omega) _ _ _ _ _).kept (fun b hb _=>by unfold Fr at hb ⊢; omega) (Nat.le_refl _) (fun _ _ _=>rfl)
 ·have HU:=hdq (HUU.out.trans (if_neg hx));generalize (dC s).err=x at h1 hx HU;generalize (dC s).at_=sa at h1;clear HUU;go_upto_region 3 with (go_at_call 57;refine h1.mono ?_;rintro e w2 ⟨lv,rfl,hown,b2⟩);have t2:=t1.below b2;have B2:=b1.trans (b2.mono b1.size);clear hown h1 t1 b1 b2;have:=TV.facts t2;go_wp2_with fail;refine dL (.tuple #[tg 0 0 0 ⟨#[]⟩ none 0 0,.int .i64 sa,.int .i64 x]) (t2.set _ _ _ _ _) (fun q0 q1 q2 q3 q4=>by simp[results,Tryz.results19,go_sem,q0,q1,q2,q3,q4]) rfl ?_;exact RQ.mk HU.out (bO B2 (Nat.le_refl _) _ _ _ _ _) (TrC.leaf _ _ _ _ _ _ _)
theorem qL(w:World)(a b c d e a' b' c' d' e':Value):TV (((w.alloc (.cells #[a,b,c,d,e] 24)).alloc (.cells #[a',b',c',d',e'] 24)).alloc (.cells zT 24)) w.heap.size a b c d e∧TV (((w.alloc (.cells #[a,b,c,d,e] 24)).alloc (.cells #[a',b',c',d',e'] 24)).alloc (.cells zT 24)) (w.heap.size+1) a' b' c' d' e'∧TV (((w.alloc (.cells #[a,b,c,d,e] 24)).alloc (.cells #[a',b',c',d',e'] 24)).alloc (.cells zT 24)) (w.heap.size+2) (.int .i64 0) (.int .i64 0) (.int .i64 0) (.string ⟨#[]⟩) (.slice none 0 0)∧Below w.heap.size w (((w.alloc (.cells #[a,b,c,d,e] 24)).alloc (.cells #[a',b',c',d',e'] 24)).alloc (.cells zT 24)):=by
 have t1:=TV.new w a b c d e;have b1:=aC w (.cells #[a,b,c,d,e] 24);have z1:(w.alloc (.cells #[a,b,c,d,e] 24)).heap.size=w.heap.size+1:=by simp
 generalize w.alloc (.cells #[a,b,c,d,e] 24)=w1 at t1 b1 z1 ⊢;have t2:=TV.new w1 a' b' c' d' e';have b2:=aC w1 (.cells #[a',b',c',d',e'] 24);have z2:(w1.alloc (.cells #[a',b',c',d',e'] 24)).heap.size=w.heap.size+2:=by simp[z1]
 rw[z1]at t2;generalize w1.alloc (.cells #[a',b',c',d',e'] 24)=w2 at t2 b2 z2 ⊢;have t3:=TV.new w2 (.int .i64 0) (.int .i64 0) (.int .i64 0) (.string ⟨#[]⟩) (.slice none 0 0);have b3:=aC w2 (.cells zT 24);rw[z2]at t3;exact⟨(t1.below b2).below b3,t2.below b3,t3,(b1.trans (b2.mono b1.size)).trans (b3.mono (b1.trans (b2.mono b1.size)).size)⟩
def OQA(av:Nat→Prop)(w:World)(t:T)(e:Ending)(w':World):Prop:=Below w.heap.size w w'∧∃ k n a s ao m c,e=.returned (tg k n a s ao m c)∧TrC (fun x=>av x∨w.heap.size≤x) w' t (vT k n a s ao m c)
theorem OQA.mk{av:Nat→Prop}{w:World}{w':World}{t t':T}(h:t=t')(b:Below w.heap.size w w'){k n a:Int}{s:ByteArray}{ao:Option Addr}{m c:Nat}(ht:TrC (fun x=>av x∨w.heap.size≤x) w' t' (vT k n a s ao m c)):OQA av w t (.returned (tg k n a s ao m c)) w':=by
 subst h;exact⟨b,k,n,a,s,ao,m,c,rfl,ht⟩
theorem TrC.old{av:Nat→Prop}{w w':World}{t:T}{us:List Value}(h:TrC av w t us)(b:Below w.heap.size w w'):TrC (fun x=>av x∨w.heap.size≤x) w' t us:=
 h.kept (fun _ hb _=>.inl hb) b.size (fun x _ hl=>b.block x hl)
theorem TrC.node{av:Nat→Prop}{w:World}{k n a:Int}{s:ByteArray}{l:List T}{vs:List Value}{b cap:Nat}(hvs:aW av w l vs)(hv:av b)(hb:b<w.heap.size)(hc:∀ (i:Nat) (u:Value),vs[i]?=some u→w.cell? ⟨b,i,Option.none⟩=some u)(hcap:l.length≤cap):TrC av w (.mk k n a s l) (vT k n a s (some ⟨b,0,Option.none⟩) l.length cap):=by
 unfold TrC;exact⟨_,cap,rfl,fun _=>⟨b,0,vs,rfl,hv,hb,hvs,fun i u hu=>by rw[Nat.zero_add];exact hc i u hu⟩,hcap⟩
def fB(s:ByteArray):T:=.mk 2 0 0 e0 [.mk 3 0 0 s []]
def Ge(op:ByteArray)(a b:T):T:=.mk 6 0 0 op [a,b]
theorem Ox(av:Nat→Prop)(s:ByteArray)(w:World):Calls Tryz.prog 43 #[s] w (OQA av w (fB s)):=by
 have b1:=aC w (.cells zT 24);have t1:=TV.new w (.int .i64 0) (.int .i64 0) (.int .i64 0) (.string ⟨#[]⟩) (.slice none 0 0);unfold zT at b1;go_enter Tryz.func43,Tryz.ntmps43;go_upto_region 1 with fail;generalize World.alloc w _=w1 at b1 t1 ⊢;have b2:=aC w1 (.cells (tg 3 0 0 s none 0 0) 24);have n2:=TV.new w1 (.int .i64 3) (.int .i64 0) (.int .i64 0) s (.slice none 0 0);have t2:=t1.below b2;have B2:=b1.trans (b2.mono b1.size);have hsz:=b1.size;have:=TV.facts t2;go_wp2_with fail;generalize World.alloc w1 _=w2 at n2 t2 B2 ⊢;have B5:=bO B2 (Nat.le_refl _) (.int .i64 2) (.int .i64 0) (.int .i64 0) (.string ⟨#[]⟩) (.slice (some ⟨w1.heap.size,0,none⟩) 1 1);have n5:=(nV (show w.heap.size≠w1.heap.size by have:=t1.lt;omega) w2 (.int .i64 2) (.int .i64 0) (.int .i64 0) (.string ⟨#[]⟩) (.slice (some ⟨w1.heap.size,0,none⟩) 1 1)).trans n2;refine rtv (t2.set _ _ _ _ _) Tryz.results43 ?_;refine OQA.mk rfl B5 ?_;refine TrC.node (aW.one (TrC.leaf _ _ 3 0 0 s 0)) (.inr hsz) (fP n5) (fun i u hu=>?_) (Nat.le_refl _);rw[cell_of_row _ _ i _ _ _ n5]
 simpa using hu
theorem OR(av:Nat→Prop)(op:ByteArray)(w:World)(a b:T)(k n at_:Int)(s:ByteArray)(ao:Option Addr)(m c:Nat)(k' n' at':Int)(s':ByteArray)(ao':Option Addr)(m' c':Nat)(ha:TrC av w a (vT k n at_ s ao m c))(hb:TrC av w b (vT k' n' at' s' ao' m' c')):Calls Tryz.prog 42 #[op,tg k n at_ s ao m c,tg k' n' at' s' ao' m' c'] w (OQA av w (Ge op a b)):=by
 obtain⟨t1,t2,t3,B⟩:=qL w k n at_ s (.slice ao m c) k' n' at' s' (.slice ao' m' c');unfold zT at t1 t2 t3 B;go_enter Tryz.func42,Tryz.ntmps42;go_upto_region 1 with fail;generalize World.alloc (World.alloc (World.alloc w _) _) _=w1 at t1 t2 t3 B ⊢;have b2:=aC w1 (.cells #[.int .i64 k,.int .i64 n,.int .i64 at_,.string s,.slice ao m c,.int .i64 k',.int .i64 n',.int .i64 at',.string s',.slice ao' m' c'] 24);have n2:=heap_alloc_new w1 (.cells #[.int .i64 k,.int .i64 n,.int .i64 at_,.string s,.slice ao m c,.int .i64 k',.int .i64 n',.int .i64 at',.string s',.slice ao' m' c'] 24);have r2:=t3.below b2;have B2:=B.trans (b2.mono B.size);have:=TV.facts t1;have:=TV.facts t2;have:=TV.facts r2;go_wp2_with fail;generalize World.alloc w1 _=w2 at n2 r2 B2 ⊢;have B5:=bO B2 (show w.heap.size≤w.heap.size+2 by omega) (.int .i64 6) (.int .i64 0) (.int .i64 0) op (.slice (some ⟨w1.heap.size,0,none⟩) 2 2);have n5:=(nV (show w.heap.size+2≠w1.heap.size by have:=t3.lt;omega) w2 (.int .i64 6) (.int .i64 0) (.int .i64 0) op (.slice (some ⟨w1.heap.size,0,none⟩) 2 2)).trans n2;refine rtv (r2.set _ _ _ _ _) Tryz.results42 ?_;refine OQA.mk rfl B5 ?_;refine TrC.node (vs:=vT k n at_ s ao m c++vT k' n' at' s' ao' m' c') (aW.app (aW.one (ha.old B5)) (aW.one (hb.old B5))) (.inr (by have:=t3.lt;omega)) (fP n5) (fun i u hu=>?_) (Nat.le_refl _);rw[cell_of_row _ _ i _ _ _ n5]
 simpa[vT]using hu
def rdE: Bool→List Tk→Nat→R T
 | true=>bM
 | false=>qJ
def qZ(s:ByteArray)(ex:Bool):T×Int×Int:=if (dC s).err=0 then jS (rdE ex) (Kf s)else(gI,(dC s).at_,(dC s).err)
theorem Fv(s:ByteArray)(hs:s.size≤2147483647)(w:World)(hml:ML w)(hsz:∀ t,t∈(sS s).map Tok.t3→t.text.size≤140737488351232):Calls Tryz.prog 41 #[s,.bool true] w (TQ w (qZ s true)):=by
 have hTk:=fun w1 (h:ML w1)=>oQ s (by omega) w1 h
 have b1:=aC w (.cells zT 24);have t1:=TV.new w (.int .i64 0) (.int .i64 0) (.int .i64 0) (.string ⟨#[]⟩) (.slice none 0 0);have hUU:qZ s true=if (dC s).err=0 then jS bM (Kf s)else(gI,(dC s).at_,(dC s).err):=rfl
 have HUU:=hdq hUU;clear hUU;go_enter Tryz.func41,Tryz.ntmps41;go_upto_region 1 with fail;unfold zT at b1;generalize World.alloc w _=w1 at b1 t1 ⊢;have h1:=hTk w1 (hml.below b1);unfold AT at h1;clear hTk
 by_cases hx:(dC s).err=0
 ·have HU:=hdq (HUU.out.trans (if_pos hx));rw[hx]at h1;generalize (dC s).at_=sa at h1;clear HUU hx;go_upto_region 4 with (go_at_call 57;refine h1.mono ?_;rintro e w2 ⟨lv,rfl,hown,b2⟩);have hrow:cK w2 lv ((sS s).map Tok.t3):=cK.Bu (B:=w1.heap.size) (by rw[List.length_map,← jB];exact hown);have t2:=t1.below b2;have B2:=b1.trans (b2.mono b1.size);have hLl:((sS s).map Tok.t3).length≤9223372036854775807:=by rw[List.length_map];exact AK hown
  unfold Kf at HU;clear hown h1;generalize (sS s).map Tok.t3=L at HU hrow hLl hsz;have hP:=vG L hsz lv w2 hrow hLl;clear t1 b1 b2;obtain⟨vao,vcap,rfl,-⟩:=hrow;obtain⟨r,hr⟩:∃ r,jS bM (lk L)=r:=⟨_,rfl⟩
  rw[hr]at hP HU;obtain⟨rt,rx,ry⟩:=r;have hlt2:w.heap.size<w2.heap.size:=t2.lt;clear hr;go_wp2_with (go_at_call 20;refine hP.mono ?_;rintro e w4 ⟨b3,k1,n1,a1,s1,o1,m1,c1,rfl,htr4⟩;have tr4:=t2.below b3;have:=TV.facts tr4);have B4:=B2.trans (b3.mono B2.size);refine dL (.tuple #[tg k1 n1 a1 s1 o1 m1 c1,.int .i64 rx,.int .i64 ry]) (tr4.set _ _ _ _ _) (fun q0 q1 q2 q3 q4=>by simp[results,Tryz.results41,go_sem,q0,q1,q2,q3,q4]) rfl ?_;refine TQ.mk HU.out (bO B4 (Nat.le_refl _) _ _ _ _ _) ?_;exact(htr4.xO _ (fun b hb=>by unfold Fr at hb;omega) _ _ _ _ _).kept (fun b hb _=>by unfold Fr at hb ⊢; omega) (Nat.le_refl _) (fun _ _ _=>rfl)
 ·have HU:=hdq (HUU.out.trans (if_neg hx));generalize (dC s).err=x at h1 hx HU;generalize (dC s).at_=sa at h1 HU;clear HUU;go_upto_region 3 with (go_at_call 57;refine h1.mono ?_;rintro e w2 ⟨lv,rfl,hown,b2⟩);have t2:=t1.below b2;have B2:=b1.trans (b2.mono b1.size);clear hown h1 t1 b1 b2;have:=TV.facts t2;go_wp2_with fail;refine dL (.tuple #[tg 0 0 0 ⟨#[]⟩ none 0 0,.int .i64 sa,.int .i64 x]) (t2.set _ _ _ _ _) (fun q0 q1 q2 q3 q4=>by simp[results,Tryz.results41,go_sem,q0,q1,q2,q3,q4]) rfl ?_;exact TQ.mk HU.out (bO B2 (Nat.le_refl _) _ _ _ _ _) (TrC.leaf _ _ _ _ _ _ _)
theorem pQ(s:ByteArray)(hs:s.size≤2147483647)(w:World)(hml:ML w)(hsz:∀ t,t∈(sS s).map Tok.t3→t.text.size≤140737488351232):Calls Tryz.prog 41 #[s,.bool false] w (TQ w (qZ s false)):=by
 have hTk:=fun w1 (h:ML w1)=>oQ s (by omega) w1 h
 have b1:=aC w (.cells zT 24);have t1:=TV.new w (.int .i64 0) (.int .i64 0) (.int .i64 0) (.string ⟨#[]⟩) (.slice none 0 0);have hUU:qZ s false=if (dC s).err=0 then jS qJ (Kf s)else(gI,(dC s).at_,(dC s).err):=rfl
 have HUU:=hdq hUU;clear hUU;go_enter Tryz.func41,Tryz.ntmps41;go_upto_region 1 with fail;unfold zT at b1;generalize World.alloc w _=w1 at b1 t1 ⊢;have h1:=hTk w1 (hml.below b1);unfold AT at h1;clear hTk
 by_cases hx:(dC s).err=0
 ·have HU:=hdq (HUU.out.trans (if_pos hx));rw[hx]at h1;generalize (dC s).at_=sa at h1;clear HUU hx;go_upto_region 4 with (go_at_call 57;refine h1.mono ?_;rintro e w2 ⟨lv,rfl,hown,b2⟩);have hrow:cK w2 lv ((sS s).map Tok.t3):=cK.Bu (B:=w1.heap.size) (by rw[List.length_map,← jB];exact hown);have t2:=t1.below b2;have B2:=b1.trans (b2.mono b1.size);have hLl:((sS s).map Tok.t3).length≤9223372036854775807:=by rw[List.length_map];exact AK hown
  unfold Kf at HU;clear hown h1;generalize (sS s).map Tok.t3=L at HU hrow hLl hsz;have hP:=xH L hsz lv w2 hrow hLl;clear t1 b1 b2;obtain⟨vao,vcap,rfl,-⟩:=hrow;obtain⟨r,hr⟩:∃ r,jS qJ (lk L)=r:=⟨_,rfl⟩
  rw[hr]at hP HU;obtain⟨rt,rx,ry⟩:=r;have hlt2:w.heap.size<w2.heap.size:=t2.lt;clear hr;go_wp2_with (go_at_call 21;refine hP.mono ?_;rintro e w4 ⟨b3,k1,n1,a1,s1,o1,m1,c1,rfl,htr4⟩;have tr4:=t2.below b3;have:=TV.facts tr4);have B4:=B2.trans (b3.mono B2.size);refine dL (.tuple #[tg k1 n1 a1 s1 o1 m1 c1,.int .i64 rx,.int .i64 ry]) (tr4.set _ _ _ _ _) (fun q0 q1 q2 q3 q4=>by simp[results,Tryz.results41,go_sem,q0,q1,q2,q3,q4]) rfl ?_;refine TQ.mk HU.out (bO B4 (Nat.le_refl _) _ _ _ _ _) ?_;exact(htr4.xO _ (fun b hb=>by unfold Fr at hb;omega) _ _ _ _ _).kept (fun b hb _=>by unfold Fr at hb ⊢; omega) (Nat.le_refl _) (fun _ _ _=>rfl)
 ·have HU:=hdq (HUU.out.trans (if_neg hx));generalize (dC s).err=x at h1 hx HU;generalize (dC s).at_=sa at h1 HU;clear HUU;go_upto_region 3 with (go_at_call 57;refine h1.mono ?_;rintro e w2 ⟨lv,rfl,hown,b2⟩);have t2:=t1.below b2;have B2:=b1.trans (b2.mono b1.size);clear hown h1 t1 b1 b2;have:=TV.facts t2;go_wp2_with fail;refine dL (.tuple #[tg 0 0 0 ⟨#[]⟩ none 0 0,.int .i64 sa,.int .i64 x]) (t2.set _ _ _ _ _) (fun q0 q1 q2 q3 q4=>by simp[results,Tryz.results41,go_sem,q0,q1,q2,q3,q4]) rfl ?_;exact TQ.mk HU.out (bO B2 (Nat.le_refl _) _ _ _ _ _) (TrC.leaf _ _ _ _ _ _ _)
def BN(w:World)(v:Value)(p:List Int):Prop:=∃ ao cap,v=.slice ao p.length cap∧(p≠[]→∃ b off,ao=some ⟨b,off,none⟩∧b<w.heap.size∧∀ i,(hi:i<p.length)→w.cell? ⟨b,off+i,none⟩=some (.int .i64 (p[i]'hi)))∧p.length≤cap
theorem BN.below{w w':World}{v:Value}{p:List Int}(h:BN w v p)(hb:Below w.heap.size w w'):BN w' v p:=by
 obtain⟨ao,cap,rfl,h,hc⟩:=h;refine⟨ao,cap,rfl,fun hne=>?_,hc⟩;obtain⟨b,off,e,hlt,hcell⟩:=h hne;exact⟨b,off,e,Nat.lt_of_lt_of_le hlt hb.size,fun i hi=>(hb.cell (p:=⟨b,off+i,none⟩) hlt).trans (hcell i hi)⟩
def EQ(w:World)(r:T×Int)(e:Ending)(w':World):Prop:=Below w.heap.size w w'∧∃ k n a s ao m c,e=.returned (.tuple #[tg k n a s ao m c,.int .i64 r.2])∧Tr w' r.1 (vT k n a s ao m c)
theorem EQ.mk{w:World}{r:T×Int}{w':World}{t:T}{x:Int}(h:r=(t,x))(b:Below w.heap.size w w'){k n a:Int}{s:ByteArray}{ao:Option Addr}{m c:Nat}(ht:Tr w' t (vT k n a s ao m c)):EQ w r (.returned (.tuple #[tg k n a s ao m c,.int .i64 x])) w':=by
 subst h;exact⟨b,k,n,a,s,ao,m,c,rfl,ht⟩
theorem Tr.zero(w:World):Tr w gI (vT 0 0 0 ⟨#[]⟩ Option.none 0 0):=TrC.leaf _ _ _ _ _ _ _
theorem below_drewN(w:World)(n:Nat):Below w.heap.size w (w.drewN n):=⟨rfl,rfl,rfl,Nat.le_refl _,fun _ _=>rfl⟩
def Nv(rv:List (Nat×List Value))(b:Nat):Prop:=∀ p,p∈rv→b≠p.1
structure LS (w0 w:World) (rv fv:List (Nat×List Value)) (ts:List (T×List Value)):Prop where
 low:Below w0.heap.size w0 w
 tv:∀ p,p∈rv→w.heap[p.1]?=some (.cells p.2.toArray 24 (0,0))∧w0.heap.size≤p.1
 pw:rv.Pairwise (fun p q=>p.1≠q.1)
 fx:∀ p,p∈fv→w.heap[p.1]?=some (.cells p.2.toArray 24 (0,0))∧Nv rv p.1
 tr:∀ p,p∈ts→TrC (Nv rv) w p.1 p.2
theorem LS.begin(w:World):LS w w [] [] []:=⟨Below.refl _ _,fun _ h=>(by cases h),.nil,fun _ h=>(by cases h),fun _ h=>(by cases h)⟩
theorem blt{w:World}{b:Nat}{o:Obj}(h:w.heap[b]?=some o):b<w.heap.size:=(Array.getElem?_eq_some_iff.1 h).1
theorem LS.below{w0 w w':World}{rv fv ts}(S:LS w0 w rv fv ts)(b:Below w.heap.size w w'):LS w0 w' rv fv ts:=
 ⟨S.low.trans (b.mono S.low.size),fun p h=>⟨(b.block _ (blt (S.tv p h).1)).trans (S.tv p h).1,(S.tv p h).2⟩,S.pw,fun p h=>⟨(b.block _ (blt (S.fx p h).1)).trans (S.fx p h).1,(S.fx p h).2⟩,fun p h=>(S.tr p h).kept (fun _ hb _=>hb) b.size (fun x _ hl=>b.block x hl)⟩
theorem LS.drew{w0 w:World}{rv fv ts}(S:LS w0 w rv fv ts):LS w0 w.drew rv fv ts:=S.below (below_drewN w 1)
theorem LS.drewN{w0 w:World}{rv fv ts}(S:LS w0 w rv fv ts)(n:Nat):LS w0 (w.drewN n) rv fv ts:=S.below (below_drewN w n)
theorem LS.facts{w0 w:World}{rv fv ts}(S:LS w0 w rv fv ts)(k:Nat){b:Nat}{x y z u v:Value}(hk:fv[k]?=some (b,[x,y,z,u,v])):TV w b x y z u v:=(S.fx _ (List.mem_of_getElem? hk)).1
theorem LS.uY{w0 w:World}{rv fv ts}(S:LS w0 w rv fv ts)(k:Nat){b:Nat}{x y z u v:Value}(hk:rv[k]?=some (b,[x,y,z,u,v])):TV w b x y z u v:=(S.tv _ (List.mem_of_getElem? hk)).1
theorem LS.tree{w0 w:World}{rv fv ts}(S:LS w0 w rv fv ts)(p:T×List Value)(h:p∈ts):Tr w p.1 p.2:=(S.tr p h).kept (fun _ _ _=>trivial) (Nat.le_refl _) (fun _ _ _=>rfl)
theorem LS.less{w0 w:World}{rv fv ts fv' ts'}(S:LS w0 w rv fv ts)(hf:∀ p,p∈fv'→p∈fv)(h:∀ p,p∈ts'→p∈ts):LS w0 w rv fv' ts':=
 ⟨S.low,S.tv,S.pw,fun p hp=>S.fx p (hf p hp),fun p hp=>S.tr p (h p hp)⟩
theorem LS.Dc{w0 w:World}{rv fv ts}(S:LS w0 w rv fv ts)(us:List Value)(cs:Array Value)(hc:cs=us.toArray)(B:Nat)(hB:w.heap.size=B):LS w0 (w.alloc (.cells cs 24)) rv ((B,us)::fv) ts:=by
 subst hc hB;have S':=S.below (aC w (.cells us.toArray 24));refine⟨S'.low,S'.tv,S'.pw,fun p h=>?_,S'.tr⟩
 rcases List.mem_cons.1 h with rfl|h
 ·exact⟨heap_alloc_new w _,fun q hq e=>by have:=blt (S.tv q hq).1;simp only at e;omega⟩
 ·exact S'.fx p h
theorem LS.cX{w0 w:World}{rv fv ts}(S:LS w0 w rv fv ts)(us:List Value)(cs:Array Value)(hc:cs=us.toArray)(B:Nat)(hB:w.heap.size=B):LS w0 (w.alloc (.cells cs 24)) ((B,us)::rv) fv ts:=by
 subst hc hB;have b:=aC w (.cells us.toArray 24);have S':=S.below b;have hN:∀ x,x<w.heap.size→Nv rv x→Nv ((w.heap.size,us)::rv) x:=fun x hl h q hq=>by
  rcases List.mem_cons.1 hq with rfl|hq
  ·exact fun e=>by simp only at e;omega
  ·exact h q hq
 refine⟨S'.low,fun p h=>?_,?_,fun p h=>⟨(S'.fx p h).1,hN _ (blt (S.fx p h).1) (S.fx p h).2⟩,fun p h=>(S.tr p h).kept (fun x hb hl=>hN x hl hb) b.size (fun _ _ hl=>b.block _ hl)⟩
 ·rcases List.mem_cons.1 h with rfl|h
  ·exact⟨heap_alloc_new w _,S.low.size⟩
  ·exact S'.tv p h
 ·refine List.pairwise_cons.2 ⟨fun q hq e=>?_,S.pw⟩;have:=blt (S.tv q hq).1;simp only at e;omega
theorem LS.fix{w0 w:World}{rv fv ts}(S:LS w0 w rv fv ts):LS w0 w [] (rv++fv) ts:=
 ⟨S.low,fun _ h=>(by cases h),.nil,fun p h=>⟨(List.mem_append.1 h).elim (fun h=>(S.tv p h).1) (fun h=>(S.fx p h).1),fun q hq=>(by cases hq)⟩,fun p h=>(S.tr p h).kept (fun _ _ _ q hq=>(by cases hq)) (Nat.le_refl _) (fun _ _ _=>rfl)⟩
theorem LS.bN{w0 w:World}{rv fv ts}{b:Nat}{us:List Value}(S:LS w0 w ((b,us)::rv) fv ts)(hl:us.length=5)(x y z u v:Value):LS w0 (st5 w b x y z u v) ((b,[x,y,z,u,v])::rv) fv ts:=by
 have hb:=(S.tv _ (.head _)).2;have hh:=(S.tv _ (.head _)).1;have hne:∀ c,c≠b→(st5 w b x y z u v).heap[c]?=w.heap[c]?:=fun c hc=>by unfold st5;exact nV (fun e=>hc e.symm) w x y z u v
 have hsz:(st5 w b x y z u v).heap.size=w.heap.size:=by unfold st5;simp[World.setCell]
 have hpw:=List.pairwise_cons.1 S.pw;have hNv:∀ c,Nv ((b,us)::rv) c→Nv ((b,[x,y,z,u,v])::rv) c:=fun c h q hq=>by
  rcases List.mem_cons.1 hq with rfl|hq
  ·exact h (b,us) (.head _)
  ·exact h q (.tail _ hq)
 refine⟨?_,fun p h=>?_,List.pairwise_cons.2 ⟨fun q hq=>hpw.1 q hq,hpw.2⟩,fun p h=>⟨(hne _ ((S.fx p h).2 _ (.head _))).trans (S.fx p h).1,hNv _ (S.fx p h).2⟩,fun p h=>(S.tr p h).kept (fun c hc _=>hNv c hc) (Nat.le_of_eq hsz.symm) (fun c hc _=>hne c (hc _ (.head _)))⟩
 ·unfold st5;exact bO S.low hb x y z u v
 ·rcases List.mem_cons.1 h with rfl|h
  ·refine⟨?_,hb⟩
   match us,hl with
   | [u0,u1,u2,u3,u4],_=>
    have ht:TV w b u0 u1 u2 u3 u4:=hh;exact ht.set x y z u v
  ·exact⟨(hne _ (fun e=>hpw.1 p h e.symm)).trans (S.tv p (.tail _ h)).1,(S.tv p (.tail _ h)).2⟩
theorem LS.lit{w0 w:World}{rv fv ts}(S:LS w0 w rv fv ts){l:List T}{us:List Value}(h:aW (Nv rv) w l us)(cs:Array Value)(hc:cs=us.toArray)(k n a:Int)(s:ByteArray)(m c:Nat)(hm:m=l.length)(hcap:l.length≤c:=by exact Nat.le_refl _):LS w0 (w.alloc (.cells cs 24)) rv fv ((.mk k n a s l,vT k n a s (some ⟨w.heap.size,0,none⟩) m c)::ts):=by
 subst hc hm;have S':=S.below (aC w (.cells us.toArray 24));refine⟨S'.low,S'.tv,S'.pw,S'.fx,fun p hp=>?_⟩
 rcases List.mem_cons.1 hp with rfl|hp
 ·exact TrC.lit (w:=w) h (fun q hq e=>by have:=blt (S.tv q hq).1;omega) (Below.refl _ _) k n a s c hcap
 ·exact S'.tr p hp
theorem LS.read{w0 w w':World}{rv fv ts}(S:LS w0 w rv fv ts)(b:Below w.heap.size w w'){t:T}{us:List Value}(ht:TrC (fun x=>Nv rv x∨w.heap.size≤x) w' t us):LS w0 w' rv fv ((t,us)::ts):=by
 have S':=S.below b;refine⟨S'.low,S'.tv,S'.pw,S'.fx,fun p h=>?_⟩
 rcases List.mem_cons.1 h with rfl|h
 ·exact ht.kept (fun x hb _=>hb.elim id (fun hb q hq e=>by have:=blt (S.tv q hq).1;omega)) (Nat.le_refl _) (fun _ _ _=>rfl)
 ·exact S'.tr p h
theorem LS.PF{w0 w w':World}{rv fv ts}(S:LS w0 w rv fv ts)(b:Below w.heap.size w w'){t:T}{us:List Value}(ht:TrC (Fr w) w' t us):LS w0 w' rv fv ((t,us)::ts):=
 S.read b (ht.kept (fun _ h _=>.inr h) (Nat.le_refl _) (fun _ _ _=>rfl))
def LT(w0:World)(rv fv:List (Nat×List Value))(ts:List (T×List Value))(t:T)(e:Ending)(w':World):Prop:=∃ k n a s ao m c,e=.returned (tg k n a s ao m c)∧LS w0 w' rv fv ((t,vT k n a s ao m c)::ts)
theorem LS.rD{w0 w:World}{rv fv ts}(S:LS w0 w rv fv ts)(s:ByteArray):Calls Tryz.prog 43 #[s] w (LT w0 rv fv ts (fB s)):=
 (Ox (Nv rv) s w).mono fun _ _ ⟨b,k,n,a,s,ao,m,c,he,ht⟩=>⟨k,n,a,s,ao,m,c,he,S.read b ht⟩
theorem LS.Nz{w0 w:World}{rv fv ts}(S:LS w0 w rv fv ts)(op:ByteArray){a b:T}{k n at_:Int}{s:ByteArray}{ao:Option Addr}{m c:Nat}{k' n' at':Int}{s':ByteArray}{ao':Option Addr}{m' c':Nat}(ha:(a,vT k n at_ s ao m c)∈ts)(hb:(b,vT k' n' at' s' ao' m' c')∈ts):Calls Tryz.prog 42 #[op,tg k n at_ s ao m c,tg k' n' at' s' ao' m' c'] w (LT w0 rv fv ts (Ge op a b)):=
 (OR (Nv rv) op w a b k n at_ s ao m c k' n' at' s' ao' m' c' (S.tr _ ha) (S.tr _ hb)).mono fun _ _ ⟨b,k,n,a,s,ao,m,c,he,ht⟩=>⟨k,n,a,s,ao,m,c,he,S.read b ht⟩
def LQ(w0:World)(rv fv:List (Nat×List Value))(ts:List (T×List Value))(r:T×Int×Int)(e:Ending)(w':World):Prop:=∃ k n a s ao m c,e=.returned (.tuple #[tg k n a s ao m c,.int .i64 r.2.1,.int .i64 r.2.2])∧LS w0 w' rv fv ((r.1,vT k n a s ao m c)::ts)
theorem LS.tq{w0 w:World}{rv fv ts}(S:LS w0 w rv fv ts){f:FuncId}{args:Array Value}{r:T×Int×Int}(h:Calls Tryz.prog f args w (TQ w r)):Calls Tryz.prog f args w (LQ w0 rv fv ts r):=
 h.mono fun _ _ ⟨b,k,n,a,s,ao,m,c,he,ht⟩=>⟨k,n,a,s,ao,m,c,he,S.PF b ht⟩
def Mix(wB w:World)(b:Nat):Prop:=b<wB.heap.size∨w.heap.size≤b
def OD(wB w:World)(t:T)(e:Ending)(w':World):Prop:=Below w.heap.size w w'∧∃ k n a s ao m c,e=.returned (tg k n a s ao m c)∧TrC (Mix wB w) w' t (vT k n a s ao m c)
theorem OD.mk{wB w:World}{w':World}{t t':T}(h:t=t')(b:Below w.heap.size w w'){k n a:Int}{s:ByteArray}{ao:Option Addr}{m c:Nat}(ht:TrC (Mix wB w) w' t' (vT k n a s ao m c)):OD wB w t (.returned (tg k n a s ao m c)) w':=by
 subst h;exact⟨b,k,n,a,s,ao,m,c,rfl,ht⟩
end
end Go.Proofs.YtfdlmcgcckkkdaaGreatDoor
