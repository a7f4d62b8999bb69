/- ParseWhole, part 47: what it stands on. -/
import Derived.Test.YtfdlmcgcckkkdaaGreatDoorV48
import Derived.Test.YtfdlmcgcckkkdaaGreatDoorV44
import Derived.Test.YtfdlmcgcckkkdaaGreatDoorV46
import Derived.Test.YtfdlmcgcckkkdaaGreatDoorV45
import Derived.Test.YtfdlmcgcckkkdaaGreatDoorV30
import Derived.Shelf.SlicesE.Equal
import Derived.Deep.RegionLaw
import Derived.Test.YtfdlmcgcckkkdaaGreatDoorV11
import Derived.Test.YtfdlmcgcckkkdaaGreatDoorV31
import Derived.Test.YtfdlmcgcckkkdaaGreatDoorV21
set_option linter.all false
set_option maxHeartbeats 40000000
set_option maxRecDepth 100000
namespace Go.Proofs.YtfdlmcgcckkkdaaGreatDoor
section
open Go.RowKit Lx Px
def zH(t:T):List ByteArray×Int:=if chk t=true then(nmT t [],0)else([],71)
def NQ(w:World)(r:List ByteArray×Int)(e:Ending)(w':World):Prop:=Below w.heap.size w w'∧∃ v,e=.returned (.tuple #[v,.int .i64 r.2])∧w'.ownsRow w.heap.size 9 1 v (r.1.map Value.string).length (r.1.map Value.string)
theorem NQ.mk{w:World}{r:List ByteArray×Int}{w':World}{l:List ByteArray}{x:Int}{v:Value}(h:r=(l,x))(b:Below w.heap.size w w')(hv:w'.ownsRow w.heap.size 9 1 v (l.map Value.string).length (l.map Value.string)):NQ w r (.returned (.tuple #[v,.int .i64 x])) w':=by
 subst h;exact⟨b,v,rfl,hv⟩
theorem Fp(w:World)(hTab:eJ w)(t:T)(ho:okT t)(hwd:wdT t)(k n a:Int)(s:ByteArray)(ao:Option Addr)(m c:Nat)(ht:Tr w t (vT k n a s ao m c)):Calls Tryz.prog 33 #[tg k n a s ao m c] w (NQ w (zH t)):=by
 have hmf:∀ (fn:Fn) (first cap:Array Value) (w:World),(Instr.makeFunc fn first cap).run Tryz.prog w=.ok (.func fn first cap) w:=fun _ _ _ _=>rfl
 have b1:=aC w (.cells (tg k n a s ao m c) 24);have t1:=TV.new w k n a s (.slice ao m c);go_enter Tryz.func33,Tryz.ntmps33;go_upto_region 1 with fail;generalize World.alloc w _=w1 at b1 t1 ⊢;have hC:=jG w1 (hTab.below b1) t ho hwd k n a s ao m c (ht.low b1);unfold Db at hC;have:=TV.facts t1
 cases hc:chk t with
 | false=>
  have HU:=hdq (show zH t=([],71)by unfold zH;rw[hc];rfl);rw[hc]at hC;clear ht ho hwd hc;go_wp2_with (go_at_call 14;refine hC.mono ?_;rintro e w2 ⟨rfl,b2⟩)
  go_ret2
  exact NQ.mk HU.out (b1.trans (b2.mono b1.size)) ⟨rfl,.inl ⟨rfl,rfl⟩⟩
 | true=>
  rw[hc]at hC;have hsz:nodes t≤4000:=by have:=qY hc;unfold lH at this;rw[Bool.and_eq_true,decide_eq_true_eq]at this;exact this.1
  have HU:=hdq (show zH t=(nmT t [],0)by unfold zH;rw[if_pos hc]);go_upto_region 4 with (go_at_call 14;refine hC.mono ?_;rintro e w2 ⟨rfl,b2⟩);have t2:=t1.below b2;have B2:=b1.trans (b2.mono b1.size);have ht2:=ht.low B2;have b3:=aC w2 (.cells #[.slice none 0 0] 64);have n3:=heap_alloc_new w2 (.cells #[.slice none 0 0] 64);have hst:NSt w2 w2.heap.size (w2.alloc (.cells #[.slice none 0 0] 64)) (.slice none 0 0) []:=⟨b3,n3,Nat.le_refl _,⟨rfl,.inl ⟨rfl,rfl⟩⟩,by simp[Value.ownBlock]⟩
  have t3:=t2.below b3;have hB2:=B2.size;clear b1 b2 t1 t2 hC hc ht ho hwd n3 b3;go_upto_region 5 with fail;generalize World.alloc w2 _=w3 at hst t3 ⊢;have hN:=DJ w2 w2.heap.size _ t (Nat.le_refl _) w3 (.slice none 0 0) [] hst (by simp;omega) k n a s ao m c ht2;have:=TV.facts t3;clear ht2;go_upto_block 5 with fail;refine hN.mono ?_;rintro e w4 ⟨⟨k4,n4,a4,s4,o4,m4,c4,rfl⟩,v4,hs4,_⟩;have k0:w4.cell? ⟨w2.heap.size,0,none⟩=some v4:=cell_of_row w4 _ 0 _ _ _ hs4.blk;have hown:=tE hs4.own hB2;have hB4:=B2.trans (hs4.low.mono B2.size);clear hN hst hs4 t3;go_wp2_with fail
  go_ret2
  exact NQ.mk HU.out hB4 hown
def stR(t:T):List (List Int)×Int:=if chk t=true then(stW [] t,0)else([],71)
def SQ(w:World)(r:List (List Int)×Int)(e:Ending)(w':World):Prop:=Below w.heap.size w w'∧∃ v us ob,e=.returned (.tuple #[v,.int .i64 r.2])∧w'.ownsRow w.heap.size 47 1 v us.length us∧eR ob w' v us r.1
theorem SQ.mk{w:World}{r:List (List Int)×Int}{w':World}{l:List (List Int)}{x:Int}{v:Value}{us:List Value}{ob:Nat}(h:r=(l,x))(b:Below w.heap.size w w')(hv:w'.ownsRow w.heap.size 47 1 v us.length us)(hp:eR ob w' v us l):SQ w r (.returned (.tuple #[v,.int .i64 x])) w':=by
 subst h;exact⟨b,v,us,ob,rfl,hv,hp⟩
theorem vE(w:World)(hTab:eJ w)(t:T)(ho:okT t)(hwd:wdT t)(k n a:Int)(s:ByteArray)(ao:Option Addr)(m c:Nat)(ht:Tr w t (vT k n a s ao m c)):Calls Tryz.prog 28 #[tg k n a s ao m c] w (SQ w (stR t)):=by
 have hmf:∀ (fn:Fn) (first cap:Array Value) (w:World),(Instr.makeFunc fn first cap).run Tryz.prog w=.ok (.func fn first cap) w:=fun _ _ _ _=>rfl
 have b1:=aC w (.cells (tg k n a s ao m c) 24);have t1:=TV.new w k n a s (.slice ao m c);go_enter Tryz.func28,Tryz.ntmps28;go_upto_region 1 with fail;generalize World.alloc w _=w1 at b1 t1 ⊢;have hC:=jG w1 (hTab.below b1) t ho hwd k n a s ao m c (ht.low b1);unfold Db at hC;have:=TV.facts t1
 cases hc:chk t with
 | false=>
  have HU:=hdq (show stR t=([],71)by unfold stR;rw[hc];rfl);rw[hc]at hC;clear ht ho hwd hc;go_wp2_with (go_at_call 14;refine hC.mono ?_;rintro e w2 ⟨rfl,b2⟩)
  go_ret2
  exact SQ.mk (ob:=0) (us:=[]) HU.out (b1.trans (b2.mono b1.size)) ⟨rfl,.inl ⟨rfl,rfl⟩⟩ trivial
 | true=>
  rw[hc]at hC;have hsm:=qY hc;unfold lH at hsm;rw[Bool.and_eq_true,decide_eq_true_eq,decide_eq_true_eq]at hsm;have HU:=hdq (show stR t=(stW [] t,0)by unfold stR;rw[if_pos hc]);go_upto_region 4 with (go_at_call 14;refine hC.mono ?_;rintro e w2 ⟨rfl,b2⟩);have t2:=t1.below b2;have B2:=b1.trans (b2.mono b1.size);have b3:=aC w2 (.cells #[.int .i64 21,.int .i64 22,.int .i64 33,.int .i64 40,.int .i64 41,.int .i64 42] 3);have n3:=heap_alloc_new w2 (.cells #[.int .i64 21,.int .i64 22,.int .i64 33,.int .i64 40,.int .i64 41,.int .i64 42] 3);have z3:(w2.alloc (.cells #[.int .i64 21,.int .i64 22,.int .i64 33,.int .i64 40,.int .i64 41,.int .i64 42] 3)).heap.size=w2.heap.size+1:=by simp
  have b4:=aC (w2.alloc (.cells #[.int .i64 21,.int .i64 22,.int .i64 33,.int .i64 40,.int .i64 41,.int .i64 42] 3)) (.cells #[.slice (some ⟨w2.heap.size,0,none⟩) 6 6] 47);have n4:=heap_alloc_new (w2.alloc (.cells #[.int .i64 21,.int .i64 22,.int .i64 33,.int .i64 40,.int .i64 41,.int .i64 42] 3)) (.cells #[.slice (some ⟨w2.heap.size,0,none⟩) 6 6] 47);have n3':=(b4.block _ (fP n3)).trans n3;have t4:=(t2.below b3).below b4;have B4:=B2.trans ((b3.trans (b4.mono b3.size)).mono B2.size);rw[z3]at n4;have hw2:w.heap.size≤w2.heap.size:=B2.size;clear b1 b2 t1 t2 hC hc ho hwd n3 b3 b4 B2 z3;go_upto_region 5 with fail;generalize World.alloc (World.alloc w2 _) _=w4 at n3' n4 t4 B4 ⊢;have hO:II w4 (w2.heap.size+1):=⟨w2.heap.size,fP n4,fP n3',n4,n3'⟩
  have b5:=aC w4 (.cells #[.slice none 0 0] 53);have n5:=heap_alloc_new w4 (.cells #[.slice none 0 0] 53);have hst:PSt w4 w4.heap.size (w4.alloc (.cells #[.slice none 0 0] 53)) (.slice none 0 0) []:=⟨[],⟨b5,n5,Nat.le_refl _,⟨rfl,.inl ⟨rfl,rfl⟩⟩,by simp[Value.ownBlock]⟩,trivial⟩
  have t5:=t4.below b5;have ht4:=ht.low B4;have hB4:=B4.size;clear n3' n4 t4 n5 b5 ht;go_upto_region 6 with fail;generalize World.alloc w4 _=w5 at hst t5 ⊢;have hW:=No w4 w4.heap.size (w2.heap.size+1) hO _ t (Nat.le_refl _) w5 (.slice none 0 0) [] (.slice none 0 0) [] hst (.inl ⟨rfl,rfl⟩) (by simp;omega) (by simp;omega) k n a s ao m c ht4;have:=TV.facts t5;clear ht4 hO hst t5;go_upto_block 6 with fail;refine hW.mono ?_;rintro e w6 ⟨rfl,v6,⟨us,hot,hps⟩,_⟩;rw[List.nil_append]at hps;have k0:w6.cell? ⟨w4.heap.size,0,none⟩=some v6:=cell_of_row w6 _ 0 _ _ _ hot.blk;have hown:=tE hot.own hB4;have hB6:=B4.trans (hot.low.mono B4.size);clear hW hot;go_wp2_with fail
  go_ret2
  exact SQ.mk HU.out hB6 hown hps
def sx1: ByteArray:=⟨#[65,32,45,32,66,32,45,32,67,32,42,32,45,68]⟩
def sx2: ByteArray:=⟨#[73,70,32,40,65,41,32,61,32,66,32,84,72,69,78,32,69,76,83,69,32,61,32,50,59,32,69,76,83,69,32,83,84,79,80,59]⟩
def sx3: ByteArray:=⟨#[88,32,61,32,59]⟩
def sx4: ByteArray:=⟨#[70,79,79,32,88,59]⟩
def sx5: ByteArray:=⟨#[77,58,32,80,82,79,67,32,79,80,84,73,79,78,83,40,77,65,73,78,41,59,32,67,65,76,76,32,70,40,88,44,32,49,41,59,32,69,78,68,32,77,59]⟩
def sx6: ByteArray:=⟨#[73,70,32,65,61,66,32,84,72,69,78,32,69,76,83,69,61,50,59,10,69,76,83,69,32,83,84,79,80,59,10]⟩
def Oa: T:=Ge ⟨#[45]⟩ (Ge ⟨#[45]⟩ (fB ⟨#[65]⟩) (fB ⟨#[66]⟩)) (Ge ⟨#[42]⟩ (fB ⟨#[67]⟩) (.mk 5 0 0 ⟨#[45]⟩ [fB ⟨#[68]⟩]))
def MD: T:=.mk 1 2 0 ⟨#[50]⟩ []
def jX: T:=.mk 23 0 0 e0 [Ge ⟨#[61]⟩ (fB ⟨#[65]⟩) (fB ⟨#[66]⟩),.mk 24 0 0 e0 [fB ⟨#[69,76,83,69]⟩,MD],.mk 30 0 0 e0 []]
theorem ex8: nodes jX=11∧depth jX=4:=by
 constructor<;>decide
theorem ex1: (decide ((qZ sx1 true).2.2=0)&&fU (qZ sx1 true).1 Oa)=true:=by kernel_rfl
theorem ex2: (decide ((qZ sx2 false).2.2=0)&&fU (qZ sx2 false).1 jX)=true:=by kernel_rfl
theorem ex4: (qZ sx3 false).2=(2,70):=by kernel_rfl
theorem ex5: (qZ sx4 false).2=(0,70):=by kernel_rfl
theorem ex6: (Bm sx5).2=0:=by kernel_rfl
theorem ex3: MU jX=(sx6,0):=by kernel_rfl
theorem ex7: ((stR (Bm sx5).1).2,(stR (Bm sx5).1).1.length)=(0,2):=by kernel_rfl
theorem ex9: zH (Bm sx5).1=([⟨#[70]⟩,⟨#[88]⟩],0):=by kernel_rfl
theorem Rp: chk (.mk 11 0 0 ⟨#[65]⟩ [])=false:=by kernel_rfl
mutual
def okB: T→Bool
 | .mk _ n _ w l=>decide (-9223372036854775808≤n∧n≤9223372036854775807)&&(decide (l.length≤1000000)&&(decide (w.size≤big)&&Qc l))
def Qc: List T→Bool
 | []=>true
 | t::r=>okB t&&Qc r
end
theorem An: ∀ d (t:T),depth t≤d→okB t=true→okT t∧wdT t:=by
 intro d
 induction d using Nat.strongRecOn with
 | _ d ih=>
  intro t hd h;have H:=fun (x:T) (hx:x∈t.l)=>ih (depth x) (by have:=Px.iQ hx;omega) x (Nat.le_refl _)
  obtain⟨k,n,a,w,l⟩:=t;have hl:∀ m:List T,(∀ x,x∈m→okB x=true→okT x∧wdT x)→Qc m=true→Hn m∧My m:=by
   intro m
   induction m with
   | nil=>intro _ _;exact⟨by unfold Hn;trivial,by unfold My;trivial⟩
   | cons x r ihr=>
    intro g h;unfold Qc at h;rw[Bool.and_eq_true]at h;have h1:=g x (.head _) h.1;have h2:=ihr (fun y hy=>g y (.tail _ hy)) h.2;exact⟨by unfold Hn;exact⟨h1.1,h2.1⟩,by unfold My;exact⟨h1.2,h2.2⟩⟩
  unfold okB at h;rw[Bool.and_eq_true,Bool.and_eq_true,Bool.and_eq_true,decide_eq_true_eq,decide_eq_true_eq,decide_eq_true_eq]at h;have h2:=hl l H h.2.2.2;exact⟨by unfold okT;exact⟨h.1,h.2.1,h2.1⟩,by unfold wdT;exact⟨h.2.2.1,h2.2⟩⟩
theorem RA: okB (Bm sx5).1=true:=by kernel_rfl
theorem Rt: okB jX=true:=by kernel_rfl
theorem Rn: okB (.mk 11 0 0 ⟨#[65]⟩ [])=true:=by kernel_rfl
def tkB(s:ByteArray):Bool:=(sS s).all fun t=>decide (t.text.size≤1000)
theorem sE{s:ByteArray}(h:tkB s=true):∀ t,t∈(sS s).map Tok.t3→t.text.size≤140737488351232:=fun t ht=>by
 obtain⟨x,hx,rfl⟩:=List.mem_map.1 ht;have:=List.all_eq_true.1 h x hx;rw[decide_eq_true_eq]at this;exact Nat.le_trans this (by decide)
theorem Rv: (tkB sx1,tkB sx2,tkB sx3,tkB sx4,tkB sx5)=(true,true,true,true,true):=by kernel_rfl
def Tryz.DH: Go.Shelf.Ren:=⟨fun|33=>36|n=>n,fun|22=>64|23=>9|4=>4|3=>3|0=>0|n=>n,fun|n=>n⟩
theorem Tryz.Oc: Go.Proofs.SlLaysE.n33 Tryz.prog Tryz.DH:={
 mixed:=by kernel_rfl
 f33:=⟨Tryz.f36.name,by decide,Tryz.func36.trans (congrArg some (by kernel_rfl))⟩
 t0:=Tryz.underlying0
 a0:=Tryz.isAgg0
 z0:=Tryz.sizeOf0
 v0:=Tryz.zeroValue0
 t3:=Tryz.underlying3
 a3:=Tryz.isAgg3
 z3:=Tryz.sizeOf3
 v3:=Tryz.zeroValue3
 t4:=Tryz.underlying4
 a4:=Tryz.isAgg4
 z4:=Tryz.sizeOf4
 v4:=Tryz.zeroValue4
 t22:=Tryz.underlying64
 a22:=Tryz.isAgg64
 z22:=Tryz.sizeOf64
 v22:=Tryz.zeroValue64
 a23:=Tryz.isAgg9
 z23:=Tryz.sizeOf9 }
theorem Dd(w:World)(v:Value)(ss:List ByteArray)(B:Nat)(h0:ss≠[])(hn:ss.length≤1000000)(h:w.ownsRow B 9 1 v (ss.map Value.string).length (ss.map Value.string))(b2:Nat)(c2:Nat)(h2:∀ j,(hj:j<ss.length)→w.cell? ⟨b2,j,none⟩=some (.string (ss[j]'hj))):Calls Tryz.prog 36 #[v,.slice (some ⟨b2,0,none⟩) ss.length c2] w fun e w'=>e=.returned (.bool true)∧∃ q,w'=w.drewN q:=by
 have hpos:0<ss.length:=List.length_pos_iff.2 h0
 rcases h.2 with ⟨_,h1⟩|⟨g,cap,cur,rfl,hB,hg,hle,hmx,hsz,htk⟩
 ·rw[List.length_map]at h1;omega
 ·rw[List.length_map]at hle htk ⊢;refine(AnyE.slices_Equal Tryz.Oc Value.string _ (NeqAt.string Tryz.prog 9) g 0 ss.length cap b2 0 ss.length c2 ss ss w (Nat.le_refl _) (Nat.le_refl _) (by omega) (by omega) (fun j hj=>?_) (fun j hj=>?_)).mono ?_
  ·rw[Nat.zero_add,cell_of_row w g j _ _ _ hg,← Array.getElem?_toList];have h1:(List.take (ss.length*1) cur.toList)[j]?=(ss.map Value.string)[j]?:=by rw[htk]
   rw[List.getElem?_take,if_pos (by omega)]at h1;rw[h1,List.getElem?_map,getElem!_pos ss j hj,List.getElem?_eq_getElem hj];rfl
  ·rw[Nat.zero_add,getElem!_pos ss j hj];exact h2 j hj
  ·rintro e w' ⟨rfl,q,rfl⟩;refine⟨?_,q,rfl⟩;rw[List.take_length];have:∀ l:List ByteArray,Lib.allEq (fun x y=>x.toList==y.toList) l l=true:=by
    intro l
    induction l with
    | nil=>rfl
    | cons x r ih=>simp[Lib.allEq,ih]
   rw[this]
theorem BN.take{w:World}{ao:Option Addr}{c n:Nat}{p:List Int}(h:BN w (.slice ao p.length c) p)(hn:n≤p.length):BN w (.slice ao n c) (p.take n):=by
 obtain⟨ao',c',e,h,hc⟩:=h
 cases e
 refine⟨ao,c,by rw[List.length_take,Nat.min_eq_left hn],fun hne=>?_,by rw[List.length_take];omega⟩;have hp:p≠[]:=fun e=>hne (by rw[e,List.take_nil])
 obtain⟨b,off,e,hl,hu⟩:=h hp;refine⟨b,off,e,hl,fun i hi=>?_⟩;rw[List.getElem_take];exact hu i (by rw[List.length_take]at hi;omega)
theorem BN.form{w:World}{v:Value}{p:List Int}(h:BN w v p):∃ ao c,v=.slice ao p.length c∧p.length≤c:=by
 obtain⟨ao,c,e,_,hc⟩:=h;exact⟨ao,c,e,hc⟩
end
end Go.Proofs.YtfdlmcgcckkkdaaGreatDoor
