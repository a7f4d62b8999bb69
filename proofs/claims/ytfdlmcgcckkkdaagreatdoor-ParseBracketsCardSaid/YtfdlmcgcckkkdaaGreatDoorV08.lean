/- ParseWhole, part 8: what it stands on. -/
import Derived.Test.YtfdlmcgcckkkdaaGreatDoorV07
import Derived.StillTailTactics
set_option linter.all false
set_option maxHeartbeats 40000000
set_option maxRecDepth 100000
namespace Go.Proofs.YtfdlmcgcckkkdaaGreatDoor
section
open Go.RowKit Lx
theorem OA(l:Bs):(dbl l).length≤2*l.length:=by
 induction l with
 | nil=>exact Nat.le_refl _
 | cons c l ih=>
  unfold dbl
  split<;>simp<;>omega
theorem pU(k:Int)(t:ByteArray):(aZ k t).size≤2*t.size+3:=by
 unfold aZ;have h:=OA t.data.toList;have e:t.data.toList.length=t.size:=by simp
 rw[e]at h
 split
 ·show (t.data ++ #[66]).size≤_
  rw[Array.size_append,show t.data.size=t.size from rfl];simp;omega
 ·split
  ·show (List.toArray _).size≤_
   simp;omega
  ·split
   ·show (List.toArray _).size≤_
    simp;omega
   ·omega
def tN(x y:T3):Bool:=decide ((dC (aZ x.kind x.text++aZ y.kind y.text)).err=0)&&Lib.allEq uD ((sS (aZ x.kind x.text++aZ y.kind y.text)).map Tok.t3) [x,y]
theorem yR{w wc w':World}{B:Nat}(h:Below B w wc)(hB:B≤w.heap.size)(hb:Below wc.heap.size wc w'):Below B w w':=h.trans (hb.mono (Nat.le_trans hB h.size))
theorem Kb(x y:T3)(hx:x.text.size≤2147483647)(hy:y.text.size≤2147483647)(w:World)(hm:ML w):Calls Tryz.prog 87 #[SU x,SU y] w fun e w'=>e=.returned (.bool (tN x y))∧Below w.heap.size w w':=by
 obtain⟨r,hr⟩:∃ r,r=dC (aZ x.kind x.text++aZ y.kind y.text):=⟨_,rfl⟩
 obtain⟨ts,hts⟩:∃ ts,ts=sS (aZ x.kind x.text++aZ y.kind y.text):=⟨_,rfl⟩
 have htt:tN x y=(decide (r.err=0)&&Lib.allEq uD (ts.map Tok.t3) [x,y]):=by unfold tN;rw[hr,hts]
 rw[htt];clear htt;unfold SU;go_enter Tryz.func87,Tryz.ntmps87;go_upto_region 1 with fail;have b2:=yS w (.cells #[.int .i64 x.kind,.string x.text,.int .i64 x.at_] 43) (.cells #[.int .i64 y.kind,.string y.text,.int .i64 y.at_] 43);have n1:=heap_alloc_new w (.cells #[.int .i64 x.kind,.string x.text,.int .i64 x.at_] 43);have n2:=heap_alloc_new (w.alloc (.cells #[.int .i64 x.kind,.string x.text,.int .i64 x.at_] 43)) (.cells #[.int .i64 y.kind,.string y.text,.int .i64 y.at_] 43);have n3:=(Lib.alloc_old (w.alloc (.cells #[.int .i64 x.kind,.string x.text,.int .i64 x.at_] 43)) (.cells #[.int .i64 y.kind,.string y.text,.int .i64 y.at_] 43) w.heap.size (Array.getElem?_eq_some_iff.1 n1).1).trans n1;rw[World.size_alloc]at n2;generalize (w.alloc (.cells #[.int .i64 x.kind,.string x.text,.int .i64 x.at_] 43)).alloc (.cells #[.int .i64 y.kind,.string y.text,.int .i64 y.at_] 43)=w2 at b2 n2 n3 ⊢;have hm2:=hm.below b2;have l1:=(Array.getElem?_eq_some_iff.1 n3).1;have l2:=(Array.getElem?_eq_some_iff.1 n2).1;have p0:w2.cell? ⟨w.heap.size,0,none⟩=some (.int .i64 x.kind):=by rw[Lib.cell_of_heap n3];rfl
 have p1:w2.cell? ⟨w.heap.size,1,none⟩=some (.string x.text):=by rw[Lib.cell_of_heap n3];rfl
 have p2:w2.cell? ⟨w.heap.size,2,none⟩=some (.int .i64 x.at_):=by rw[Lib.cell_of_heap n3];rfl
 have q0:w2.cell? ⟨w.heap.size+1,0,none⟩=some (.int .i64 y.kind):=by rw[Lib.cell_of_heap n2];rfl
 have q1:w2.cell? ⟨w.heap.size+1,1,none⟩=some (.string y.text):=by rw[Lib.cell_of_heap n2];rfl
 have q2:w2.cell? ⟨w.heap.size+1,2,none⟩=some (.int .i64 y.at_):=by rw[Lib.cell_of_heap n2];rfl
 have zx:=pU x.kind x.text;have zy:=pU y.kind y.text;have hsz:(aZ x.kind x.text++aZ y.kind y.text).size≤140737488351232:=by rw[ByteArray.size_append];omega
 have hb2:Below w2.heap.size w2 w2.drew:=(Below.refl _ _).drew;have hc3:∀ W,ML W→Calls Tryz.prog 57 #[.string (aZ x.kind x.text++aZ y.kind y.text)] W fun e w'=>∃ lv,e=.returned (.tuple #[lv,.int .i64 r.at_,.int .i64 r.err])∧w'.ownsRow W.heap.size 43 3 lv ts.length (mR ts)∧Below W.heap.size W w':=by
  intro W h;rw[hr,hts];exact oQ (aZ x.kind x.text++aZ y.kind y.text) hsz W h
 have hab:(aZ x.kind x.text).size+(aZ y.kind y.text).size≤140737488351232:=by omega
 have hnl:¬ 9223372036854775807<(aZ x.kind x.text).size+(aZ y.kind y.text).size:=by omega
 have HC3:=Lib.hid hc3;clear n1 n2 n3 zx zy hr hts hc3
 go_region_held3 (fun w' => w'.cell? ⟨w.heap.size, 0, none⟩ = some (.int .i64 x.kind) ∧ w'.cell? ⟨w.heap.size, 1, none⟩ = some (.string x.text) ∧ w'.cell? ⟨w.heap.size, 2, none⟩ = some (.int .i64 x.at_) ∧ w'.cell? ⟨w.heap.size + 1, 0, none⟩ = some (.int .i64 y.kind) ∧ w'.cell? ⟨w.heap.size + 1, 1, none⟩ = some (.string y.text) ∧ w'.cell? ⟨w.heap.size + 1, 2, none⟩ = some (.int .i64 y.at_) ∧ Below w2.heap.size w2 w') (go_keep) (first
   | (go_at_call 90; refine (Ck _ _ _ (by assumption) _ (hm2.below (by assumption))).mono ?_; rintro e w' ⟨rfl, hb⟩; have hn := yR (by assumption) (Nat.le_refl w2.heap.size) hb; have g0 := (hn.cell (p := ⟨w.heap.size, 0, none⟩) l1).trans p0; have g1 := (hn.cell (p := ⟨w.heap.size, 1, none⟩) l1).trans p1; have g2 := (hn.cell (p := ⟨w.heap.size, 2, none⟩) l1).trans p2; have k0 := (hn.cell (p := ⟨w.heap.size + 1, 0, none⟩) l2).trans q0; have k1 := (hn.cell (p := ⟨w.heap.size + 1, 1, none⟩) l2).trans q1; have k2 := (hn.cell (p := ⟨w.heap.size + 1, 2, none⟩) l2).trans q2)
   | (go_at_call 57; refine (HC3.out _ (hm2.below (by assumption))).mono ?_; rintro e w' ⟨lv, rfl, hown, hb⟩; have hn := yR (by assumption) (Nat.le_refl w2.heap.size) hb; have g0 := (hn.cell (p := ⟨w.heap.size, 0, none⟩) l1).trans p0; have g1 := (hn.cell (p := ⟨w.heap.size, 1, none⟩) l1).trans p1; have g2 := (hn.cell (p := ⟨w.heap.size, 2, none⟩) l1).trans p2; have k0 := (hn.cell (p := ⟨w.heap.size + 1, 0, none⟩) l2).trans q0; have k1 := (hn.cell (p := ⟨w.heap.size + 1, 1, none⟩) l2).trans q1; have k2 := (hn.cell (p := ⟨w.heap.size + 1, 2, none⟩) l2).trans q2))
 have z2:=b2.size;have z3:=hn.size;clear hab hnl hsz p0 p1 p2 q0 q1 q2 HC3 hm2 hm hx hy
 by_cases he:r.err=0
 ·rw[he];go_wp2_with fail;have hr1:cK w' lv (ts.map Tok.t3):=cK.Bu (by rw[List.length_map,← jB];exact hown);have hln:(ts.map Tok.t3).length≤9223372036854775807:=by
   rw[List.length_map]
   rcases hown.2 with ⟨_,h0⟩|⟨g,cap',cur,hv,hB,hg,hnc,hcm,rest⟩
   ·omega
   ·unfold maxLen at hcm;omega
  have hr2:=hr1.below (aC w' (.cells #[.int .i64 x.kind,.string x.text,.int .i64 x.at_,.int .i64 y.kind,.string y.text,.int .i64 y.at_] 43)) (Nat.le_refl _);have n4:=heap_alloc_new w' (.cells #[.int .i64 x.kind,.string x.text,.int .i64 x.at_,.int .i64 y.kind,.string y.text,.int .i64 y.at_] 43);have b4:=aC w' (.cells #[.int .i64 x.kind,.string x.text,.int .i64 x.at_,.int .i64 y.kind,.string y.text,.int .i64 y.at_] 43);generalize w'.alloc (.cells #[.int .i64 x.kind,.string x.text,.int .i64 x.at_,.int .i64 y.kind,.string y.text,.int .i64 y.at_] 43)=w4 at hr2 n4 b4 ⊢;have hr3:cK w4 (.slice (some ⟨w'.heap.size,0,none⟩) 2 2) [x,y]:=by
   refine⟨_,2,rfl,fun _=>⟨w'.heap.size,0,rfl,(Array.getElem?_eq_some_iff.1 n4).1,fun j hj i u hu=>?_⟩⟩;rw[Lib.cell_of_heap n4];have hi:i<3:=by
    have:=(List.getElem?_eq_some_iff.1 hu).1
    simpa[EB]using this
   have hj':j=0∨j=1:=by simp at hj;omega
   have hi':i=0∨i=1∨i=2:=by omega
   rcases hj' with rfl|rfl<;>rcases hi' with rfl|rfl|rfl<;>simpa[EB]using hu
  refine(GA _ _ _ _ w4 hr2 hr3 hln (by show 2≤_;decide)).mono ?_;rintro e w5 ⟨rfl,hb5⟩;have z4:=b4.size;go_wp2_with fail;go_ret;exact⟨by rw[he];rfl,((b2.trans (hn.mono z2)).trans (b4.mono (by omega))).trans (hb5.mono (by omega))⟩
 ·have hd:decide (r.err=0)=false:=decide_eq_false he;have hd':(r.err==0)=false:=by rw[beq_eq_false_iff_ne];exact he
  go_wp2_with fail;go_ret;refine⟨?_,b2.trans (hn.mono z2)⟩;rw[hd]
  simp
def QF: Go.Shelf.Ren:=⟨fun|167=>88|n=>Tryz.jM.f n,Tryz.jM.t,Tryz.jM.g⟩
theorem lM(B b:Nat)(bs:List Value)(c:Int)(w:World)(h:Lib.IsBuilderF 126 5 B b bs w)(hlen:bs.length+1≤140737488355328)(hBw:B≤w.heap.size):Calls Tryz.prog 88 #[.pointer (some ⟨b,0,none⟩),.int .u8 c] w fun e w'=>e=.returned .nilIface∧(Lib.BuilderAtF 126 5 B b (.pointer (some ⟨b,0,none⟩)) (bs++[.int .u8 c]) w'∧Below B w w'∧Lib.OthersKept 5 (some b) w w'):=
 Any.Builder_WriteByte_k (ρ:=QF) { Tryz.Jp with f167:=Tryz.func88.trans (congrArg some (by kernel_rfl)) } { Tryz.lJ with } B b bs c w h hlen hBw
def OF: Option (Int×ByteArray)→Int×ByteArray→Bs
 | none,_=>[]
 | some p,a=>if pE p then []else if rH p a then []else [32]
def nlB(a:Int×ByteArray):Bs:=if pE a then [10]else []
theorem pY(a:Int×ByteArray):nM a []=nlB a:=by unfold nM nlB;rfl
theorem BM(p a:Int×ByteArray):OF (some p) a=if pE p then []else if rH p a then []else [32]:=rfl
theorem pR(a b:Int×ByteArray)(r:List (Int×ByteArray)):nM a (b::r)=nlB a++OF (some a) b:=by
 rw[Df,BM];unfold nlB
 by_cases h:pE a=true
 ·rw[if_pos h,if_pos h,if_pos h];rfl
 ·rw[if_neg h,if_neg h,if_neg h];rfl
theorem CX: ∀ (x:List (Int×ByteArray)) (a:Int×ByteArray),eU (x++[a])=eU x++(OF x.getLast? a++(spl a++nlB a)):=by
 intro x
 induction x with
 | nil=>intro a;show spl a++(nM a []++[])=_;rw[pY];simp[eU,OF]
 | cons p r ih=>
  intro a
  cases r with
  | nil=>
   show spl p++(nM p [a]++(spl a++(nM a []++[])))=(spl p++(nM p []++[]))++_
   rw[pR,pY,pY]
   simp[List.getLast?]
  | cons q r=>
   rw[List.cons_append,vJ,ih]
   show spl p++(nM p (q::(r++[a]))++_)=_
   rw[vJ p (q::r),pR,pR]
   simp[List.getLast?]
theorem vZ(l:List (Int×ByteArray))(k:Nat)(h:k<l.length):eU (l.take (k+1))=eU (l.take k)++(OF (l.take k).getLast? l[k]++(spl l[k]++nlB l[k])):=by
 rw[List.take_succ_eq_append_getElem h,CX]
theorem iG(l:List (Int×ByteArray)):∀ d k,k+d≤l.length→(eU (l.take k)).length≤(eU (l.take (k+d))).length:=by
 intro d
 induction d with
 | zero=>intro k _;exact Nat.le_refl _
 | succ d ih=>
  intro k h;have h1:=ih k (by omega);have h2:=vZ l (k+d) (by omega);rw[show k+(d+1)=k+d+1 from rfl,h2,List.length_append];omega
theorem GU(l:List (Int×ByteArray))(k:Nat)(h:k<l.length):(l.take (k+1)).getLast?=some l[k]:=by
 rw[List.take_succ_eq_append_getElem h,List.getLast?_concat]
def kt3(t:T3):Int×ByteArray:=(t.kind,t.text)
theorem LG(ts:List Tok)(x y:T3):Lib.allEq uD (ts.map Tok.t3) [x,y]=decide (ts.map kt=[kt3 x,kt3 y]):=by
 match ts with
 | []=>rfl
 | [a]=>simp[Lib.allEq]
 | a::b::c::r=>simp[Lib.allEq]
 | [a,b]=>
  rw[Bool.eq_iff_iff]
  simp[Lib.allEq,Tok.t3,uD,kt,kt3,and_assoc]
theorem KO(x y:T3):tN x y=rH (kt3 x) (kt3 y):=by
 unfold tN rH;rw[LG]
 show (decide _&&decide _)=(decide ((dC (aZ x.kind x.text++aZ y.kind y.text)).err=0)&&_)
 by_cases he:(dC (aZ x.kind x.text++aZ y.kind y.text)).err=0
 ·have e1:sS (aZ x.kind x.text++aZ y.kind y.text)=(dC (aZ x.kind x.text++aZ y.kind y.text)).toks:=by unfold sS;rw[if_pos he]
  rw[e1];rfl
 ·simp[he]
def xV(l:List (Int×ByteArray))(w:World)(e:Ending)(w':World):Prop:=e=.returned (.tuple #[.string (cL l).1,.int .i64 (cL l).2])∧Below w.heap.size w w'
theorem Fm(l:List T3)(h:(l.map kt3).all okI=true)(k:Nat)(hk:k<l.length):bX l[k]!.kind l[k]!.text=true:=by
 rw[getElem!_pos l k hk];exact List.all_eq_true.1 h (kt3 l[k]) (List.mem_map_of_mem (List.getElem_mem hk))
theorem zI(l:List T3)(h:∀ j,j<l.length→bX l[j]!.kind l[j]!.text=true):(l.map kt3).all okI=true:=by
 rw[List.all_eq_true];intro a ha;obtain⟨t,ht,rfl⟩:=List.mem_map.1 ha;obtain⟨j,hj,rfl⟩:=List.getElem_of_mem ht;have:=h j hj
 rwa[getElem!_pos l j hj]at this
theorem FD(v:Value)(l:List T3)(w:World)(hrow:cK w v l)(hlen:l.length≤9223372036854775807)(hl:5000<l.length):Calls Tryz.prog 56 #[v] w (xV (l.map kt3) w):=by
 obtain⟨ao,cap,rfl,_⟩:=hrow;have hr:cL (l.map kt3)=(⟨#[]⟩,2):=by unfold cL;rw[if_pos (by rw[List.length_map];exact hl)]
 unfold xV;rw[hr];clear hr;have hl':(5000:Int)<(l.length:Int):=by omega
 go_enter Tryz.func56,Tryz.ntmps56;go_wp2_with fail
 go_ret2
 exact⟨rfl,Below.refl _ _⟩
theorem Jl(v:Value)(l:List T3)(hs:∀ t∈l,t.text.size≤2147483647)(w:World)(hrow:cK w v l)(hl:l.length≤5000)(hbad:(l.map kt3).all okI=false):Calls Tryz.prog 56 #[v] w (xV (l.map kt3) w):=by
 have hr:cL (l.map kt3)=(⟨#[]⟩,50):=by unfold cL;rw[if_neg (by rw[List.length_map];omega),if_pos hbad]
 unfold xV;rw[hr];have HBAD:=Lib.hid hbad;clear hr hbad;obtain⟨ao,cap,rfl,h1⟩:=hrow;have hl':¬ (5000:Int)<(l.length:Int):=by omega
 have HS:=Lib.hid hs;clear hs;go_enter Tryz.func56,Tryz.ntmps56;go_wp2_with fail;generalize hn:l.length=n at h1 hl hl' ⊢;have HN:=Lib.hid hn;have H1:=Lib.hid h1;clear hn h1
 go_loopg [14] n (fun gg q wr=>∃ kk:Nat,kk≤n∧n - kk≤gg∧q=.int .i64 kk∧Aside (Below w.heap.size w wr)∧Aside (∀ j,j<kk→bX l[j]!.kind l[j]!.text=true))
 case atStart=>exact⟨0,Nat.zero_le _,by omega,rfl,Below.refl _ w,fun j hj=>absurd hj (Nat.not_lt_zero _)⟩
 case round=>
  obtain⟨kk,hkk,hg,rfl,BW,A⟩:=hrel
  by_cases hlt:kk<n
  ·have hltz:(kk:Int)<(n:Int):=by omega
   obtain⟨b1,o1,rfl,l1,c1⟩:=H1.out (by intro e;have:=HN.out;rw[e]at this;simp at this;omega);have r1:=jV c1 l1 BW.out kk hlt;have hxs:l[kk]!.text.size≤2147483647:=by
    rw[getElem!_pos l kk (by rw[HN.out];exact hlt)];exact HS.out _ (List.getElem_mem _)
   clear c1 l1;generalize hxk:l[kk]! = x at r1 hxs;have X:Aside (l[kk]! = x):=hxk;clear hxk;obtain⟨p0,p1,p2⟩:=r1;go_upto_region 6 with fail;have bw1:Below w.heap.size w (wr.alloc (.cells #[.int .i64 x.kind,.string x.text,.int .i64 x.at_] 43)):=BW.out.alloc BW.out.size _;have n1:=heap_alloc_new wr (.cells #[.int .i64 x.kind,.string x.text,.int .i64 x.at_] 43);generalize wr.alloc (.cells #[.int .i64 x.kind,.string x.text,.int .i64 x.at_] 43)=w1 at bw1 n1 ⊢;have q0:w1.cell? ⟨wr.heap.size,0,none⟩=some (.int .i64 x.kind):=by rw[Lib.cell_of_heap n1];rfl
   have q1:w1.cell? ⟨wr.heap.size,1,none⟩=some (.string x.text):=by rw[Lib.cell_of_heap n1];rfl
   have q2:w1.cell? ⟨wr.heap.size,2,none⟩=some (.int .i64 x.at_):=by rw[Lib.cell_of_heap n1];rfl
   have hck:∀ W,Calls Tryz.prog 23 #[.agg #[.int .i64 x.kind,.string x.text,.int .i64 x.at_]] W fun e w'=>e=.returned (.int .i64 (qB (bX x.kind x.text)))∧Below W.heap.size W w':=
    fun W=>nG x.kind x.text x.at_ (by omega) W
   have HCK:=Lib.hid hck;clear hck n1 p0 p1 p2 hxs
   cases hq:bX x.kind x.text with
   | false=>
    rw[hq]at HCK;go_wp2_with fail;refine(HCK.out _).mono ?_;rintro e w' ⟨rfl,hb'⟩;go_wp2_with fail
    go_ret2
    exact⟨rfl,bw1.trans (hb'.mono bw1.size)⟩
   | true=>
    rw[hq]at HCK;go_wp2_with fail;refine(HCK.out _).mono ?_;rintro e w' ⟨rfl,hb'⟩;go_wp2_with fail
    go_roundg (n - (kk+1))
    case measure=>omega
    case rel=>
     refine⟨kk+1,by omega,by omega,by go_num,bw1.trans (hb'.mono bw1.size),(show Aside _ from fun j hj=>?_)⟩
     by_cases e:j=kk
     ·subst e;rw[X.out];exact hq
     ·exact A.out j (by omega)
  ·have hltz:¬ (kk:Int)<(n:Int):=by omega
   have hke:kk=n:=by omega
   subst hke;have:=zI l (by rw[HN.out];exact A.out);rw[HBAD.out]at this
   cases this
end
end Go.Proofs.YtfdlmcgcckkkdaaGreatDoor
