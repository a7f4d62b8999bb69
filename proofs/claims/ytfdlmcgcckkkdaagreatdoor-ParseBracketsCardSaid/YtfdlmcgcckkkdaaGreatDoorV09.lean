/- ParseWhole, part 9: what it stands on. -/
import Derived.Test.YtfdlmcgcckkkdaaGreatDoorV08
import Derived.Shelf.Strings.MapGrows
import Derived.IntWalk
import Derived.Lib.QuietBelow
import Derived.ChangeKeysEq
set_option linter.all false
set_option maxHeartbeats 40000000
set_option maxRecDepth 100000
namespace Go.Proofs.YtfdlmcgcckkkdaaGreatDoor
section
open Go.RowKit Go.Sort Lx
theorem Gn(x:T3):pE (kt3 x)=(x.kind==6&&x.text.toList == [59]):=by
 unfold pE kt3;simp only
 congr 1
 rw[Bool.eq_iff_iff,decide_eq_true_iff,beq_iff_eq]
 constructor
 ·intro e;rw[e,toList_data]
 ·intro e;rw[toList_data]at e;exact tR e
def IU: Option (Int×ByteArray)→Int×ByteArray→Bool
 | none,_=>false
 | some p,a=>!pE p&&!rH p a
theorem NR(o:Option (Int×ByteArray))(a:Int×ByteArray):OF o a=if IU o a then [32]else []:=by
 cases o with
 | none=>rfl
 | some p=>
  rw[BM,show IU (some p) a=(!pE p&&!rH p a)from rfl]
  cases pE p<;>cases rH p a<;>rfl
theorem EU(v:Value)(l:List T3)(hs:∀ t∈l,t.text.size≤2147483647)(w:World)(hml:ML w)(hrow:cK w v l)(hl:l.length≤5000)(hgood:(l.map kt3).all okI=true):Calls Tryz.prog 56 #[v] w (xV (l.map kt3) w):=by
 have HGOOD:=Lib.hid hgood;clear hgood;obtain⟨ao,cap,rfl,h1⟩:=hrow;have hl':¬ (5000:Int)<(l.length:Int):=by omega
 have HS:=Lib.hid hs;clear hs;go_enter Tryz.func56,Tryz.ntmps56;go_wp2_with fail;generalize hn:l.length=n at h1 hl hl' ⊢;have HN:=Lib.hid hn;have H1:=Lib.hid h1;clear hn h1
 go_loopg [14] n (fun gg q wr=>∃ kk:Nat,kk≤n∧n - kk≤gg∧q=.int .i64 kk∧Aside (Below w.heap.size w wr)∧Aside (∀ j,j<kk→bX l[j]!.kind l[j]!.text=true))
 case atStart=>exact⟨0,Nat.zero_le _,by omega,rfl,Below.refl _ w,fun j hj=>absurd hj (Nat.not_lt_zero _)⟩
 case round=>
  obtain⟨kk,hkk,hg,rfl,BW,A⟩:=hrel
  by_cases hlt:kk<n
  ·have hltz:(kk:Int)<(n:Int):=by omega
   obtain⟨b1,o1,rfl,l1,c1⟩:=H1.out (by intro e;have:=HN.out;rw[e]at this;simp at this;omega);have r1:=jV c1 l1 BW.out kk hlt;have hxs:l[kk]!.text.size≤2147483647:=by
    rw[getElem!_pos l kk (by rw[HN.out];exact hlt)];exact HS.out _ (List.getElem_mem _)
   clear c1 l1;generalize hxk:l[kk]! = x at r1 hxs;have X:Aside (l[kk]! = x):=hxk;clear hxk;obtain⟨p0,p1,p2⟩:=r1;go_upto_region 6 with fail;have bw1:Below w.heap.size w (wr.alloc (.cells #[.int .i64 x.kind,.string x.text,.int .i64 x.at_] 43)):=BW.out.alloc BW.out.size _;have n1:=heap_alloc_new wr (.cells #[.int .i64 x.kind,.string x.text,.int .i64 x.at_] 43);generalize wr.alloc (.cells #[.int .i64 x.kind,.string x.text,.int .i64 x.at_] 43)=w1 at bw1 n1 ⊢;have q0:w1.cell? ⟨wr.heap.size,0,none⟩=some (.int .i64 x.kind):=by rw[Lib.cell_of_heap n1];rfl
   have q1:w1.cell? ⟨wr.heap.size,1,none⟩=some (.string x.text):=by rw[Lib.cell_of_heap n1];rfl
   have q2:w1.cell? ⟨wr.heap.size,2,none⟩=some (.int .i64 x.at_):=by rw[Lib.cell_of_heap n1];rfl
   have hck:∀ W,Calls Tryz.prog 23 #[.agg #[.int .i64 x.kind,.string x.text,.int .i64 x.at_]] W fun e w'=>e=.returned (.int .i64 (qB (bX x.kind x.text)))∧Below W.heap.size W w':=
    fun W=>nG x.kind x.text x.at_ (by omega) W
   have HCK:=Lib.hid hck;clear hck n1 p0 p1 p2 hxs
   cases hq:bX x.kind x.text with
   | false=>
    rw[hq]at HCK;have:=Fm l HGOOD.out kk (by rw[HN.out];exact hlt);rw[X.out,hq]at this
    cases this
   | true=>
    rw[hq]at HCK;go_wp2_with fail;refine(HCK.out _).mono ?_;rintro e w' ⟨rfl,hb'⟩;go_wp2_with fail
    go_roundg (n - (kk+1))
    case measure=>omega
    case rel=>
     refine⟨kk+1,by omega,by omega,by go_num,bw1.trans (hb'.mono bw1.size),(show Aside _ from fun j hj=>?_)⟩
     by_cases e:j=kk
     ·subst e;rw[X.out];exact hq
     ·exact A.out j (by omega)
  ·have hltz:¬ (kk:Int)<(n:Int):=by omega
   have hke:kk=n:=by omega
   subst hke;have hall:=zI l (by rw[HN.out];exact A.out);have hbx:=BW.out;clear A;go_wp2_with fail;have hb2:=hbx.alloc hbx.size (.cells #[.pointer none,.slice none 0 0] 126);have bld2:Lib.IsBuilderF 126 5 wr.heap.size wr.heap.size (Lib.byteCells []) (wr.alloc (.cells #[.pointer none,.slice none 0 0] 126)):=
    .of <| .inl ⟨Nat.le_refl _,_,heap_alloc_new wr (.cells #[.pointer none,.slice none 0 0] 126),World.ownsRow_nil _ _ _ _,by simp[Value.ownBlock]⟩
   have bel2:Below wr.heap.size (wr.alloc (.cells #[.pointer none,.slice none 0 0] 126)) (wr.alloc (.cells #[.pointer none,.slice none 0 0] 126)):=Below.refl _ _;have hz2:wr.heap.size<(wr.alloc (.cells #[.pointer none,.slice none 0 0] 126)).heap.size:=by simp
   have hBw:=hbx.size;generalize wr.alloc (.cells #[.pointer none,.slice none 0 0] 126)=w2 at hb2 bld2 bel2 hz2 ⊢;generalize wr.heap.size=B at bld2 bel2 hz2 hBw ⊢;have HALL:=Lib.hid hall;clear hall hltz hlt hbx BW
   go_loopg [24] kk (fun gg q wr=>∃ k:Nat,k≤kk∧kk - k≤gg∧q=.int .i64 k∧Lib.IsBuilderF 126 5 B B (Lib.byteCells (eU ((l.map kt3).take k))) wr∧Below B w2 wr∧(eU ((l.map kt3).take k)).length≤20000)
   case atStart=>exact⟨0,Nat.zero_le _,by omega,rfl,bld2,bel2,by simp[eU]⟩
   case round=>
    obtain⟨k,hk,hgg,rfl,bld,bel,hsz⟩:=hrel;have hbw:=hb2.trans (bel.mono hBw);have hBr:B≤wr.heap.size:=by have:=bel.size;omega
    by_cases hlt:k<kk
    ·have hltz:(k:Int)<(kk:Int):=by omega
     obtain⟨b1,o1,rfl,l1,c1⟩:=H1.out (by intro e;have:=HN.out;rw[e]at this;simp at this;omega);have r1:=jV c1 l1 hbw k hlt;have hxs:l[k]!.text.size≤2147483647:=by
      rw[getElem!_pos l k (by rw[HN.out];exact hlt)];exact HS.out _ (List.getElem_mem _)
     generalize hxk:l[k]! = x at r1 hxs;have X:Aside (l[k]! = x):=hxk;clear hxk;obtain⟨p0,p1,p2⟩:=r1;have hr2:=fun W (hW:Below w.heap.size w W) j (hj:j<kk)=>jV c1 l1 hW j hj
     have HR2:=Lib.hid hr2;clear hr2 c1 l1;go_upto_region 13 with fail;have bw1:Below w.heap.size w (wr.alloc (.cells #[.int .i64 x.kind,.string x.text,.int .i64 x.at_] 43)):=hbw.alloc hbw.size _;have bel1:Below B w2 (wr.alloc (.cells #[.int .i64 x.kind,.string x.text,.int .i64 x.at_] 43)):=bel.alloc hBr _;have bld1:=bld.alloc (.cells #[.int .i64 x.kind,.string x.text,.int .i64 x.at_] 43);have n1:=heap_alloc_new wr (.cells #[.int .i64 x.kind,.string x.text,.int .i64 x.at_] 43);have hB2:B<wr.heap.size:=by have:=bel.size;omega
     generalize wr.alloc (.cells #[.int .i64 x.kind,.string x.text,.int .i64 x.at_] 43)=w1 at bw1 bel1 bld1 n1 ⊢;have hlt1:=(Array.getElem?_eq_some_iff.1 n1).1;have q0:w1.cell? ⟨wr.heap.size,0,none⟩=some (.int .i64 x.kind):=by rw[Lib.cell_of_heap n1];rfl
     have q1:w1.cell? ⟨wr.heap.size,1,none⟩=some (.string x.text):=by rw[Lib.cell_of_heap n1];rfl
     have q2:w1.cell? ⟨wr.heap.size,2,none⟩=some (.int .i64 x.at_):=by rw[Lib.cell_of_heap n1];rfl
     generalize wr.heap.size=B2 at n1 hB2 hlt1 q0 q1 q2 ⊢;have N1:=Lib.hid n1;clear n1 p0 p1 p2 bld bel hbw hBr;have HM1:=Lib.hid (hml.below bw1);obtain⟨sb,hsb⟩:∃ sb,IU ((l.map kt3).take k).getLast? (kt3 x)=sb:=⟨_,rfl⟩
     have HSB:=Lib.hid hsb;clear hsb;go_cut [59] (fun c wx=>c=.bool sb∧Below w1.heap.size w1 wx)
     case first=>
      by_cases hk0:k=0
      ·subst hk0
       go_quiet (fail)
       go_wp2_with fail;go_meet;exact⟨by rw[← HSB.out];rfl,below_drewN (Below.refl _ _) _⟩
      ·obtain⟨j,hj⟩:∃ j,k=j+1:=⟨k - 1,by omega⟩
       have hlast:((l.map kt3).take k).getLast?=some (kt3 l[j]!):=by
        have h1:j<(l.map kt3).length:=by rw[List.length_map,HN.out];omega
        have h2:j<l.length:=by rw[HN.out];omega
        rw[hj,GU _ j h1,List.getElem_map,getElem!_pos l j h2]
       have hsb2:=HSB.out;rw[hlast]at hsb2;clear HSB hlast;have hys:l[j]!.text.size≤2147483647:=by
        rw[getElem!_pos l j (by rw[HN.out];omega)];exact HS.out _ (List.getElem_mem _)
       obtain⟨s0,s1,s2⟩:=HR2.out w1 bw1 j (by omega);have y0:IntKind.i64.wrap ((k:Int) - 1)=(j:Int):=by rw[hj,show ((j+1:Nat):Int) - 1=(j:Int)from by omega];exact IntWalk.i64_in _ (by omega)
       have y1:0<k:=by omega
       have y2:(j:Int)<(kk:Int):=by omega
       have y3:(0:Int)≤(j:Int):=by omega
       have HJ:=Lib.hid hj;clear hj hk0;generalize l[j]! = y at s0 s1 s2 hys hsb2;have HSB:=Lib.hid hsb2;clear hsb2
       cases hsm:pE (kt3 y) with
       | true=>
        obtain⟨yk,yt,ya⟩:=y;have h6:yk=6∧yt=⟨#[59]⟩:=by unfold pE kt3 at hsm;simpa using hsm
        obtain⟨rfl,rfl⟩:=h6
        go_quiet (fail)
        go_wp2_with fail;go_meet;exact⟨by rw[← HSB.out];unfold IU;simp only;rw[hsm];rfl,below_drewN (Below.refl _ _) _⟩
       | false=>
        have ht:∀ W,ML W→Calls Tryz.prog 87 #[.agg #[.int .i64 y.kind,.string y.text,.int .i64 y.at_],.agg #[.int .i64 x.kind,.string x.text,.int .i64 x.at_]] W fun e w'=>e=.returned (.bool (tN y x))∧Below W.heap.size W w':=
         fun W h=>Kb y x hys hxs W h
        have HT:=Lib.hid ht;have HSM:=Lib.hid hsm;clear ht hsm;have fin:sb = !tN y x:=by rw[← HSB.out,KO];unfold IU;simp only;rw[HSM.out];rfl
        have FIN:=Lib.hid fin;clear fin;have g0:=cell_regrown s0;have g1:=cell_regrown s1;have g2:=cell_regrown s2;have g3:=cell_regrown q0;have g4:=cell_regrown q1;have g5:=cell_regrown q2;have cT:∀ d os,Calls Tryz.prog 87 #[.agg #[.int .i64 y.kind,.string y.text,.int .i64 y.at_],.agg #[.int .i64 x.kind,.string x.text,.int .i64 x.at_]] (grow (redrawn w1 d) os) fun e w''=>e=.returned (.bool (tN y x))∧∃ p:Regrown,w''=grow (redrawn w1 p.d) p.os:=
         fun d os=>Calls.regrown_of (HT.out _ (HM1.out.below (below_regrown w1 d os)))
        have CT:=Lib.hid cT;clear cT
        by_cases h6:y.kind=6
        ·have e1:(y.kind==6)=true:=by rw[beq_iff_eq];exact h6
         have h7:¬ y.text=⟨#[59]⟩:=by intro e;have:=HSM.out;unfold pE kt3 at this;simp[h6,e]at this
         have e2:(y.text.toList == [59])=false:=by
          rw[beq_eq_false_iff_ne];intro e;apply h7;rw[toList_data]at e;exact tR e
         clear h6 h7;refine wp_region_quiet_below (by kernel_rfl) (by kernel_rfl) ?_
         repeat (go_big_quiet_step (exact CT.out _ _))
         refine wpQuiet_nil ?_;intro _ hw';obtain⟨⟨dq,osq⟩,hw''⟩:=hw';subst hw'';go_wp2_with fail;go_meet;exact⟨by rw[FIN.out],below_regrown w1 dq osq⟩
        ·have e1:(y.kind==6)=false:=by rw[beq_eq_false_iff_ne];exact h6
         clear h6;refine wp_region_quiet_below (by kernel_rfl) (by kernel_rfl) ?_
         repeat (go_big_quiet_step (exact CT.out _ _))
         refine wpQuiet_nil ?_;intro _ hw';obtain⟨⟨dq,osq⟩,hw''⟩:=hw';subst hw'';go_wp2_with fail;go_meet;exact⟨by rw[FIN.out],below_regrown w1 dq osq⟩
     case rest=>
      obtain⟨rfl,hbx⟩:=hcut;have hfin:eU ((l.map kt3).take (k+1))=eU ((l.map kt3).take k)++((if sb then [32]else [])++(spl (kt3 x)++nlB (kt3 x))):=by
       have h1:k<(l.map kt3).length:=by rw[List.length_map,HN.out];exact hlt
       have h2:k<l.length:=by rw[HN.out];exact hlt
       have h3:(l.map kt3)[k]=kt3 x:=by rw[List.getElem_map,← X.out,getElem!_pos l k h2]
       rw[vZ _ k h1,h3,NR,HSB.out]
      have HFIN:=Lib.hid hfin;have bwc:=bw1.trans (hbx.mono bw1.size);have belc:=bel1.trans (hbx.mono (Nat.le_of_lt (Nat.lt_trans hB2 hlt1)));have bldc:=bld1.below hbx;have Nc:=(hbx.block _ hlt1).trans N1.out;have hBc:B<wc.heap.size:=by have:=hbx.size;omega
      have hB2c:B2<wc.heap.size:=by have:=hbx.size;omega
      clear hfin HSB bw1 bel1 bld1 N1 q0 q1 q2 HM1 hlt1 hbx HR2;have hspz:(spl (kt3 x)).length≤4294967300:=by
       have:=pU x.kind x.text
       show (aZ x.kind x.text).data.toList.length≤_
       rw[Iy];omega
      obtain⟨A0,hA0⟩:∃ A0,eU ((l.map kt3).take k)=A0:=⟨_,rfl⟩
      rw[hA0]at HFIN bldc hsz;have HA0:=Lib.hid hA0;clear hA0;have hsp:∀ W,ML W→Calls Tryz.prog 90 #[.agg #[.int .i64 x.kind,.string x.text,.int .i64 x.at_]] W fun e w'=>e=.returned (.string (aZ x.kind x.text))∧Below W.heap.size W w':=fun W h=>Ck x.kind x.text x.at_ hxs W h
      have HSP:=Lib.hid hsp;clear hsp;have X3:pE (kt3 x)=(x.kind==6&&x.text.toList == [59]):=Gn x
      cases sb with
      | false=>
       have Nd:=Lib.hid Nc;have bldd:=bldc;have beld:=belc;have hd1:(Lib.byteCells A0).length≤20000:=by rw[Lib.byteCells_length];exact hsz
       cases hc1:(x.kind==6) with
       | false=>
        rw[hc1]at X3;have hnl:nlB (kt3 x)=[]:=by unfold nlB;rw[X3];rfl
        have HNL:=Lib.hid hnl;clear hnl X3;have t0:wc.cell? ⟨B2,0,none⟩=some (.int .i64 x.kind):=cell_of_row _ _ 0 _ _ _ Nd.out;have t1:wc.cell? ⟨B2,1,none⟩=some (.string x.text):=cell_of_row _ _ 1 _ _ _ Nd.out;have t2:wc.cell? ⟨B2,2,none⟩=some (.int .i64 x.at_):=cell_of_row _ _ 2 _ _ _ Nd.out;have hzd:=beld.size;go_wp2_with fail;refine(HSP.out _ (hml.below (hb2.trans (beld.mono hBw)))).mono ?_;rintro e w6 ⟨rfl,hb6⟩;have bld6:=bldd.below hb6;have bel6:=beld.trans (hb6.mono (by omega));have hz6:=bel6.size;have N6:=(hb6.block B2 (Array.getElem?_eq_some_iff.1 Nd.out).1).trans Nd.out;clear t0 t1 t2 bldd beld;go_wp2_with fail;refine(eN B B (Lib.byteCells A0) (aZ x.kind x.text) w6 bld6 (by have:(aZ x.kind x.text).size=(spl (kt3 x)).length:=rfl;omega) (by omega)).mono ?_;rintro e w7 ⟨rfl,hat,hb7,hk7⟩;rw[show Lib.byteCells A0++Lib.strCells (aZ x.kind x.text)=Lib.byteCells (A0++spl (kt3 x))from by rw[Lib.byteCells_append (A0) (spl (kt3 x)),Lib.strCells_eq];rfl]at hat;have N7:=hk7 _ _ N6 (by intro e;injection e with e;omega) (by intro c fz e;injection e with e1 e2 e3;exact absurd e2 (by decide));have bel7:=bel6.trans hb7;have t0:w7.cell? ⟨B2,0,none⟩=some (.int .i64 x.kind):=cell_of_row _ _ 0 _ _ _ N7;have t1:w7.cell? ⟨B2,1,none⟩=some (.string x.text):=cell_of_row _ _ 1 _ _ _ N7;have hz7:=bel7.size;clear hk7 hb7 N6 bld6 bel6 hb6;go_wp2_with fail;have hat8:=hat;have bel8:=bel7;have hacc:eU ((l.map kt3).take (k+1))=A0++spl (kt3 x):=by rw[HFIN.out,HNL.out];simp
        have HCUM:=Lib.hid hacc;clear hacc;have hln:=Tryz.Builder_Len_f B B (Lib.byteCells (A0++spl (kt3 x))) w7 (.inr hat8);rw[Lib.byteCells_length]at hln;obtain⟨nn,hnn⟩:∃ nn,(A0++spl (kt3 x)).length=nn:=⟨_,rfl⟩
        rw[hnn]at hln;have HLN:=Lib.hid hln;have HNN:=Lib.hid hnn;clear hln hnn;go_wp2_with fail;refine(HLN.out).mono ?_;rintro e w9 ⟨rfl,hw9⟩;rw[hw9];clear hw9
        by_cases hbig:20000<nn
        ·have hbz:(20000:Int)<(nn:Int):=by omega
         have hpr:cL (l.map kt3)=(⟨#[]⟩,2):=by
          have h1:=iG (l.map kt3) (kk - (k+1)) (k+1) (by rw[List.length_map,HN.out];omega);have e:(l.map kt3).take (k+1+(kk - (k+1)))=l.map kt3:=List.take_of_length_le (by rw[List.length_map,HN.out];omega);rw[e,HCUM.out,HNN.out]at h1;unfold cL;rw[if_neg (by rw[List.length_map,HN.out];omega),if_neg (by rw[HGOOD.out];decide),if_pos (by omega)]
         have HPR:=Lib.hid hpr;clear hpr hbig;go_wp2_with fail
         go_ret2
         exact⟨by rw[HPR.out];rfl,hb2.trans (bel8.mono hBw)⟩
        ·have hbz:¬ (20000:Int)<(nn:Int):=by omega
         go_wp2_with fail
         go_roundg (kk - (k+1))
         case rel=>exact⟨k+1,by omega,by omega,by go_num,by rw[HCUM.out];exact .inr hat8,bel8,by rw[HCUM.out,HNN.out];omega⟩
         case measure=>omega
       | true=>
        cases hc2:(x.text.toList == [59]) with
        | false=>
         rw[hc1,hc2]at X3;have hnl:nlB (kt3 x)=[]:=by unfold nlB;rw[X3];rfl
         have HNL:=Lib.hid hnl;clear hnl X3;have t0:wc.cell? ⟨B2,0,none⟩=some (.int .i64 x.kind):=cell_of_row _ _ 0 _ _ _ Nd.out;have t1:wc.cell? ⟨B2,1,none⟩=some (.string x.text):=cell_of_row _ _ 1 _ _ _ Nd.out;have t2:wc.cell? ⟨B2,2,none⟩=some (.int .i64 x.at_):=cell_of_row _ _ 2 _ _ _ Nd.out;have hzd:=beld.size;go_wp2_with fail;refine(HSP.out _ (hml.below (hb2.trans (beld.mono hBw)))).mono ?_;rintro e w6 ⟨rfl,hb6⟩;have bld6:=bldd.below hb6;have bel6:=beld.trans (hb6.mono (by omega));have hz6:=bel6.size;have N6:=(hb6.block B2 (Array.getElem?_eq_some_iff.1 Nd.out).1).trans Nd.out;clear t0 t1 t2 bldd beld;go_wp2_with fail;refine(eN B B (Lib.byteCells A0) (aZ x.kind x.text) w6 bld6 (by have:(aZ x.kind x.text).size=(spl (kt3 x)).length:=rfl;omega) (by omega)).mono ?_;rintro e w7 ⟨rfl,hat,hb7,hk7⟩;rw[show Lib.byteCells A0++Lib.strCells (aZ x.kind x.text)=Lib.byteCells (A0++spl (kt3 x))from by rw[Lib.byteCells_append (A0) (spl (kt3 x)),Lib.strCells_eq];rfl]at hat;have N7:=hk7 _ _ N6 (by intro e;injection e with e;omega) (by intro c fz e;injection e with e1 e2 e3;exact absurd e2 (by decide));have bel7:=bel6.trans hb7;have t0:w7.cell? ⟨B2,0,none⟩=some (.int .i64 x.kind):=cell_of_row _ _ 0 _ _ _ N7;have t1:w7.cell? ⟨B2,1,none⟩=some (.string x.text):=cell_of_row _ _ 1 _ _ _ N7;have hz7:=bel7.size;clear hk7 hb7 N6 bld6 bel6 hb6;go_wp2_with fail;have hat8:=hat;have bel8:=bel7;have hacc:eU ((l.map kt3).take (k+1))=A0++spl (kt3 x):=by rw[HFIN.out,HNL.out];simp
         have HCUM:=Lib.hid hacc;clear hacc;have hln:=Tryz.Builder_Len_f B B (Lib.byteCells (A0++spl (kt3 x))) w7 (.inr hat8);rw[Lib.byteCells_length]at hln;obtain⟨nn,hnn⟩:∃ nn,(A0++spl (kt3 x)).length=nn:=⟨_,rfl⟩
         rw[hnn]at hln;have HLN:=Lib.hid hln;have HNN:=Lib.hid hnn;clear hln hnn;go_wp2_with fail;refine(HLN.out).mono ?_;rintro e w9 ⟨rfl,hw9⟩;rw[hw9];clear hw9
         by_cases hbig:20000<nn
         ·have hbz:(20000:Int)<(nn:Int):=by omega
          have hpr:cL (l.map kt3)=(⟨#[]⟩,2):=by
           have h1:=iG (l.map kt3) (kk - (k+1)) (k+1) (by rw[List.length_map,HN.out];omega);have e:(l.map kt3).take (k+1+(kk - (k+1)))=l.map kt3:=List.take_of_length_le (by rw[List.length_map,HN.out];omega);rw[e,HCUM.out,HNN.out]at h1;unfold cL;rw[if_neg (by rw[List.length_map,HN.out];omega),if_neg (by rw[HGOOD.out];decide),if_pos (by omega)]
          have HPR:=Lib.hid hpr;clear hpr hbig;go_wp2_with fail
          go_ret2
          exact⟨by rw[HPR.out];rfl,hb2.trans (bel8.mono hBw)⟩
         ·have hbz:¬ (20000:Int)<(nn:Int):=by omega
          go_wp2_with fail
          go_roundg (kk - (k+1))
          case rel=>exact⟨k+1,by omega,by omega,by go_num,by rw[HCUM.out];exact .inr hat8,bel8,by rw[HCUM.out,HNN.out];omega⟩
          case measure=>omega
        | true=>
         rw[hc1,hc2]at X3;have hnl:nlB (kt3 x)=[10]:=by unfold nlB;rw[X3];rfl
         have HNL:=Lib.hid hnl;clear hnl X3;have t0:wc.cell? ⟨B2,0,none⟩=some (.int .i64 x.kind):=cell_of_row _ _ 0 _ _ _ Nd.out;have t1:wc.cell? ⟨B2,1,none⟩=some (.string x.text):=cell_of_row _ _ 1 _ _ _ Nd.out;have t2:wc.cell? ⟨B2,2,none⟩=some (.int .i64 x.at_):=cell_of_row _ _ 2 _ _ _ Nd.out;have hzd:=beld.size;go_wp2_with fail;refine(HSP.out _ (hml.below (hb2.trans (beld.mono hBw)))).mono ?_;rintro e w6 ⟨rfl,hb6⟩;have bld6:=bldd.below hb6;have bel6:=beld.trans (hb6.mono (by omega));have hz6:=bel6.size;have N6:=(hb6.block B2 (Array.getElem?_eq_some_iff.1 Nd.out).1).trans Nd.out;clear t0 t1 t2 bldd beld;go_wp2_with fail;refine(eN B B (Lib.byteCells A0) (aZ x.kind x.text) w6 bld6 (by have:(aZ x.kind x.text).size=(spl (kt3 x)).length:=rfl;omega) (by omega)).mono ?_;rintro e w7 ⟨rfl,hat,hb7,hk7⟩;rw[show Lib.byteCells A0++Lib.strCells (aZ x.kind x.text)=Lib.byteCells (A0++spl (kt3 x))from by rw[Lib.byteCells_append (A0) (spl (kt3 x)),Lib.strCells_eq];rfl]at hat;have N7:=hk7 _ _ N6 (by intro e;injection e with e;omega) (by intro c fz e;injection e with e1 e2 e3;exact absurd e2 (by decide));have bel7:=bel6.trans hb7;have t0:w7.cell? ⟨B2,0,none⟩=some (.int .i64 x.kind):=cell_of_row _ _ 0 _ _ _ N7;have t1:w7.cell? ⟨B2,1,none⟩=some (.string x.text):=cell_of_row _ _ 1 _ _ _ N7;have hz7:=bel7.size;clear hk7 hb7 N6 bld6 bel6 hb6;go_wp2_with fail;refine(lM B B (Lib.byteCells (A0++spl (kt3 x))) 10 w7 (.inr hat) (by rw[Lib.byteCells_length]at *; rw[List.length_append];omega) (by omega)).mono ?_;rintro e w8 ⟨rfl,hat8,hb8,hk8⟩;rw[show Lib.byteCells (A0++spl (kt3 x))++[Value.int .u8 10]=Lib.byteCells ((A0++spl (kt3 x))++[10])from by rw[Lib.byteCells_append (A0++spl (kt3 x))];rfl]at hat8;have bel8:=bel7.trans hb8;clear hk8 hb8 hat;have hacc:eU ((l.map kt3).take (k+1))=(A0++spl (kt3 x))++[10]:=by rw[HFIN.out,HNL.out];simp
         have HCUM:=Lib.hid hacc;clear hacc;have hln:=Tryz.Builder_Len_f B B (Lib.byteCells ((A0++spl (kt3 x))++[10])) w8 (.inr hat8);rw[Lib.byteCells_length]at hln;obtain⟨nn,hnn⟩:∃ nn,((A0++spl (kt3 x))++[10]).length=nn:=⟨_,rfl⟩
         rw[hnn]at hln;have HLN:=Lib.hid hln;have HNN:=Lib.hid hnn;clear hln hnn;go_wp2_with fail;refine(HLN.out).mono ?_;rintro e w9 ⟨rfl,hw9⟩;rw[hw9];clear hw9
         by_cases hbig:20000<nn
         ·have hbz:(20000:Int)<(nn:Int):=by omega
          have hpr:cL (l.map kt3)=(⟨#[]⟩,2):=by
           have h1:=iG (l.map kt3) (kk - (k+1)) (k+1) (by rw[List.length_map,HN.out];omega);have e:(l.map kt3).take (k+1+(kk - (k+1)))=l.map kt3:=List.take_of_length_le (by rw[List.length_map,HN.out];omega);rw[e,HCUM.out,HNN.out]at h1;unfold cL;rw[if_neg (by rw[List.length_map,HN.out];omega),if_neg (by rw[HGOOD.out];decide),if_pos (by omega)]
          have HPR:=Lib.hid hpr;clear hpr hbig;go_wp2_with fail
          go_ret2
          exact⟨by rw[HPR.out];rfl,hb2.trans (bel8.mono hBw)⟩
         ·have hbz:¬ (20000:Int)<(nn:Int):=by omega
          go_wp2_with fail
          go_roundg (kk - (k+1))
          case rel=>exact⟨k+1,by omega,by omega,by go_num,by rw[HCUM.out];exact .inr hat8,bel8,by rw[HCUM.out,HNN.out];omega⟩
          case measure=>omega
      | true=>
       go_wp2_with fail;refine(lM B B (Lib.byteCells A0) 32 wc bldc (by rw[Lib.byteCells_length];omega) (Nat.le_of_lt hBc)).mono ?_;rintro e w5 ⟨rfl,hat,hb5,hk5⟩;rw[show Lib.byteCells A0++[Value.int .u8 32]=Lib.byteCells (A0++[32])from by rw[Lib.byteCells_append];rfl]at hat;have Nd:=Lib.hid (hk5 _ _ Nc (by intro e;injection e with e;omega) (by intro c fz e;injection e with e1 e2 e3;exact absurd e2 (by decide)));have bldd:Lib.IsBuilderF 126 5 B B (Lib.byteCells (A0++[32])) w5:=.inr hat;have beld:=belc.trans hb5;have hd1:(Lib.byteCells (A0++[32])).length≤20001:=by rw[Lib.byteCells_length,List.length_append];simp;omega
       clear hat hb5 hk5
       cases hc1:(x.kind==6) with
       | false=>
        rw[hc1]at X3;have hnl:nlB (kt3 x)=[]:=by unfold nlB;rw[X3];rfl
        have HNL:=Lib.hid hnl;clear hnl X3;have t0:w5.cell? ⟨B2,0,none⟩=some (.int .i64 x.kind):=cell_of_row _ _ 0 _ _ _ Nd.out;have t1:w5.cell? ⟨B2,1,none⟩=some (.string x.text):=cell_of_row _ _ 1 _ _ _ Nd.out;have t2:w5.cell? ⟨B2,2,none⟩=some (.int .i64 x.at_):=cell_of_row _ _ 2 _ _ _ Nd.out;have hzd:=beld.size;go_wp2_with fail;refine(HSP.out _ (hml.below (hb2.trans (beld.mono hBw)))).mono ?_;rintro e w6 ⟨rfl,hb6⟩;have bld6:=bldd.below hb6;have bel6:=beld.trans (hb6.mono (by omega));have hz6:=bel6.size;have N6:=(hb6.block B2 (Array.getElem?_eq_some_iff.1 Nd.out).1).trans Nd.out;clear t0 t1 t2 bldd beld;go_wp2_with fail;refine(eN B B (Lib.byteCells (A0++[32])) (aZ x.kind x.text) w6 bld6 (by have:(aZ x.kind x.text).size=(spl (kt3 x)).length:=rfl;omega) (by omega)).mono ?_;rintro e w7 ⟨rfl,hat,hb7,hk7⟩;rw[show Lib.byteCells (A0++[32])++Lib.strCells (aZ x.kind x.text)=Lib.byteCells ((A0++[32])++spl (kt3 x))from by rw[Lib.byteCells_append ((A0++[32])) (spl (kt3 x)),Lib.strCells_eq];rfl]at hat;have N7:=hk7 _ _ N6 (by intro e;injection e with e;omega) (by intro c fz e;injection e with e1 e2 e3;exact absurd e2 (by decide));have bel7:=bel6.trans hb7;have t0:w7.cell? ⟨B2,0,none⟩=some (.int .i64 x.kind):=cell_of_row _ _ 0 _ _ _ N7;have t1:w7.cell? ⟨B2,1,none⟩=some (.string x.text):=cell_of_row _ _ 1 _ _ _ N7;have hz7:=bel7.size;clear hk7 hb7 N6 bld6 bel6 hb6;go_wp2_with fail;have hat8:=hat;have bel8:=bel7;have hacc:eU ((l.map kt3).take (k+1))=(A0++[32])++spl (kt3 x):=by rw[HFIN.out,HNL.out];simp
        have HCUM:=Lib.hid hacc;clear hacc;have hln:=Tryz.Builder_Len_f B B (Lib.byteCells ((A0++[32])++spl (kt3 x))) w7 (.inr hat8);rw[Lib.byteCells_length]at hln;obtain⟨nn,hnn⟩:∃ nn,((A0++[32])++spl (kt3 x)).length=nn:=⟨_,rfl⟩
        rw[hnn]at hln;have HLN:=Lib.hid hln;have HNN:=Lib.hid hnn;clear hln hnn;go_wp2_with fail;refine(HLN.out).mono ?_;rintro e w9 ⟨rfl,hw9⟩;rw[hw9];clear hw9
        by_cases hbig:20000<nn
        ·have hbz:(20000:Int)<(nn:Int):=by omega
         have hpr:cL (l.map kt3)=(⟨#[]⟩,2):=by
          have h1:=iG (l.map kt3) (kk - (k+1)) (k+1) (by rw[List.length_map,HN.out];omega);have e:(l.map kt3).take (k+1+(kk - (k+1)))=l.map kt3:=List.take_of_length_le (by rw[List.length_map,HN.out];omega);rw[e,HCUM.out,HNN.out]at h1;unfold cL;rw[if_neg (by rw[List.length_map,HN.out];omega),if_neg (by rw[HGOOD.out];decide),if_pos (by omega)]
         have HPR:=Lib.hid hpr;clear hpr hbig;go_wp2_with fail
         go_ret2
         exact⟨by rw[HPR.out];rfl,hb2.trans (bel8.mono hBw)⟩
        ·have hbz:¬ (20000:Int)<(nn:Int):=by omega
         go_wp2_with fail
         go_roundg (kk - (k+1))
         case rel=>exact⟨k+1,by omega,by omega,by go_num,by rw[HCUM.out];exact .inr hat8,bel8,by rw[HCUM.out,HNN.out];omega⟩
         case measure=>omega
       | true=>
        cases hc2:(x.text.toList == [59]) with
        | false=>
         rw[hc1,hc2]at X3;have hnl:nlB (kt3 x)=[]:=by unfold nlB;rw[X3];rfl
         have HNL:=Lib.hid hnl;clear hnl X3;have t0:w5.cell? ⟨B2,0,none⟩=some (.int .i64 x.kind):=cell_of_row _ _ 0 _ _ _ Nd.out;have t1:w5.cell? ⟨B2,1,none⟩=some (.string x.text):=cell_of_row _ _ 1 _ _ _ Nd.out;have t2:w5.cell? ⟨B2,2,none⟩=some (.int .i64 x.at_):=cell_of_row _ _ 2 _ _ _ Nd.out;have hzd:=beld.size;go_wp2_with fail;refine(HSP.out _ (hml.below (hb2.trans (beld.mono hBw)))).mono ?_;rintro e w6 ⟨rfl,hb6⟩;have bld6:=bldd.below hb6;have bel6:=beld.trans (hb6.mono (by omega));have hz6:=bel6.size;have N6:=(hb6.block B2 (Array.getElem?_eq_some_iff.1 Nd.out).1).trans Nd.out;clear t0 t1 t2 bldd beld;go_wp2_with fail;refine(eN B B (Lib.byteCells (A0++[32])) (aZ x.kind x.text) w6 bld6 (by have:(aZ x.kind x.text).size=(spl (kt3 x)).length:=rfl;omega) (by omega)).mono ?_;rintro e w7 ⟨rfl,hat,hb7,hk7⟩;rw[show Lib.byteCells (A0++[32])++Lib.strCells (aZ x.kind x.text)=Lib.byteCells ((A0++[32])++spl (kt3 x))from by rw[Lib.byteCells_append ((A0++[32])) (spl (kt3 x)),Lib.strCells_eq];rfl]at hat;have N7:=hk7 _ _ N6 (by intro e;injection e with e;omega) (by intro c fz e;injection e with e1 e2 e3;exact absurd e2 (by decide));have bel7:=bel6.trans hb7;have t0:w7.cell? ⟨B2,0,none⟩=some (.int .i64 x.kind):=cell_of_row _ _ 0 _ _ _ N7;have t1:w7.cell? ⟨B2,1,none⟩=some (.string x.text):=cell_of_row _ _ 1 _ _ _ N7;have hz7:=bel7.size;clear hk7 hb7 N6 bld6 bel6 hb6;go_wp2_with fail;have hat8:=hat;have bel8:=bel7;have hacc:eU ((l.map kt3).take (k+1))=(A0++[32])++spl (kt3 x):=by rw[HFIN.out,HNL.out];simp
         have HCUM:=Lib.hid hacc;clear hacc;have hln:=Tryz.Builder_Len_f B B (Lib.byteCells ((A0++[32])++spl (kt3 x))) w7 (.inr hat8);rw[Lib.byteCells_length]at hln;obtain⟨nn,hnn⟩:∃ nn,((A0++[32])++spl (kt3 x)).length=nn:=⟨_,rfl⟩
         rw[hnn]at hln;have HLN:=Lib.hid hln;have HNN:=Lib.hid hnn;clear hln hnn;go_wp2_with fail;refine(HLN.out).mono ?_;rintro e w9 ⟨rfl,hw9⟩;rw[hw9];clear hw9
         by_cases hbig:20000<nn
         ·have hbz:(20000:Int)<(nn:Int):=by omega
          have hpr:cL (l.map kt3)=(⟨#[]⟩,2):=by
           have h1:=iG (l.map kt3) (kk - (k+1)) (k+1) (by rw[List.length_map,HN.out];omega);have e:(l.map kt3).take (k+1+(kk - (k+1)))=l.map kt3:=List.take_of_length_le (by rw[List.length_map,HN.out];omega);rw[e,HCUM.out,HNN.out]at h1;unfold cL;rw[if_neg (by rw[List.length_map,HN.out];omega),if_neg (by rw[HGOOD.out];decide),if_pos (by omega)]
          have HPR:=Lib.hid hpr;clear hpr hbig;go_wp2_with fail
          go_ret2
          exact⟨by rw[HPR.out];rfl,hb2.trans (bel8.mono hBw)⟩
         ·have hbz:¬ (20000:Int)<(nn:Int):=by omega
          go_wp2_with fail
          go_roundg (kk - (k+1))
          case rel=>exact⟨k+1,by omega,by omega,by go_num,by rw[HCUM.out];exact .inr hat8,bel8,by rw[HCUM.out,HNN.out];omega⟩
          case measure=>omega
        | true=>
         rw[hc1,hc2]at X3;have hnl:nlB (kt3 x)=[10]:=by unfold nlB;rw[X3];rfl
         have HNL:=Lib.hid hnl;clear hnl X3;have t0:w5.cell? ⟨B2,0,none⟩=some (.int .i64 x.kind):=cell_of_row _ _ 0 _ _ _ Nd.out;have t1:w5.cell? ⟨B2,1,none⟩=some (.string x.text):=cell_of_row _ _ 1 _ _ _ Nd.out;have t2:w5.cell? ⟨B2,2,none⟩=some (.int .i64 x.at_):=cell_of_row _ _ 2 _ _ _ Nd.out;have hzd:=beld.size;go_wp2_with fail;refine(HSP.out _ (hml.below (hb2.trans (beld.mono hBw)))).mono ?_;rintro e w6 ⟨rfl,hb6⟩;have bld6:=bldd.below hb6;have bel6:=beld.trans (hb6.mono (by omega));have hz6:=bel6.size;have N6:=(hb6.block B2 (Array.getElem?_eq_some_iff.1 Nd.out).1).trans Nd.out;clear t0 t1 t2 bldd beld;go_wp2_with fail;refine(eN B B (Lib.byteCells (A0++[32])) (aZ x.kind x.text) w6 bld6 (by have:(aZ x.kind x.text).size=(spl (kt3 x)).length:=rfl;omega) (by omega)).mono ?_;rintro e w7 ⟨rfl,hat,hb7,hk7⟩;rw[show Lib.byteCells (A0++[32])++Lib.strCells (aZ x.kind x.text)=Lib.byteCells ((A0++[32])++spl (kt3 x))from by rw[Lib.byteCells_append ((A0++[32])) (spl (kt3 x)),Lib.strCells_eq];rfl]at hat;have N7:=hk7 _ _ N6 (by intro e;injection e with e;omega) (by intro c fz e;injection e with e1 e2 e3;exact absurd e2 (by decide));have bel7:=bel6.trans hb7;have t0:w7.cell? ⟨B2,0,none⟩=some (.int .i64 x.kind):=cell_of_row _ _ 0 _ _ _ N7;have t1:w7.cell? ⟨B2,1,none⟩=some (.string x.text):=cell_of_row _ _ 1 _ _ _ N7;have hz7:=bel7.size;clear hk7 hb7 N6 bld6 bel6 hb6;go_wp2_with fail;refine(lM B B (Lib.byteCells ((A0++[32])++spl (kt3 x))) 10 w7 (.inr hat) (by rw[Lib.byteCells_length]at *; rw[List.length_append];omega) (by omega)).mono ?_;rintro e w8 ⟨rfl,hat8,hb8,hk8⟩;rw[show Lib.byteCells ((A0++[32])++spl (kt3 x))++[Value.int .u8 10]=Lib.byteCells (((A0++[32])++spl (kt3 x))++[10])from by rw[Lib.byteCells_append ((A0++[32])++spl (kt3 x))];rfl]at hat8;have bel8:=bel7.trans hb8;clear hk8 hb8 hat;have hacc:eU ((l.map kt3).take (k+1))=((A0++[32])++spl (kt3 x))++[10]:=by rw[HFIN.out,HNL.out];simp
         have HCUM:=Lib.hid hacc;clear hacc;have hln:=Tryz.Builder_Len_f B B (Lib.byteCells (((A0++[32])++spl (kt3 x))++[10])) w8 (.inr hat8);rw[Lib.byteCells_length]at hln;obtain⟨nn,hnn⟩:∃ nn,(((A0++[32])++spl (kt3 x))++[10]).length=nn:=⟨_,rfl⟩
         rw[hnn]at hln;have HLN:=Lib.hid hln;have HNN:=Lib.hid hnn;clear hln hnn;go_wp2_with fail;refine(HLN.out).mono ?_;rintro e w9 ⟨rfl,hw9⟩;rw[hw9];clear hw9
         by_cases hbig:20000<nn
         ·have hbz:(20000:Int)<(nn:Int):=by omega
          have hpr:cL (l.map kt3)=(⟨#[]⟩,2):=by
           have h1:=iG (l.map kt3) (kk - (k+1)) (k+1) (by rw[List.length_map,HN.out];omega);have e:(l.map kt3).take (k+1+(kk - (k+1)))=l.map kt3:=List.take_of_length_le (by rw[List.length_map,HN.out];omega);rw[e,HCUM.out,HNN.out]at h1;unfold cL;rw[if_neg (by rw[List.length_map,HN.out];omega),if_neg (by rw[HGOOD.out];decide),if_pos (by omega)]
          have HPR:=Lib.hid hpr;clear hpr hbig;go_wp2_with fail
          go_ret2
          exact⟨by rw[HPR.out];rfl,hb2.trans (bel8.mono hBw)⟩
         ·have hbz:¬ (20000:Int)<(nn:Int):=by omega
          go_wp2_with fail
          go_roundg (kk - (k+1))
          case rel=>exact⟨k+1,by omega,by omega,by go_num,by rw[HCUM.out];exact .inr hat8,bel8,by rw[HCUM.out,HNN.out];omega⟩
          case measure=>omega
    ·have hke:k=kk:=by omega
     subst hke;have hpr:cL (l.map kt3)=(⟨(eU ((l.map kt3).take k)).toArray⟩,0):=by
      have e:(l.map kt3).take k=l.map kt3:=List.take_of_length_le (by rw[List.length_map,HN.out];exact Nat.le_refl _);rw[e]at hsz ⊢;unfold cL;rw[if_neg (by rw[List.length_map,HN.out];omega),if_neg (by rw[HGOOD.out];decide),if_neg (by omega)]
     have HPR:=Lib.hid hpr;clear hpr;go_wp2_with (go_at_call 92;refine(Tryz.Builder_String_any_f B B _ _ bld hBr).mono ?_;rintro e w'' ⟨rfl,hb3⟩)
     go_ret2
     exact⟨by rw[HPR.out];rfl,hbw.trans (hb3.2.mono hBw)⟩
end
section
open Go.RowKit Lx
theorem IK(v:Value)(l:List T3)(hs:∀ t∈l,t.text.size≤2147483647)(hlen:l.length≤9223372036854775807)(w:World)(hml:ML w)(hrow:cK w v l):Calls Tryz.prog 56 #[v] w (xV (l.map kt3) w):=by
 by_cases hl:l.length≤5000
 ·cases hg:(l.map kt3).all okI with
  | false=>exact Jl v l hs w hrow hl hg
  | true=>exact EU v l hs w hml hrow hl hg
 ·exact FD v l w hrow hlen (by omega)
end
end Go.Proofs.YtfdlmcgcckkkdaaGreatDoor
