/- ParseWhole, part 24: what it stands on. -/
import Derived.Test.YtfdlmcgcckkkdaaGreatDoorV23
set_option linter.all false
set_option maxHeartbeats 40000000
set_option maxRecDepth 100000
namespace Go.Proofs.YtfdlmcgcckkkdaaGreatDoor
section
open Go.RowKit Lx Px
theorem SP.size{wB:World}{qb:Nat}{w0 w:World}{v0:Value}{l:List Tk}{rv}(S:SP wB qb w0 v0 w l rv):w0.heap.size≤w.heap.size:=by
 obtain⟨v,h1,h2,h3⟩:=S.ex;exact h2.size
theorem SP.mute{wB:World}{qb:Nat}{w0 w w':World}{v0:Value}{l:List Tk}{rv rv':List (Nat×List Value)}(S:SP wB qb w0 v0 w l rv)(hB:wB.heap.size≤w0.heap.size)(low:Below w0.heap.size w w')(hsz:w'.heap.size=w.heap.size)(b:Nat)(hb:w0.heap.size≤b)(hm:∃ us,(b,us)∈rv)(hk:∀ c,c≠b→w'.heap[c]?=w.heap[c]?)(hrv:∀ p,p∈rv'→w'.heap[p.1]?=some (.cells p.2.toArray 24 (0,0))∧∃ us,(p.1,us)∈rv):SP wB qb w0 v0 w' l rv':=by
 obtain⟨v,h1,h2,h3⟩:=S.ex;obtain⟨us,hm⟩:=hm;have hq:qb≠b:=fun e=>(h3 _ hm).2.1 e.symm
 have ho:v.ownBlock≠some b:=(h3 _ hm).2.2;refine⟨v,⟨h1.low.trans (low.mono hB),(hk _ hq).trans h1.blk,h1.hq,?_,h1.ne⟩,⟨hsz ▸ h2.size,fun k hk1 g1 g2=>?_,h2.own⟩,fun p hp=>?_⟩
 ·refine⟨h1.own.1,?_⟩
  rcases h1.own.2 with h|⟨g,cap,cur,rfl,hB,hg,rest⟩
  ·exact .inl h
  ·exact .inr ⟨g,cap,cur,rfl,hB,(hk g (fun e=>ho (by rw[e];rfl))).trans hg,rest⟩
 ·exact(hk k (by omega)).trans (h2.blk k hk1 g1 g2)
 ·obtain⟨g1,us',g2⟩:=hrv p hp;exact⟨g1,(h3 _ g2).2⟩
theorem Jk{w:World}{b B:Nat}(h:B≤b)(x y z u v:Value):Below B w (st5 w b x y z u v):=
 (((((Below.refl B w).setCell (p:=⟨b,0,none⟩) h x).setCell (p:=⟨b,1,none⟩) h y).setCell (p:=⟨b,2,none⟩) h z).setCell (p:=⟨b,3,none⟩) h u).setCell (p:=⟨b,4,none⟩) h v
theorem Hj{w:World}{b c:Nat}(h:c≠b)(x y z u v:Value):(st5 w b x y z u v).heap[c]?=w.heap[c]?:=by
 unfold st5
 iterate 5 rw[Below.heap_setCell _ _ _ _ (fun e=>h (by simpa using e))]
theorem PA{w:World}{b:Nat}{us:List Value}(h5:us.length=5)(h:w.heap[b]?=some (.cells us.toArray 24 (0,0)))(x y z u v:Value):(st5 w b x y z u v).heap[b]?=some (.cells [x,y,z,u,v].toArray 24 (0,0)):=by
 obtain⟨a0,a1,a2,a3,a4,rfl⟩:∃ a0 a1 a2 a3 a4,us=[a0,a1,a2,a3,a4]:=by
  match us,h5 with
  | [a0,a1,a2,a3,a4],_=>exact⟨_,_,_,_,_,rfl⟩
 unfold st5
 simp[World.setCell,Array.getElem?_modify,h]
theorem SP.jC{wB:World}{qb:Nat}{w0 w:World}{v0:Value}{l:List Tk}{b c:Nat}{us vs:List Value}(S:SP wB qb w0 v0 w l [(b,us),(c,vs)])(hB:wB.heap.size≤w0.heap.size)(hb:w0.heap.size≤b)(hne:c≠b)(h5:us.length=5)(x y z u v:Value):SP wB qb w0 v0 (st5 w b x y z u v) l [(b,[x,y,z,u,v]),(c,vs)]:=by
 refine S.mute hB (Jk hb ..) (by simp[st5,World.setCell]) b hb ⟨_,.head _⟩ (fun c h=>Hj h ..) fun p hp=>?_
 rcases List.mem_cons.1 hp with rfl|hp
 ·exact⟨PA h5 (S.tvb (.head _)) ..,_,.head _⟩
 ·obtain rfl:=List.mem_singleton.1 hp;exact⟨(Hj hne ..).trans (S.tvb (.tail _ (.head _))),_,.tail _ (.head _)⟩
theorem SP.swap{wB:World}{qb:Nat}{w0 w:World}{v0:Value}{l:List Tk}{p q:Nat×List Value}(S:SP wB qb w0 v0 w l [p,q]):SP wB qb w0 v0 w l [q,p]:=S.less fun x hx=>by simp at hx ⊢; exact hx.symm
def lS(w:ByteArray):List Tk:=if w.size=0 then []else [W gZ,O sLP,W w,O sRP]
def mW(n:Int):List Tk:=if n=0 then []else [W xK,O sLP,Nm n,O sRP]
def pF(x y:T):List Tk:=if y.kind≠10 then W rV::(cD (x.l.map (prO false))++cD (y.l.map (prO false)))else if x.kind≠10 then W xI::cD (x.l.map (prO false))else []
theorem Kq{s:ByteArray}(h:s.toList.isEmpty=true):lS s=[]:=by
 have e:=List.isEmpty_iff.1 h;have:s=⟨#[]⟩:=by rw[← kK,e,ByteArray.toList_eq]
 subst this;rfl
theorem IT{s:ByteArray}(h:s.toList.isEmpty=false):lS s=[gZ].map W++([sLP].map O++([s].map W++[sRP].map O)):=by unfold lS;rw[if_neg (fun e=>by have:=yU e;subst this;revert h;decide +kernel)];rfl
theorem Hk{n:Int}(h:¬ n=0):mW n=[xK].map W++([sLP].map O++([Nm n]++[sRP].map O)):=by unfold mW;rw[if_neg h];rfl
theorem KN(s:ByteArray):(lS s).length≤4:=by unfold lS;split<;>simp
theorem Mh(n:Int):(mW n).length≤4:=by unfold mW;split<;>simp
theorem Rl(wB:World)(hTab:eJ wB)(qb:Nat)(t:T)(D:PD wB qb t)(w:World)(v:Value)(l:List Tk)(n a:Int)(s:ByteArray)(ao:Option Addr)(m c:Nat)(kd:Int)(wd:ByteArray)(hkd:kd=38∧wd=Hw∨kd=39∧wd=JZ)(hr : -9223372036854775808≤n∧n≤9223372036854775807)(h:Pt wB qb w v l)(ht:Tr wB t (vT kd n a s ao m c))(hl:l.length+([wd].map W++(lS s++(mW n++(pF (Px.part t.l 0) (Px.part t.l 1))))).length≤dK):Calls Tryz.prog 175 #[pq qb,tg kd n a s ao m c] w (PrQ wB qb w v l ([wd].map W++(lS s++(mW n++(pF (Px.part t.l 0) (Px.part t.l 1)))))):=by
 obtain⟨b1,n1,h1,ho,hq,hz⟩:=gT h (tg kd n a s ao m c);go_enter Tryz.func175,Tryz.ntmps175;go_upto_region 1 with fail;generalize World.alloc w _=w1 at b1 n1 h1 hz ⊢;generalize w.heap.size=B3 at n1 ho hq hz ⊢;obtain⟨KT,S0,HZ,HN⟩:=kt1 h1 hz hq ho n1;have hBB:wB.heap.size≤w1.heap.size:=Nat.le_trans h.low.size b1.size;have fle:=KN s;have sle:=Mh n;have HKD:=hdq hkd;clear hkd;have:=tvk KT S0;go_upto_if 8 with fail;go_cut [] (fun wx=>SP wB qb w1 v wx (l++[wd].map W) [])
 case first=>
  rcases HKD.out with ⟨rfl,rfl⟩|⟨rfl,rfl⟩
  ·have:=tvk KT S0;go_upto_block 2 with fail;refine m2q (S0.aL [Hw] aJ #[.string ⟨#[71,69,84]⟩] rfl 1 rfl) fun x1 S1=>?_
   go_wp2
   go_meet
   case rel=>exact S1
  ·have:=tvk KT S0;go_upto_block 3 with fail;refine m2q (S0.aL [JZ] aJ #[.string ⟨#[80,85,84]⟩] rfl 1 rfl) fun x1 S1=>?_
   go_wp2
   go_meet
   case rel=>exact S1
 case rest=>
  have S1:=hcut;clear hcut;have:=tvk KT S1;go_upto_if 17 with fail;go_cut [] (fun wx=>SP wB qb w1 v wx (l++([wd].map W++lS s)) [])
  case first=>
   cases hs:s.toList.isEmpty with
   | true=>
    have HF:=hdq (Kq hs)
    go_wp2
    go_meet
    case rel=>exact(by rw[HF.out];simpa only[List.append_nil]using S1)
   | false=>
    have HF:=hdq (IT hs);have hfl:(lS s).length=4:=by rw[HF.out];rfl
    have:=tvk KT S1;go_upto_block 5 with fail;refine m2q (S1.aL [gZ] aJ #[.string ⟨#[70,73,76,69]⟩] rfl 1 rfl) fun x2 S2=>?_;have:=tvk KT S2;go_upto_block 6 with fail;refine m2q (S2.opC [sLP] aJ #[.string ⟨#[40]⟩] rfl 1 rfl) fun x3 S3=>?_;have:=tvk KT S3;go_upto_block 7 with fail;refine m2q (S3.aL [s] aJ #[.string s] rfl 1 rfl) fun x4 S4=>?_;have:=tvk KT S4;go_upto_block 8 with fail;refine m2q (S4.opC [sRP] aJ #[.string ⟨#[41]⟩] rfl 1 rfl) fun x5 S5=>?_
    go_wp2
    go_meet
    case rel=>exact(by rw[HF.out];simpa only[List.append_assoc]using S5)
  case rest=>
   clear S0 S1;have S6:=hcut;clear hcut;have:=tvk KT S6;go_upto_if 34 with fail;go_cut [] (fun wx=>SP wB qb w1 v wx (l++([wd].map W++(lS s++mW n))) [])
   case first=>
    generalize hbk:(n != 0)=bk;have HBK:=hdq hbk;clear hbk
    cases bk with
    | false=>
     have HF:=hdq (show mW n=[]by rw[show n=0 by simpa using HBK.out];rfl)
     go_wp2
     go_meet
     case rel=>exact(by rw[HF.out];simpa only[List.append_nil]using S6)
    | true=>
     have HF:=hdq (Hk (show ¬ n=0 by simpa using HBK.out));have hfl:(mW n).length=4:=by rw[HF.out];rfl
     have:=tvk KT S6;go_upto_block 10 with fail;refine m2q (S6.aL [xK] aJ #[.string ⟨#[83,75,73,80]⟩] rfl 1 rfl) fun x7 S7=>?_;have:=tvk KT S7;go_upto_block 11 with fail;refine m2q (S7.opC [sLP] aJ #[.string ⟨#[40]⟩] rfl 1 rfl) fun x8 S8=>?_;have:=tvk KT S8;go_upto_block 12 with fail;refine m2q (S8.jO hTab n hr.1 hr.2 aJ) fun x9 S9=>?_;have:=tvk KT S9;go_upto_block 13 with fail;refine m2q (S9.opC [sRP] aJ #[.string ⟨#[41]⟩] rfl 1 rfl) fun x10 S10=>?_
     go_wp2
     go_meet
     case rel=>exact(by rw[HF.out];simpa only[List.append_assoc]using S10)
   case rest=>
    clear S6;have S11:=hcut;clear hcut;go_upto_region 14 with fail;go_cut [4,5] (fun v4 v5 wx=>∃ (B4 B5:Nat) (k1 n1 a1:Int) (s1:ByteArray) (o1:Option Addr) (m1 c1:Nat) (k2 n2 a2:Int) (s2:ByteArray) (o2:Option Addr) (m2 c2:Nat),v4=.pointer (some ⟨B4,0,none⟩)∧v5=.pointer (some ⟨B5,0,none⟩)∧Tr wB (Px.part t.l 0) (vT k1 n1 a1 s1 o1 m1 c1)∧Tr wB (Px.part t.l 1) (vT k2 n2 a2 s2 o2 m2 c2)∧SP wB qb w1 v wx (l++([wd].map W++(lS s++mW n))) [(B5,vT k2 n2 a2 s2 o2 m2 c2),(B4,vT k1 n1 a1 s1 o1 m1 c1)])
    case first=>
     have S100:=S11.drew;refine wp_region_held_drew (S:=(fun w'=>TV w' B3 kd n a s (.slice ao m c))) (by kernel_rfl) (KT.out _ _ _ S100) (fun RY=>?_);generalize World.drew wc=x100 at *;refine tkH 0 ?_;refine tkH 2 ?_;refine rdH [1,4,5] ?_;refine cnH (fun Kx RZ=>?_) ?_
     ·go_simp;refine(S100.aY ht 0).mono ?_;rintro e x101 ⟨⟨ka,na,aa,sa,oa,ma,ca,rfl,hxa⟩,S101⟩;refine goH RZ (KT.out _ _ _ S101) fun RY=>?_;clear RZ Kx;refine rdH [3,4,5] ?_;refine cnH (fun Kx RZ=>?_) ?_
      ·go_simp;refine(S101.aY ht 1).mono ?_;rintro e x102 ⟨⟨kb,nb,ab,sb,ob,mb,cb,rfl,hxb⟩,S102⟩;refine goH RZ (KT.out _ _ _ S102) fun RY=>?_;clear RZ Kx;refine rdH [4,5] ?_;refine cnH (fun Kx RZ=>?_) ?_
       ·go_simp;have S103:=S102.cX zs5 z5q rfl _ rfl;have hb4:=S102.size;refine goH RZ (KT.out _ _ _ S103) fun RY=>?_;clear RZ Kx;generalize World.alloc _ (.cells z5q 24)=x103 at S103 RY ⊢;refine bA 5 fun Kx RZ=>?_;go_simp;have S104:=S103.cX zs5 z5q rfl _ rfl;have hb5:=S103.size;have hne:=Nat.ne_of_lt (Array.getElem?_eq_some_iff.1 (S103.tvb (.head _))).1;refine goH RZ (KT.out _ _ _ S104) fun RY=>?_;clear RZ Kx;generalize World.alloc _ (.cells z5q 24)=x104 at S104 RY ⊢;refine bA 6 fun Kx RZ=>?_;have:=TV.facts (S104.facts 1 rfl);have S105:=(S104.swap.jC hBB hb4 hne.symm rfl ka na aa sa (.slice oa ma ca)).swap;unfold st5 at S105;go_simp;refine goH RZ (KT.out _ _ _ S105) fun RY=>?_;clear RZ Kx;generalize World.setCell _ (⟨_,4,none⟩:Addr) _=x105 at S105 RY ⊢;refine bA 7 fun Kx RZ=>?_;have:=TV.facts (S105.facts 0 rfl);have S106:=S105.jC hBB hb5 hne rfl kb nb ab sb (.slice ob mb cb);unfold st5 at S106;go_simp;refine goH RZ (KT.out _ _ _ S106) fun RY=>?_;clear RZ Kx;generalize World.setCell _ (⟨_,4,none⟩:Addr) _=x106 at S106 RY ⊢;refine cW ?_
        go_wp2
        go_meet
        case rel=>exact⟨_,_,_,_,_,_,_,_,_,_,_,_,_,_,_,_,rfl,rfl,hxa,hxb,S106⟩
       refine cnH (fun Kx RZ=>?_) AllReadyH.nil;go_simp;have S107:=S102.cX zs5 z5q rfl _ rfl;have hb5:=S102.size;refine goH RZ (KT.out _ _ _ S107) fun RY=>?_;clear RZ Kx;generalize World.alloc _ (.cells z5q 24)=x107 at S107 RY ⊢;refine bA 4 fun Kx RZ=>?_;go_simp;have S108:=S107.cX zs5 z5q rfl _ rfl;have hb4:=S107.size;have hne:=Nat.ne_of_lt (Array.getElem?_eq_some_iff.1 (S107.tvb (.head _))).1;refine goH RZ (KT.out _ _ _ S108) fun RY=>?_;clear RZ Kx;generalize World.alloc _ (.cells z5q 24)=x108 at S108 RY ⊢;refine bA 6 fun Kx RZ=>?_;have:=TV.facts (S108.facts 0 rfl);have S109:=S108.jC hBB hb4 hne rfl ka na aa sa (.slice oa ma ca);unfold st5 at S109;go_simp;refine goH RZ (KT.out _ _ _ S109) fun RY=>?_;clear RZ Kx;generalize World.setCell _ (⟨_,4,none⟩:Addr) _=x109 at S109 RY ⊢;refine bA 7 fun Kx RZ=>?_;have:=TV.facts (S109.facts 1 rfl);have S110:=(S109.swap.jC hBB hb5 hne.symm rfl kb nb ab sb (.slice ob mb cb)).swap;unfold st5 at S110;go_simp;refine goH RZ (KT.out _ _ _ S110) fun RY=>?_;clear RZ Kx;generalize World.setCell _ (⟨_,4,none⟩:Addr) _=x110 at S110 RY ⊢;refine cW ?_
       go_wp2
       go_meet
       case rel=>exact⟨_,_,_,_,_,_,_,_,_,_,_,_,_,_,_,_,rfl,rfl,hxa,hxb,S110.swap⟩
      refine cnH (fun Kx RZ=>?_) ?_
      ·go_simp;have S111:=S101.cX zs5 z5q rfl _ rfl;have hb4:=S101.size;refine goH RZ (KT.out _ _ _ S111) fun RY=>?_;clear RZ Kx;generalize World.alloc _ (.cells z5q 24)=x111 at S111 RY ⊢;refine rdH [3,5] ?_;refine cnH (fun Kx RZ=>?_) ?_
       ·go_simp;refine(S111.aY ht 1).mono ?_;rintro e x112 ⟨⟨kb,nb,ab,sb,ob,mb,cb,rfl,hxb⟩,S112⟩;refine goH RZ (KT.out _ _ _ S112) fun RY=>?_;clear RZ Kx;refine bA 5 fun Kx RZ=>?_;go_simp;have S113:=S112.cX zs5 z5q rfl _ rfl;have hb5:=S112.size;have hne:=Nat.ne_of_lt (Array.getElem?_eq_some_iff.1 (S112.tvb (.head _))).1;refine goH RZ (KT.out _ _ _ S113) fun RY=>?_;clear RZ Kx;generalize World.alloc _ (.cells z5q 24)=x113 at S113 RY ⊢;refine bA 6 fun Kx RZ=>?_;have:=TV.facts (S113.facts 1 rfl);have S114:=(S113.swap.jC hBB hb4 hne.symm rfl ka na aa sa (.slice oa ma ca)).swap;unfold st5 at S114;go_simp;refine goH RZ (KT.out _ _ _ S114) fun RY=>?_;clear RZ Kx;generalize World.setCell _ (⟨_,4,none⟩:Addr) _=x114 at S114 RY ⊢;refine bA 7 fun Kx RZ=>?_;have:=TV.facts (S114.facts 0 rfl);have S115:=S114.jC hBB hb5 hne rfl kb nb ab sb (.slice ob mb cb);unfold st5 at S115;go_simp;refine goH RZ (KT.out _ _ _ S115) fun RY=>?_;clear RZ Kx;generalize World.setCell _ (⟨_,4,none⟩:Addr) _=x115 at S115 RY ⊢;refine cW ?_
        go_wp2
        go_meet
        case rel=>exact⟨_,_,_,_,_,_,_,_,_,_,_,_,_,_,_,_,rfl,rfl,hxa,hxb,S115⟩
       refine cnH (fun Kx RZ=>?_) AllReadyH.nil;go_simp;have S116:=S111.cX zs5 z5q rfl _ rfl;have hb5:=S111.size;have hne:=Nat.ne_of_lt (Array.getElem?_eq_some_iff.1 (S111.tvb (.head _))).1;refine goH RZ (KT.out _ _ _ S116) fun RY=>?_;clear RZ Kx;generalize World.alloc _ (.cells z5q 24)=x116 at S116 RY ⊢;refine bA 3 fun Kx RZ=>?_;go_simp;refine(S116.aY ht 1).mono ?_;rintro e x117 ⟨⟨kb,nb,ab,sb,ob,mb,cb,rfl,hxb⟩,S117⟩;refine goH RZ (KT.out _ _ _ S117) fun RY=>?_;clear RZ Kx;refine bA 6 fun Kx RZ=>?_;have:=TV.facts (S117.facts 1 rfl);have S118:=(S117.swap.jC hBB hb4 hne.symm rfl ka na aa sa (.slice oa ma ca)).swap;unfold st5 at S118;go_simp;refine goH RZ (KT.out _ _ _ S118) fun RY=>?_;clear RZ Kx;generalize World.setCell _ (⟨_,4,none⟩:Addr) _=x118 at S118 RY ⊢;refine bA 7 fun Kx RZ=>?_;have:=TV.facts (S118.facts 0 rfl);have S119:=S118.jC hBB hb5 hne rfl kb nb ab sb (.slice ob mb cb);unfold st5 at S119;go_simp;refine goH RZ (KT.out _ _ _ S119) fun RY=>?_;clear RZ Kx;generalize World.setCell _ (⟨_,4,none⟩:Addr) _=x119 at S119 RY ⊢;refine cW ?_
       go_wp2
       go_meet
       case rel=>exact⟨_,_,_,_,_,_,_,_,_,_,_,_,_,_,_,_,rfl,rfl,hxa,hxb,S119⟩
      refine cnH (fun Kx RZ=>?_) AllReadyH.nil;go_simp;have S120:=S101.cX zs5 z5q rfl _ rfl;have hb5:=S101.size;refine goH RZ (KT.out _ _ _ S120) fun RY=>?_;clear RZ Kx;generalize World.alloc _ (.cells z5q 24)=x120 at S120 RY ⊢;refine rdH [3,4] ?_;refine cnH (fun Kx RZ=>?_) ?_
      ·go_simp;refine(S120.aY ht 1).mono ?_;rintro e x121 ⟨⟨kb,nb,ab,sb,ob,mb,cb,rfl,hxb⟩,S121⟩;refine goH RZ (KT.out _ _ _ S121) fun RY=>?_;clear RZ Kx;refine bA 4 fun Kx RZ=>?_;go_simp;have S122:=S121.cX zs5 z5q rfl _ rfl;have hb4:=S121.size;have hne:=Nat.ne_of_lt (Array.getElem?_eq_some_iff.1 (S121.tvb (.head _))).1;refine goH RZ (KT.out _ _ _ S122) fun RY=>?_;clear RZ Kx;generalize World.alloc _ (.cells z5q 24)=x122 at S122 RY ⊢;refine bA 6 fun Kx RZ=>?_;have:=TV.facts (S122.facts 0 rfl);have S123:=S122.jC hBB hb4 hne rfl ka na aa sa (.slice oa ma ca);unfold st5 at S123;go_simp;refine goH RZ (KT.out _ _ _ S123) fun RY=>?_;clear RZ Kx;generalize World.setCell _ (⟨_,4,none⟩:Addr) _=x123 at S123 RY ⊢;refine bA 7 fun Kx RZ=>?_;have:=TV.facts (S123.facts 1 rfl);have S124:=(S123.swap.jC hBB hb5 hne.symm rfl kb nb ab sb (.slice ob mb cb)).swap;unfold st5 at S124;go_simp;refine goH RZ (KT.out _ _ _ S124) fun RY=>?_;clear RZ Kx;generalize World.setCell _ (⟨_,4,none⟩:Addr) _=x124 at S124 RY ⊢;refine cW ?_
       go_wp2
       go_meet
       case rel=>exact⟨_,_,_,_,_,_,_,_,_,_,_,_,_,_,_,_,rfl,rfl,hxa,hxb,S124.swap⟩
      refine cnH (fun Kx RZ=>?_) AllReadyH.nil;go_simp;have S125:=S120.cX zs5 z5q rfl _ rfl;have hb4:=S120.size;have hne:=Nat.ne_of_lt (Array.getElem?_eq_some_iff.1 (S120.tvb (.head _))).1;refine goH RZ (KT.out _ _ _ S125) fun RY=>?_;clear RZ Kx;generalize World.alloc _ (.cells z5q 24)=x125 at S125 RY ⊢;refine bA 3 fun Kx RZ=>?_;go_simp;refine(S125.aY ht 1).mono ?_;rintro e x126 ⟨⟨kb,nb,ab,sb,ob,mb,cb,rfl,hxb⟩,S126⟩;refine goH RZ (KT.out _ _ _ S126) fun RY=>?_;clear RZ Kx;refine bA 6 fun Kx RZ=>?_;have:=TV.facts (S126.facts 0 rfl);have S127:=S126.jC hBB hb4 hne rfl ka na aa sa (.slice oa ma ca);unfold st5 at S127;go_simp;refine goH RZ (KT.out _ _ _ S127) fun RY=>?_;clear RZ Kx;generalize World.setCell _ (⟨_,4,none⟩:Addr) _=x127 at S127 RY ⊢;refine bA 7 fun Kx RZ=>?_;have:=TV.facts (S127.facts 1 rfl);have S128:=(S127.swap.jC hBB hb5 hne.symm rfl kb nb ab sb (.slice ob mb cb)).swap;unfold st5 at S128;go_simp;refine goH RZ (KT.out _ _ _ S128) fun RY=>?_;clear RZ Kx;generalize World.setCell _ (⟨_,4,none⟩:Addr) _=x128 at S128 RY ⊢;refine cW ?_
      go_wp2
      go_meet
      case rel=>exact⟨_,_,_,_,_,_,_,_,_,_,_,_,_,_,_,_,rfl,rfl,hxa,hxb,S128.swap⟩
     refine cnH (fun Kx RZ=>?_) ?_
     ·go_simp;have S129:=S100.cX zs5 z5q rfl _ rfl;have hb4:=S100.size;refine goH RZ (KT.out _ _ _ S129) fun RY=>?_;clear RZ Kx;generalize World.alloc _ (.cells z5q 24)=x129 at S129 RY ⊢;refine rdH [1,5] ?_;refine cnH (fun Kx RZ=>?_) ?_
      ·go_simp;refine(S129.aY ht 0).mono ?_;rintro e x130 ⟨⟨ka,na,aa,sa,oa,ma,ca,rfl,hxa⟩,S130⟩;refine goH RZ (KT.out _ _ _ S130) fun RY=>?_;clear RZ Kx;refine rdH [3,5] ?_;refine cnH (fun Kx RZ=>?_) ?_
       ·go_simp;refine(S130.aY ht 1).mono ?_;rintro e x131 ⟨⟨kb,nb,ab,sb,ob,mb,cb,rfl,hxb⟩,S131⟩;refine goH RZ (KT.out _ _ _ S131) fun RY=>?_;clear RZ Kx;refine bA 5 fun Kx RZ=>?_;go_simp;have S132:=S131.cX zs5 z5q rfl _ rfl;have hb5:=S131.size;have hne:=Nat.ne_of_lt (Array.getElem?_eq_some_iff.1 (S131.tvb (.head _))).1;refine goH RZ (KT.out _ _ _ S132) fun RY=>?_;clear RZ Kx;generalize World.alloc _ (.cells z5q 24)=x132 at S132 RY ⊢;refine bA 6 fun Kx RZ=>?_;have:=TV.facts (S132.facts 1 rfl);have S133:=(S132.swap.jC hBB hb4 hne.symm rfl ka na aa sa (.slice oa ma ca)).swap;unfold st5 at S133;go_simp;refine goH RZ (KT.out _ _ _ S133) fun RY=>?_;clear RZ Kx;generalize World.setCell _ (⟨_,4,none⟩:Addr) _=x133 at S133 RY ⊢;refine bA 7 fun Kx RZ=>?_;have:=TV.facts (S133.facts 0 rfl);have S134:=S133.jC hBB hb5 hne rfl kb nb ab sb (.slice ob mb cb);unfold st5 at S134;go_simp;refine goH RZ (KT.out _ _ _ S134) fun RY=>?_;clear RZ Kx;generalize World.setCell _ (⟨_,4,none⟩:Addr) _=x134 at S134 RY ⊢;refine cW ?_
        go_wp2
        go_meet
        case rel=>exact⟨_,_,_,_,_,_,_,_,_,_,_,_,_,_,_,_,rfl,rfl,hxa,hxb,S134⟩
       refine cnH (fun Kx RZ=>?_) AllReadyH.nil;go_simp;have S135:=S130.cX zs5 z5q rfl _ rfl;have hb5:=S130.size;have hne:=Nat.ne_of_lt (Array.getElem?_eq_some_iff.1 (S130.tvb (.head _))).1;refine goH RZ (KT.out _ _ _ S135) fun RY=>?_;clear RZ Kx;generalize World.alloc _ (.cells z5q 24)=x135 at S135 RY ⊢;refine bA 3 fun Kx RZ=>?_;go_simp;refine(S135.aY ht 1).mono ?_;rintro e x136 ⟨⟨kb,nb,ab,sb,ob,mb,cb,rfl,hxb⟩,S136⟩;refine goH RZ (KT.out _ _ _ S136) fun RY=>?_;clear RZ Kx;refine bA 6 fun Kx RZ=>?_;have:=TV.facts (S136.facts 1 rfl);have S137:=(S136.swap.jC hBB hb4 hne.symm rfl ka na aa sa (.slice oa ma ca)).swap;unfold st5 at S137;go_simp;refine goH RZ (KT.out _ _ _ S137) fun RY=>?_;clear RZ Kx;generalize World.setCell _ (⟨_,4,none⟩:Addr) _=x137 at S137 RY ⊢;refine bA 7 fun Kx RZ=>?_;have:=TV.facts (S137.facts 0 rfl);have S138:=S137.jC hBB hb5 hne rfl kb nb ab sb (.slice ob mb cb);unfold st5 at S138;go_simp;refine goH RZ (KT.out _ _ _ S138) fun RY=>?_;clear RZ Kx;generalize World.setCell _ (⟨_,4,none⟩:Addr) _=x138 at S138 RY ⊢;refine cW ?_
       go_wp2
       go_meet
       case rel=>exact⟨_,_,_,_,_,_,_,_,_,_,_,_,_,_,_,_,rfl,rfl,hxa,hxb,S138⟩
      refine cnH (fun Kx RZ=>?_) AllReadyH.nil;go_simp;have S139:=S129.cX zs5 z5q rfl _ rfl;have hb5:=S129.size;have hne:=Nat.ne_of_lt (Array.getElem?_eq_some_iff.1 (S129.tvb (.head _))).1;refine goH RZ (KT.out _ _ _ S139) fun RY=>?_;clear RZ Kx;generalize World.alloc _ (.cells z5q 24)=x139 at S139 RY ⊢;refine bA 1 fun Kx RZ=>?_;go_simp;refine(S139.aY ht 0).mono ?_;rintro e x140 ⟨⟨ka,na,aa,sa,oa,ma,ca,rfl,hxa⟩,S140⟩;refine goH RZ (KT.out _ _ _ S140) fun RY=>?_;clear RZ Kx;refine bA 3 fun Kx RZ=>?_;go_simp;refine(S140.aY ht 1).mono ?_;rintro e x141 ⟨⟨kb,nb,ab,sb,ob,mb,cb,rfl,hxb⟩,S141⟩;refine goH RZ (KT.out _ _ _ S141) fun RY=>?_;clear RZ Kx;refine bA 6 fun Kx RZ=>?_;have:=TV.facts (S141.facts 1 rfl);have S142:=(S141.swap.jC hBB hb4 hne.symm rfl ka na aa sa (.slice oa ma ca)).swap;unfold st5 at S142;go_simp;refine goH RZ (KT.out _ _ _ S142) fun RY=>?_;clear RZ Kx;generalize World.setCell _ (⟨_,4,none⟩:Addr) _=x142 at S142 RY ⊢;refine bA 7 fun Kx RZ=>?_;have:=TV.facts (S142.facts 0 rfl);have S143:=S142.jC hBB hb5 hne rfl kb nb ab sb (.slice ob mb cb);unfold st5 at S143;go_simp;refine goH RZ (KT.out _ _ _ S143) fun RY=>?_;clear RZ Kx;generalize World.setCell _ (⟨_,4,none⟩:Addr) _=x143 at S143 RY ⊢;refine cW ?_
      go_wp2
      go_meet
      case rel=>exact⟨_,_,_,_,_,_,_,_,_,_,_,_,_,_,_,_,rfl,rfl,hxa,hxb,S143⟩
     refine cnH (fun Kx RZ=>?_) AllReadyH.nil;go_simp;have S144:=S100.cX zs5 z5q rfl _ rfl;have hb5:=S100.size;refine goH RZ (KT.out _ _ _ S144) fun RY=>?_;clear RZ Kx;generalize World.alloc _ (.cells z5q 24)=x144 at S144 RY ⊢;refine rdH [1,4] ?_;refine cnH (fun Kx RZ=>?_) ?_
     ·go_simp;refine(S144.aY ht 0).mono ?_;rintro e x145 ⟨⟨ka,na,aa,sa,oa,ma,ca,rfl,hxa⟩,S145⟩;refine goH RZ (KT.out _ _ _ S145) fun RY=>?_;clear RZ Kx;refine rdH [3,4] ?_;refine cnH (fun Kx RZ=>?_) ?_
      ·go_simp;refine(S145.aY ht 1).mono ?_;rintro e x146 ⟨⟨kb,nb,ab,sb,ob,mb,cb,rfl,hxb⟩,S146⟩;refine goH RZ (KT.out _ _ _ S146) fun RY=>?_;clear RZ Kx;refine bA 4 fun Kx RZ=>?_;go_simp;have S147:=S146.cX zs5 z5q rfl _ rfl;have hb4:=S146.size;have hne:=Nat.ne_of_lt (Array.getElem?_eq_some_iff.1 (S146.tvb (.head _))).1;refine goH RZ (KT.out _ _ _ S147) fun RY=>?_;clear RZ Kx;generalize World.alloc _ (.cells z5q 24)=x147 at S147 RY ⊢;refine bA 6 fun Kx RZ=>?_;have:=TV.facts (S147.facts 0 rfl);have S148:=S147.jC hBB hb4 hne rfl ka na aa sa (.slice oa ma ca);unfold st5 at S148;go_simp;refine goH RZ (KT.out _ _ _ S148) fun RY=>?_;clear RZ Kx;generalize World.setCell _ (⟨_,4,none⟩:Addr) _=x148 at S148 RY ⊢;refine bA 7 fun Kx RZ=>?_;have:=TV.facts (S148.facts 1 rfl);have S149:=(S148.swap.jC hBB hb5 hne.symm rfl kb nb ab sb (.slice ob mb cb)).swap;unfold st5 at S149;go_simp;refine goH RZ (KT.out _ _ _ S149) fun RY=>?_;clear RZ Kx;generalize World.setCell _ (⟨_,4,none⟩:Addr) _=x149 at S149 RY ⊢;refine cW ?_
       go_wp2
       go_meet
       case rel=>exact⟨_,_,_,_,_,_,_,_,_,_,_,_,_,_,_,_,rfl,rfl,hxa,hxb,S149.swap⟩
      refine cnH (fun Kx RZ=>?_) AllReadyH.nil;go_simp;have S150:=S145.cX zs5 z5q rfl _ rfl;have hb4:=S145.size;have hne:=Nat.ne_of_lt (Array.getElem?_eq_some_iff.1 (S145.tvb (.head _))).1;refine goH RZ (KT.out _ _ _ S150) fun RY=>?_;clear RZ Kx;generalize World.alloc _ (.cells z5q 24)=x150 at S150 RY ⊢;refine bA 3 fun Kx RZ=>?_;go_simp;refine(S150.aY ht 1).mono ?_;rintro e x151 ⟨⟨kb,nb,ab,sb,ob,mb,cb,rfl,hxb⟩,S151⟩;refine goH RZ (KT.out _ _ _ S151) fun RY=>?_;clear RZ Kx;refine bA 6 fun Kx RZ=>?_;have:=TV.facts (S151.facts 0 rfl);have S152:=S151.jC hBB hb4 hne rfl ka na aa sa (.slice oa ma ca);unfold st5 at S152;go_simp;refine goH RZ (KT.out _ _ _ S152) fun RY=>?_;clear RZ Kx;generalize World.setCell _ (⟨_,4,none⟩:Addr) _=x152 at S152 RY ⊢;refine bA 7 fun Kx RZ=>?_;have:=TV.facts (S152.facts 1 rfl);have S153:=(S152.swap.jC hBB hb5 hne.symm rfl kb nb ab sb (.slice ob mb cb)).swap;unfold st5 at S153;go_simp;refine goH RZ (KT.out _ _ _ S153) fun RY=>?_;clear RZ Kx;generalize World.setCell _ (⟨_,4,none⟩:Addr) _=x153 at S153 RY ⊢;refine cW ?_
      go_wp2
      go_meet
      case rel=>exact⟨_,_,_,_,_,_,_,_,_,_,_,_,_,_,_,_,rfl,rfl,hxa,hxb,S153.swap⟩
     refine cnH (fun Kx RZ=>?_) AllReadyH.nil;go_simp;have S154:=S144.cX zs5 z5q rfl _ rfl;have hb4:=S144.size;have hne:=Nat.ne_of_lt (Array.getElem?_eq_some_iff.1 (S144.tvb (.head _))).1;refine goH RZ (KT.out _ _ _ S154) fun RY=>?_;clear RZ Kx;generalize World.alloc _ (.cells z5q 24)=x154 at S154 RY ⊢;refine bA 1 fun Kx RZ=>?_;go_simp;refine(S154.aY ht 0).mono ?_;rintro e x155 ⟨⟨ka,na,aa,sa,oa,ma,ca,rfl,hxa⟩,S155⟩;refine goH RZ (KT.out _ _ _ S155) fun RY=>?_;clear RZ Kx;refine bA 3 fun Kx RZ=>?_;go_simp;refine(S155.aY ht 1).mono ?_;rintro e x156 ⟨⟨kb,nb,ab,sb,ob,mb,cb,rfl,hxb⟩,S156⟩;refine goH RZ (KT.out _ _ _ S156) fun RY=>?_;clear RZ Kx;refine bA 6 fun Kx RZ=>?_;have:=TV.facts (S156.facts 0 rfl);have S157:=S156.jC hBB hb4 hne rfl ka na aa sa (.slice oa ma ca);unfold st5 at S157;go_simp;refine goH RZ (KT.out _ _ _ S157) fun RY=>?_;clear RZ Kx;generalize World.setCell _ (⟨_,4,none⟩:Addr) _=x157 at S157 RY ⊢;refine bA 7 fun Kx RZ=>?_;have:=TV.facts (S157.facts 1 rfl);have S158:=(S157.swap.jC hBB hb5 hne.symm rfl kb nb ab sb (.slice ob mb cb)).swap;unfold st5 at S158;go_simp;refine goH RZ (KT.out _ _ _ S158) fun RY=>?_;clear RZ Kx;generalize World.setCell _ (⟨_,4,none⟩:Addr) _=x158 at S158 RY ⊢;refine cW ?_
     go_wp2
     go_meet
     case rel=>exact⟨_,_,_,_,_,_,_,_,_,_,_,_,_,_,_,_,rfl,rfl,hxa,hxb,S158.swap⟩
    case rest=>
     clear S11;obtain⟨B4,B5,k1,n1,a1,s1,o1,m1,c1,k2,n2,a2,s2,o2,m2,c2,rfl,rfl,hx1,hx2,S12⟩:=hcut;have hka:=hx1.split.1;have hkb:=hx2.split.1;have HKA:=hdq hka;have HKB:=hdq hkb;clear hka hkb
     by_cases h2:k2=10
     ·by_cases h3:k1=10
      ·have HT:=hdq (show pF (Px.part t.l 0) (Px.part t.l 1)=[]by unfold pF;rw[if_neg (by rw[← HKB.out];simpa using h2),if_neg (by rw[← HKA.out];simpa using h3)]);subst h2 h3;have:=tvk KT S12;have:=TV.facts (S12.facts 0 rfl);have:=TV.facts (S12.facts 1 rfl);have P:PrQ wB qb w v l ([wd].map W++(lS s++(mW n++(pF (Px.part t.l 0) (Px.part t.l 1))))) (.returned (.tuple #[])) _:=PrQ.pre (SP.Da (by rw[HT.out];simpa only[List.append_assoc,List.append_nil]using S12)) b1;clear hl h h1 b1 fle sle S12
       go_wp2
       go_end0;exact P
      ·have HT:=hdq (show pF (Px.part t.l 0) (Px.part t.l 1)=[xI].map W++cD ((Px.part t.l 0).l.map (prO false))by unfold pF;rw[if_neg (by rw[← HKB.out];simpa using h2),if_pos (by rw[← HKA.out];exact h3)];rfl);subst h2;rw[HT.out]at hl;simp only[List.length_append,List.length_map,List.length_cons,List.length_nil]at hl
       have:=TV.facts (S12.facts 0 rfl);have:=TV.facts (S12.facts 1 rfl);have:=tvk KT S12;go_upto_block 20 with fail;refine m2q (S12.aL [xI] aJ #[.string ⟨#[76,73,83,84]⟩] rfl 1 rfl) fun x13 S13=>?_;have:=tvk KT S13;have:=TV.facts (S13.facts 1 rfl);go_upto_block 21 with fail;refine m2q (S13.aU (eF.tree S13.low hx1) (D.nn 0) (D.ll 0) aJ) fun x14 S14=>?_;have P:PrQ wB qb w v l ([wd].map W++(lS s++(mW n++(pF (Px.part t.l 0) (Px.part t.l 1))))) (.returned (.tuple #[])) _:=PrQ.pre (SP.Da (by rw[HT.out];simpa only[List.append_assoc,List.append_nil]using S14)) b1;clear hl h h1 b1 fle sle S12 S13 S14
       go_wp2
       go_end0;exact P
     ·have HT:=hdq (show pF (Px.part t.l 0) (Px.part t.l 1)=[rV].map W++(cD ((Px.part t.l 0).l.map (prO false))++cD ((Px.part t.l 1).l.map (prO false)))by unfold pF;rw[if_pos (by rw[← HKB.out];exact h2)];rfl);rw[HT.out]at hl;simp only[List.length_append,List.length_map,List.length_cons,List.length_nil]at hl
      have:=TV.facts (S12.facts 0 rfl);have:=TV.facts (S12.facts 1 rfl);have:=tvk KT S12;go_upto_block 16 with fail;refine m2q (S12.aL [rV] aJ #[.string ⟨#[69,68,73,84]⟩] rfl 1 rfl) fun x13 S13=>?_;have:=tvk KT S13;have:=TV.facts (S13.facts 1 rfl);go_upto_block 17 with fail;refine m2q (S13.aU (eF.tree S13.low hx1) (D.nn 0) (D.ll 0) aJ) fun x14 S14=>?_;have:=tvk KT S14;have:=TV.facts (S14.facts 0 rfl);go_upto_block 18 with fail;refine m2q (S14.aU (eF.tree S14.low hx2) (D.nn 1) (D.ll 1) aJ) fun x15 S15=>?_;have P:PrQ wB qb w v l ([wd].map W++(lS s++(mW n++(pF (Px.part t.l 0) (Px.part t.l 1))))) (.returned (.tuple #[])) _:=PrQ.pre (SP.Da (by rw[HT.out];simpa only[List.append_assoc,List.append_nil]using S15)) b1;clear hl h h1 b1 fle sle S12 S13 S14 S15
      go_wp2
      go_end0;exact P
end
end Go.Proofs.YtfdlmcgcckkkdaaGreatDoor
