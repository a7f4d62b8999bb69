/- Part 26. -/
import Derived.Test.YtikalomcclefiaaGreatDoorV25
set_option linter.all false
set_option maxHeartbeats 0
set_option maxRecDepth 100000
namespace Go.Proofs.YtikalomcclefiaaGreatDoor
section
open Go.RowKit Lx Px
theorem SP.size{wB:World}{qb:Nat}{w0 w:World}{v0:Value}{l:List Tk}{rv}(S:SP wB qb w0 v0 w l rv):w0.heap.size<=w.heap.size:=by
 obtain⟨v,h1,h2,h3⟩:=S.ex;exact h2.size
def SP.mute{wB:World}{qb:Nat}{w0 w w':World}{v0:Value}{l:List Tk}{rv rv':List (Nat×List Value)}(S:SP wB qb w0 v0 w l rv)(hB:wB.heap.size<=w0.heap.size)(low:Below w0.heap.size w w')(hsz:w'.heap.size=w.heap.size)(b:Nat)(hb:w0.heap.size<=b)(hm:∃ us,(b,us)∈rv)(hk:∀ c,c≠b->w'.heap[c]?=w.heap[c]?)(hrv:∀ p,p∈rv'->w'.heap[p.1]?=some (.cells p.2.toArray 24 (0,0))/\∃ us,(p.1,us)∈rv):SP wB qb w0 v0 w' l rv':=by
 obtain⟨v,h1,h2,h3⟩:=S.ex;obtain⟨us,hm⟩:=hm;have hq:qb≠b:=λe=>(h3 _ hm).2.1 e.symm
 have ho:v.ownBlock≠some b:=(h3 _ hm).2.2;refine⟨v,⟨h1.low.trans (low.mono hB),(hk _ hq).trans h1.blk,h1.hq,?_,h1.ne⟩,⟨hsz ▸ h2.size,λk hk1 g1 g2=>?_,h2.own⟩,λp hp=>?_⟩
 ·refine⟨h1.own.1,?_⟩
  rcases h1.own.2 with h|⟨g,cap,cur,rfl,hB,hg,rest⟩
  ·exact .inl h
  ·exact .inr ⟨g,cap,cur,rfl,hB,(hk g (λe=>ho rO)).trans hg,rest⟩
 ·exact(hk k aB).trans (h2.blk k hk1 g1 g2)
 ·obtain⟨g1,us',g2⟩:=hrv p hp;exact⟨g1,(h3 _ g2).2⟩
def awP{w:World}{b B:Nat}(h:B<=b)(x y z u v:Value):Below B w (AY w b x y z u v):=
 (((((bH B w).setCell (p:=(AAF b 0)) h x).setCell (p:=(AAF b 1)) h y).setCell (p:=(AAF b 2)) h z).setCell (p:=(AAF b 3)) h u).setCell (p:=(AAF b 4)) h v
def aqO{w:World}{b c:Nat}(h:c≠b)(x y z u v:Value):(AY w b x y z u v).heap[c]?=w.heap[c]?:=by
 unfold AY
 iterate 5 rw[dJ _ _ _ _ (λe=>h (by simpa using e))]
def aHd{w:World}{b:Nat}{us:List Value}(h5:us.length=5)(h:w.heap[b]?=some (.cells us.toArray 24 (0,0)))(x y z u v:Value):(AY w b x y z u v).heap[b]?=some (.cells [x,y,z,u,v].toArray 24 (0,0)):=by
 obtain⟨a0,a1,a2,a3,a4,rfl⟩:∃ a0 a1 a2 a3 a4,us=[a0,a1,a2,a3,a4]:=by
  match us,h5 with
  | [a0,a1,a2,a3,a4],_=>exact⟨_,_,_,_,_,rfl⟩
 unfold AY
 simp[World.setCell,pK,h]
def SP.sU{wB:World}{qb:Nat}{w0 w:World}{v0:Value}{l:List Tk}{b c:Nat}{us vs:List Value}(S:SP wB qb w0 v0 w l [(b,us),(c,vs)])(hB:wB.heap.size<=w0.heap.size)(hb:w0.heap.size<=b)(hne:c≠b)(h5:us.length=5)(x y z u v:Value):SP wB qb w0 v0 (AY w b x y z u v) l [(b,[x,y,z,u,v]),(c,vs)]:=by
 refine S.mute hB (awP hb ..) (by simp[AY,World.setCell]) b hb ⟨_,.head _⟩ (λc h=>aqO h ..) λp hp=>?_
 rcases bO.1 hp with rfl|hp
 ·exact⟨aHd h5 (S.tvb (.head _)) ..,_,.head _⟩
 ·obtain rfl:=cO.1 hp;exact⟨(aqO hne ..).trans (S.tvb (.tail _ (.head _))),_,.tail _ (.head _)⟩
def SP.swap{wB:World}{qb:Nat}{w0 w:World}{v0:Value}{l:List Tk}{p q:Nat×List Value}(S:SP wB qb w0 v0 w l [p,q]):SP wB qb w0 v0 w l [q,p]:=S.less λx hx=>by simp at hx ⊢; exact hx.symm
def xX(w:dL):List Tk:=if w.size=0 then []else [W gR,O cJ,W w,O dA]
def yU(n:Int):List Tk:=if n=0 then []else [W sV,O cJ,Nm n,O dA]
def Bp(x y:T):List Tk:=if y.kind≠10 then W rX::(bI (x.l.map (aL false))++bI (y.l.map (aL false)))else if x.kind≠10 then W wQ::bI (x.l.map (aL false))else []
def aBE{s:dL}(h:s.toList.isEmpty=true):xX s=[]:=by
 have e:=List.isEmpty_iff.1 h;have:s=⟨#[]⟩:=by rw[<- Le,e,sH]
 subst this;rfl
def arP{s:dL}(h:s.toList.isEmpty=false):xX s=[gR].map W++([cJ].map O++([s].map W++[dA].map O)):=by unfold xX;rw[aC (λe=>by have:=VZ e;subst this;revert h;decide +kernel)];rfl
def atD{n:Int}(h:¬ n=0):yU n=[sV].map W++([cJ].map O++([Nm n]++[dA].map O)):=by unfold yU;rw[aC h];rfl
def aBj(s:dL):(xX s).length<=4:=by unfold xX;split<;>simp
def aBX(n:Int):(yU n).length<=4:=by unfold yU;split<;>simp
def aJt(wB:World)(hTab:fQ wB)(qb:Nat)(t:T)(D:PD wB qb t)(w:World)(v:Value)(l:List Tk)(n a:Int)(s:dL)(ao:iD)(m c:Nat)(kd:Int)(wd:dL)(hkd:kd=38/\wd=FA\/kd=39/\wd=FC)(hr : -9223372036854775808<=n/\n<=9223372036854775807)(h:Pt wB qb w v l)(ht:Tr wB t (vT kd n a s ao m c))(hl:l.length+([wd].map W++(xX s++(yU n++(Bp (Px.part t.l 0) (Px.part t.l 1))))).length<=fG):AAA 163 #[pq qb,tg kd n a s ao m c] w (lJ wB qb w v l ([wd].map W++(xX s++(yU n++(Bp (Px.part t.l 0) (Px.part t.l 1)))))):=by
 obtain⟨b1,n1,h1,ho,hq,hz⟩:=XK h (tg kd n a s ao m c);go_in;go_upto_region 1 with fail;generalize World.alloc w _=w1 at b1 n1 h1 hz ⊢;generalize w.heap.size=B3 at n1 ho hq hz ⊢;obtain⟨KT,S0,HZ,HN⟩:=kt1 h1 hz hq ho n1;have hBB:wB.heap.size<=w1.heap.size:=aZ h.low.size b1.size;have fle:=aBj s;have sle:=aBX n;have HKD:=aN hkd;clear hkd;have:=oS KT S0;go_upto_if 8 with fail;go_cut [] (λwx=>SP wB qb w1 v wx (l++[wd].map W) [])
 case first=>
  rcases HKD.out with ⟨rfl,rfl⟩|⟨rfl,rfl⟩
  ·have:=oS KT S0;go_upto_block 2 with fail;refine gU (S0.kS [FA] fO #[.string ⟨#[71,69,84]⟩] rfl 1 rfl) λx1 S1=>?_
   go_wp2
   go_meet
   case rel=>exact S1
  ·have:=oS KT S0;go_upto_block 3 with fail;refine gU (S0.kS [FC] fO #[.string ⟨#[80,85,84]⟩] rfl 1 rfl) λx1 S1=>?_
   go_wp2
   go_meet
   case rel=>exact S1
 case rest=>
  have S1:=hcut;clear hcut;have:=oS KT S1;go_upto_if 17 with fail;go_cut [] (λwx=>SP wB qb w1 v wx (l++([wd].map W++xX s)) [])
  case first=>
   cases hs:s.toList.isEmpty with
   | true=>
    have HF:=aN (aBE hs)
    go_wp2
    go_meet
    case rel=>exact(by rw[HF.out];simpa only[bD]using S1)
   | false=>
    have HF:=aN (arP hs);have hfl:(xX s).length=4:=by rw[HF.out];rfl
    have:=oS KT S1;go_upto_block 5 with fail;refine gU (S1.kS [gR] fO #[.string ⟨#[70,73,76,69]⟩] rfl 1 rfl) λx2 S2=>?_;have:=oS KT S2;go_upto_block 6 with fail;refine gU (S2.opC [cJ] fO #[.string ⟨#[40]⟩] rfl 1 rfl) λx3 S3=>?_;have:=oS KT S3;go_upto_block 7 with fail;refine gU (S3.kS [s] fO #[.string s] rfl 1 rfl) λx4 S4=>?_;have:=oS KT S4;go_upto_block 8 with fail;refine gU (S4.opC [dA] fO #[.string ⟨#[41]⟩] rfl 1 rfl) λx5 S5=>?_
    go_wp2
    go_meet
    case rel=>exact(by rw[HF.out];simpa only[bT]using S5)
  case rest=>
   clear S0 S1;have S6:=hcut;clear hcut;have:=oS KT S6;go_upto_if 34 with fail;go_cut [] (λwx=>SP wB qb w1 v wx (l++([wd].map W++(xX s++yU n))) [])
   case first=>
    generalize hbk:(n != 0)=bk;have HBK:=aN hbk;clear hbk
    cases bk with
    | false=>
     have HF:=aN (show yU n=[]by rw[show n=0 by simpa using HBK.out];rfl)
     go_wp2
     go_meet
     case rel=>exact(by rw[HF.out];simpa only[bD]using S6)
    | true=>
     have HF:=aN (atD (show ¬ n=0 by simpa using HBK.out));have hfl:(yU n).length=4:=by rw[HF.out];rfl
     have:=oS KT S6;go_upto_block 10 with fail;refine gU (S6.kS [sV] fO #[.string ⟨#[83,75,73,80]⟩] rfl 1 rfl) λx7 S7=>?_;have:=oS KT S7;go_upto_block 11 with fail;refine gU (S7.opC [cJ] fO #[.string ⟨#[40]⟩] rfl 1 rfl) λx8 S8=>?_;have:=oS KT S8;go_upto_block 12 with fail;refine gU (S8.JM hTab n hr.1 hr.2 fO) λx9 S9=>?_;have:=oS KT S9;go_upto_block 13 with fail;refine gU (S9.opC [dA] fO #[.string ⟨#[41]⟩] rfl 1 rfl) λx10 S10=>?_
     go_wp2
     go_meet
     case rel=>exact(by rw[HF.out];simpa only[bT]using S10)
   case rest=>
    clear S6;have S11:=hcut;clear hcut;go_upto_region 14 with fail;go_cut [4,5] (λv4 v5 wx=>∃ (B4 B5:Nat) (k1 n1 a1:Int) (s1:dL) (o1:iD) (m1 c1:Nat) (k2 n2 a2:Int) (s2:dL) (o2:iD) (m2 c2:Nat),v4=.pointer (some (AAF B4 0))/\v5=.pointer (some (AAF B5 0))/\Tr wB (Px.part t.l 0) (vT k1 n1 a1 s1 o1 m1 c1)/\Tr wB (Px.part t.l 1) (vT k2 n2 a2 s2 o2 m2 c2)/\SP wB qb w1 v wx (l++([wd].map W++(xX s++yU n))) [(B5,vT k2 n2 a2 s2 o2 m2 c2),(B4,vT k1 n1 a1 s1 o1 m1 c1)])
    case first=>
     have S100:=S11.drew;refine fW (S:=(λw'=>TV w' B3 kd n a s (.slice ao m c))) aQ (KT.out _ _ _ S100) (λaMA=>?_);generalize World.drew wc=x100 at *;refine BH 0 ?_;refine BH 2 ?_;refine rdH [1,4,5] ?_;refine rB (λKx aMB=>?_) ?_
     ·go_simp;refine(S100.kR ht 0).mono ?_;rintro e x101 ⟨⟨ka,na,aa,sa,oa,ma,ca,rfl,hxa⟩,S101⟩;refine kX aMB (KT.out _ _ _ S101) λaMA=>?_;clear aMB Kx;refine rdH [3,4,5] ?_;refine rB (λKx aMB=>?_) ?_
      ·go_simp;refine(S101.kR ht 1).mono ?_;rintro e x102 ⟨⟨kb,nb,ab,sb,ob,mb,cb,rfl,hxb⟩,S102⟩;refine kX aMB (KT.out _ _ _ S102) λaMA=>?_;clear aMB Kx;refine rdH [4,5] ?_;refine rB (λKx aMB=>?_) ?_
       ·go_simp;have S103:=S102.oF Cg sZ rfl _ rfl;have hb4:=S102.size;refine kX aMB (KT.out _ _ _ S103) λaMA=>?_;clear aMB Kx;generalize World.alloc _ (.cells sZ 24)=x103 at S103 aMA ⊢;refine gZ 5 λKx aMB=>?_;go_simp;have S104:=S103.oF Cg sZ rfl _ rfl;have hb5:=S103.size;have hne:=nR (aX.1 (S103.tvb (.head _))).1;refine kX aMB (KT.out _ _ _ S104) λaMA=>?_;clear aMB Kx;generalize World.alloc _ (.cells sZ 24)=x104 at S104 aMA ⊢;refine gZ 6 λKx aMB=>?_;have:=AAD (S104.facts 1 rfl);have S105:=(S104.swap.sU hBB hb4 hne.symm rfl ka na aa sa (.slice oa ma ca)).swap;unfold AY at S105;go_simp;refine kX aMB (KT.out _ _ _ S105) λaMA=>?_;clear aMB Kx;generalize World.setCell _ ((AAF _ 4):Addr) _=x105 at S105 aMA ⊢;refine gZ 7 λKx aMB=>?_;have:=AAD (S105.facts 0 rfl);have S106:=S105.sU hBB hb5 hne rfl kb nb ab sb (.slice ob mb cb);unfold AY at S106;go_simp;refine kX aMB (KT.out _ _ _ S106) λaMA=>?_;clear aMB Kx;generalize World.setCell _ ((AAF _ 4):Addr) _=x106 at S106 aMA ⊢;refine pP ?_
        go_wp2
        go_meet
        case rel=>exact⟨_,_,_,_,_,_,_,_,_,_,_,_,_,_,_,_,rfl,rfl,hxa,hxb,S106⟩
       refine rB (λKx aMB=>?_) qS;go_simp;have S107:=S102.oF Cg sZ rfl _ rfl;have hb5:=S102.size;refine kX aMB (KT.out _ _ _ S107) λaMA=>?_;clear aMB Kx;generalize World.alloc _ (.cells sZ 24)=x107 at S107 aMA ⊢;refine gZ 4 λKx aMB=>?_;go_simp;have S108:=S107.oF Cg sZ rfl _ rfl;have hb4:=S107.size;have hne:=nR (aX.1 (S107.tvb (.head _))).1;refine kX aMB (KT.out _ _ _ S108) λaMA=>?_;clear aMB Kx;generalize World.alloc _ (.cells sZ 24)=x108 at S108 aMA ⊢;refine gZ 6 λKx aMB=>?_;have:=AAD (S108.facts 0 rfl);have S109:=S108.sU hBB hb4 hne rfl ka na aa sa (.slice oa ma ca);unfold AY at S109;go_simp;refine kX aMB (KT.out _ _ _ S109) λaMA=>?_;clear aMB Kx;generalize World.setCell _ ((AAF _ 4):Addr) _=x109 at S109 aMA ⊢;refine gZ 7 λKx aMB=>?_;have:=AAD (S109.facts 1 rfl);have S110:=(S109.swap.sU hBB hb5 hne.symm rfl kb nb ab sb (.slice ob mb cb)).swap;unfold AY at S110;go_simp;refine kX aMB (KT.out _ _ _ S110) λaMA=>?_;clear aMB Kx;generalize World.setCell _ ((AAF _ 4):Addr) _=x110 at S110 aMA ⊢;refine pP ?_
       go_wp2
       go_meet
       case rel=>exact⟨_,_,_,_,_,_,_,_,_,_,_,_,_,_,_,_,rfl,rfl,hxa,hxb,S110.swap⟩
      refine rB (λKx aMB=>?_) ?_
      ·go_simp;have S111:=S101.oF Cg sZ rfl _ rfl;have hb4:=S101.size;refine kX aMB (KT.out _ _ _ S111) λaMA=>?_;clear aMB Kx;generalize World.alloc _ (.cells sZ 24)=x111 at S111 aMA ⊢;refine rdH [3,5] ?_;refine rB (λKx aMB=>?_) ?_
       ·go_simp;refine(S111.kR ht 1).mono ?_;rintro e x112 ⟨⟨kb,nb,ab,sb,ob,mb,cb,rfl,hxb⟩,S112⟩;refine kX aMB (KT.out _ _ _ S112) λaMA=>?_;clear aMB Kx;refine gZ 5 λKx aMB=>?_;go_simp;have S113:=S112.oF Cg sZ rfl _ rfl;have hb5:=S112.size;have hne:=nR (aX.1 (S112.tvb (.head _))).1;refine kX aMB (KT.out _ _ _ S113) λaMA=>?_;clear aMB Kx;generalize World.alloc _ (.cells sZ 24)=x113 at S113 aMA ⊢;refine gZ 6 λKx aMB=>?_;have:=AAD (S113.facts 1 rfl);have S114:=(S113.swap.sU hBB hb4 hne.symm rfl ka na aa sa (.slice oa ma ca)).swap;unfold AY at S114;go_simp;refine kX aMB (KT.out _ _ _ S114) λaMA=>?_;clear aMB Kx;generalize World.setCell _ ((AAF _ 4):Addr) _=x114 at S114 aMA ⊢;refine gZ 7 λKx aMB=>?_;have:=AAD (S114.facts 0 rfl);have S115:=S114.sU hBB hb5 hne rfl kb nb ab sb (.slice ob mb cb);unfold AY at S115;go_simp;refine kX aMB (KT.out _ _ _ S115) λaMA=>?_;clear aMB Kx;generalize World.setCell _ ((AAF _ 4):Addr) _=x115 at S115 aMA ⊢;refine pP ?_
        go_wp2
        go_meet
        case rel=>exact⟨_,_,_,_,_,_,_,_,_,_,_,_,_,_,_,_,rfl,rfl,hxa,hxb,S115⟩
       refine rB (λKx aMB=>?_) qS;go_simp;have S116:=S111.oF Cg sZ rfl _ rfl;have hb5:=S111.size;have hne:=nR (aX.1 (S111.tvb (.head _))).1;refine kX aMB (KT.out _ _ _ S116) λaMA=>?_;clear aMB Kx;generalize World.alloc _ (.cells sZ 24)=x116 at S116 aMA ⊢;refine gZ 3 λKx aMB=>?_;go_simp;refine(S116.kR ht 1).mono ?_;rintro e x117 ⟨⟨kb,nb,ab,sb,ob,mb,cb,rfl,hxb⟩,S117⟩;refine kX aMB (KT.out _ _ _ S117) λaMA=>?_;clear aMB Kx;refine gZ 6 λKx aMB=>?_;have:=AAD (S117.facts 1 rfl);have S118:=(S117.swap.sU hBB hb4 hne.symm rfl ka na aa sa (.slice oa ma ca)).swap;unfold AY at S118;go_simp;refine kX aMB (KT.out _ _ _ S118) λaMA=>?_;clear aMB Kx;generalize World.setCell _ ((AAF _ 4):Addr) _=x118 at S118 aMA ⊢;refine gZ 7 λKx aMB=>?_;have:=AAD (S118.facts 0 rfl);have S119:=S118.sU hBB hb5 hne rfl kb nb ab sb (.slice ob mb cb);unfold AY at S119;go_simp;refine kX aMB (KT.out _ _ _ S119) λaMA=>?_;clear aMB Kx;generalize World.setCell _ ((AAF _ 4):Addr) _=x119 at S119 aMA ⊢;refine pP ?_
       go_wp2
       go_meet
       case rel=>exact⟨_,_,_,_,_,_,_,_,_,_,_,_,_,_,_,_,rfl,rfl,hxa,hxb,S119⟩
      refine rB (λKx aMB=>?_) qS;go_simp;have S120:=S101.oF Cg sZ rfl _ rfl;have hb5:=S101.size;refine kX aMB (KT.out _ _ _ S120) λaMA=>?_;clear aMB Kx;generalize World.alloc _ (.cells sZ 24)=x120 at S120 aMA ⊢;refine rdH [3,4] ?_;refine rB (λKx aMB=>?_) ?_
      ·go_simp;refine(S120.kR ht 1).mono ?_;rintro e x121 ⟨⟨kb,nb,ab,sb,ob,mb,cb,rfl,hxb⟩,S121⟩;refine kX aMB (KT.out _ _ _ S121) λaMA=>?_;clear aMB Kx;refine gZ 4 λKx aMB=>?_;go_simp;have S122:=S121.oF Cg sZ rfl _ rfl;have hb4:=S121.size;have hne:=nR (aX.1 (S121.tvb (.head _))).1;refine kX aMB (KT.out _ _ _ S122) λaMA=>?_;clear aMB Kx;generalize World.alloc _ (.cells sZ 24)=x122 at S122 aMA ⊢;refine gZ 6 λKx aMB=>?_;have:=AAD (S122.facts 0 rfl);have S123:=S122.sU hBB hb4 hne rfl ka na aa sa (.slice oa ma ca);unfold AY at S123;go_simp;refine kX aMB (KT.out _ _ _ S123) λaMA=>?_;clear aMB Kx;generalize World.setCell _ ((AAF _ 4):Addr) _=x123 at S123 aMA ⊢;refine gZ 7 λKx aMB=>?_;have:=AAD (S123.facts 1 rfl);have S124:=(S123.swap.sU hBB hb5 hne.symm rfl kb nb ab sb (.slice ob mb cb)).swap;unfold AY at S124;go_simp;refine kX aMB (KT.out _ _ _ S124) λaMA=>?_;clear aMB Kx;generalize World.setCell _ ((AAF _ 4):Addr) _=x124 at S124 aMA ⊢;refine pP ?_
       go_wp2
       go_meet
       case rel=>exact⟨_,_,_,_,_,_,_,_,_,_,_,_,_,_,_,_,rfl,rfl,hxa,hxb,S124.swap⟩
      refine rB (λKx aMB=>?_) qS;go_simp;have S125:=S120.oF Cg sZ rfl _ rfl;have hb4:=S120.size;have hne:=nR (aX.1 (S120.tvb (.head _))).1;refine kX aMB (KT.out _ _ _ S125) λaMA=>?_;clear aMB Kx;generalize World.alloc _ (.cells sZ 24)=x125 at S125 aMA ⊢;refine gZ 3 λKx aMB=>?_;go_simp;refine(S125.kR ht 1).mono ?_;rintro e x126 ⟨⟨kb,nb,ab,sb,ob,mb,cb,rfl,hxb⟩,S126⟩;refine kX aMB (KT.out _ _ _ S126) λaMA=>?_;clear aMB Kx;refine gZ 6 λKx aMB=>?_;have:=AAD (S126.facts 0 rfl);have S127:=S126.sU hBB hb4 hne rfl ka na aa sa (.slice oa ma ca);unfold AY at S127;go_simp;refine kX aMB (KT.out _ _ _ S127) λaMA=>?_;clear aMB Kx;generalize World.setCell _ ((AAF _ 4):Addr) _=x127 at S127 aMA ⊢;refine gZ 7 λKx aMB=>?_;have:=AAD (S127.facts 1 rfl);have S128:=(S127.swap.sU hBB hb5 hne.symm rfl kb nb ab sb (.slice ob mb cb)).swap;unfold AY at S128;go_simp;refine kX aMB (KT.out _ _ _ S128) λaMA=>?_;clear aMB Kx;generalize World.setCell _ ((AAF _ 4):Addr) _=x128 at S128 aMA ⊢;refine pP ?_
      go_wp2
      go_meet
      case rel=>exact⟨_,_,_,_,_,_,_,_,_,_,_,_,_,_,_,_,rfl,rfl,hxa,hxb,S128.swap⟩
     refine rB (λKx aMB=>?_) ?_
     ·go_simp;have S129:=S100.oF Cg sZ rfl _ rfl;have hb4:=S100.size;refine kX aMB (KT.out _ _ _ S129) λaMA=>?_;clear aMB Kx;generalize World.alloc _ (.cells sZ 24)=x129 at S129 aMA ⊢;refine rdH [1,5] ?_;refine rB (λKx aMB=>?_) ?_
      ·go_simp;refine(S129.kR ht 0).mono ?_;rintro e x130 ⟨⟨ka,na,aa,sa,oa,ma,ca,rfl,hxa⟩,S130⟩;refine kX aMB (KT.out _ _ _ S130) λaMA=>?_;clear aMB Kx;refine rdH [3,5] ?_;refine rB (λKx aMB=>?_) ?_
       ·go_simp;refine(S130.kR ht 1).mono ?_;rintro e x131 ⟨⟨kb,nb,ab,sb,ob,mb,cb,rfl,hxb⟩,S131⟩;refine kX aMB (KT.out _ _ _ S131) λaMA=>?_;clear aMB Kx;refine gZ 5 λKx aMB=>?_;go_simp;have S132:=S131.oF Cg sZ rfl _ rfl;have hb5:=S131.size;have hne:=nR (aX.1 (S131.tvb (.head _))).1;refine kX aMB (KT.out _ _ _ S132) λaMA=>?_;clear aMB Kx;generalize World.alloc _ (.cells sZ 24)=x132 at S132 aMA ⊢;refine gZ 6 λKx aMB=>?_;have:=AAD (S132.facts 1 rfl);have S133:=(S132.swap.sU hBB hb4 hne.symm rfl ka na aa sa (.slice oa ma ca)).swap;unfold AY at S133;go_simp;refine kX aMB (KT.out _ _ _ S133) λaMA=>?_;clear aMB Kx;generalize World.setCell _ ((AAF _ 4):Addr) _=x133 at S133 aMA ⊢;refine gZ 7 λKx aMB=>?_;have:=AAD (S133.facts 0 rfl);have S134:=S133.sU hBB hb5 hne rfl kb nb ab sb (.slice ob mb cb);unfold AY at S134;go_simp;refine kX aMB (KT.out _ _ _ S134) λaMA=>?_;clear aMB Kx;generalize World.setCell _ ((AAF _ 4):Addr) _=x134 at S134 aMA ⊢;refine pP ?_
        go_wp2
        go_meet
        case rel=>exact⟨_,_,_,_,_,_,_,_,_,_,_,_,_,_,_,_,rfl,rfl,hxa,hxb,S134⟩
       refine rB (λKx aMB=>?_) qS;go_simp;have S135:=S130.oF Cg sZ rfl _ rfl;have hb5:=S130.size;have hne:=nR (aX.1 (S130.tvb (.head _))).1;refine kX aMB (KT.out _ _ _ S135) λaMA=>?_;clear aMB Kx;generalize World.alloc _ (.cells sZ 24)=x135 at S135 aMA ⊢;refine gZ 3 λKx aMB=>?_;go_simp;refine(S135.kR ht 1).mono ?_;rintro e x136 ⟨⟨kb,nb,ab,sb,ob,mb,cb,rfl,hxb⟩,S136⟩;refine kX aMB (KT.out _ _ _ S136) λaMA=>?_;clear aMB Kx;refine gZ 6 λKx aMB=>?_;have:=AAD (S136.facts 1 rfl);have S137:=(S136.swap.sU hBB hb4 hne.symm rfl ka na aa sa (.slice oa ma ca)).swap;unfold AY at S137;go_simp;refine kX aMB (KT.out _ _ _ S137) λaMA=>?_;clear aMB Kx;generalize World.setCell _ ((AAF _ 4):Addr) _=x137 at S137 aMA ⊢;refine gZ 7 λKx aMB=>?_;have:=AAD (S137.facts 0 rfl);have S138:=S137.sU hBB hb5 hne rfl kb nb ab sb (.slice ob mb cb);unfold AY at S138;go_simp;refine kX aMB (KT.out _ _ _ S138) λaMA=>?_;clear aMB Kx;generalize World.setCell _ ((AAF _ 4):Addr) _=x138 at S138 aMA ⊢;refine pP ?_
       go_wp2
       go_meet
       case rel=>exact⟨_,_,_,_,_,_,_,_,_,_,_,_,_,_,_,_,rfl,rfl,hxa,hxb,S138⟩
      refine rB (λKx aMB=>?_) qS;go_simp;have S139:=S129.oF Cg sZ rfl _ rfl;have hb5:=S129.size;have hne:=nR (aX.1 (S129.tvb (.head _))).1;refine kX aMB (KT.out _ _ _ S139) λaMA=>?_;clear aMB Kx;generalize World.alloc _ (.cells sZ 24)=x139 at S139 aMA ⊢;refine gZ 1 λKx aMB=>?_;go_simp;refine(S139.kR ht 0).mono ?_;rintro e x140 ⟨⟨ka,na,aa,sa,oa,ma,ca,rfl,hxa⟩,S140⟩;refine kX aMB (KT.out _ _ _ S140) λaMA=>?_;clear aMB Kx;refine gZ 3 λKx aMB=>?_;go_simp;refine(S140.kR ht 1).mono ?_;rintro e x141 ⟨⟨kb,nb,ab,sb,ob,mb,cb,rfl,hxb⟩,S141⟩;refine kX aMB (KT.out _ _ _ S141) λaMA=>?_;clear aMB Kx;refine gZ 6 λKx aMB=>?_;have:=AAD (S141.facts 1 rfl);have S142:=(S141.swap.sU hBB hb4 hne.symm rfl ka na aa sa (.slice oa ma ca)).swap;unfold AY at S142;go_simp;refine kX aMB (KT.out _ _ _ S142) λaMA=>?_;clear aMB Kx;generalize World.setCell _ ((AAF _ 4):Addr) _=x142 at S142 aMA ⊢;refine gZ 7 λKx aMB=>?_;have:=AAD (S142.facts 0 rfl);have S143:=S142.sU hBB hb5 hne rfl kb nb ab sb (.slice ob mb cb);unfold AY at S143;go_simp;refine kX aMB (KT.out _ _ _ S143) λaMA=>?_;clear aMB Kx;generalize World.setCell _ ((AAF _ 4):Addr) _=x143 at S143 aMA ⊢;refine pP ?_
      go_wp2
      go_meet
      case rel=>exact⟨_,_,_,_,_,_,_,_,_,_,_,_,_,_,_,_,rfl,rfl,hxa,hxb,S143⟩
     refine rB (λKx aMB=>?_) qS;go_simp;have S144:=S100.oF Cg sZ rfl _ rfl;have hb5:=S100.size;refine kX aMB (KT.out _ _ _ S144) λaMA=>?_;clear aMB Kx;generalize World.alloc _ (.cells sZ 24)=x144 at S144 aMA ⊢;refine rdH [1,4] ?_;refine rB (λKx aMB=>?_) ?_
     ·go_simp;refine(S144.kR ht 0).mono ?_;rintro e x145 ⟨⟨ka,na,aa,sa,oa,ma,ca,rfl,hxa⟩,S145⟩;refine kX aMB (KT.out _ _ _ S145) λaMA=>?_;clear aMB Kx;refine rdH [3,4] ?_;refine rB (λKx aMB=>?_) ?_
      ·go_simp;refine(S145.kR ht 1).mono ?_;rintro e x146 ⟨⟨kb,nb,ab,sb,ob,mb,cb,rfl,hxb⟩,S146⟩;refine kX aMB (KT.out _ _ _ S146) λaMA=>?_;clear aMB Kx;refine gZ 4 λKx aMB=>?_;go_simp;have S147:=S146.oF Cg sZ rfl _ rfl;have hb4:=S146.size;have hne:=nR (aX.1 (S146.tvb (.head _))).1;refine kX aMB (KT.out _ _ _ S147) λaMA=>?_;clear aMB Kx;generalize World.alloc _ (.cells sZ 24)=x147 at S147 aMA ⊢;refine gZ 6 λKx aMB=>?_;have:=AAD (S147.facts 0 rfl);have S148:=S147.sU hBB hb4 hne rfl ka na aa sa (.slice oa ma ca);unfold AY at S148;go_simp;refine kX aMB (KT.out _ _ _ S148) λaMA=>?_;clear aMB Kx;generalize World.setCell _ ((AAF _ 4):Addr) _=x148 at S148 aMA ⊢;refine gZ 7 λKx aMB=>?_;have:=AAD (S148.facts 1 rfl);have S149:=(S148.swap.sU hBB hb5 hne.symm rfl kb nb ab sb (.slice ob mb cb)).swap;unfold AY at S149;go_simp;refine kX aMB (KT.out _ _ _ S149) λaMA=>?_;clear aMB Kx;generalize World.setCell _ ((AAF _ 4):Addr) _=x149 at S149 aMA ⊢;refine pP ?_
       go_wp2
       go_meet
       case rel=>exact⟨_,_,_,_,_,_,_,_,_,_,_,_,_,_,_,_,rfl,rfl,hxa,hxb,S149.swap⟩
      refine rB (λKx aMB=>?_) qS;go_simp;have S150:=S145.oF Cg sZ rfl _ rfl;have hb4:=S145.size;have hne:=nR (aX.1 (S145.tvb (.head _))).1;refine kX aMB (KT.out _ _ _ S150) λaMA=>?_;clear aMB Kx;generalize World.alloc _ (.cells sZ 24)=x150 at S150 aMA ⊢;refine gZ 3 λKx aMB=>?_;go_simp;refine(S150.kR ht 1).mono ?_;rintro e x151 ⟨⟨kb,nb,ab,sb,ob,mb,cb,rfl,hxb⟩,S151⟩;refine kX aMB (KT.out _ _ _ S151) λaMA=>?_;clear aMB Kx;refine gZ 6 λKx aMB=>?_;have:=AAD (S151.facts 0 rfl);have S152:=S151.sU hBB hb4 hne rfl ka na aa sa (.slice oa ma ca);unfold AY at S152;go_simp;refine kX aMB (KT.out _ _ _ S152) λaMA=>?_;clear aMB Kx;generalize World.setCell _ ((AAF _ 4):Addr) _=x152 at S152 aMA ⊢;refine gZ 7 λKx aMB=>?_;have:=AAD (S152.facts 1 rfl);have S153:=(S152.swap.sU hBB hb5 hne.symm rfl kb nb ab sb (.slice ob mb cb)).swap;unfold AY at S153;go_simp;refine kX aMB (KT.out _ _ _ S153) λaMA=>?_;clear aMB Kx;generalize World.setCell _ ((AAF _ 4):Addr) _=x153 at S153 aMA ⊢;refine pP ?_
      go_wp2
      go_meet
      case rel=>exact⟨_,_,_,_,_,_,_,_,_,_,_,_,_,_,_,_,rfl,rfl,hxa,hxb,S153.swap⟩
     refine rB (λKx aMB=>?_) qS;go_simp;have S154:=S144.oF Cg sZ rfl _ rfl;have hb4:=S144.size;have hne:=nR (aX.1 (S144.tvb (.head _))).1;refine kX aMB (KT.out _ _ _ S154) λaMA=>?_;clear aMB Kx;generalize World.alloc _ (.cells sZ 24)=x154 at S154 aMA ⊢;refine gZ 1 λKx aMB=>?_;go_simp;refine(S154.kR ht 0).mono ?_;rintro e x155 ⟨⟨ka,na,aa,sa,oa,ma,ca,rfl,hxa⟩,S155⟩;refine kX aMB (KT.out _ _ _ S155) λaMA=>?_;clear aMB Kx;refine gZ 3 λKx aMB=>?_;go_simp;refine(S155.kR ht 1).mono ?_;rintro e x156 ⟨⟨kb,nb,ab,sb,ob,mb,cb,rfl,hxb⟩,S156⟩;refine kX aMB (KT.out _ _ _ S156) λaMA=>?_;clear aMB Kx;refine gZ 6 λKx aMB=>?_;have:=AAD (S156.facts 0 rfl);have S157:=S156.sU hBB hb4 hne rfl ka na aa sa (.slice oa ma ca);unfold AY at S157;go_simp;refine kX aMB (KT.out _ _ _ S157) λaMA=>?_;clear aMB Kx;generalize World.setCell _ ((AAF _ 4):Addr) _=x157 at S157 aMA ⊢;refine gZ 7 λKx aMB=>?_;have:=AAD (S157.facts 1 rfl);have S158:=(S157.swap.sU hBB hb5 hne.symm rfl kb nb ab sb (.slice ob mb cb)).swap;unfold AY at S158;go_simp;refine kX aMB (KT.out _ _ _ S158) λaMA=>?_;clear aMB Kx;generalize World.setCell _ ((AAF _ 4):Addr) _=x158 at S158 aMA ⊢;refine pP ?_
     go_wp2
     go_meet
     case rel=>exact⟨_,_,_,_,_,_,_,_,_,_,_,_,_,_,_,_,rfl,rfl,hxa,hxb,S158.swap⟩
    case rest=>
     clear S11;obtain⟨B4,B5,k1,n1,a1,s1,o1,m1,c1,k2,n2,a2,s2,o2,m2,c2,rfl,rfl,hx1,hx2,S12⟩:=hcut;have hka:=hx1.split.1;have hkb:=hx2.split.1;have HKA:=aN hka;have HKB:=aN hkb;clear hka hkb
     by_cases h2:k2=10
     ·by_cases h3:k1=10
      ·have HT:=aN (show Bp (Px.part t.l 0) (Px.part t.l 1)=[]by unfold Bp;rw[aC (by rw[<- HKB.out];simpa using h2),aC (by rw[<- HKA.out];simpa using h3)]);subst h2 h3;have:=oS KT S12;have:=AAD (S12.facts 0 rfl);have:=AAD (S12.facts 1 rfl);have P:lJ wB qb w v l ([wd].map W++(xX s++(yU n++(Bp (Px.part t.l 0) (Px.part t.l 1))))) (.returned (.tuple #[])) _:=lJ.pre (SP.KX (by rw[HT.out];simpa only[bT,bD]using S12)) b1;clear hl h h1 b1 fle sle S12
       go_wp2
       go_end0;exact P
      ·have HT:=aN (show Bp (Px.part t.l 0) (Px.part t.l 1)=[wQ].map W++bI ((Px.part t.l 0).l.map (aL false))by unfold Bp;rw[aC (by rw[<- HKB.out];simpa using h2),aF (by rw[<- HKA.out];exact h3)];rfl);subst h2;rw[HT.out]at hl;simp only[aO,bN,aV,dD]at hl
       have:=AAD (S12.facts 0 rfl);have:=AAD (S12.facts 1 rfl);have:=oS KT S12;go_upto_block 20 with fail;refine gU (S12.kS [wQ] fO #[.string ⟨#[76,73,83,84]⟩] rfl 1 rfl) λx13 S13=>?_;have:=oS KT S13;have:=AAD (S13.facts 1 rfl);go_upto_block 21 with fail;refine gU (S13.pA (mH.tree S13.low hx1) (D.nn 0) (D.ll 0) fO) λx14 S14=>?_;have P:lJ wB qb w v l ([wd].map W++(xX s++(yU n++(Bp (Px.part t.l 0) (Px.part t.l 1))))) (.returned (.tuple #[])) _:=lJ.pre (SP.KX (by rw[HT.out];simpa only[bT,bD]using S14)) b1;clear hl h h1 b1 fle sle S12 S13 S14
       go_wp2
       go_end0;exact P
     ·have HT:=aN (show Bp (Px.part t.l 0) (Px.part t.l 1)=[rX].map W++(bI ((Px.part t.l 0).l.map (aL false))++bI ((Px.part t.l 1).l.map (aL false)))by unfold Bp;rw[aF (by rw[<- HKB.out];exact h2)];rfl);rw[HT.out]at hl;simp only[aO,bN,aV,dD]at hl
      have:=AAD (S12.facts 0 rfl);have:=AAD (S12.facts 1 rfl);have:=oS KT S12;go_upto_block 16 with fail;refine gU (S12.kS [rX] fO #[.string ⟨#[69,68,73,84]⟩] rfl 1 rfl) λx13 S13=>?_;have:=oS KT S13;have:=AAD (S13.facts 1 rfl);go_upto_block 17 with fail;refine gU (S13.pA (mH.tree S13.low hx1) (D.nn 0) (D.ll 0) fO) λx14 S14=>?_;have:=oS KT S14;have:=AAD (S14.facts 0 rfl);go_upto_block 18 with fail;refine gU (S14.pA (mH.tree S14.low hx2) (D.nn 1) (D.ll 1) fO) λx15 S15=>?_;have P:lJ wB qb w v l ([wd].map W++(xX s++(yU n++(Bp (Px.part t.l 0) (Px.part t.l 1))))) (.returned (.tuple #[])) _:=lJ.pre (SP.KX (by rw[HT.out];simpa only[bT,bD]using S15)) b1;clear hl h h1 b1 fle sle S12 S13 S14 S15
      go_wp2
      go_end0;exact P
end
