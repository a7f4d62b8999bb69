/- ParseWhole, part 21: what it stands on. -/
import Derived.Test.YtfdlmcgcckkkdaaGreatDoorV20
import Derived.Test.YtfdlmcgcckkkdaaGreatDoorV11
set_option linter.all false
set_option maxHeartbeats 40000000
set_option maxRecDepth 100000
namespace Go.Proofs.YtfdlmcgcckkkdaaGreatDoor
section
open Go.RowKit Lx Px
def TP(wB:World)(qb:Nat)(t:T):Prop:=∀ w v l k n a s ao m c,Pt wB qb w v l→Tr wB t (vT k n a s ao m c)→l.length+(prO false t).length≤dK→
 Calls Tryz.prog 82 #[pq qb,tg k n a s ao m c] w (PrQ wB qb w v l (prO false t))
theorem SP.aN{wB:World}{qb:Nat}{w0 w:World}{v0:Value}{l:List Tk}{rv}(S:SP wB qb w0 v0 w l rv){t:T}(hT:TP wB qb t){k n a:Int}{s:ByteArray}{ao:Option Addr}{m c:Nat}(ht:Tr wB t (vT k n a s ao m c))(hl:l.length+(prO false t).length≤dK):Calls Tryz.prog 82 #[pq qb,tg k n a s ao m c] w fun e w'=>e=.returned (.tuple #[])∧SP wB qb w0 v0 w' (l++prO false t) rv:=
 S.call fun v h=>hT w v l k n a s ao m c h ht hl
theorem SP.aQ{wB:World}{qb:Nat}{w0 w:World}{v0:Value}{l:List Tk}{rv}(S:SP wB qb w0 v0 w l rv){K:FuncId}{args:Array Value}{E:Ending→Prop}(h:Calls Tryz.prog K args w fun e w'=>E e∧Below w.heap.size w w'):Calls Tryz.prog K args w fun e w'=>E e∧SP wB qb w0 v0 w' l rv:=by
 refine h.mono ?_;rintro e w' ⟨h1,h2⟩;exact⟨h1,S.below h2⟩
theorem SP.aY{wB:World}{qb:Nat}{w0 w:World}{v0:Value}{l:List Tk}{rv}(S:SP wB qb w0 v0 w l rv){t:T}{k n a:Int}{s:ByteArray}{ao:Option Addr}{m c:Nat}(ht:Tr wB t (vT k n a s ao m c))(i:Nat):Calls Tryz.prog 114 #[tg k n a s ao m c,i] w fun e w'=>(∃ k' n' a' s' ao' m' c',e=.returned (tg k' n' a' s' ao' m' c')∧Tr wB (Px.part t.l i) (vT k' n' a' s' ao' m' c'))∧SP wB qb w0 v0 w' l rv:=
 S.aQ (E:=fun e=>∃ k' n' a' s' ao' m' c',e=.returned (tg k' n' a' s' ao' m' c')∧Tr wB (Px.part t.l i) (vT k' n' a' s' ao' m' c')) (Bi wB w S.low t k n a s ao m c ht i)
theorem SP.Hp{wB:World}{qb:Nat}{w0 w:World}{v0:Value}{l:List Tk}{rv}(S:SP wB qb w0 v0 w l rv)(s:ByteArray):Calls Tryz.prog 117 #[s] w fun e w'=>e=.returned (.int .i64 (Px.level s))∧SP wB qb w0 v0 w' l rv:=
 S.aQ (E:=fun e=>e=_) (Hu s w)
def Lh(wB:World)(qb:Nat)(w:World)(v:Value)(x:Value)(l:List T):Prop:=∃ ao c vs,x=.slice ao l.length c∧aW (fun _=>True) wB l vs∧
 (l≠[]→∃ b off,ao=some ⟨b,off,none⟩∧b<w.heap.size∧b≠qb∧v.ownBlock≠some b∧∀ i u,vs[i]?=some u→w.cell? ⟨b,off+i,none⟩=some u)
theorem Lh.mv{wB:World}{qb:Nat}{w w':World}{v v' x:Value}{l:List T}(h:Lh wB qb w v x l)(m:Mv qb w v w' v'):Lh wB qb w' v' x l:=by
 obtain⟨ao,c,vs,rfl,h1,h2⟩:=h;refine⟨ao,c,vs,rfl,h1,fun hne=>?_⟩;obtain⟨b,off,rfl,g1,g2,g3,g4⟩:=h2 hne;refine⟨b,off,rfl,Nat.lt_of_lt_of_le g1 m.size,g2,fun e=>?_,fun i u hu=>(World.cell?_of_block (a:=⟨b,off+i,none⟩) (m.blk b g1 g2 g3)).trans (g4 i u hu)⟩
 rcases m.own _ e with h|h
 ·exact g3 h
 ·omega
def eF(wB:World)(w:World)(rv:List (Nat×List Value))(x:Value)(l:List T):Prop:=∃ ao c vs,x=.slice ao l.length c∧aW (fun _=>True) wB l vs∧
 (l≠[]→∃ b off,ao=some ⟨b,off,none⟩∧(b<wB.heap.size∨∃ us,(b,us)∈rv)∧∀ i u,vs[i]?=some u→w.cell? ⟨b,off+i,none⟩=some u)
theorem eF.Pz{wB:World}{qb:Nat}{w:World}{v x:Value}{l:List Tk}{lt:List T}{rv}(h:eF wB w rv x lt)(P:Pt wB qb w v l)(h3:∀ p,p∈rv→w.heap[p.1]?=some (.cells p.2.toArray 24 (0,0))∧p.1≠qb∧v.ownBlock≠some p.1):Lh wB qb w v x lt:=by
 obtain⟨ao,c,vs,rfl,h1,h2⟩:=h;refine⟨ao,c,vs,rfl,h1,fun hne=>?_⟩;obtain⟨b,off,rfl,g1,g2⟩:=h2 hne
 rcases g1 with g1|⟨us,g1⟩
 ·have:=P.low.size;have:=P.hq;refine⟨b,off,rfl,by omega,by omega,fun e=>?_,g2⟩;have:=(P.own.lt _ e).1;omega
 ·obtain⟨k1,k2,k3⟩:=h3 _ g1;exact⟨b,off,rfl,(Array.getElem?_eq_some_iff.1 k1).1,k2,k3,g2⟩
theorem eF.tree{wB w:World}{rv}(low:Below wB.heap.size wB w){t:T}{k n a:Int}{s:ByteArray}{ao:Option Addr}{m c:Nat}(ht:Tr wB t (vT k n a s ao m c)):eF wB w rv (.slice ao m c) t.l:=by
 obtain⟨ao',c',e,hl⟩:=ht.form;unfold vT at e;simp only[List.cons.injEq,Value.int.injEq,Value.string.injEq,Value.slice.injEq,and_true,true_and]at e
 obtain⟨_,_,_,_,rfl,rfl,rfl⟩:=e
 by_cases hne:t.l=[]
 ·exact⟨ao,c,[],rfl,by rw[hne];unfold aW;rfl,fun h=>absurd hne h⟩
 ·obtain⟨b,off,vs,rfl,_,hlt,hT,hu⟩:=hl hne;exact⟨_,c,vs,rfl,hT,fun _=>⟨b,off,rfl,.inl hlt,fun i u hi=>(low.cell (p:=⟨b,off+i,none⟩) hlt).trans (hu i u hi)⟩⟩
theorem eF.one{wB w:World}{rv}{b:Nat}{t:T}{k n a:Int}{s:ByteArray}{ao:Option Addr}{m c:Nat}(ht:Tr wB t (vT k n a s ao m c))(hm:(b,vT k n a s ao m c)∈rv)(hb:w.heap[b]?=some (.cells (vT k n a s ao m c).toArray 24 (0,0))):eF wB w rv (.slice (some ⟨b,0,none⟩) 1 1) [t]:=by
 refine⟨_,1,vT k n a s ao m c,rfl,aW.one ht,fun _=>⟨b,0,rfl,.inr ⟨_,hm⟩,fun i u hi=>?_⟩⟩;rw[Nat.zero_add,cell_of_row w b i _ _ _ hb]
 simpa using hi
theorem SP.tvb{wB:World}{qb:Nat}{w0 w:World}{v0:Value}{l:List Tk}{rv}(S:SP wB qb w0 v0 w l rv){b:Nat}{us:List Value}(hm:(b,us)∈rv):w.heap[b]?=some (.cells us.toArray 24 (0,0)):=by
 obtain⟨v,h1,h2,h3⟩:=S.ex;exact(h3 _ hm).1
theorem pX: ∀ (xs:List (List Tk)) (y:List Tk),aO (xs++[y])=aO xs++((if xs=[]then []else [O mU])++y):=by
 intro xs
 induction xs with
 | nil=>intro y;rfl
 | cons x r ih=>
  intro y
  cases r with
  | nil=>rfl
  | cons z r=>
   show x++O mU::aO ((z::r)++[y])=(x++O mU::aO (z::r))++_
   rw[ih y]
   simp
theorem vD(ps:List (List Tk)):∀ k,k≤ps.length→(aO (ps.take k)).length≤(aO ps).length:=by
 induction ps with
 | nil=>intro k h;simp at h;subst h;exact Nat.le_refl _
 | cons x r ih=>
  intro k h
  cases k with
  | zero=>exact Nat.zero_le _
  | succ k=>
   cases r with
   | nil=>simp at h;subst h;exact Nat.le_refl _
   | cons z r=>
    cases k with
    | zero=>show x.length≤(x++O mU::aO (z::r)).length;simp
    | succ k=>
     show (x++O mU::aO ((z::r).take (k+1))).length≤(x++O mU::aO (z::r)).length
     have:=ih (k+1) (by simpa using h);simp only[List.length_append,List.length_cons]
     omega
theorem zW(l:List T)(k:Nat)(hk:k<l.length)(h0:k≠0):(l.take k).map (prO false)≠[]:=by
 intro e;have:=congrArg List.length e;rw[List.length_map,List.length_take,List.length_nil]at this;omega
theorem gE(l:List T)(k:Nat)(hk:k<l.length):(l.take (k+1)).map (prO false)=(l.take k).map (prO false)++[prO false (l[k]'hk)]:=by
 rw[List.take_succ_eq_append_getElem hk,List.map_append];rfl
theorem BA(wB:World)(qb:Nat)(lt:List T)(hN:lt.length≤1000000)(hT:∀ y,y∈lt→TP wB qb y)(w:World)(v:Value)(l:List Tk)(x:Value)(h:Pt wB qb w v l)(hx:Lh wB qb w v x lt)(hl:l.length+(aO (lt.map (prO false))).length≤dK):Calls Tryz.prog 113 #[pq qb,x] w (PrQ wB qb w v l (aO (lt.map (prO false)))):=by
 have hx0:=hx;obtain⟨ao,c,vs,rfl,_,_⟩:=hx0;have HX:=hdq hx;clear hx;go_enter Tryz.func113,Tryz.ntmps113;go_wp2_with fail
 go_loopg [8] lt.length (fun g t wr=>∃ (k:Nat) (v':Value),t=.int .i64 k∧k≤lt.length∧g=lt.length - k∧Pt wB qb wr v' (l++aO ((lt.take k).map (prO false)))∧Mv qb w v wr v')
 case atStart=>exact⟨0,v,rfl,Nat.zero_le _,rfl,by simpa[aO]using h,.refl _ _ _⟩
 case round=>
  obtain⟨k,v',rfl,hk,hg,hPk,hMk⟩:=hrel;have HG:=hdq hg;clear hg
  by_cases hlt:k<lt.length
  ·obtain⟨ao',c',vs',e,hTs,hrow⟩:=HX.out.mv hMk;obtain⟨b,off,rfl,hb1,hb2,hb3,hcell⟩:=hrow (by intro e;rw[e]at hlt;simp at hlt);simp only[Value.slice.injEq,true_and]at e
   obtain⟨rfl,rfl⟩:=e;obtain⟨k1,n1,a1,s1,o1,m1,c1,hTr,d0,d1,d2,d3,d4⟩:=Tr.elem hTs hcell k hlt;have hty:=hT _ (List.getElem_mem hlt);have hlen:(aO ((lt.map (prO false)).take (k+1))).length≤(aO (lt.map (prO false))).length:=vD _ _ (by rw[List.length_map];exact hlt);rw[← List.map_take,gE lt k hlt,pX]at hlen;have htk:=gE lt k hlt;have HTK:=hdq htk;clear htk;generalize lt[k]'hlt=y at hTr hty HTK hlen;have x1:(k:Int)<(lt.length:Int):=by omega
   have S0:=SP.begin hPk
   by_cases hk0:k=0
   ·subst hk0;rw[if_pos (by simp)]at hlen;simp only[List.length_append,List.length_nil,Nat.zero_add,List.nil_append]at hlen
    have x2:¬ (0:Int)<((0:Nat):Int):=by omega
    simp only[Nat.zero_mul,Nat.add_zero]at d0 d1 d2 d3 d4
    go_upto_region 3 with fail;have S1:=S0.cX (vT k1 n1 a1 s1 o1 m1 c1) (tg k1 n1 a1 s1 o1 m1 c1) rfl _ rfl;generalize World.alloc wr _=w2 at S1 ⊢;clear d0 d1 d2 d3 d4 hcell S0;have:=TV.facts (S1.facts 0 rfl);go_upto_block 5 with fail;refine m2q (S1.aN hty hTr (by rw[List.length_append];omega)) fun w3 S2=>?_;obtain⟨v3,hP3,hM3,_⟩:=S2.ex;clear S1 S2 hty;go_wp2_with fail
    go_roundg (lt.length - 1)
    case measure=>rw[HG.out];omega
    case rel=>exact⟨1,v3,by go_num,hlt,rfl,by rw[HTK.out,pX,if_pos (by simp)];simpa[aO]using hP3,hMk.trans hM3⟩
   ·rw[if_neg (zW lt k hlt hk0)]at hlen;simp only[List.length_append,List.length_cons,List.length_nil]at hlen
    have x2:(0:Int)<(k:Int):=by omega
    generalize hcx:aO ((lt.take k).map (prO false))=cx at S0 hlen;have HCX:=hdq hcx;clear hcx hPk;go_upto_region 3 with fail;have S1:=S0.cX (vT k1 n1 a1 s1 o1 m1 c1) (tg k1 n1 a1 s1 o1 m1 c1) rfl _ rfl;generalize World.alloc wr _=w2 at S1 ⊢;clear d0 d1 d2 d3 d4 hcell S0;go_upto_block 4 with fail;refine m2q (S1.opC [mU] (by simp only[List.length_append,List.length_cons,List.length_nil];omega) #[.string ⟨#[44]⟩] rfl 1 rfl) fun w3 S2=>?_;have:=TV.facts (S2.facts 0 rfl);go_upto_block 5 with fail;refine m2q (S2.aN hty hTr (by simp only[List.length_append,List.length_map,List.length_cons,List.length_nil];omega)) fun w4 S3=>?_;obtain⟨v3,hP3,hM3,_⟩:=S3.ex;clear S1 S2 S3 hty;go_wp2_with fail
    go_roundg (lt.length - (k+1))
    case measure=>rw[HG.out];omega
    case rel => exact ⟨k + 1, v3, by go_num, hlt, rfl, by
      rw [HTK.out, pX, if_neg (zW lt k hlt hk0), HCX.out]
      simpa only [List.append_assoc, List.map_cons, List.map_nil] using hP3, hMk.trans hM3⟩
  ·have hke:k=lt.length:=by omega
   have x1:¬ (k:Int)<(lt.length:Int):=by omega
   have hfin:PrQ wB qb w v l (aO (lt.map (prO false))) (.returned (.tuple #[])) wr:=⟨rfl,v',by rw[hke,List.take_length]at hPk;exact hPk,hMk⟩
   clear hPk hMk h
   go_wp2
   go_end0;exact hfin
theorem rP(ps:List (List Tk)):∀ k,(ps.take k).flatten.length≤ps.flatten.length:=by
 induction ps with
 | nil=>intro k;simp
 | cons x r ih=>
  intro k
  cases k with
  | zero=>exact Nat.zero_le _
  | succ k=>
   show (x++(r.take k).flatten).length≤(x++r.flatten).length
   have:=ih k;simp only[List.length_append];omega
theorem xP(wB:World)(qb:Nat)(lt:List T)(hN:lt.length≤1000000)(hT:∀ y,y∈lt→TP wB qb y)(w:World)(v:Value)(l:List Tk)(x:Value)(h:Pt wB qb w v l)(hx:Lh wB qb w v x lt)(hl:l.length+(cD (lt.map (prO false))).length≤dK):Calls Tryz.prog 112 #[pq qb,x] w (PrQ wB qb w v l (cD (lt.map (prO false)))):=by
 have hlen:(cD (lt.map (prO false))).length=(aO (lt.map (prO false))).length+2:=by simp[cD]
 rw[hlen]at hl;go_enter Tryz.func112,Tryz.ntmps112;go_upto_block 0 with fail;refine(Br wB qb w v l [sLP] h (by simp only[List.length_cons,List.length_nil];omega) #[.string ⟨#[40]⟩] rfl 1 rfl).mono ?_;rintro e w1 ⟨rfl,v1,h1,m1⟩;go_upto_block 1 with fail;refine(BA wB qb lt hN hT w1 v1 _ x h1 (hx.mv m1) (by simp only[List.length_append,List.length_map,List.length_cons,List.length_nil];omega)).mono ?_;rintro e w2 ⟨rfl,v2,h2,m2⟩;go_upto_block 2 with fail;refine(Br wB qb w2 v2 _ [sRP] h2 (by simp only[List.length_append,List.length_map,List.length_cons,List.length_nil];omega) #[.string ⟨#[41]⟩] rfl 1 rfl).mono ?_;rintro e w3 ⟨rfl,v3,h3,m3⟩;have P:PrQ wB qb w v l (cD (lt.map (prO false))) (.returned (.tuple #[])) w3:=⟨rfl,v3,by simpa[cD]using h3,m1.trans (m2.trans m3)⟩
 clear h1 h2 h3 m1 m2 m3 hx h hT
 go_wp2
 go_end0;exact P
theorem SP.aU{wB:World}{qb:Nat}{w0 w:World}{v0:Value}{l:List Tk}{rv}(S:SP wB qb w0 v0 w l rv){lt:List T}{x:Value}(hx:eF wB w rv x lt)(hN:lt.length≤1000000)(hT:∀ y,y∈lt→TP wB qb y)(hl:l.length+(cD (lt.map (prO false))).length≤dK):Calls Tryz.prog 112 #[pq qb,x] w fun e w'=>e=.returned (.tuple #[])∧SP wB qb w0 v0 w' (l++cD (lt.map (prO false))) rv:=by
 obtain⟨v,h1,h2,h3⟩:=S.ex;refine(xP wB qb lt hN hT w v l x h1 (hx.Pz h1 h3) hl).mono ?_;rintro e w' ⟨rfl,v',g1,g2⟩;exact⟨rfl,SP.step v h2 h3 g1 g2⟩
theorem SP.tK{wB:World}{qb:Nat}{w0 w:World}{v0:Value}{l:List Tk}{rv}(S:SP wB qb w0 v0 w l rv){lt:List T}{x:Value}(hx:eF wB w rv x lt)(hN:lt.length≤1000000)(hT:∀ y,y∈lt→TP wB qb y)(hl:l.length+(aO (lt.map (prO false))).length≤dK):Calls Tryz.prog 113 #[pq qb,x] w fun e w'=>e=.returned (.tuple #[])∧SP wB qb w0 v0 w' (l++aO (lt.map (prO false))) rv:=by
 obtain⟨v,h1,h2,h3⟩:=S.ex;refine(BA wB qb lt hN hT w v l x h1 (hx.Pz h1 h3) hl).mono ?_;rintro e w' ⟨rfl,v',g1,g2⟩;exact⟨rfl,SP.step v h2 h3 g1 g2⟩
theorem DI(wB:World)(qb:Nat)(lt:List T)(hN:lt.length≤1000000)(hT:∀ y,y∈lt→TP wB qb y)(w:World)(v:Value)(l:List Tk)(x:Value)(h:Pt wB qb w v l)(hx:Lh wB qb w v x lt)(hl:l.length+((lt.map (prO false)).flatten).length≤dK):Calls Tryz.prog 120 #[pq qb,x] w (PrQ wB qb w v l ((lt.map (prO false)).flatten)):=by
 have hx0:=hx;obtain⟨ao,c,vs,rfl,_,_⟩:=hx0;have HX:=hdq hx;clear hx;go_enter Tryz.func120,Tryz.ntmps120;go_wp2_with fail
 go_loopg [8] lt.length (fun g t wr=>∃ (k:Nat) (v':Value),t=.int .i64 k∧k≤lt.length∧g=lt.length - k∧Pt wB qb wr v' (l++((lt.take k).map (prO false)).flatten)∧Mv qb w v wr v')
 case atStart=>exact⟨0,v,rfl,Nat.zero_le _,rfl,by simpa using h,.refl _ _ _⟩
 case round=>
  obtain⟨k,v',rfl,hk,hg,hPk,hMk⟩:=hrel;have HG:=hdq hg;clear hg
  by_cases hlt:k<lt.length
  ·obtain⟨ao',c',vs',e,hTs,hrow⟩:=HX.out.mv hMk;obtain⟨b,off,rfl,hb1,hb2,hb3,hcell⟩:=hrow (by intro e;rw[e]at hlt;simp at hlt);simp only[Value.slice.injEq,true_and]at e
   obtain⟨rfl,rfl⟩:=e;obtain⟨k1,n1,a1,s1,o1,m1,c1,hTr,d0,d1,d2,d3,d4⟩:=Tr.elem hTs hcell k hlt;have hty:=hT _ (List.getElem_mem hlt);have hlen:(((lt.map (prO false)).take (k+1)).flatten).length≤((lt.map (prO false)).flatten).length:=rP _ _;rw[← List.map_take,gE lt k hlt,List.flatten_append]at hlen;simp only[List.flatten_cons,List.flatten_nil,List.append_nil,List.length_append]at hlen
   have htk:=gE lt k hlt;have HTK:=hdq htk;clear htk;generalize lt[k]'hlt=y at hTr hty HTK hlen;have x1:(k:Int)<(lt.length:Int):=by omega
   have S0:=SP.begin hPk;generalize hcx:((lt.take k).map (prO false)).flatten=cx at S0 hlen;have HCX:=hdq hcx;clear hcx hPk;go_upto_region 3 with fail;have S1:=S0.cX (vT k1 n1 a1 s1 o1 m1 c1) (tg k1 n1 a1 s1 o1 m1 c1) rfl _ rfl;generalize World.alloc wr _=w2 at S1 ⊢;clear d0 d1 d2 d3 d4 hcell S0;have:=TV.facts (S1.facts 0 rfl);go_upto_block 3 with fail;refine m2q (S1.aN hty hTr (by simp only[List.length_append,List.length_map,List.length_cons,List.length_nil];omega)) fun w3 S2=>?_;obtain⟨v3,hP3,hM3,_⟩:=S2.ex;clear S1 S2 hty;go_wp2_with fail
   go_roundg (lt.length - (k+1))
   case measure=>rw[HG.out];omega
   case rel => exact ⟨k + 1, v3, by go_num, hlt, rfl, by
     rw [HTK.out, List.flatten_append, HCX.out]
     simpa only [List.append_assoc, List.flatten_cons, List.flatten_nil, List.append_nil] using hP3, hMk.trans hM3⟩
  ·have hke:k=lt.length:=by omega
   have x1:¬ (k:Int)<(lt.length:Int):=by omega
   rw[hke,List.take_length]at hPk;have hfin:PrQ wB qb w v l ((lt.map (prO false)).flatten) (.returned (.tuple #[])) wr:=⟨rfl,v',hPk,hMk⟩
   clear hPk hMk h
   go_wp2
   go_end0;exact hfin
theorem SP.dV{wB:World}{qb:Nat}{w0 w:World}{v0:Value}{l:List Tk}{rv}(S:SP wB qb w0 v0 w l rv){lt:List T}{x:Value}(hx:eF wB w rv x lt)(hN:lt.length≤1000000)(hT:∀ y,y∈lt→TP wB qb y)(hl:l.length+((lt.map (prO false)).flatten).length≤dK):Calls Tryz.prog 120 #[pq qb,x] w fun e w'=>e=.returned (.tuple #[])∧SP wB qb w0 v0 w' (l++(lt.map (prO false)).flatten) rv:=by
 obtain⟨v,h1,h2,h3⟩:=S.ex;refine(DI wB qb lt hN hT w v l x h1 (hx.Pz h1 h3) hl).mono ?_;rintro e w' ⟨rfl,v',g1,g2⟩;exact⟨rfl,SP.step v h2 h3 g1 g2⟩
theorem FE(wB:World)(qb:Nat)(lt:List T)(hN:lt.length≤1000000)(hT:∀ y,y∈lt→TP wB qb y)(w:World)(v:Value)(l:List Tk)(x:Value)(h:Pt wB qb w v l)(hx:Lh wB qb w v x lt)(hl:l.length+(Px.group (lt.map (prO false))).length≤dK):Calls Tryz.prog 142 #[pq qb,x] w (PrQ wB qb w v l (Px.group (lt.map (prO false)))):=by
 have hlen0:(Px.group (lt.map (prO false))).length=((lt.map (prO false)).flatten).length+3:=by unfold Px.group;simp only[List.length_cons,List.length_append,List.length_nil]
 rw[hlen0]at hl;have hx0:=hx;obtain⟨ao,c,vs,rfl,_,_⟩:=hx0;go_enter Tryz.func142,Tryz.ntmps142;go_upto_block 0 with fail;refine(Br wB qb w v l [aS] h (by simp only[List.length_cons,List.length_nil];omega) #[.string ⟨#[59]⟩] rfl 1 rfl).mono ?_;rintro e w1 ⟨rfl,v1,h1,m1⟩;have HX:=hdq hx;clear hx;go_wp2_with fail
 go_loopg [11] lt.length (fun g t wr=>∃ (k:Nat) (v':Value),t=.int .i64 k∧k≤lt.length∧g=lt.length - k∧Pt wB qb wr v' ((l++[aS].map O)++((lt.take k).map (prO false)).flatten)∧Mv qb w v wr v')
 case atStart=>exact⟨0,v1,rfl,Nat.zero_le _,rfl,by simpa using h1,m1⟩
 case round=>
  obtain⟨k,v',rfl,hk,hg,hPk,hMk⟩:=hrel;have HG:=hdq hg;clear hg
  by_cases hlt:k<lt.length
  ·obtain⟨ao',c',vs',e,hTs,hrow⟩:=HX.out.mv hMk;obtain⟨b,off,rfl,hb1,hb2,hb3,hcell⟩:=hrow (by intro e;rw[e]at hlt;simp at hlt);simp only[Value.slice.injEq,true_and]at e
   obtain⟨rfl,rfl⟩:=e;obtain⟨k1,n1,a1,s1,o1,m1,c1,hTr,d0,d1,d2,d3,d4⟩:=Tr.elem hTs hcell k hlt;have hty:=hT _ (List.getElem_mem hlt);have hlen:(((lt.map (prO false)).take (k+1)).flatten).length≤((lt.map (prO false)).flatten).length:=rP _ _;rw[← List.map_take,gE lt k hlt,List.flatten_append]at hlen;simp only[List.flatten_cons,List.flatten_nil,List.append_nil,List.length_append]at hlen
   have htk:=gE lt k hlt;have HTK:=hdq htk;clear htk;generalize lt[k]'hlt=y at hTr hty HTK hlen;have x1:(k:Int)<(lt.length:Int):=by omega
   have S0:=SP.begin hPk;generalize hcx:((lt.take k).map (prO false)).flatten=cx at S0 hlen;have HCX:=hdq hcx;clear hcx hPk;go_upto_region 4 with fail;have S1:=S0.cX (vT k1 n1 a1 s1 o1 m1 c1) (tg k1 n1 a1 s1 o1 m1 c1) rfl _ rfl;generalize World.alloc wr _=w2 at S1 ⊢;clear d0 d1 d2 d3 d4 hcell S0;have:=TV.facts (S1.facts 0 rfl);go_upto_block 4 with fail;refine m2q (S1.aN hty hTr (by simp only[List.length_append,List.length_map,List.length_cons,List.length_nil];omega)) fun w3 S2=>?_;obtain⟨v3,hP3,hM3,_⟩:=S2.ex;clear S1 S2 hty;go_wp2_with fail
   go_roundg (lt.length - (k+1))
   case measure=>rw[HG.out];omega
   case rel => exact ⟨k + 1, v3, by go_num, hlt, rfl, by
     rw [HTK.out, List.flatten_append, HCX.out]
     simpa only [List.append_assoc, List.flatten_cons, List.flatten_nil, List.append_nil] using hP3, hMk.trans hM3⟩
  ·have hke:k=lt.length:=by omega
   have x1:¬ (k:Int)<(lt.length:Int):=by omega
   rw[hke,List.take_length]at hPk;clear h1 m1 h HX;go_upto_block 6 with fail;refine(Ca wB qb wr v' _ [GP] hPk (by simp only[List.length_append,List.length_map,List.length_cons,List.length_nil];omega) #[.string ⟨#[69,78,68]⟩] rfl 1 rfl).mono ?_;rintro e w2 ⟨rfl,v2,h2,m2⟩;go_upto_block 7 with fail;refine(Br wB qb w2 v2 _ [aS] h2 (by simp only[List.length_append,List.length_map,List.length_cons,List.length_nil];omega) #[.string ⟨#[59]⟩] rfl 1 rfl).mono ?_;rintro e w3 ⟨rfl,v3,h3,m3⟩;have hfin:PrQ wB qb w v l (Px.group (lt.map (prO false))) (.returned (.tuple #[])) w3:=⟨rfl,v3,by simpa[Px.group]using h3,hMk.trans (m2.trans m3)⟩
   clear h2 h3 m2 m3 hPk hMk
   go_wp2
   go_end0;exact hfin
theorem SP.iF{wB:World}{qb:Nat}{w0 w:World}{v0:Value}{l:List Tk}{rv}(S:SP wB qb w0 v0 w l rv){lt:List T}{x:Value}(hx:eF wB w rv x lt)(hN:lt.length≤1000000)(hT:∀ y,y∈lt→TP wB qb y)(hl:l.length+(Px.group (lt.map (prO false))).length≤dK):Calls Tryz.prog 142 #[pq qb,x] w fun e w'=>e=.returned (.tuple #[])∧SP wB qb w0 v0 w' (l++Px.group (lt.map (prO false))) rv:=by
 obtain⟨v,h1,h2,h3⟩:=S.ex;refine(FE wB qb lt hN hT w v l x h1 (hx.Pz h1 h3) hl).mono ?_;rintro e w' ⟨rfl,v',g1,g2⟩;exact⟨rfl,SP.step v h2 h3 g1 g2⟩
theorem Tr.split{wB:World}{t:T}{k n a:Int}{s:ByteArray}{ao:Option Addr}{m c:Nat}(h:Tr wB t (vT k n a s ao m c)):k=t.kind∧n=t.n∧a=t.at_∧s=t.word∧m=t.l.length:=by
 obtain⟨ao',c',e,hl⟩:=h.form;unfold vT at e;simp only[List.cons.injEq,Value.int.injEq,Value.string.injEq,Value.slice.injEq,and_true,true_and]at e
 exact⟨e.1,e.2.1,e.2.2.1,e.2.2.2.1,e.2.2.2.2.2.1⟩
theorem SP.RF{wB:World}{qb:Nat}{w0 w:World}{v0:Value}{l:List Tk}{rv}(S:SP wB qb w0 v0 w l rv):PrQ wB qb w0 v0 l [] (.returned (.tuple #[])) w:=
 SP.Da (ts:=[]) (by rw[List.append_nil];exact S)
theorem DP(wB:World)(qb:Nat)(w:World)(v:Value)(l:List Tk)(word:ByteArray)(t:T)(k n a:Int)(s:ByteArray)(ao:Option Addr)(m c:Nat)(h:Pt wB qb w v l)(ht:Tr wB t (vT k n a s ao m c))(hT:t.kind≠10→TP wB qb t)(hl:l.length+(opt word t (prO false t)).length≤dK):Calls Tryz.prog 158 #[pq qb,word,tg k n a s ao m c] w (PrQ wB qb w v l (opt word t (prO false t))):=by
 obtain⟨hk,-⟩:=ht.split;have HOP:=hdq (show opt word t (prO false t)=if k=10 then []else [word].map W++cD [prO false t]by rw[hk];rfl);rw[← hk]at hT;clear hk;have S0:=SP.begin h;go_enter Tryz.func158,Tryz.ntmps158;go_upto_region 1 with fail;have S1:=S0.cX (vT k n a s ao m c) (tg k n a s ao m c) rfl _ rfl;generalize World.alloc w _=w1 at S1 ⊢;clear S0;have:=TV.facts (S1.facts 0 rfl)
 by_cases h10:k=10
 ·have P:PrQ wB qb w v l (opt word t (prO false t)) (.returned (.tuple #[])) w1:=by rw[HOP.out,if_pos h10];exact S1.RF
  clear hl S1;subst h10
  go_wp2
  go_end0;exact P
 ·have hop:opt word t (prO false t)=[word].map W++cD [prO false t]:=by rw[HOP.out,if_neg h10]
  rw[hop]at hl;simp only[List.length_append,List.length_map,List.length_cons,List.length_nil]at hl
  have hTP:=hT h10;clear hop;go_upto_block 2 with fail;refine m2q (S1.aL [word] (by simp only[List.length_cons,List.length_nil];omega) #[.string word] rfl 1 rfl) fun w2 S2=>?_;have:=TV.facts (S2.facts 0 rfl);have S3:=S2.cX (vT k n a s ao m c) (tg k n a s ao m c) rfl _ rfl;go_upto_block 3 with fail;refine m2q (S3.aU (lt:=[t]) (eF.one ht (.head _) (S3.tvb (.head _))) (show (1:Nat)≤1000000 by decide) (fun y hy=>by rw[List.mem_singleton.1 hy];exact hTP) (by simp only[List.length_append,List.length_map,List.length_cons,List.length_nil,List.map_cons,List.map_nil];omega)) fun w4 S4=>?_;have P:PrQ wB qb w v l (opt word t (prO false t)) (.returned (.tuple #[])) w4:=SP.Da (by rw[HOP.out,if_neg h10,← List.append_assoc];exact S4);clear S1 S2 S3 S4
  go_wp2
  go_end0;exact P
theorem Bf(wB:World)(qb:Nat)(w:World)(v:Value)(l:List Tk)(t:T)(k n a:Int)(s:ByteArray)(ao:Option Addr)(m c:Nat)(least:Int)(h:Pt wB qb w v l)(ht:Tr wB t (vT k n a s ao m c))(hT:TP wB qb t)(hl:l.length+(operand t (prO false t) least).length≤dK):Calls Tryz.prog 115 #[pq qb,tg k n a s ao m c,least] w (PrQ wB qb w v l (operand t (prO false t) least)):=by
 obtain⟨hk,-,-,hs,-⟩:=ht.split;have S0:=SP.begin h;have HO:=hdq (show operand t (prO false t) least=if k=6∧Px.level s<least then cD [prO false t]else prO false t by rw[hk,hs];rfl);clear hk hs;go_enter Tryz.func115,Tryz.ntmps115;go_upto_region 1 with fail;have S1:=S0.cX (vT k n a s ao m c) (tg k n a s ao m c) rfl _ rfl;generalize World.alloc w _=w1 at S1 ⊢;generalize w.heap.size=B1 at S1 ⊢;clear S0;generalize hc:decide (k=6∧Px.level s<least)=cc;have HC:=hdq hc;clear hc;go_cut [15] (fun v15 wx=>v15=.bool cc∧SP wB qb w v wx l [(B1,vT k n a s ao m c)])
 case first=>
  have:=TV.facts (S1.facts 0 rfl)
  by_cases h6:k=6
  ·subst h6
   by_cases hlv:Px.level s<least
   ·have hcc:cc=true:=by rw[← HC.out];exact decide_eq_true ⟨rfl,hlv⟩
    subst hcc;have hC:=S1.Hp s;go_wp2_with (go_at_call 117;refine hC.mono ?_;rintro e w2 ⟨rfl,S2⟩);go_meet
    case rel=>exact⟨rfl,S2⟩
   ·have hcc:cc=false:=by rw[← HC.out];exact decide_eq_false fun h=>hlv h.2
    have HD:=hdq (decide_eq_false hlv);subst hcc;have hC:=S1.Hp s;go_wp2_with (go_at_call 117;refine hC.mono ?_;rintro e w2 ⟨rfl,S2⟩);go_meet
    case rel=>exact⟨by first|rfl|rw[HD.out],S2⟩
  ·have hcc:cc=false:=by rw[← HC.out];exact decide_eq_false fun h=>h6 h.1
   subst hcc
   go_wp2
   go_meet
   case rel=>exact⟨rfl,S1⟩
 case rest=>
  obtain⟨rfl,S2⟩:=hcut;clear S1
  cases cc with
  | true=>
   have hop:operand t (prO false t) least=cD [prO false t]:=by rw[HO.out,if_pos (of_decide_eq_true HC.out)]
   rw[hop]at hl;have:=TV.facts (S2.facts 0 rfl);have S3:=S2.cX (vT k n a s ao m c) (tg k n a s ao m c) rfl _ rfl;go_upto_block 2 with fail;refine m2q (S3.aU (lt:=[t]) (eF.one ht (.head _) (S3.tvb (.head _))) (show (1:Nat)≤1000000 by decide) (fun y hy=>by rw[List.mem_singleton.1 hy];exact hT) hl) fun w4 S4=>?_;have P:PrQ wB qb w v l (operand t (prO false t) least) (.returned (.tuple #[])) w4:=SP.Da (by rw[hop];exact S4);clear S2 S3 S4 hop
   go_wp2
   go_end0;exact P
  | false=>
   have hop:operand t (prO false t) least=prO false t:=by rw[HO.out,if_neg (of_decide_eq_false HC.out)]
   rw[hop]at hl;have:=TV.facts (S2.facts 0 rfl);go_upto_block 3 with fail;refine m2q (S2.aN hT ht hl) fun w4 S4=>?_;have P:PrQ wB qb w v l (operand t (prO false t) least) (.returned (.tuple #[])) w4:=SP.Da (by rw[hop];exact S4);clear S2 S4 hop
   go_wp2
   go_end0;exact P
theorem SP.gY{wB:World}{qb:Nat}{w0 w:World}{v0:Value}{l:List Tk}{rv}(S:SP wB qb w0 v0 w l rv)(word:ByteArray){t:T}{k n a:Int}{s:ByteArray}{ao:Option Addr}{m c:Nat}(ht:Tr wB t (vT k n a s ao m c))(hT:t.kind≠10→TP wB qb t)(hl:l.length+(opt word t (prO false t)).length≤dK):Calls Tryz.prog 158 #[pq qb,word,tg k n a s ao m c] w fun e w'=>e=.returned (.tuple #[])∧SP wB qb w0 v0 w' (l++opt word t (prO false t)) rv:=
 S.call fun v h=>DP wB qb w v l word t k n a s ao m c h ht hT hl
theorem SP.AL{wB:World}{qb:Nat}{w0 w:World}{v0:Value}{l:List Tk}{rv}(S:SP wB qb w0 v0 w l rv){t:T}{k n a:Int}{s:ByteArray}{ao:Option Addr}{m c:Nat}(least:Int)(ht:Tr wB t (vT k n a s ao m c))(hT:TP wB qb t)(hl:l.length+(operand t (prO false t) least).length≤dK):Calls Tryz.prog 115 #[pq qb,tg k n a s ao m c,least] w fun e w'=>e=.returned (.tuple #[])∧SP wB qb w0 v0 w' (l++operand t (prO false t) least) rv:=
 S.call fun v h=>Bf wB qb w v l t k n a s ao m c least h ht hT hl
theorem FQ(wB w:World)(low:Below wB.heap.size wB w)(t:T)(k n a:Int)(s:ByteArray)(ao:Option Addr)(m c:Nat)(ht:Tr wB t (vT k n a s ao m c)):Calls Tryz.prog 118 #[tg k n a s ao m c] w fun e w'=>e=.returned (.bool (isConst t))∧Below w.heap.size w w':=by
 obtain⟨hk,-⟩:=ht.split;have HC:=hdq (show isConst t=(decide (t.kind=1)||(decide (t.kind=5)&&decide ((Px.part t.l 0).kind=1)))from rfl);rw[← hk]at HC;clear hk;go_enter Tryz.func118,Tryz.ntmps118;go_upto_region 1 with fail;have t0:=TV.new w k n a s (.slice ao m c);have b0:=aC w (.cells (tg k n a s ao m c) 24);generalize World.alloc w _=w1 at t0 b0 ⊢;have:=TV.facts t0
 by_cases h1:k=1
 ·subst h1;go_wp2_with fail;go_ret;exact⟨by rw[HC.out];rfl,b0⟩
 ·by_cases h5:k=5
  ·subst h5;have hP:=Bi wB w1 (low.trans (b0.mono low.size)) t 5 n a s ao m c ht 0;go_upto_block 1 with fail;refine hP.mono ?_;rintro e w2 ⟨⟨k',n',a',s',ao',m',c',rfl,hT'⟩,hb⟩;obtain⟨hk',-⟩:=hT'.split;have hf:∀ W,(Instr.field 24 (.agg (tg k' n' a' s' ao' m' c')) 0).run Tryz.prog W=.ok (.int .i64 k') W:=fun _=>by kernel_rfl
   rw[← hk']at HC;clear hk' hT' hP
   by_cases h1':k'=1
   ·subst h1';go_wp2_with fail;go_ret;exact⟨by rw[HC.out];rfl,b0.trans (hb.mono b0.size)⟩
   ·have hd:decide (k'=1)=false:=decide_eq_false h1';go_wp2_with fail;go_ret;exact⟨by rw[HC.out];simp[h1'],b0.trans (hb.mono b0.size)⟩
  ·have hd1:decide (k=1)=false:=decide_eq_false h1;have hd5:decide (k=5)=false:=decide_eq_false h5;go_wp2_with fail;go_ret;exact⟨by rw[HC.out];simp[h1,h5],b0⟩
theorem aW.drop{av:Nat→Prop}{w:World}:∀ {l:List T} {vs:List Value},aW av w l vs→∀ i,aW av w (l.drop i) (vs.drop (i*5)):=by
 intro l
 induction l with
 | nil=>intro vs h i;unfold aW at h;subst h;simp;unfold aW;rfl
 | cons t r ih=>
  intro vs h i
  cases i with
  | zero=>simpa using h
  | succ i=>
   unfold aW at h;obtain⟨u1,u2,rfl,h1,h2⟩:=h;have h5:=h1.len;have e:(u1++u2).drop ((i+1)*5)=u2.drop (i*5):=by
    rw[show (i+1)*5=u1.length+i*5 by omega,List.drop_append,List.drop_of_length_le (by omega),List.nil_append]
    congr 1;omega
   rw[e];exact ih h2 i
theorem aW.take{av:Nat→Prop}{w:World}:∀ {l:List T} {vs:List Value},aW av w l vs→∀ i,aW av w (l.take i) (vs.take (i*5)):=by
 intro l
 induction l with
 | nil=>intro vs h i;unfold aW at h;subst h;simp;unfold aW;rfl
 | cons t r ih=>
  intro vs h i
  cases i with
  | zero=>simp;unfold aW;rfl
  | succ i=>
   unfold aW at h;obtain⟨u1,u2,rfl,h1,h2⟩:=h;have h5:=h1.len;have e:(u1++u2).take ((i+1)*5)=u1++u2.take (i*5):=by
    rw[show (i+1)*5=u1.length+i*5 by omega,List.take_append,List.take_of_length_le (by omega)]
    congr 2;omega
   rw[e]
   show aW av w (t::r.take i) _
   unfold aW;exact⟨u1,u2.take (i*5),rfl,h1,ih h2 i⟩
theorem eF.empty(wB w:World)(rv:List (Nat×List Value))(ao:Option Addr)(c:Nat):eF wB w rv (.slice ao 0 c) []:=⟨ao,c,[],rfl,by unfold aW;rfl,fun h=>absurd rfl h⟩
theorem eF.drop{wB w:World}{rv}{ao:Option Addr}{m c:Nat}{l:List T}(h:eF wB w rv (.slice ao m c) l)(i lo:Nat)(hlo:lo=min i m):eF wB w rv (.slice (ao.map fun x=>x.add (lo*5)) (m - lo) (c - lo)) (l.drop i):=by
 obtain⟨ao',c',vs,e,hT,hr⟩:=h;simp only[Value.slice.injEq]at e
 obtain⟨rfl,rfl,rfl⟩:=e
 by_cases hd:i<l.length
 ·obtain rfl:lo=i:=by omega
  obtain⟨b,off,rfl,g1,g2⟩:=hr (by intro e;rw[e]at hd;simp at hd);refine⟨some ⟨b,off+lo*5,none⟩,c - lo,vs.drop (lo*5),by simp[addr_add],hT.drop lo,fun _=>⟨b,off+lo*5,rfl,g1,fun j u hu=>?_⟩⟩;rw[List.getElem?_drop]at hu;rw[Nat.add_assoc];exact g2 _ _ hu
 ·rw[List.drop_of_length_le (by omega),show l.length - lo=0 by omega];exact eF.empty _ _ _ _ _
theorem eF.take{wB w:World}{rv}{ao:Option Addr}{m c:Nat}{l:List T}(h:eF wB w rv (.slice ao m c) l)(i:Nat)(hi:i≤m)(c':Nat):eF wB w rv (.slice ao i c') (l.take i):=by
 obtain⟨ao',c2,vs,e,hT,hr⟩:=h;simp only[Value.slice.injEq]at e
 obtain⟨rfl,rfl,rfl⟩:=e;refine⟨ao,c',vs.take (i*5),by rw[List.length_take,Nat.min_eq_left hi],hT.take i,fun hne=>?_⟩;obtain⟨b,off,rfl,g1,g2⟩:=hr (by intro e;rw[e]at hne;simp at hne);refine⟨b,off,rfl,g1,fun j u hu=>g2 j u ?_⟩;rw[List.getElem?_take]at hu
 split at hu
 ·exact hu
 ·cases hu
theorem CG(i m:Nat):(min (i:Int) (m:Int)).toNat=min i m:=by omega
theorem Ih(wB w:World)(low:Below wB.heap.size wB w)(t:T)(k n a:Int)(s:ByteArray)(ao:Option Addr)(m c:Nat)(ht:Tr wB t (vT k n a s ao m c))(i:Nat)(rv:List (Nat×List Value)):Calls Tryz.prog 121 #[tg k n a s ao m c,i] w fun e w'=>(∃ x,e=.returned x∧eF wB w' rv x (t.l.drop i))∧Below w.heap.size w w':=by
 have hcap:=ht.cap;have HCAP:=hdq hcap;have hX:=fun (w':World) (low:Below wB.heap.size wB w')=>eF.tree (rv:=rv) low ht
 have HX:=hdq hX;clear hX hcap;go_enter Tryz.func121,Tryz.ntmps121;go_upto_region 1 with fail;have t0:=TV.new w k n a s (.slice ao m c);have b0:=aC w (.cells (tg k n a s ao m c) 24);generalize World.alloc w _=w1 at t0 b0 ⊢;have:=TV.facts t0;have hx:=HX.out w1 (low.trans (b0.mono low.size));have x1:min (i:Int) (m:Int)≤(m:Int):=Int.min_le_right _ _;have x2:(0:Int)≤min (i:Int) (m:Int):=by omega
 have HXX:=hdq hx;clear hx;go_wp2_with fail
 ·go_ret;refine⟨⟨_,rfl,?_⟩,b0⟩;have h2:=HCAP.out;have hl:t.l.length=m:=ht.split.2.2.2.2.symm;have hc:c=(min (i:Int) (m:Int)).toNat:=by assumption
  rw[CG]at hc
  show eF wB w1 rv (.slice ao (m - (min (i:Int) (m:Int)).toNat) 0) (t.l.drop i)
  rw[CG,List.drop_of_length_le (by omega),show m - min i m=0 by omega];exact eF.empty _ _ _ _ _
 ·go_ret;refine⟨⟨_,rfl,?_⟩,b0⟩;exact HXX.out.drop i _ (CG i m)
theorem SP.iD{wB:World}{qb:Nat}{w0 w:World}{v0:Value}{l:List Tk}{rv}(S:SP wB qb w0 v0 w l rv){t:T}{k n a:Int}{s:ByteArray}{ao:Option Addr}{m c:Nat}(ht:Tr wB t (vT k n a s ao m c))(i:Nat):Calls Tryz.prog 121 #[tg k n a s ao m c,i] w fun e w'=>(∃ x,e=.returned x∧eF wB w' rv x (t.l.drop i))∧SP wB qb w0 v0 w' l rv:=by
 refine(Ih wB w S.low t k n a s ao m c ht i rv).mono ?_;rintro e w' ⟨h1,h2⟩;exact⟨h1,S.below h2⟩
theorem SP.MA{wB:World}{qb:Nat}{w0 w:World}{v0:Value}{l:List Tk}{rv}(S:SP wB qb w0 v0 w l rv){t:T}{k n a:Int}{s:ByteArray}{ao:Option Addr}{m c:Nat}(ht:Tr wB t (vT k n a s ao m c)):Calls Tryz.prog 118 #[tg k n a s ao m c] w fun e w'=>e=.returned (.bool (isConst t))∧SP wB qb w0 v0 w' l rv:=
 S.aQ (E:=fun e=>e=_) (FQ wB w S.low t k n a s ao m c ht)
theorem SP.old{wB:World}{qb:Nat}{w0 w:World}{v0:Value}{l:List Tk}{rv}(S:SP wB qb w0 v0 w l rv){b:Nat}(hb:b<w0.heap.size)(h1:b≠qb)(h2:v0.ownBlock≠some b):w.heap[b]?=w0.heap[b]?:=by
 obtain⟨v,_,m,_⟩:=S.ex;exact m.blk b hb h1 h2
theorem PrQ.pre{wB:World}{qb:Nat}{w w1 w':World}{v:Value}{l ts:List Tk}{e:Ending}(h:PrQ wB qb w1 v l ts e w')(b:Below w.heap.size w w1):PrQ wB qb w v l ts e w':=by
 obtain⟨rfl,v',h1,h2⟩:=h;exact⟨rfl,v',h1,((Mv.refl qb w v).below b).trans h2⟩
structure PD (wB:World) (qb:Nat) (t:T):Prop where
 p:∀ i,TP wB qb (Px.part t.l i)
 l:∀ y,y∈t.l→TP wB qb y
 ll:∀ i y,y∈(Px.part t.l i).l→TP wB qb y
 n:t.l.length≤1000000
 nn:∀ i,(Px.part t.l i).l.length≤1000000
 r : -9223372036854775808≤t.n∧t.n≤9223372036854775807
theorem vB(L:List T)(i:Nat):ct (L.map (prO false)) i=prO false (Px.part L i):=by
 unfold ct Px.part;rw[List.getD_eq_getElem?_getD,List.getD_eq_getElem?_getD,List.getElem?_map]
 cases L[i]? with
 | none=>show [O aS]=prO false none_;decide +kernel
 | some x=>rfl
theorem wY(L:List T)(i:Nat):cb (L.map (prB false)) i=cD ((Px.part L i).l.map (prO false)):=by
 unfold cb Px.part;rw[List.getD_eq_getElem?_getD,List.getD_eq_getElem?_getD,List.getElem?_map]
 cases L[i]? with
 | none=>show [O sLP,O sRP]=cD [];rfl
 | some x=>exact Ml false x
theorem DC(L:List T)(i:Nat):(L.map (prS false)).getD i []=((Px.part L i).l.map (prO false)).flatten:=by
 unfold Px.part;rw[List.getD_eq_getElem?_getD,List.getD_eq_getElem?_getD,List.getElem?_map]
 cases L[i]? with
 | none=>rfl
 | some x=>exact MI false x
theorem kwF(a:Int)(l s:ByteArray):kw false a l s=l:=by unfold kw;rw[if_neg (by simp)]
end
end Go.Proofs.YtfdlmcgcckkkdaaGreatDoor
