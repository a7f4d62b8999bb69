/- ParseWhole, part 28: what it stands on. -/
import Derived.Test.YtfdlmcgcckkkdaaGreatDoorV23
import Derived.Test.YtfdlmcgcckkkdaaGreatDoorV22
set_option linter.all false
set_option maxHeartbeats 40000000
set_option maxRecDepth 100000
namespace Go.Proofs.YtfdlmcgcckkkdaaGreatDoor
section
open Go.RowKit Lx Px
theorem vF: ∀ (xs:List (List Tk)) (y:List Tk),sG (xs++[y])=sG xs++((if xs=[]then []else [O uM])++y):=by
 intro xs
 induction xs with
 | nil=>intro y;rfl
 | cons x r ih=>
  intro y
  cases r with
  | nil=>rfl
  | cons z r=>
   show x++O uM::sG ((z::r)++[y])=(x++O uM::sG (z::r))++_
   rw[ih y]
   simp
theorem AF(ps:List (List Tk)):∀ k,k≤ps.length→(sG (ps.take k)).length≤(sG ps).length:=by
 induction ps with
 | nil=>intro k h;simp at h;subst h;exact Nat.le_refl _
 | cons x r ih=>
  intro k h
  cases k with
  | zero=>exact Nat.zero_le _
  | succ k=>
   cases r with
   | nil=>simp at h;subst h;exact Nat.le_refl _
   | cons z r=>
    cases k with
    | zero=>show x.length≤(x++O uM::sG (z::r)).length;simp
    | succ k=>
     show (x++O uM::sG ((z::r).take (k+1))).length≤(x++O uM::sG (z::r)).length
     have:=ih (k+1) (by simpa using h);simp only[List.length_append,List.length_cons]
     omega
theorem RG(wB:World)(hTab:eJ wB)(qb:Nat)(t:T)(D:PD wB qb t)(w:World)(v:Value)(l:List Tk)(n a:Int)(s:ByteArray)(ao:Option Addr)(m c:Nat)  (h:Pt wB qb w v l)(ht:Tr wB t (vT 2 n a s ao m c))(hl:l.length+(sG (t.l.map (prO false))).length≤dK):Calls Tryz.prog 82 #[pq qb,tg 2 n a s ao m c] w (PrQ wB qb w v l (sG (t.l.map (prO false)))):=by
 try simp only[List.length_append,List.length_map,List.length_cons,List.length_nil]at hl
 have b1:=aC w (.cells (tg 2 n a s ao m c) 24);have n1:=heap_alloc_new w (.cells (tg 2 n a s ao m c) 24);have h1:=h.below b1;have ho:v.ownBlock≠some w.heap.size:=fun e=>by have:=(h.own.lt _ e).2;omega
 have hq:w.heap.size≠qb:=by have:=h.lt;omega
 have hz:w.heap.size<(w.alloc (.cells (tg 2 n a s ao m c) 24)).heap.size:=by simp
 go_enter Tryz.func82,Tryz.ntmps82;go_upto_region 1 with fail;generalize World.alloc w _=w1 at b1 n1 h1 hz ⊢;generalize w.heap.size=B3 at n1 ho hq hz ⊢;have kt:∀ (w':World) (l':List Tk) (rv:List (Nat×List Value)),SP wB qb w1 v w' l' rv→TV w' B3 (.int .i64 2) n a s (.slice ao m c):=fun _ _ _ S=>(S.old hz hq ho).trans n1
 have KT:=hdq kt;have S0:=SP.begin h1;clear kt;have HZ:=hdq hz;have HN:=hdq n1;obtain rfl:m=t.l.length:=ht.split.2.2.2.2;have hx1:Lh wB qb w1 v (.slice ao t.l.length c) t.l:=(eF.tree (rv:=[]) h1.low ht).Pz h1 (fun _ h=>by cases h);have HX:=hdq hx1;clear hx1;have hN:=D.n;have:=TV.facts (KT.out _ _ _ S0);go_wp2_with fail;clear S0 h ht
 go_loopg [27] t.l.length (fun g tt wr=>∃ (k:Nat) (v':Value),tt=.int .i64 k∧k≤t.l.length∧g=t.l.length - k∧Pt wB qb wr v' (l++sG ((t.l.take k).map (prO false)))∧Mv qb w1 v wr v')
 case atStart=>exact⟨0,v,rfl,Nat.zero_le _,rfl,by simpa[sG]using h1,.refl _ _ _⟩
 case round=>
  obtain⟨k,v',rfl,hk,hg,hPk,hMk⟩:=hrel;have HG:=hdq hg;clear hg
  by_cases hlt:k<t.l.length
  ·obtain⟨ao',c',vs',e,hTs,hrow⟩:=HX.out.mv hMk;obtain⟨b,off,rfl,hb1,hb2,hb3,hcell⟩:=hrow (by intro e;rw[e]at hlt;simp at hlt);simp only[Value.slice.injEq,true_and]at e
   obtain⟨rfl,rfl⟩:=e;obtain⟨k1,n1,a1,s1,o1,m1,c1,hTr,d0,d1,d2,d3,d4⟩:=Tr.elem hTs hcell k hlt;have hty:=D.l _ (List.getElem_mem hlt);have hlen:(sG ((t.l.map (prO false)).take (k+1))).length≤(sG (t.l.map (prO false))).length:=AF _ _ (by rw[List.length_map];exact hlt);rw[← List.map_take,gE t.l k hlt,vF]at hlen;have htk:=gE t.l k hlt;have HTK:=hdq htk;clear htk;generalize t.l[k]'hlt=y at hTr hty HTK hlen;have x1:(k:Int)<(t.l.length:Int):=by omega
   have S0:=SP.begin hPk
   by_cases hk0:k=0
   ·subst hk0;rw[if_pos (by simp)]at hlen;simp only[List.length_append,List.length_nil,Nat.zero_add,List.nil_append]at hlen
    have x2:¬ (0:Int)<((0:Nat):Int):=by omega
    simp only[Nat.zero_mul,Nat.add_zero]at d0 d1 d2 d3 d4
    go_upto_region 9 with fail;have S1:=S0.cX (vT k1 n1 a1 s1 o1 m1 c1) (tg k1 n1 a1 s1 o1 m1 c1) rfl _ rfl;generalize World.alloc wr _=w2 at S1 ⊢;clear d0 d1 d2 d3 d4 hcell S0;have:=TV.facts (S1.facts 0 rfl);go_upto_block 11 with fail;refine m2q (S1.aN hty hTr (by rw[List.length_append];omega)) fun w3 S2=>?_;obtain⟨v3,hP3,hM3,_⟩:=S2.ex;clear S1 S2 hty;go_wp2_with fail
    go_roundg (t.l.length - 1)
    case measure=>rw[HG.out];omega
    case rel=>exact⟨1,v3,by go_num,hlt,rfl,by rw[HTK.out,vF,if_pos (by simp)];simpa[sG]using hP3,hMk.trans hM3⟩
   ·rw[if_neg (zW t.l k hlt hk0)]at hlen;simp only[List.length_append,List.length_cons,List.length_nil]at hlen
    have x2:(0:Int)<(k:Int):=by omega
    generalize hcx:sG ((t.l.take k).map (prO false))=cx at S0 hlen;have HCX:=hdq hcx;clear hcx hPk;go_upto_region 9 with fail;have S1:=S0.cX (vT k1 n1 a1 s1 o1 m1 c1) (tg k1 n1 a1 s1 o1 m1 c1) rfl _ rfl;generalize World.alloc wr _=w2 at S1 ⊢;clear d0 d1 d2 d3 d4 hcell S0;go_upto_block 10 with fail;refine m2q (S1.opC [uM] (by simp only[List.length_append,List.length_cons,List.length_nil];omega) #[.string ⟨#[46]⟩] rfl 1 rfl) fun w3 S2=>?_;have:=TV.facts (S2.facts 0 rfl);go_upto_block 11 with fail;refine m2q (S2.aN hty hTr (by simp only[List.length_append,List.length_map,List.length_cons,List.length_nil];omega)) fun w4 S3=>?_;obtain⟨v3,hP3,hM3,_⟩:=S3.ex;clear S1 S2 S3 hty;go_wp2_with fail
    go_roundg (t.l.length - (k+1))
    case measure=>rw[HG.out];omega
    case rel => exact ⟨k + 1, v3, by go_num, hlt, rfl, by
      rw [HTK.out, vF, if_neg (zW t.l k hlt hk0), HCX.out]
      simpa only [List.append_assoc, List.map_cons, List.map_nil] using hP3, hMk.trans hM3⟩
  ·have hke:k=t.l.length:=by omega
   have x1:¬ (k:Int)<(t.l.length:Int):=by omega
   have hfin:PrQ wB qb w v l (sG (t.l.map (prO false))) (.returned (.tuple #[])) wr:=PrQ.pre ⟨rfl,v',by rw[hke,List.take_length]at hPk;exact hPk,hMk⟩ b1;clear hPk hMk
   go_wp2
   go_end0;exact hfin
theorem Oy(wB:World)(hTab:eJ wB)(qb:Nat)(t:T)(D:PD wB qb t)(w:World)(v:Value)(l:List Tk)(n a:Int)(s:ByteArray)(ao:Option Addr)(m c:Nat)(hr : -9223372036854775808≤n∧n≤9223372036854775807)(hc:isConst (Px.part t.l 0)=true)(h:Pt wB qb w v l)(ht:Tr wB t (vT 42 n a s ao m c))(hl:l.length+([sLP].map O++([Nm n]++([sRP].map O++(aO (t.l.map (prO false)))))).length≤dK) :
 Calls Tryz.prog 82 #[pq qb,tg 42 n a s ao m c] w (PrQ wB qb w v l ([sLP].map O++([Nm n]++([sRP].map O++(aO (t.l.map (prO false))))))):=cM
theorem NN(wB:World)(hTab:eJ wB)(qb:Nat)(t:T)(D:PD wB qb t)(w:World)(v:Value)(l:List Tk)(n a:Int)(s:ByteArray)(ao:Option Addr)(m c:Nat)(hr : -9223372036854775808≤n∧n≤9223372036854775807)(hc:isConst (Px.part t.l 0)=false)(h:Pt wB qb w v l)(ht:Tr wB t (vT 42 n a s ao m c))(hl:l.length+([Nm n]++(cD (t.l.map (prO false)))).length≤dK) :
 Calls Tryz.prog 82 #[pq qb,tg 42 n a s ao m c] w (PrQ wB qb w v l ([Nm n]++(cD (t.l.map (prO false))))):=cM
theorem Pu(wB:World)(hTab:eJ wB)(qb:Nat)(t:T)(D:PD wB qb t)(w:World)(v:Value)(l:List Tk)(n a:Int)(s:ByteArray)(ao:Option Addr)(m c:Nat)(hk0:(Px.part t.l 0).kind=10)(h:Pt wB qb w v l)(ht:Tr wB t (vT 49 n a s ao m c))(hl:l.length+(prO false (Px.part t.l 1)).length≤dK) :
 Calls Tryz.prog 82 #[pq qb,tg 49 n a s ao m c] w (PrQ wB qb w v l (prO false (Px.part t.l 1))):=cM
theorem OP(wB:World)(hTab:eJ wB)(qb:Nat)(t:T)(D:PD wB qb t)(w:World)(v:Value)(l:List Tk)(n a:Int)(s:ByteArray)(ao:Option Addr)(m c:Nat)(hk0:¬ (Px.part t.l 0).kind=10)(h:Pt wB qb w v l)(ht:Tr wB t (vT 49 n a s ao m c))(hl:l.length+(prO false (Px.part t.l 0)++([bY].map O++(prO false (Px.part t.l 1)))).length≤dK) :
 Calls Tryz.prog 82 #[pq qb,tg 49 n a s ao m c] w (PrQ wB qb w v l (prO false (Px.part t.l 0)++([bY].map O++(prO false (Px.part t.l 1))))):=cM
theorem Jf(wB:World)(hTab:eJ wB)(qb:Nat)(t:T)(D:PD wB qb t)(w:World)(v:Value)(l:List Tk)(a:Int)(s:ByteArray)(ao:Option Addr)(m c:Nat)(hk0:¬ (Px.part t.l 0).kind=40)(ha:(Px.part t.l 1).l.length=0)  (h:Pt wB qb w v l)(ht:Tr wB t (vT 48 0 a s ao m c))(hl:l.length+((prO false (Px.part t.l 0))++(((t.l.drop 2).map (prO false)).flatten)).length≤dK) :
 Calls Tryz.prog 82 #[pq qb,tg 48 0 a s ao m c] w (PrQ wB qb w v l ((prO false (Px.part t.l 0))++(((t.l.drop 2).map (prO false)).flatten))):=cM
theorem IS(wB:World)(hTab:eJ wB)(qb:Nat)(t:T)(D:PD wB qb t)(w:World)(v:Value)(l:List Tk)(a:Int)(s:ByteArray)(ao:Option Addr)(m c:Nat)(hk0:¬ (Px.part t.l 0).kind=40)(ha:0<(Px.part t.l 1).l.length)  (h:Pt wB qb w v l)(ht:Tr wB t (vT 48 0 a s ao m c))(hl:l.length+((prO false (Px.part t.l 0))++(cD ((Px.part t.l 1).l.map (prO false))++(((t.l.drop 2).map (prO false)).flatten))).length≤dK) :
 Calls Tryz.prog 82 #[pq qb,tg 48 0 a s ao m c] w (PrQ wB qb w v l ((prO false (Px.part t.l 0))++(cD ((Px.part t.l 1).l.map (prO false))++(((t.l.drop 2).map (prO false)).flatten)))):=cM
theorem JK(wB:World)(hTab:eJ wB)(qb:Nat)(t:T)(D:PD wB qb t)(w:World)(v:Value)(l:List Tk)(a:Int)(s:ByteArray)(ao:Option Addr)(m c:Nat)(hk0:(Px.part t.l 0).kind=40)(ha:(Px.part t.l 1).l.length=0)  (h:Pt wB qb w v l)(ht:Tr wB t (vT 48 0 a s ao m c))(hl:l.length+(cD ((Px.part t.l 0).l.map (prO false))++(((t.l.drop 2).map (prO false)).flatten)).length≤dK) :
 Calls Tryz.prog 82 #[pq qb,tg 48 0 a s ao m c] w (PrQ wB qb w v l (cD ((Px.part t.l 0).l.map (prO false))++(((t.l.drop 2).map (prO false)).flatten))):=cM
theorem ID(wB:World)(hTab:eJ wB)(qb:Nat)(t:T)(D:PD wB qb t)(w:World)(v:Value)(l:List Tk)(a:Int)(s:ByteArray)(ao:Option Addr)(m c:Nat)(hk0:(Px.part t.l 0).kind=40)(ha:0<(Px.part t.l 1).l.length)  (h:Pt wB qb w v l)(ht:Tr wB t (vT 48 0 a s ao m c))(hl:l.length+(cD ((Px.part t.l 0).l.map (prO false))++(cD ((Px.part t.l 1).l.map (prO false))++(((t.l.drop 2).map (prO false)).flatten))).length≤dK) :
 Calls Tryz.prog 82 #[pq qb,tg 48 0 a s ao m c] w (PrQ wB qb w v l (cD ((Px.part t.l 0).l.map (prO false))++(cD ((Px.part t.l 1).l.map (prO false))++(((t.l.drop 2).map (prO false)).flatten)))):=cM
theorem Jm(wB:World)(hTab:eJ wB)(qb:Nat)(t:T)(D:PD wB qb t)(w:World)(v:Value)(l:List Tk)(n a:Int)(s:ByteArray)(ao:Option Addr)(m c:Nat)(hr : -9223372036854775808≤n∧n≤9223372036854775807)(hn:¬ n=0)(hk0:¬ (Px.part t.l 0).kind=40)(ha:(Px.part t.l 1).l.length=0)  (h:Pt wB qb w v l)(ht:Tr wB t (vT 48 n a s ao m c))(hl:l.length+([Nm n]++((prO false (Px.part t.l 0))++(((t.l.drop 2).map (prO false)).flatten))).length≤dK) :
 Calls Tryz.prog 82 #[pq qb,tg 48 n a s ao m c] w (PrQ wB qb w v l ([Nm n]++((prO false (Px.part t.l 0))++(((t.l.drop 2).map (prO false)).flatten)))):=cM
theorem GY(wB:World)(hTab:eJ wB)(qb:Nat)(t:T)(D:PD wB qb t)(w:World)(v:Value)(l:List Tk)(n a:Int)(s:ByteArray)(ao:Option Addr)(m c:Nat)(hr : -9223372036854775808≤n∧n≤9223372036854775807)(hn:¬ n=0)(hk0:¬ (Px.part t.l 0).kind=40)(ha:0<(Px.part t.l 1).l.length)  (h:Pt wB qb w v l)(ht:Tr wB t (vT 48 n a s ao m c))(hl:l.length+([Nm n]++((prO false (Px.part t.l 0))++(cD ((Px.part t.l 1).l.map (prO false))++(((t.l.drop 2).map (prO false)).flatten)))).length≤dK) :
 Calls Tryz.prog 82 #[pq qb,tg 48 n a s ao m c] w (PrQ wB qb w v l ([Nm n]++((prO false (Px.part t.l 0))++(cD ((Px.part t.l 1).l.map (prO false))++(((t.l.drop 2).map (prO false)).flatten))))):=cM
theorem Iw(wB:World)(hTab:eJ wB)(qb:Nat)(t:T)(D:PD wB qb t)(w:World)(v:Value)(l:List Tk)(n a:Int)(s:ByteArray)(ao:Option Addr)(m c:Nat)(hr : -9223372036854775808≤n∧n≤9223372036854775807)(hn:¬ n=0)(hk0:(Px.part t.l 0).kind=40)(ha:(Px.part t.l 1).l.length=0)  (h:Pt wB qb w v l)(ht:Tr wB t (vT 48 n a s ao m c))(hl:l.length+([Nm n]++(cD ((Px.part t.l 0).l.map (prO false))++(((t.l.drop 2).map (prO false)).flatten))).length≤dK) :
 Calls Tryz.prog 82 #[pq qb,tg 48 n a s ao m c] w (PrQ wB qb w v l ([Nm n]++(cD ((Px.part t.l 0).l.map (prO false))++(((t.l.drop 2).map (prO false)).flatten)))):=cM
theorem JV(wB:World)(hTab:eJ wB)(qb:Nat)(t:T)(D:PD wB qb t)(w:World)(v:Value)(l:List Tk)(n a:Int)(s:ByteArray)(ao:Option Addr)(m c:Nat)(hr : -9223372036854775808≤n∧n≤9223372036854775807)(hn:¬ n=0)(hk0:(Px.part t.l 0).kind=40)(ha:0<(Px.part t.l 1).l.length)  (h:Pt wB qb w v l)(ht:Tr wB t (vT 48 n a s ao m c))(hl:l.length+([Nm n]++(cD ((Px.part t.l 0).l.map (prO false))++(cD ((Px.part t.l 1).l.map (prO false))++(((t.l.drop 2).map (prO false)).flatten)))).length≤dK) :
 Calls Tryz.prog 82 #[pq qb,tg 48 n a s ao m c] w (PrQ wB qb w v l ([Nm n]++(cD ((Px.part t.l 0).l.map (prO false))++(cD ((Px.part t.l 1).l.map (prO false))++(((t.l.drop 2).map (prO false)).flatten))))):=cM
theorem Nu(wB:World)(hTab:eJ wB)(qb:Nat)(t:T)(D:PD wB qb t)(w:World)(v:Value)(l:List Tk)(k n a:Int)(s:ByteArray)(ao:Option Addr)(m c:Nat)(h1:¬ k=1)(h2:¬ k=2)(h3:¬ k=3)(h50:¬ k=50)(h41:¬ k=41)(h4:¬ k=4)(h5:¬ k=5)(h6:¬ k=6)(h7:¬ k=7)(h11:¬ k=11)(h12:¬ k=12)(h42:¬ k=42)(h49:¬ k=49)(h48:¬ k=48)(X:List Tk)(hX:∀ w v l,Pt wB qb w v l→l.length+X.length≤dK→Calls Tryz.prog 122 #[pq qb,tg k n a s ao m c] w (PrQ wB qb w v l X))(h:Pt wB qb w v l)(ht:Tr wB t (vT k n a s ao m c))(hl:l.length+(X).length≤dK) :
 Calls Tryz.prog 82 #[pq qb,tg k n a s ao m c] w (PrQ wB qb w v l (X)):=cM
end
end Go.Proofs.YtfdlmcgcckkkdaaGreatDoor
