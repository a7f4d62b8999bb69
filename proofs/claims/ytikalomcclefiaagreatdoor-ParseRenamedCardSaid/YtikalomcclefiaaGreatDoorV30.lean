/- Part 30. -/
import Derived.Test.YtikalomcclefiaaGreatDoorV25
set_option linter.all false
set_option maxHeartbeats 0
set_option maxRecDepth 100000
namespace Go.Proofs.YtikalomcclefiaaGreatDoor
section
open Go.RowKit Lx Px
def Ov: ∀ (xs:List (List Tk)) (y:List Tk),jN (xs++[y])=jN xs++((if xs=[]then []else [O lI])++y):=by
 intro xs
 induction xs with
 | nil=>intro y;rfl
 | cons x r ih=>
  intro y
  cases r with
  | nil=>rfl
  | cons z r=>
   show x++O lI::jN ((z::r)++[y])=(x++O lI::jN (z::r))++_
   rw[ih y]
   simp
def XG(ps:List (List Tk)):∀ k,k<=ps.length->(jN (ps.take k)).length<=(jN ps).length:=by
 induction ps with
 | nil=>intro k h;simp at h;subst h;exact aG _
 | cons x r ih=>
  intro k h
  cases k with
  | zero=>exact aS _
  | succ k=>
   cases r with
   | nil=>simp at h;subst h;exact aG _
   | cons z r=>
    cases k with
    | zero=>show x.length<=(x++O lI::jN (z::r)).length;simp
    | succ k=>
     show (x++O lI::jN ((z::r).take (k+1))).length<=(x++O lI::jN (z::r)).length
     exact PI
def aLe(wB:World)(hTab:fQ wB)(qb:Nat)(t:T)(D:PD wB qb t)(w:World)(v:Value)(l:List Tk)(n a:Int)(s:dL)(ao:iD)(m c:Nat)  (h:Pt wB qb w v l)(ht:Tr wB t (vT 2 n a s ao m c))(hl:l.length+(jN (t.l.map (aL false))).length<=fG):AAA 67 #[pq qb,tg 2 n a s ao m c] w (lJ wB qb w v l (jN (t.l.map (aL false)))):=by
 try simp only[aO,bN,aV,dD]at hl
 have b1:=aJ w (.cells (tg 2 n a s ao m c) 24);have n1:=aP w (.cells (tg 2 n a s ao m c) 24);have h1:=h.below b1;have ho:v.ownBlock≠some w.heap.size:=λe=>by have:=(h.own.lt _ e).2;omega
 have hq:w.heap.size≠qb:=by have:=h.lt;omega
 have hz:w.heap.size<(w.alloc (.cells (tg 2 n a s ao m c) 24)).heap.size:=by simp
 go_in;go_upto_region 1 with fail;generalize World.alloc w _=w1 at b1 n1 h1 hz ⊢;generalize w.heap.size=B3 at n1 ho hq hz ⊢;have kt:∀ (w':World) (l':List Tk) (rv:List (Nat×List Value)),SP wB qb w1 v w' l' rv->TV w' B3 (iq 2) n a s (.slice ao m c):=λ_ _ _ S=>(S.old hz hq ho).trans n1
 have KT:=aN kt;have S0:=SP.begin h1;clear kt;have HZ:=aN hz;have HN:=aN n1;obtain rfl:m=t.l.length:=ht.split.2.2.2.2;have hx1:aaN wB qb w1 v (.slice ao t.l.length c) t.l:=(mH.tree (rv:=[]) h1.low ht).aCj h1 (λ_ h=>by cases h);have HX:=aN hx1;clear hx1;have hN:=D.n;have:=AAD (KT.out _ _ _ S0);go_wp2_with fail;clear S0 h ht
 go_loopg [27] t.l.length (λg tt wr=>∃ (k:Nat) (v':Value),tt=.int .i64 k/\k<=t.l.length/\g=t.l.length - k/\Pt wB qb wr v' (l++jN ((t.l.take k).map (aL false)))/\Mv qb w1 v wr v')
 case atStart=>exact⟨0,v,rfl,aS _,rfl,by simpa[jN]using h1,.refl _ _ _⟩
 case round=>
  obtain⟨k,v',rfl,hk,hg,hPk,hMk⟩:=hrel;have HG:=aN hg;clear hg
  by_cases hlt:k<t.l.length
  ·obtain⟨ao',c',vs',e,hTs,hrow⟩:=HX.out.mv hMk;obtain⟨b,off,rfl,hb1,hb2,hb3,hcell⟩:=hrow kF;simp only[dZ,fD]at e
   obtain⟨rfl,rfl⟩:=e;obtain⟨k1,n1,a1,s1,o1,m1,c1,hTr,d0,d1,d2,d3,d4⟩:=Tr.elem hTs hcell k hlt;have hty:=D.l _ (eJ hlt);have hlen:(jN ((t.l.map (aL false)).take (k+1))).length<=(jN (t.l.map (aL false))).length:=XG _ _ (by rw[bN];exact hlt);rw[<- sE,sQ t.l k hlt,Ov]at hlen;have htk:=sQ t.l k hlt;have HTK:=aN htk;clear htk;generalize t.l[k]'hlt=y at hTr hty HTK hlen;have x1:(k:Int)<(t.l.length:Int):=by omega
   have S0:=SP.begin hPk
   by_cases hk0:k=0
   ·subst hk0;rw[aF aI]at hlen;simp only[aO,dD,dT,dI]at hlen
    have x2:¬ (0:Int)<((0:Nat):Int):=by omega
    simp only[Da,lE]at d0 d1 d2 d3 d4
    go_upto_region 9 with fail;have S1:=S0.oF (vT k1 n1 a1 s1 o1 m1 c1) (tg k1 n1 a1 s1 o1 m1 c1) rfl _ rfl;generalize World.alloc wr _=w2 at S1 ⊢;clear d0 d1 d2 d3 d4 hcell S0;have:=AAD (S1.facts 0 rfl);go_upto_block 11 with fail;refine gU (S1.eK hty hTr (by rw[aO];omega)) λw3 S2=>?_;obtain⟨v3,hP3,hM3,_⟩:=S2.ex;clear S1 S2 hty;go_wp2_with fail
    go_roundg (t.l.length - 1)
    case measure=>rw[HG.out];omega
    case rel=>exact⟨1,v3,by go_num,hlt,rfl,by rw[HTK.out,Ov,aF aI];simpa[jN]using hP3,hMk.trans hM3⟩
   ·rw[aC (Uv t.l k hlt hk0)]at hlen;simp only[aO,aV,dD]at hlen
    have x2:(0:Int)<(k:Int):=by omega
    generalize hcx:jN ((t.l.take k).map (aL false))=cx at S0 hlen;have HCX:=aN hcx;clear hcx hPk;go_upto_region 9 with fail;have S1:=S0.oF (vT k1 n1 a1 s1 o1 m1 c1) (tg k1 n1 a1 s1 o1 m1 c1) rfl _ rfl;generalize World.alloc wr _=w2 at S1 ⊢;clear d0 d1 d2 d3 d4 hcell S0;go_upto_block 10 with fail;refine gU (S1.opC [lI] RN #[.string ⟨#[46]⟩] rfl 1 rfl) λw3 S2=>?_;have:=AAD (S2.facts 0 rfl);go_upto_block 11 with fail;refine gU (S2.eK hty hTr tS) λw4 S3=>?_;obtain⟨v3,hP3,hM3,_⟩:=S3.ex;clear S1 S2 S3 hty;go_wp2_with fail
    go_roundg (t.l.length - (k+1))
    case measure=>rw[HG.out];omega
    case rel => exact ⟨k + 1, v3, by go_num, hlt, rfl, by
      rw [HTK.out, Ov, aC (Uv t.l k hlt hk0), HCX.out]
      simpa only [bT, dC, oY] using hP3, hMk.trans hM3⟩
  ·have hke:k=t.l.length:=by omega
   have x1:¬ (k:Int)<(t.l.length:Int):=by omega
   have hfin:lJ wB qb w v l (jN (t.l.map (aL false))) (.returned (.tuple #[])) wr:=lJ.pre ⟨rfl,v',by rw[hke,jP]at hPk;exact hPk,hMk⟩ b1;clear hPk hMk
   go_wp2
   go_end0;exact hfin
def aGc(wB:World)(hTab:fQ wB)(qb:Nat)(t:T)(D:PD wB qb t)(w:World)(v:Value)(l:List Tk)(n a:Int)(s:dL)(ao:iD)(m c:Nat)(hr : -9223372036854775808<=n/\n<=9223372036854775807)(hc:isConst (Px.part t.l 0)=true)(h:Pt wB qb w v l)(ht:Tr wB t (vT 42 n a s ao m c))(hl:l.length+([cJ].map O++([Nm n]++([dA].map O++(aR (t.l.map (aL false)))))).length<=fG) :
 AAA 67 #[pq qb,tg 42 n a s ao m c] w (lJ wB qb w v l ([cJ].map O++([Nm n]++([dA].map O++(aR (t.l.map (aL false))))))):=kQ
def aEg(wB:World)(hTab:fQ wB)(qb:Nat)(t:T)(D:PD wB qb t)(w:World)(v:Value)(l:List Tk)(n a:Int)(s:dL)(ao:iD)(m c:Nat)(hr : -9223372036854775808<=n/\n<=9223372036854775807)(hc:isConst (Px.part t.l 0)=false)(h:Pt wB qb w v l)(ht:Tr wB t (vT 42 n a s ao m c))(hl:l.length+([Nm n]++(bI (t.l.map (aL false)))).length<=fG) :
 AAA 67 #[pq qb,tg 42 n a s ao m c] w (lJ wB qb w v l ([Nm n]++(bI (t.l.map (aL false))))):=kQ
def aHW(wB:World)(hTab:fQ wB)(qb:Nat)(t:T)(D:PD wB qb t)(w:World)(v:Value)(l:List Tk)(n a:Int)(s:dL)(ao:iD)(m c:Nat)(hk0:(Px.part t.l 0).kind=10)(h:Pt wB qb w v l)(ht:Tr wB t (vT 49 n a s ao m c))(hl:l.length+(aL false (Px.part t.l 1)).length<=fG) :
 AAA 67 #[pq qb,tg 49 n a s ao m c] w (lJ wB qb w v l (aL false (Px.part t.l 1))):=kQ
def aHi(wB:World)(hTab:fQ wB)(qb:Nat)(t:T)(D:PD wB qb t)(w:World)(v:Value)(l:List Tk)(n a:Int)(s:dL)(ao:iD)(m c:Nat)(hk0:¬ (Px.part t.l 0).kind=10)(h:Pt wB qb w v l)(ht:Tr wB t (vT 49 n a s ao m c))(hl:l.length+(aL false (Px.part t.l 0)++([cU].map O++(aL false (Px.part t.l 1)))).length<=fG) :
 AAA 67 #[pq qb,tg 49 n a s ao m c] w (lJ wB qb w v l (aL false (Px.part t.l 0)++([cU].map O++(aL false (Px.part t.l 1))))):=kQ
def awL(wB:World)(hTab:fQ wB)(qb:Nat)(t:T)(D:PD wB qb t)(w:World)(v:Value)(l:List Tk)(a:Int)(s:dL)(ao:iD)(m c:Nat)(hk0:¬ (Px.part t.l 0).kind=40)(ha:(Px.part t.l 1).l.length=0)  (h:Pt wB qb w v l)(ht:Tr wB t (vT 48 0 a s ao m c))(hl:l.length+((aL false (Px.part t.l 0))++(((t.l.drop 2).map (aL false)).flatten)).length<=fG) :
 AAA 67 #[pq qb,tg 48 0 a s ao m c] w (lJ wB qb w v l ((aL false (Px.part t.l 0))++(((t.l.drop 2).map (aL false)).flatten))):=kQ
def auK(wB:World)(hTab:fQ wB)(qb:Nat)(t:T)(D:PD wB qb t)(w:World)(v:Value)(l:List Tk)(a:Int)(s:dL)(ao:iD)(m c:Nat)(hk0:¬ (Px.part t.l 0).kind=40)(ha:0<(Px.part t.l 1).l.length)  (h:Pt wB qb w v l)(ht:Tr wB t (vT 48 0 a s ao m c))(hl:l.length+((aL false (Px.part t.l 0))++(bI ((Px.part t.l 1).l.map (aL false))++(((t.l.drop 2).map (aL false)).flatten))).length<=fG) :
 AAA 67 #[pq qb,tg 48 0 a s ao m c] w (lJ wB qb w v l ((aL false (Px.part t.l 0))++(bI ((Px.part t.l 1).l.map (aL false))++(((t.l.drop 2).map (aL false)).flatten)))):=kQ
def avL(wB:World)(hTab:fQ wB)(qb:Nat)(t:T)(D:PD wB qb t)(w:World)(v:Value)(l:List Tk)(a:Int)(s:dL)(ao:iD)(m c:Nat)(hk0:(Px.part t.l 0).kind=40)(ha:(Px.part t.l 1).l.length=0)  (h:Pt wB qb w v l)(ht:Tr wB t (vT 48 0 a s ao m c))(hl:l.length+(bI ((Px.part t.l 0).l.map (aL false))++(((t.l.drop 2).map (aL false)).flatten)).length<=fG) :
 AAA 67 #[pq qb,tg 48 0 a s ao m c] w (lJ wB qb w v l (bI ((Px.part t.l 0).l.map (aL false))++(((t.l.drop 2).map (aL false)).flatten))):=kQ
def awR(wB:World)(hTab:fQ wB)(qb:Nat)(t:T)(D:PD wB qb t)(w:World)(v:Value)(l:List Tk)(a:Int)(s:dL)(ao:iD)(m c:Nat)(hk0:(Px.part t.l 0).kind=40)(ha:0<(Px.part t.l 1).l.length)  (h:Pt wB qb w v l)(ht:Tr wB t (vT 48 0 a s ao m c))(hl:l.length+(bI ((Px.part t.l 0).l.map (aL false))++(bI ((Px.part t.l 1).l.map (aL false))++(((t.l.drop 2).map (aL false)).flatten))).length<=fG) :
 AAA 67 #[pq qb,tg 48 0 a s ao m c] w (lJ wB qb w v l (bI ((Px.part t.l 0).l.map (aL false))++(bI ((Px.part t.l 1).l.map (aL false))++(((t.l.drop 2).map (aL false)).flatten)))):=kQ
def axA(wB:World)(hTab:fQ wB)(qb:Nat)(t:T)(D:PD wB qb t)(w:World)(v:Value)(l:List Tk)(n a:Int)(s:dL)(ao:iD)(m c:Nat)(hr : -9223372036854775808<=n/\n<=9223372036854775807)(hn:¬ n=0)(hk0:¬ (Px.part t.l 0).kind=40)(ha:(Px.part t.l 1).l.length=0)  (h:Pt wB qb w v l)(ht:Tr wB t (vT 48 n a s ao m c))(hl:l.length+([Nm n]++((aL false (Px.part t.l 0))++(((t.l.drop 2).map (aL false)).flatten))).length<=fG) :
 AAA 67 #[pq qb,tg 48 n a s ao m c] w (lJ wB qb w v l ([Nm n]++((aL false (Px.part t.l 0))++(((t.l.drop 2).map (aL false)).flatten)))):=kQ
def axO(wB:World)(hTab:fQ wB)(qb:Nat)(t:T)(D:PD wB qb t)(w:World)(v:Value)(l:List Tk)(n a:Int)(s:dL)(ao:iD)(m c:Nat)(hr : -9223372036854775808<=n/\n<=9223372036854775807)(hn:¬ n=0)(hk0:¬ (Px.part t.l 0).kind=40)(ha:0<(Px.part t.l 1).l.length)  (h:Pt wB qb w v l)(ht:Tr wB t (vT 48 n a s ao m c))(hl:l.length+([Nm n]++((aL false (Px.part t.l 0))++(bI ((Px.part t.l 1).l.map (aL false))++(((t.l.drop 2).map (aL false)).flatten)))).length<=fG) :
 AAA 67 #[pq qb,tg 48 n a s ao m c] w (lJ wB qb w v l ([Nm n]++((aL false (Px.part t.l 0))++(bI ((Px.part t.l 1).l.map (aL false))++(((t.l.drop 2).map (aL false)).flatten))))):=kQ
def asZ(wB:World)(hTab:fQ wB)(qb:Nat)(t:T)(D:PD wB qb t)(w:World)(v:Value)(l:List Tk)(n a:Int)(s:dL)(ao:iD)(m c:Nat)(hr : -9223372036854775808<=n/\n<=9223372036854775807)(hn:¬ n=0)(hk0:(Px.part t.l 0).kind=40)(ha:(Px.part t.l 1).l.length=0)  (h:Pt wB qb w v l)(ht:Tr wB t (vT 48 n a s ao m c))(hl:l.length+([Nm n]++(bI ((Px.part t.l 0).l.map (aL false))++(((t.l.drop 2).map (aL false)).flatten))).length<=fG) :
 AAA 67 #[pq qb,tg 48 n a s ao m c] w (lJ wB qb w v l ([Nm n]++(bI ((Px.part t.l 0).l.map (aL false))++(((t.l.drop 2).map (aL false)).flatten)))):=kQ
def awM(wB:World)(hTab:fQ wB)(qb:Nat)(t:T)(D:PD wB qb t)(w:World)(v:Value)(l:List Tk)(n a:Int)(s:dL)(ao:iD)(m c:Nat)(hr : -9223372036854775808<=n/\n<=9223372036854775807)(hn:¬ n=0)(hk0:(Px.part t.l 0).kind=40)(ha:0<(Px.part t.l 1).l.length)  (h:Pt wB qb w v l)(ht:Tr wB t (vT 48 n a s ao m c))(hl:l.length+([Nm n]++(bI ((Px.part t.l 0).l.map (aL false))++(bI ((Px.part t.l 1).l.map (aL false))++(((t.l.drop 2).map (aL false)).flatten)))).length<=fG) :
 AAA 67 #[pq qb,tg 48 n a s ao m c] w (lJ wB qb w v l ([Nm n]++(bI ((Px.part t.l 0).l.map (aL false))++(bI ((Px.part t.l 1).l.map (aL false))++(((t.l.drop 2).map (aL false)).flatten))))):=kQ
def aEi(wB:World)(hTab:fQ wB)(qb:Nat)(t:T)(D:PD wB qb t)(w:World)(v:Value)(l:List Tk)(k n a:Int)(s:dL)(ao:iD)(m c:Nat)(h1:¬ k=1)(h2:¬ k=2)(h3:¬ k=3)(h50:¬ k=50)(h41:¬ k=41)(h4:¬ k=4)(h5:¬ k=5)(h6:¬ k=6)(h7:¬ k=7)(h11:¬ k=11)(h12:¬ k=12)(h42:¬ k=42)(h49:¬ k=49)(h48:¬ k=48)(X:List Tk)(hX:∀ w v l,Pt wB qb w v l->l.length+X.length<=fG->AAA 109 #[pq qb,tg k n a s ao m c] w (lJ wB qb w v l X))(h:Pt wB qb w v l)(ht:Tr wB t (vT k n a s ao m c))(hl:l.length+(X).length<=fG) :
 AAA 67 #[pq qb,tg k n a s ao m c] w (lJ wB qb w v l (X)):=kQ
end
