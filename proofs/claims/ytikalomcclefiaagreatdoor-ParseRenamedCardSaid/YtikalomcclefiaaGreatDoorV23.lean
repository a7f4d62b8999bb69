/- Part 23. -/
import Derived.Test.YtikalomcclefiaaGreatDoorV22
set_option linter.all false
set_option maxHeartbeats 0
set_option maxRecDepth 100000
namespace Go.Proofs.YtikalomcclefiaaGreatDoor
section
open Go.RowKit Lx Px
def TP(wB:World)(qb:Nat)(t:T):Prop:=∀ w v l k n a s ao m c,Pt wB qb w v l->Tr wB t (vT k n a s ao m c)->l.length+(aL false t).length<=fG->
 AAA 67 #[pq qb,tg k n a s ao m c] w (lJ wB qb w v l (aL false t))
def SP.eK{wB:World}{qb:Nat}{w0 w:World}{v0:Value}{l:List Tk}{rv}(S:SP wB qb w0 v0 w l rv){t:T}(hT:TP wB qb t){k n a:Int}{s:dL}{ao:iD}{m c:Nat}(ht:Tr wB t (vT k n a s ao m c))(hl:l.length+(aL false t).length<=fG):AAA 67 #[pq qb,tg k n a s ao m c] w λe w'=>e=.returned (.tuple #[])/\SP wB qb w0 v0 w' (l++aL false t) rv:=
 S.call λv h=>hT w v l k n a s ao m c h ht hl
def SP.eT{wB:World}{qb:Nat}{w0 w:World}{v0:Value}{l:List Tk}{rv}(S:SP wB qb w0 v0 w l rv){K:FuncId}{args:Array Value}{E:Ending->Prop}(h:AAA K args w λe w'=>E e/\iY w w'):AAA K args w λe w'=>E e/\SP wB qb w0 v0 w' l rv:=by
 exact PJ
def SP.kR{wB:World}{qb:Nat}{w0 w:World}{v0:Value}{l:List Tk}{rv}(S:SP wB qb w0 v0 w l rv){t:T}{k n a:Int}{s:dL}{ao:iD}{m c:Nat}(ht:Tr wB t (vT k n a s ao m c))(i:Nat):AAA 101 #[tg k n a s ao m c,i] w λe w'=>(∃ k' n' a' s' ao' m' c',e=.returned (tg k' n' a' s' ao' m' c')/\Tr wB (Px.part t.l i) (vT k' n' a' s' ao' m' c'))/\SP wB qb w0 v0 w' l rv:=
 S.eT (E:=λe=>∃ k' n' a' s' ao' m' c',e=.returned (tg k' n' a' s' ao' m' c')/\Tr wB (Px.part t.l i) (vT k' n' a' s' ao' m' c')) (Zl wB w S.low t k n a s ao m c ht i)
def SP.anU{wB:World}{qb:Nat}{w0 w:World}{v0:Value}{l:List Tk}{rv}(S:SP wB qb w0 v0 w l rv)(s:dL):AAA 104 #[s] w λe w'=>e=.returned (.int .i64 (Px.level s))/\SP wB qb w0 v0 w' l rv:=
 S.eT (E:=λe=>e=_) (asX s w)
def aaN(wB:World)(qb:Nat)(w:World)(v:Value)(x:Value)(l:List T):Prop:=∃ ao c vs,x=.slice ao l.length c/\dO (λ_=>True) wB l vs/\
 (l≠[]->∃ b off,ao=some ⟨b,off,none⟩/\b<w.heap.size/\b≠qb/\v.ownBlock≠some b/\∀ i u,vs[i]?=some u->w.cell? (AAF b (off+i))=some u)
def aaN.mv{wB:World}{qb:Nat}{w w':World}{v v' x:Value}{l:List T}(h:aaN wB qb w v x l)(m:Mv qb w v w' v'):aaN wB qb w' v' x l:=by
 obtain⟨ao,c,vs,rfl,h1,h2⟩:=h;refine⟨ao,c,vs,rfl,h1,λhne=>?_⟩;obtain⟨b,off,rfl,g1,g2,g3,g4⟩:=h2 hne;refine⟨b,off,rfl,gH g1 m.size,g2,λe=>?_,λi u hu=>(tR (a:=(AAF b (off+i))) (m.blk b g1 g2 g3)).trans (g4 i u hu)⟩
 rcases m.own _ e with h|h
 ·exact g3 h
 ·omega
def mH(wB:World)(w:World)(rv:List (Nat×List Value))(x:Value)(l:List T):Prop:=∃ ao c vs,x=.slice ao l.length c/\dO (λ_=>True) wB l vs/\
 (l≠[]->∃ b off,ao=some ⟨b,off,none⟩/\(b<wB.heap.size\/∃ us,(b,us)∈rv)/\∀ i u,vs[i]?=some u->w.cell? (AAF b (off+i))=some u)
def mH.aCj{wB:World}{qb:Nat}{w:World}{v x:Value}{l:List Tk}{lt:List T}{rv}(h:mH wB w rv x lt)(P:Pt wB qb w v l)(h3:∀ p,p∈rv->w.heap[p.1]?=some (.cells p.2.toArray 24 (0,0))/\p.1≠qb/\v.ownBlock≠some p.1):aaN wB qb w v x lt:=by
 obtain⟨ao,c,vs,rfl,h1,h2⟩:=h;refine⟨ao,c,vs,rfl,h1,λhne=>?_⟩;obtain⟨b,off,rfl,g1,g2⟩:=h2 hne
 rcases g1 with g1|⟨us,g1⟩
 ·have:=P.low.size;have:=P.hq;refine⟨b,off,rfl,by omega,by omega,λe=>?_,g2⟩;have:=(P.own.lt _ e).1;omega
 ·obtain⟨k1,k2,k3⟩:=h3 _ g1;exact⟨b,off,rfl,(aX.1 k1).1,k2,k3,g2⟩
def mH.tree{wB w:World}{rv}(low:iY wB w){t:T}{k n a:Int}{s:dL}{ao:iD}{m c:Nat}(ht:Tr wB t (vT k n a s ao m c)):mH wB w rv (.slice ao m c) t.l:=by
 obtain⟨ao',c',e,hl⟩:=ht.form;unfold vT at e;simp only[fL,vE,vD,dZ,mM,fD]at e
 obtain⟨_,_,_,_,rfl,rfl,rfl⟩:=e
 by_cases hne:t.l=[]
 ·exact⟨ao,c,[],rfl,by rw[hne];unfold dO;rfl,λh=>absurd hne h⟩
 ·obtain⟨b,off,vs,rfl,_,hlt,hT,hu⟩:=hl hne;exact⟨_,c,vs,rfl,hT,λ_=>⟨b,off,rfl,.inl hlt,λi u hi=>(low.cell (p:=(AAF b (off+i))) hlt).trans (hu i u hi)⟩⟩
theorem mH.one{wB w:World}{rv}{b:Nat}{t:T}{k n a:Int}{s:dL}{ao:iD}{m c:Nat}(ht:Tr wB t (vT k n a s ao m c))(hm:(b,vT k n a s ao m c)∈rv)(hb:w.heap[b]?=some (.cells (vT k n a s ao m c).toArray 24 (0,0))):mH wB w rv (.slice (some (AAF b 0)) 1 1) [t]:=by
 refine⟨_,1,vT k n a s ao m c,rfl,dO.one ht,λ_=>⟨b,0,rfl,.inr ⟨_,hm⟩,λi u hi=>?_⟩⟩;rw[dT,aK w b i _ _ _ hb]
 simpa using hi
def SP.tvb{wB:World}{qb:Nat}{w0 w:World}{v0:Value}{l:List Tk}{rv}(S:SP wB qb w0 v0 w l rv){b:Nat}{us:List Value}(hm:(b,us)∈rv):w.heap[b]?=some (.cells us.toArray 24 (0,0)):=by
 obtain⟨v,h1,h2,h3⟩:=S.ex;exact(h3 _ hm).1
def Io: ∀ (xs:List (List Tk)) (y:List Tk),aR (xs++[y])=aR xs++((if xs=[]then []else [O jS])++y):=by
 intro xs
 induction xs with
 | nil=>intro y;rfl
 | cons x r ih=>
  intro y
  cases r with
  | nil=>rfl
  | cons z r=>
   show x++O jS::aR ((z::r)++[y])=(x++O jS::aR (z::r))++_
   rw[ih y]
   simp
def TU(ps:List (List Tk)):∀ k,k<=ps.length->(aR (ps.take k)).length<=(aR ps).length:=by
 induction ps with
 | nil=>intro k h;simp at h;subst h;exact aG _
 | cons x r ih=>
  intro k h
  cases k with
  | zero=>exact aS _
  | succ k=>
   cases r with
   | nil=>simp at h;subst h;exact aG _
   | cons z r=>
    cases k with
    | zero=>show x.length<=(x++O jS::aR (z::r)).length;simp
    | succ k=>
     show (x++O jS::aR ((z::r).take (k+1))).length<=(x++O jS::aR (z::r)).length
     exact PI
def Uv(l:List T)(k:Nat)(hk:k<l.length)(h0:k≠0):(l.take k).map (aL false)≠[]:=by
 intro e;have:=congrArg List.length e;rw[bN,jV,dD]at this;omega
def sQ(l:List T)(k:Nat)(hk:k<l.length):(l.take (k+1)).map (aL false)=(l.take k).map (aL false)++[aL false (l[k]'hk)]:=by
 rw[jY hk,iX];rfl
def Yb(wB:World)(qb:Nat)(lt:List T)(hN:lt.length<=1000000)(hT:∀ y,y∈lt->TP wB qb y)(w:World)(v:Value)(l:List Tk)(x:Value)(h:Pt wB qb w v l)(hx:aaN wB qb w v x lt)(hl:l.length+(aR (lt.map (aL false))).length<=fG):AAA 100 #[pq qb,x] w (lJ wB qb w v l (aR (lt.map (aL false)))):=by
 have hx0:=hx;obtain⟨ao,c,vs,rfl,_,_⟩:=hx0;have HX:=aN hx;clear hx;go_in;go_wp2_with fail
 go_loopg [8] lt.length (λg t wr=>∃ (k:Nat) (v':Value),t=.int .i64 k/\k<=lt.length/\g=lt.length - k/\Pt wB qb wr v' (l++aR ((lt.take k).map (aL false)))/\Mv qb w v wr v')
 case atStart=>exact⟨0,v,rfl,aS _,rfl,by simpa[aR]using h,.refl _ _ _⟩
 case round=>
  obtain⟨k,v',rfl,hk,hg,hPk,hMk⟩:=hrel;have HG:=aN hg;clear hg
  by_cases hlt:k<lt.length
  ·obtain⟨ao',c',vs',e,hTs,hrow⟩:=HX.out.mv hMk;obtain⟨b,off,rfl,hb1,hb2,hb3,hcell⟩:=hrow kF;simp only[dZ,fD]at e
   obtain⟨rfl,rfl⟩:=e;obtain⟨k1,n1,a1,s1,o1,m1,c1,hTr,d0,d1,d2,d3,d4⟩:=Tr.elem hTs hcell k hlt;have hty:=hT _ (eJ hlt);have hlen:(aR ((lt.map (aL false)).take (k+1))).length<=(aR (lt.map (aL false))).length:=TU _ _ (by rw[bN];exact hlt);rw[<- sE,sQ lt k hlt,Io]at hlen;have htk:=sQ lt k hlt;have HTK:=aN htk;clear htk;generalize lt[k]'hlt=y at hTr hty HTK hlen;have x1:(k:Int)<(lt.length:Int):=by omega
   have S0:=SP.begin hPk
   by_cases hk0:k=0
   ·subst hk0;rw[aF aI]at hlen;simp only[aO,dD,dT,dI]at hlen
    have x2:¬ (0:Int)<((0:Nat):Int):=by omega
    simp only[Da,lE]at d0 d1 d2 d3 d4
    go_upto_region 3 with fail;have S1:=S0.oF (vT k1 n1 a1 s1 o1 m1 c1) (tg k1 n1 a1 s1 o1 m1 c1) rfl _ rfl;generalize World.alloc wr _=w2 at S1 ⊢;clear d0 d1 d2 d3 d4 hcell S0;have:=AAD (S1.facts 0 rfl);go_upto_block 5 with fail;refine gU (S1.eK hty hTr (by rw[aO];omega)) λw3 S2=>?_;obtain⟨v3,hP3,hM3,_⟩:=S2.ex;clear S1 S2 hty;go_wp2_with fail
    go_roundg (lt.length - 1)
    case measure=>rw[HG.out];omega
    case rel=>exact⟨1,v3,by go_num,hlt,rfl,by rw[HTK.out,Io,aF aI];simpa[aR]using hP3,hMk.trans hM3⟩
   ·rw[aC (Uv lt k hlt hk0)]at hlen;simp only[aO,aV,dD]at hlen
    have x2:(0:Int)<(k:Int):=by omega
    generalize hcx:aR ((lt.take k).map (aL false))=cx at S0 hlen;have HCX:=aN hcx;clear hcx hPk;go_upto_region 3 with fail;have S1:=S0.oF (vT k1 n1 a1 s1 o1 m1 c1) (tg k1 n1 a1 s1 o1 m1 c1) rfl _ rfl;generalize World.alloc wr _=w2 at S1 ⊢;clear d0 d1 d2 d3 d4 hcell S0;go_upto_block 4 with fail;refine gU (S1.opC [jS] RN #[.string ⟨#[44]⟩] rfl 1 rfl) λw3 S2=>?_;have:=AAD (S2.facts 0 rfl);go_upto_block 5 with fail;refine gU (S2.eK hty hTr tS) λw4 S3=>?_;obtain⟨v3,hP3,hM3,_⟩:=S3.ex;clear S1 S2 S3 hty;go_wp2_with fail
    go_roundg (lt.length - (k+1))
    case measure=>rw[HG.out];omega
    case rel => exact ⟨k + 1, v3, by go_num, hlt, rfl, by
      rw [HTK.out, Io, aC (Uv lt k hlt hk0), HCX.out]
      simpa only [bT, dC, oY] using hP3, hMk.trans hM3⟩
  ·have hke:k=lt.length:=by omega
   have x1:¬ (k:Int)<(lt.length:Int):=by omega
   have hfin:lJ wB qb w v l (aR (lt.map (aL false))) (.returned (.tuple #[])) wr:=⟨rfl,v',by rw[hke,jP]at hPk;exact hPk,hMk⟩
   clear hPk hMk h
   go_wp2
   go_end0;exact hfin
def Kv(ps:List (List Tk)):∀ k,(ps.take k).flatten.length<=ps.flatten.length:=by
 induction ps with
 | nil=>intro k;simp
 | cons x r ih=>
  intro k
  cases k with
  | zero=>exact aS _
  | succ k=>
   show (x++(r.take k).flatten).length<=(x++r.flatten).length
   have:=ih k;simp only[aO];omega
def WY(wB:World)(qb:Nat)(lt:List T)(hN:lt.length<=1000000)(hT:∀ y,y∈lt->TP wB qb y)(w:World)(v:Value)(l:List Tk)(x:Value)(h:Pt wB qb w v l)(hx:aaN wB qb w v x lt)(hl:l.length+(bI (lt.map (aL false))).length<=fG):AAA 99 #[pq qb,x] w (lJ wB qb w v l (bI (lt.map (aL false)))):=by
 have hlen:(bI (lt.map (aL false))).length=(aR (lt.map (aL false))).length+2:=by simp[bI]
 rw[hlen]at hl;go_in;go_upto_block 0 with fail;refine(Xc wB qb w v l [cJ] h Ii #[.string ⟨#[40]⟩] rfl 1 rfl).mono ?_;rintro e w1 ⟨rfl,v1,h1,m1⟩;go_upto_block 1 with fail;refine(Yb wB qb lt hN hT w1 v1 _ x h1 (hx.mv m1) tS).mono ?_;rintro e w2 ⟨rfl,v2,h2,m2⟩;go_upto_block 2 with fail;refine(Xc wB qb w2 v2 _ [dA] h2 tS #[.string ⟨#[41]⟩] rfl 1 rfl).mono ?_;rintro e w3 ⟨rfl,v3,h3,m3⟩;have P:lJ wB qb w v l (bI (lt.map (aL false))) (.returned (.tuple #[])) w3:=⟨rfl,v3,by simpa[bI]using h3,m1.trans (m2.trans m3)⟩
 clear h1 h2 h3 m1 m2 m3 hx h hT
 go_wp2
 go_end0;exact P
def SP.pA{wB:World}{qb:Nat}{w0 w:World}{v0:Value}{l:List Tk}{rv}(S:SP wB qb w0 v0 w l rv){lt:List T}{x:Value}(hx:mH wB w rv x lt)(hN:lt.length<=1000000)(hT:∀ y,y∈lt->TP wB qb y)(hl:l.length+(bI (lt.map (aL false))).length<=fG):AAA 99 #[pq qb,x] w λe w'=>e=.returned (.tuple #[])/\SP wB qb w0 v0 w' (l++bI (lt.map (aL false))) rv:=by
 obtain⟨v,h1,h2,h3⟩:=S.ex;refine(WY wB qb lt hN hT w v l x h1 (hx.aCj h1 h3) hl).mono ?_;exact tI
def SP.azL{wB:World}{qb:Nat}{w0 w:World}{v0:Value}{l:List Tk}{rv}(S:SP wB qb w0 v0 w l rv){lt:List T}{x:Value}(hx:mH wB w rv x lt)(hN:lt.length<=1000000)(hT:∀ y,y∈lt->TP wB qb y)(hl:l.length+(aR (lt.map (aL false))).length<=fG):AAA 100 #[pq qb,x] w λe w'=>e=.returned (.tuple #[])/\SP wB qb w0 v0 w' (l++aR (lt.map (aL false))) rv:=by
 obtain⟨v,h1,h2,h3⟩:=S.ex;refine(Yb wB qb lt hN hT w v l x h1 (hx.aCj h1 h3) hl).mono ?_;exact tI
def afL(wB:World)(qb:Nat)(lt:List T)(hN:lt.length<=1000000)(hT:∀ y,y∈lt->TP wB qb y)(w:World)(v:Value)(l:List Tk)(x:Value)(h:Pt wB qb w v l)(hx:aaN wB qb w v x lt)(hl:l.length+((lt.map (aL false)).flatten).length<=fG):AAA 107 #[pq qb,x] w (lJ wB qb w v l ((lt.map (aL false)).flatten)):=by
 have hx0:=hx;obtain⟨ao,c,vs,rfl,_,_⟩:=hx0;have HX:=aN hx;clear hx;go_in;go_wp2_with fail
 go_loopg [8] lt.length (λg t wr=>∃ (k:Nat) (v':Value),t=.int .i64 k/\k<=lt.length/\g=lt.length - k/\Pt wB qb wr v' (l++((lt.take k).map (aL false)).flatten)/\Mv qb w v wr v')
 case atStart=>exact⟨0,v,rfl,aS _,rfl,by simpa using h,.refl _ _ _⟩
 case round=>
  obtain⟨k,v',rfl,hk,hg,hPk,hMk⟩:=hrel;have HG:=aN hg;clear hg
  by_cases hlt:k<lt.length
  ·obtain⟨ao',c',vs',e,hTs,hrow⟩:=HX.out.mv hMk;obtain⟨b,off,rfl,hb1,hb2,hb3,hcell⟩:=hrow kF;simp only[dZ,fD]at e
   obtain⟨rfl,rfl⟩:=e;obtain⟨k1,n1,a1,s1,o1,m1,c1,hTr,d0,d1,d2,d3,d4⟩:=Tr.elem hTs hcell k hlt;have hty:=hT _ (eJ hlt);have hlen:(((lt.map (aL false)).take (k+1)).flatten).length<=((lt.map (aL false)).flatten).length:=Kv _ _;rw[<- sE,sQ lt k hlt,FB]at hlen;simp only[KV,List.flatten_nil,bD,aO]at hlen
   have htk:=sQ lt k hlt;have HTK:=aN htk;clear htk;generalize lt[k]'hlt=y at hTr hty HTK hlen;have x1:(k:Int)<(lt.length:Int):=by omega
   have S0:=SP.begin hPk;generalize hcx:((lt.take k).map (aL false)).flatten=cx at S0 hlen;have HCX:=aN hcx;clear hcx hPk;go_upto_region 3 with fail;have S1:=S0.oF (vT k1 n1 a1 s1 o1 m1 c1) (tg k1 n1 a1 s1 o1 m1 c1) rfl _ rfl;generalize World.alloc wr _=w2 at S1 ⊢;clear d0 d1 d2 d3 d4 hcell S0;have:=AAD (S1.facts 0 rfl);go_upto_block 3 with fail;exact PL
  ·have hke:k=lt.length:=by omega
   have x1:¬ (k:Int)<(lt.length:Int):=by omega
   rw[hke,jP]at hPk;have hfin:lJ wB qb w v l ((lt.map (aL false)).flatten) (.returned (.tuple #[])) wr:=⟨rfl,v',hPk,hMk⟩
   clear hPk hMk h
   go_wp2
   go_end0;exact hfin
def SP.LM{wB:World}{qb:Nat}{w0 w:World}{v0:Value}{l:List Tk}{rv}(S:SP wB qb w0 v0 w l rv){lt:List T}{x:Value}(hx:mH wB w rv x lt)(hN:lt.length<=1000000)(hT:∀ y,y∈lt->TP wB qb y)(hl:l.length+((lt.map (aL false)).flatten).length<=fG):AAA 107 #[pq qb,x] w λe w'=>e=.returned (.tuple #[])/\SP wB qb w0 v0 w' (l++(lt.map (aL false)).flatten) rv:=by
 obtain⟨v,h1,h2,h3⟩:=S.ex;refine(afL wB qb lt hN hT w v l x h1 (hx.aCj h1 h3) hl).mono ?_;exact tI
def alC(wB:World)(qb:Nat)(lt:List T)(hN:lt.length<=1000000)(hT:∀ y,y∈lt->TP wB qb y)(w:World)(v:Value)(l:List Tk)(x:Value)(h:Pt wB qb w v l)(hx:aaN wB qb w v x lt)(hl:l.length+(Px.group (lt.map (aL false))).length<=fG):AAA 130 #[pq qb,x] w (lJ wB qb w v l (Px.group (lt.map (aL false)))):=by
 have hlen0:(Px.group (lt.map (aL false))).length=((lt.map (aL false)).flatten).length+3:=by unfold Px.group;simp only[aV,aO,dD]
 rw[hlen0]at hl;have hx0:=hx;obtain⟨ao,c,vs,rfl,_,_⟩:=hx0;go_in;go_upto_block 0 with fail;refine(Xc wB qb w v l [aT] h Ii #[.string ⟨#[59]⟩] rfl 1 rfl).mono ?_;rintro e w1 ⟨rfl,v1,h1,m1⟩;have HX:=aN hx;clear hx;go_wp2_with fail
 go_loopg [11] lt.length (λg t wr=>∃ (k:Nat) (v':Value),t=.int .i64 k/\k<=lt.length/\g=lt.length - k/\Pt wB qb wr v' ((l++[aT].map O)++((lt.take k).map (aL false)).flatten)/\Mv qb w v wr v')
 case atStart=>exact⟨0,v1,rfl,aS _,rfl,by simpa using h1,m1⟩
 case round=>
  obtain⟨k,v',rfl,hk,hg,hPk,hMk⟩:=hrel;have HG:=aN hg;clear hg
  by_cases hlt:k<lt.length
  ·obtain⟨ao',c',vs',e,hTs,hrow⟩:=HX.out.mv hMk;obtain⟨b,off,rfl,hb1,hb2,hb3,hcell⟩:=hrow kF;simp only[dZ,fD]at e
   obtain⟨rfl,rfl⟩:=e;obtain⟨k1,n1,a1,s1,o1,m1,c1,hTr,d0,d1,d2,d3,d4⟩:=Tr.elem hTs hcell k hlt;have hty:=hT _ (eJ hlt);have hlen:(((lt.map (aL false)).take (k+1)).flatten).length<=((lt.map (aL false)).flatten).length:=Kv _ _;rw[<- sE,sQ lt k hlt,FB]at hlen;simp only[KV,List.flatten_nil,bD,aO]at hlen
   have htk:=sQ lt k hlt;have HTK:=aN htk;clear htk;generalize lt[k]'hlt=y at hTr hty HTK hlen;have x1:(k:Int)<(lt.length:Int):=by omega
   have S0:=SP.begin hPk;generalize hcx:((lt.take k).map (aL false)).flatten=cx at S0 hlen;have HCX:=aN hcx;clear hcx hPk;go_upto_region 4 with fail;have S1:=S0.oF (vT k1 n1 a1 s1 o1 m1 c1) (tg k1 n1 a1 s1 o1 m1 c1) rfl _ rfl;generalize World.alloc wr _=w2 at S1 ⊢;clear d0 d1 d2 d3 d4 hcell S0;have:=AAD (S1.facts 0 rfl);go_upto_block 4 with fail;exact PL
  ·have hke:k=lt.length:=by omega
   have x1:¬ (k:Int)<(lt.length:Int):=by omega
   rw[hke,jP]at hPk;clear h1 m1 h HX;go_upto_block 6 with fail;refine(Za wB qb wr v' _ [sO] hPk tS #[.string ⟨#[69,78,68]⟩] rfl 1 rfl).mono ?_;rintro e w2 ⟨rfl,v2,h2,m2⟩;go_upto_block 7 with fail;refine(Xc wB qb w2 v2 _ [aT] h2 tS #[.string ⟨#[59]⟩] rfl 1 rfl).mono ?_;rintro e w3 ⟨rfl,v3,h3,m3⟩;have hfin:lJ wB qb w v l (Px.group (lt.map (aL false))) (.returned (.tuple #[])) w3:=⟨rfl,v3,by simpa[Px.group]using h3,hMk.trans (m2.trans m3)⟩
   clear h2 h3 m2 m3 hPk hMk
   go_wp2
   go_end0;exact hfin
def SP.aCu{wB:World}{qb:Nat}{w0 w:World}{v0:Value}{l:List Tk}{rv}(S:SP wB qb w0 v0 w l rv){lt:List T}{x:Value}(hx:mH wB w rv x lt)(hN:lt.length<=1000000)(hT:∀ y,y∈lt->TP wB qb y)(hl:l.length+(Px.group (lt.map (aL false))).length<=fG):AAA 130 #[pq qb,x] w λe w'=>e=.returned (.tuple #[])/\SP wB qb w0 v0 w' (l++Px.group (lt.map (aL false))) rv:=by
 obtain⟨v,h1,h2,h3⟩:=S.ex;refine(alC wB qb lt hN hT w v l x h1 (hx.aCj h1 h3) hl).mono ?_;exact tI
def Tr.split{wB:World}{t:T}{k n a:Int}{s:dL}{ao:iD}{m c:Nat}(h:Tr wB t (vT k n a s ao m c)):k=t.kind/\n=t.n/\a=t.at_/\s=t.word/\m=t.l.length:=by
 obtain⟨ao',c',e,hl⟩:=h.form;unfold vT at e;simp only[fL,vE,vD,dZ,mM,fD]at e
 exact⟨e.1,e.2.1,e.2.2.1,e.2.2.2.1,e.2.2.2.2.2.1⟩
def SP.aLm{wB:World}{qb:Nat}{w0 w:World}{v0:Value}{l:List Tk}{rv}(S:SP wB qb w0 v0 w l rv):lJ wB qb w0 v0 l [] (.returned (.tuple #[])) w:=
 SP.KX (ts:=[]) (by rw[bD];exact S)
def ahO(wB:World)(qb:Nat)(w:World)(v:Value)(l:List Tk)(word:dL)(t:T)(k n a:Int)(s:dL)(ao:iD)(m c:Nat)(h:Pt wB qb w v l)(ht:Tr wB t (vT k n a s ao m c))(hT:t.kind≠10->TP wB qb t)(hl:l.length+(opt word t (aL false t)).length<=fG):AAA 146 #[pq qb,word,tg k n a s ao m c] w (lJ wB qb w v l (opt word t (aL false t))):=by
 obtain⟨hk,-⟩:=ht.split;have HOP:=aN (show opt word t (aL false t)=if k=10 then []else [word].map W++bI [aL false t]by rw[hk];rfl);rw[<- hk]at hT;clear hk;have S0:=SP.begin h;go_in;go_upto_region 1 with fail;have S1:=S0.oF (vT k n a s ao m c) (tg k n a s ao m c) rfl _ rfl;generalize World.alloc w _=w1 at S1 ⊢;clear S0;have:=AAD (S1.facts 0 rfl)
 by_cases h10:k=10
 ·have P:lJ wB qb w v l (opt word t (aL false t)) (.returned (.tuple #[])) w1:=by rw[HOP.out,aF h10];exact S1.aLm
  clear hl S1;subst h10
  go_wp2
  go_end0;exact P
 ·have hop:opt word t (aL false t)=[word].map W++bI [aL false t]:=by rw[HOP.out,aC h10]
  rw[hop]at hl;simp only[aO,bN,aV,dD]at hl
  have hTP:=hT h10;clear hop;go_upto_block 2 with fail;refine gU (S1.kS [word] Ii #[.string word] rfl 1 rfl) λw2 S2=>?_;have:=AAD (S2.facts 0 rfl);have S3:=S2.oF (vT k n a s ao m c) (tg k n a s ao m c) rfl _ rfl;go_upto_block 3 with fail;refine gU (S3.pA (lt:=[t]) (mH.one ht (.head _) (S3.tvb (.head _))) (show (1:Nat)<=1000000 by decide) (λy hy=>by rw[cO.1 hy];exact hTP) (by simp only[aO,bN,aV,dD,dC,oY];omega)) λw4 S4=>?_;have P:lJ wB qb w v l (opt word t (aL false t)) (.returned (.tuple #[])) w4:=SP.KX (by rw[HOP.out,aC h10,<- bT];exact S4);clear S1 S2 S3 S4
  go_wp2
  go_end0;exact P
def abS(wB:World)(qb:Nat)(w:World)(v:Value)(l:List Tk)(t:T)(k n a:Int)(s:dL)(ao:iD)(m c:Nat)(least:Int)(h:Pt wB qb w v l)(ht:Tr wB t (vT k n a s ao m c))(hT:TP wB qb t)(hl:l.length+(operand t (aL false t) least).length<=fG):AAA 102 #[pq qb,tg k n a s ao m c,least] w (lJ wB qb w v l (operand t (aL false t) least)):=by
 obtain⟨hk,-,-,hs,-⟩:=ht.split;have S0:=SP.begin h;have HO:=aN (show operand t (aL false t) least=if k=6/\Px.level s<least then bI [aL false t]else aL false t by rw[hk,hs];rfl);clear hk hs;go_in;go_upto_region 1 with fail;have S1:=S0.oF (vT k n a s ao m c) (tg k n a s ao m c) rfl _ rfl;generalize World.alloc w _=w1 at S1 ⊢;generalize w.heap.size=B1 at S1 ⊢;clear S0;generalize hc:decide (k=6/\Px.level s<least)=cc;have HC:=aN hc;clear hc;go_cut [15] (λv15 wx=>v15=.bool cc/\SP wB qb w v wx l [(B1,vT k n a s ao m c)])
 case first=>
  have:=AAD (S1.facts 0 rfl)
  by_cases h6:k=6
  ·subst h6
   by_cases hlv:Px.level s<least
   ·have hcc:cc=true:=by rw[<- HC.out];exact eQ ⟨rfl,hlv⟩
    subst hcc;have hC:=S1.anU s;go_wp2_with (go_at_call 104;refine hC.mono ?_;rintro e w2 ⟨rfl,S2⟩);go_meet
    case rel=>exact⟨rfl,S2⟩
   ·have hcc:cc=false:=by rw[<- HC.out];exact bX λh=>hlv h.2
    have HD:=aN (bX hlv);subst hcc;have hC:=S1.anU s;go_wp2_with (go_at_call 104;refine hC.mono ?_;rintro e w2 ⟨rfl,S2⟩);go_meet
    case rel=>exact⟨by first|rfl|rw[HD.out],S2⟩
  ·have hcc:cc=false:=by rw[<- HC.out];exact bX λh=>h6 h.1
   subst hcc
   go_wp2
   go_meet
   case rel=>exact⟨rfl,S1⟩
 case rest=>
  obtain⟨rfl,S2⟩:=hcut;clear S1
  cases cc with
  | true=>
   have hop:operand t (aL false t) least=bI [aL false t]:=by rw[HO.out,aF (iG HC.out)]
   rw[hop]at hl;have:=AAD (S2.facts 0 rfl);have S3:=S2.oF (vT k n a s ao m c) (tg k n a s ao m c) rfl _ rfl;go_upto_block 2 with fail;refine gU (S3.pA (lt:=[t]) (mH.one ht (.head _) (S3.tvb (.head _))) (show (1:Nat)<=1000000 by decide) (λy hy=>by rw[cO.1 hy];exact hT) hl) λw4 S4=>?_;have P:lJ wB qb w v l (operand t (aL false t) least) (.returned (.tuple #[])) w4:=SP.KX (by rw[hop];exact S4);clear S2 S3 S4 hop
   go_wp2
   go_end0;exact P
  | false=>
   have hop:operand t (aL false t) least=aL false t:=by rw[HO.out,aC (of_decide_eq_false HC.out)]
   rw[hop]at hl;have:=AAD (S2.facts 0 rfl);go_upto_block 3 with fail;refine gU (S2.eK hT ht hl) λw4 S4=>?_;have P:lJ wB qb w v l (operand t (aL false t) least) (.returned (.tuple #[])) w4:=SP.KX (by rw[hop];exact S4);clear S2 S4 hop
   go_wp2
   go_end0;exact P
def SP.tW{wB:World}{qb:Nat}{w0 w:World}{v0:Value}{l:List Tk}{rv}(S:SP wB qb w0 v0 w l rv)(word:dL){t:T}{k n a:Int}{s:dL}{ao:iD}{m c:Nat}(ht:Tr wB t (vT k n a s ao m c))(hT:t.kind≠10->TP wB qb t)(hl:l.length+(opt word t (aL false t)).length<=fG):AAA 146 #[pq qb,word,tg k n a s ao m c] w λe w'=>e=.returned (.tuple #[])/\SP wB qb w0 v0 w' (l++opt word t (aL false t)) rv:=
 S.call λv h=>ahO wB qb w v l word t k n a s ao m c h ht hT hl
def SP.Vx{wB:World}{qb:Nat}{w0 w:World}{v0:Value}{l:List Tk}{rv}(S:SP wB qb w0 v0 w l rv){t:T}{k n a:Int}{s:dL}{ao:iD}{m c:Nat}(least:Int)(ht:Tr wB t (vT k n a s ao m c))(hT:TP wB qb t)(hl:l.length+(operand t (aL false t) least).length<=fG):AAA 102 #[pq qb,tg k n a s ao m c,least] w λe w'=>e=.returned (.tuple #[])/\SP wB qb w0 v0 w' (l++operand t (aL false t) least) rv:=
 S.call λv h=>abS wB qb w v l t k n a s ao m c least h ht hT hl
def amI(wB w:World)(low:iY wB w)(t:T)(k n a:Int)(s:dL)(ao:iD)(m c:Nat)(ht:Tr wB t (vT k n a s ao m c)):AAA 105 #[tg k n a s ao m c] w λe w'=>e=.returned (.bool (isConst t))/\iY w w':=by
 obtain⟨hk,-⟩:=ht.split;have HC:=aN (show isConst t=(decide (t.kind=1)||(decide (t.kind=5)&&decide ((Px.part t.l 0).kind=1)))from rfl);rw[<- hk]at HC;clear hk;go_in;go_upto_region 1 with fail;have t0:=TV.new w k n a s (.slice ao m c);have b0:=aJ w (.cells (tg k n a s ao m c) 24);generalize World.alloc w _=w1 at t0 b0 ⊢;have:=AAD t0
 by_cases h1:k=1
 ·subst h1;go_wp2_with fail;go_ret;exact⟨by rw[HC.out];rfl,b0⟩
 ·by_cases h5:k=5
  ·subst h5;have hP:=Zl wB w1 (low.trans (b0.mono low.size)) t 5 n a s ao m c ht 0;go_upto_block 1 with fail;refine hP.mono ?_;rintro e w2 ⟨⟨k',n',a',s',ao',m',c',rfl,hT'⟩,hb⟩;obtain⟨hk',-⟩:=hT'.split;have hf:∀ W,(Instr.field 24 (.agg (tg k' n' a' s' ao' m' c')) 0).run Tryz.prog W=.ok (iq k') W:=λ_=>by kernel_rfl
   rw[<- hk']at HC;clear hk' hT' hP
   by_cases h1':k'=1
   ·subst h1';go_wp2_with fail;go_ret;exact⟨by rw[HC.out];rfl,b0.trans (hb.mono b0.size)⟩
   ·have hd:decide (k'=1)=false:=bX h1';go_wp2_with fail;go_ret;exact⟨by rw[HC.out];simp[h1'],b0.trans (hb.mono b0.size)⟩
  ·have hd1:decide (k=1)=false:=bX h1;have hd5:decide (k=5)=false:=bX h5;go_wp2_with fail;go_ret;exact⟨by rw[HC.out];simp[h1,h5],b0⟩
theorem dO.drop{av:Nat->Prop}{w:World}:∀ {l:List T} {vs:List Value},dO av w l vs->∀ i,dO av w (l.drop i) (vs.drop (i*5)):=by
 intro l
 induction l with
 | nil=>intro vs h i;unfold dO at h;subst h;simp;unfold dO;rfl
 | cons t r ih=>
  intro vs h i
  cases i with
  | zero=>simpa using h
  | succ i=>
   unfold dO at h;obtain⟨u1,u2,rfl,h1,h2⟩:=h;have h5:=h1.len;have e:(u1++u2).drop ((i+1)*5)=u2.drop (i*5):=by
    rw[show (i+1)*5=u1.length+i*5 by omega,Dd,iF aB,dI]
    congr 1;omega
   rw[e];exact ih h2 i
theorem dO.take{av:Nat->Prop}{w:World}:∀ {l:List T} {vs:List Value},dO av w l vs->∀ i,dO av w (l.take i) (vs.take (i*5)):=by
 intro l
 induction l with
 | nil=>intro vs h i;unfold dO at h;subst h;simp;unfold dO;rfl
 | cons t r ih=>
  intro vs h i
  cases i with
  | zero=>simp;unfold dO;rfl
  | succ i=>
   unfold dO at h;obtain⟨u1,u2,rfl,h1,h2⟩:=h;have h5:=h1.len;have e:(u1++u2).take ((i+1)*5)=u1++u2.take (i*5):=by
    rw[show (i+1)*5=u1.length+i*5 by omega,List.take_append,nQ aB]
    congr 2;omega
   rw[e]
   show dO av w (t::r.take i) _
   unfold dO;exact⟨u1,u2.take (i*5),rfl,h1,ih h2 i⟩
def mH.empty(wB w:World)(rv:List (Nat×List Value))(ao:iD)(c:Nat):mH wB w rv (.slice ao 0 c) []:=⟨ao,c,[],rfl,by unfold dO;rfl,λh=>absurd rfl h⟩
theorem mH.drop{wB w:World}{rv}{ao:iD}{m c:Nat}{l:List T}(h:mH wB w rv (.slice ao m c) l)(i lo:Nat)(hlo:lo=min i m):mH wB w rv (.slice (ao.map λx=>x.add (lo*5)) (m - lo) (c - lo)) (l.drop i):=by
 obtain⟨ao',c',vs,e,hT,hr⟩:=h;simp only[dZ]at e
 obtain⟨rfl,rfl,rfl⟩:=e
 by_cases hd:i<l.length
 ·obtain rfl:lo=i:=by omega
  obtain⟨b,off,rfl,g1,g2⟩:=hr (by intro e;rw[e]at hd;simp at hd);refine⟨some (AAF b (off+lo*5)),c - lo,vs.drop (lo*5),by simp[addr_add],hT.drop lo,λ_=>⟨b,off+lo*5,rfl,g1,λj u hu=>?_⟩⟩;rw[List.getElem?_drop]at hu;rw[gJ];exact g2 _ _ hu
 ·rw[iF aB,show l.length - lo=0 by omega];exact mH.empty _ _ _ _ _
theorem mH.take{wB w:World}{rv}{ao:iD}{m c:Nat}{l:List T}(h:mH wB w rv (.slice ao m c) l)(i:Nat)(hi:i<=m)(c':Nat):mH wB w rv (.slice ao i c') (l.take i):=by
 obtain⟨ao',c2,vs,e,hT,hr⟩:=h;simp only[dZ]at e
 obtain⟨rfl,rfl,rfl⟩:=e;refine⟨ao,c',vs.take (i*5),by rw[jV,FW hi],hT.take i,λhne=>?_⟩;obtain⟨b,off,rfl,g1,g2⟩:=hr (by intro e;rw[e]at hne;simp at hne);refine⟨b,off,rfl,g1,λj u hu=>g2 j u ?_⟩;rw[CO]at hu
 split at hu
 ·exact hu
 ·cases hu
def ZS(i m:Nat):(min (i:Int) (m:Int)).toNat=min i m:=by omega
def avC(wB w:World)(low:iY wB w)(t:T)(k n a:Int)(s:dL)(ao:iD)(m c:Nat)(ht:Tr wB t (vT k n a s ao m c))(i:Nat)(rv:List (Nat×List Value)):AAA 108 #[tg k n a s ao m c,i] w λe w'=>(∃ x,e=.returned x/\mH wB w' rv x (t.l.drop i))/\iY w w':=by
 have hcap:=ht.cap;have HCAP:=aN hcap;have hX:=λ(w':World) (low:iY wB w')=>mH.tree (rv:=rv) low ht
 have HX:=aN hX;clear hX hcap;go_in;go_upto_region 1 with fail;have t0:=TV.new w k n a s (.slice ao m c);have b0:=aJ w (.cells (tg k n a s ao m c) 24);generalize World.alloc w _=w1 at t0 b0 ⊢;have:=AAD t0;have hx:=HX.out w1 (low.trans (b0.mono low.size));have x1:min (i:Int) (m:Int)<=(m:Int):=Int.min_le_right _ _;have x2:(0:Int)<=min (i:Int) (m:Int):=by omega
 have HXX:=aN hx;clear hx;go_wp2_with fail
 ·go_ret;refine⟨⟨_,rfl,?_⟩,b0⟩;have h2:=HCAP.out;have hl:t.l.length=m:=ht.split.2.2.2.2.symm;have hc:c=(min (i:Int) (m:Int)).toNat:=by assumption
  rw[ZS]at hc
  show mH wB w1 rv (.slice ao (m - (min (i:Int) (m:Int)).toNat) 0) (t.l.drop i)
  rw[ZS,iF aB,show m - min i m=0 by omega];exact mH.empty _ _ _ _ _
 ·go_ret;refine⟨⟨_,rfl,?_⟩,b0⟩;exact HXX.out.drop i _ (ZS i m)
def SP.apD{wB:World}{qb:Nat}{w0 w:World}{v0:Value}{l:List Tk}{rv}(S:SP wB qb w0 v0 w l rv){t:T}{k n a:Int}{s:dL}{ao:iD}{m c:Nat}(ht:Tr wB t (vT k n a s ao m c))(i:Nat):AAA 108 #[tg k n a s ao m c,i] w λe w'=>(∃ x,e=.returned x/\mH wB w' rv x (t.l.drop i))/\SP wB qb w0 v0 w' l rv:=by
 refine(avC wB w S.low t k n a s ao m c ht i rv).mono ?_;rintro e w' ⟨h1,h2⟩;exact⟨h1,S.below h2⟩
def SP.aIa{wB:World}{qb:Nat}{w0 w:World}{v0:Value}{l:List Tk}{rv}(S:SP wB qb w0 v0 w l rv){t:T}{k n a:Int}{s:dL}{ao:iD}{m c:Nat}(ht:Tr wB t (vT k n a s ao m c)):AAA 105 #[tg k n a s ao m c] w λe w'=>e=.returned (.bool (isConst t))/\SP wB qb w0 v0 w' l rv:=
 S.eT (E:=λe=>e=_) (amI wB w S.low t k n a s ao m c ht)
def SP.old{wB:World}{qb:Nat}{w0 w:World}{v0:Value}{l:List Tk}{rv}(S:SP wB qb w0 v0 w l rv){b:Nat}(hb:b<w0.heap.size)(h1:b≠qb)(h2:v0.ownBlock≠some b):w.heap[b]?=w0.heap[b]?:=by
 obtain⟨v,_,m,_⟩:=S.ex;exact m.blk b hb h1 h2
def lJ.pre{wB:World}{qb:Nat}{w w1 w':World}{v:Value}{l ts:List Tk}{e:Ending}(h:lJ wB qb w1 v l ts e w')(b:iY w w1):lJ wB qb w v l ts e w':=by
 obtain⟨rfl,v',h1,h2⟩:=h;exact⟨rfl,v',h1,((Mv.refl qb w v).below b).trans h2⟩
structure PD (wB:World) (qb:Nat) (t:T):Prop where
 p:∀ i,TP wB qb (Px.part t.l i)
 l:∀ y,y∈t.l->TP wB qb y
 ll:∀ i y,y∈(Px.part t.l i).l->TP wB qb y
 n:t.l.length<=1000000
 nn:∀ i,(Px.part t.l i).l.length<=1000000
 r : -9223372036854775808<=t.n/\t.n<=9223372036854775807
def Mf(L:List T)(i:Nat):ct (L.map (aL false)) i=aL false (Px.part L i):=by
 unfold ct Px.part;rw[dH,dH,lV]
 cases L[i]? with
 | none=>show [O aT]=aL false none_;decide +kernel
 | some x=>rfl
def Mr(L:List T)(i:Nat):cb (L.map (lY false)) i=bI ((Px.part L i).l.map (aL false)):=by
 unfold cb Px.part;rw[dH,dH,lV]
 cases L[i]? with
 | none=>show [O cJ,O dA]=bI [];rfl
 | some x=>exact zX false x
def aaG(L:List T)(i:Nat):(L.map (wI false)).getD i []=((Px.part L i).l.map (aL false)).flatten:=by
 unfold Px.part;rw[dH,dH,lV]
 cases L[i]? with
 | none=>rfl
 | some x=>exact KO false x
def kwF(a:Int)(l s:dL):kw false a l s=l:=by unfold kw;rw[aC aI]
end
