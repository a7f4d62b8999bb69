/- Part 24. -/
import Derived.Test.YtikalomcclefiaaGreatDoorV23
set_option linter.all false
set_option maxHeartbeats 0
set_option maxRecDepth 100000
namespace Go.Proofs.YtikalomcclefiaaGreatDoor
section
open Go.RowKit Lx Px
def Yf{p:Prop}(h:p:=by(try dsimp only);omega):p:=h
def oS{wB w1 w':World}{qb B:Nat}{v:Value}{l':List Tk}{rv}{x y z u q:Value}(KT:Hid (∀ (w':World) (l':List Tk) (rv:List (Nat×List Value)),SP wB qb w1 v w' l' rv->TV w' B x y z u q))(S:SP wB qb w1 v w' l' rv):w'.cell? (AAF B 0)=some x/\w'.cell? (AAF B 1)=some y/\w'.cell? (AAF B 2)=some z/\w'.cell? (AAF B 3)=some u/\w'.cell? (AAF B 4)=some q/\w'.frozen? (AAF B 0)=false/\w'.frozen? (AAF B 1)=false/\w'.frozen? (AAF B 2)=false/\w'.frozen? (AAF B 3)=false/\w'.frozen? (AAF B 4)=false:=AAD (KT.out _ _ _ S)
def Fp{p:Prop}(h:p:=by first|rfl|(simp only[Mf,Mr,aaG,kwF,vF,sE,bT];rfl)|simp[Mf,Mr,aaG,kwF,vF,sE,mR,EV,xX,yU,Bp]):p:=h
def PG(f:FuncId)(k:Int)(tok:T->Int->Int->ByteArray->List Tk):Prop:=∀ (wB:World) (_:fQ wB) (qb:Nat) (t:T) (_:PD wB qb t) (w:World) (v:Value) (l:List Tk) (n a:Int) (s:dL) (ao:iD) (m c:Nat) (_:Pt wB qb w v l) (_:Tr wB t (vT k n a s ao m c)) (_:l.length+(tok t n a s).length<=fG),
 AAA f #[pq qb,tg k n a s ao m c] w (lJ wB qb w v l (tok t n a s))
def XK{wB w:World}{qb:Nat}{v:Value}{l:List Tk}(h:Pt wB qb w v l)(A:Array Value):iY w (w.alloc (.cells A 24))/\(w.alloc (.cells A 24)).heap[w.heap.size]?=some (.cells A 24 (0,0))/\Pt wB qb (w.alloc (.cells A 24)) v l/\v.ownBlock≠some w.heap.size/\w.heap.size≠qb/\w.heap.size<(w.alloc (.cells A 24)).heap.size:=
 ⟨aJ w _,aP w _,h.below (aJ w _),λe=>by have:=(h.own.lt _ e).2;omega,by have:=h.lt;omega,by simp⟩
def EH{wB w:World}{qb:Nat}{v:Value}{l:List Tk}(h:Pt wB qb w v l)(A:Array Value):iY w ((w.alloc (.cells #[pq qb] 100)).alloc (.cells A 24))/\((w.alloc (.cells #[pq qb] 100)).alloc (.cells A 24)).heap[w.heap.size+1]?=some (.cells A 24 (0,0))/\((w.alloc (.cells #[pq qb] 100)).alloc (.cells A 24)).heap[w.heap.size]?=some (.cells #[pq qb] 100 (0,0))/\Pt wB qb ((w.alloc (.cells #[pq qb] 100)).alloc (.cells A 24)) v l/\v.ownBlock≠some (w.heap.size+1)/\w.heap.size+1≠qb/\w.heap.size+1<((w.alloc (.cells #[pq qb] 100)).alloc (.cells A 24)).heap.size/\v.ownBlock≠some w.heap.size/\w.heap.size≠qb/\w.heap.size<((w.alloc (.cells #[pq qb] 100)).alloc (.cells A 24)).heap.size:=by
 have b1:=aJ w (.cells #[pq qb] 100);have n2:=aP w (.cells #[pq qb] 100);have hs:(w.alloc (.cells #[pq qb] 100)).heap.size=w.heap.size+1:=by simp
 generalize w.alloc (.cells #[pq qb] 100)=w1 at b1 n2 hs ⊢;have b2:=aJ w1 (.cells A 24);have n1:=aP w1 (.cells A 24);have hz:w1.heap.size<(w1.alloc (.cells A 24)).heap.size:=by simp
 have B:=b1.trans (b2.mono b1.size);rw[hs]at n1 hz;exact⟨B,n1,(b2.block _ aB).trans n2,h.below B,λe=>by have:=(h.own.lt _ e).2;omega,by have:=h.lt;omega,hz,λe=>by have:=(h.own.lt _ e).2;omega,by have:=h.lt;omega,by omega⟩
def kt1{wB w1:World}{qb B:Nat}{v:Value}{l:List Tk}{x y z u q:Value}(h1:Pt wB qb w1 v l)(hz:B<w1.heap.size)(hq:B≠qb)(ho:v.ownBlock≠some B)(n1:w1.heap[B]?=some (.cells #[x,y,z,u,q] 24 (0,0))):Hid (∀ (w':World) (l':List Tk) (rv:List (Nat×List Value)),SP wB qb w1 v w' l' rv->TV w' B x y z u q)/\SP wB qb w1 v w1 l []/\Hid (B<w1.heap.size)/\Hid (w1.heap[B]?=some (.cells #[x,y,z,u,q] 24 (0,0))):=
 ⟨aN λ_ _ _ S=>(S.old hz hq ho).trans n1,SP.begin h1,aN hz,aN n1⟩
def OX{wB w1:World}{qb B C:Nat}{v:Value}{l:List Tk}{x y z u q:Value}(h1:Pt wB qb w1 v l)(hz:B<w1.heap.size)(hq:B≠qb)(ho:v.ownBlock≠some B)(n1:w1.heap[B]?=some (.cells #[x,y,z,u,q] 24 (0,0)))(hz2:C<w1.heap.size)(hq2:C≠qb)(ho2:v.ownBlock≠some C)(n2:w1.heap[C]?=some (.cells #[pq qb] 100 (0,0))):Hid (∀ (w':World) (l':List Tk) (rv:List (Nat×List Value)),SP wB qb w1 v w' l' rv->TV w' B x y z u q)/\SP wB qb w1 v w1 l []/\Hid (B<w1.heap.size)/\Hid (w1.heap[B]?=some (.cells #[x,y,z,u,q] 24 (0,0)))/\Hid (∀ (w':World) (l':List Tk) (rv:List (Nat×List Value)),SP wB qb w1 v w' l' rv->w'.cell? (AAF C 0)=some (.pointer (some (AAF qb 0))))/\Hid (w1.heap[C]?=some (.cells #[pq qb] 100 (0,0))):=
 ⟨aN λ_ _ _ S=>(S.old hz hq ho).trans n1,SP.begin h1,aN hz,aN n1,aN λ_ _ _ S=>aK _ _ 0 _ _ _ ((S.old hz2 hq2 ho2).trans n2),aN n2⟩
def Bb{wB w w1 w':World}{qb:Nat}{v:Value}{l2:List Tk}{rv}(S:SP wB qb w1 v w' l2 rv)(b1:iY w w1)(l tok:List Tk)(e:l2=l++tok:=by simp only[bT,bD]):lJ wB qb w v l tok (.returned (.tuple #[])) w':=by
 subst e;exact lJ.pre (SP.KX S) b1
def VZ{s:dL}(h:s.size=0):s=⟨#[]⟩:=by
 exact Sf
section
variable(wB:World)(qb:Nat)(w:World)(v:Value)(l:List Tk)(word:dL)(B2 B3:Nat)(x y z u:Value)(s:dL)(h:Pt wB qb w v l)(hp:w.heap[B2]?=some (.cells #[pq qb] 100 (0,0)))(n2:B2≠qb)(o2:v.ownBlock≠some B2)(ht:TV w B3 x y z s u)(n3:B3≠qb)(o3:v.ownBlock≠some B3)
include wB qb w v l word B2 B3 x y z u s h hp n2 o2 ht n3 o3
theorem JI(hl:l.length+5<=fG):AAA 161 #[word,pq B2,pq B3] w (lJ wB qb w v l ([word,gR].map W++([cJ].map O++([s].map W++[dA].map O)))):=by
 have l2:=(aX.1 hp).1;have l3:=ht.lt;have kp:∀ (w':World) (l':List Tk) (rv:List (Nat×List Value)),SP wB qb w v w' l' rv->w'.cell? (AAF B2 0)=some (.pointer (some (AAF qb 0))):=λ_ _ _ S=>aK _ _ 0 _ _ _ ((S.old l2 n2 o2).trans hp)
 have kt:∀ (w':World) (l':List Tk) (rv:List (Nat×List Value)),SP wB qb w v w' l' rv->TV w' B3 x y z s u:=λ_ _ _ S=>(S.old l3 n3 o3).trans ht
 have KP:=aN kp;have KT:=aN kt;have S0:=SP.begin h;clear kp kt hp ht h;go_in;have kq0:=KP.out _ _ _ S0;have:=AAD (KT.out _ _ _ S0);go_upto_block 0 with fail;refine gU (S0.kS [word,gR] fO #[.string word,.string ⟨#[70,73,76,69]⟩] rfl 2 rfl) λx1 S1=>?_;have kq1:=KP.out _ _ _ S1;have:=AAD (KT.out _ _ _ S1);go_upto_block 1 with fail;refine gU (S1.opC [cJ] fO #[.string ⟨#[40]⟩] rfl 1 rfl) λx2 S2=>?_;have kq2:=KP.out _ _ _ S2;have:=AAD (KT.out _ _ _ S2);go_upto_block 2 with fail;refine gU (S2.kS [s] fO #[.string s] rfl 1 rfl) λx3 S3=>?_;have kq3:=KP.out _ _ _ S3;have:=AAD (KT.out _ _ _ S3);go_upto_block 3 with fail;refine gU (S3.opC [dA] fO #[.string ⟨#[41]⟩] rfl 1 rfl) λx4 S4=>?_;have P:lJ wB qb w v l ([word,gR].map W++([cJ].map O++([s].map W++[dA].map O))) (.returned (.tuple #[])) _:=SP.KX (by simpa only[bT]using S4);clear S0 S1 S2 S3 S4
 go_wp2
 go_end0;exact P
theorem WB(hl:l.length+2<=fG):AAA 162 #[word,pq B2,pq B3] w (lJ wB qb w v l (mR word s)):=by
 have l2:=(aX.1 hp).1;have l3:=ht.lt;have kp:∀ (w':World) (l':List Tk) (rv:List (Nat×List Value)),SP wB qb w v w' l' rv->w'.cell? (AAF B2 0)=some (.pointer (some (AAF qb 0))):=λ_ _ _ S=>aK _ _ 0 _ _ _ ((S.old l2 n2 o2).trans hp)
 have kt:∀ (w':World) (l':List Tk) (rv:List (Nat×List Value)),SP wB qb w v w' l' rv->TV w' B3 x y z s u:=λ_ _ _ S=>(S.old l3 n3 o3).trans ht
 have KP:=aN kp;have KT:=aN kt;have S0:=SP.begin h;clear kp kt hp ht h
 by_cases hs:s=⟨#[]⟩
 ·subst hs;go_in;have kq0:=KP.out _ _ _ S0;go_upto_block 0 with fail;refine gU (S0.kS [word] fO #[.string word] rfl 1 rfl) λx1 S1=>?_;have:=AAD (KT.out _ _ _ S1);have P:lJ wB qb w v l (mR word ⟨#[]⟩) (.returned (.tuple #[])) _:=SP.KX (show SP _ _ _ _ _ (l++([word].map W)) _ from S1);clear S0 S1
  go_wp2
  go_end0;exact P
 ·have hs1:(s.toList == [])=false:=dR.2 λe=>hs Dv
  have hs2:decide (s=⟨#[]⟩)=false:=bX hs;have HT:=aN (show mR word s=[word].map W++[s].map W by unfold mR;rw[aC (λe=>hs (VZ e))];rfl);go_in;have kq0:=KP.out _ _ _ S0;go_upto_block 0 with fail;refine gU (S0.kS [word] fO #[.string word] rfl 1 rfl) λx1 S1=>?_;have:=AAD (KT.out _ _ _ S1);have kq1:=KP.out _ _ _ S1;clear hs;go_upto_block 2 with fail;refine gU (S1.kS [s] fO #[.string s] rfl 1 rfl) λx2 S2=>?_;have P:lJ wB qb w v l (mR word s) (.returned (.tuple #[])) _:=SP.KX (by rw[HT.out,<- bT];exact S2);clear S0 S1 S2
  go_wp2
  go_end0;exact P
end
end
section
open Go.RowKit Lx Px
section
variable {wB w0 w:World} {qb:Nat} {v0:Value} {l:List Tk} {rv:List (Nat×List Value)}
section
variable(S:SP wB qb w0 v0 w l rv)
include S
theorem SP.op1{s:dL}{n:Nat}{cs:Array Value}(hcs:cs=#[.string s]:=by exact rfl)(hn:n=1:=by exact rfl)(hl:l.length+1<=fG:=by exact fO) :
 AAA 97 #[pq qb,.slice (some (AAF w.heap.size 0)) n n] (w.alloc (.cells cs 9)) λe w'=>e=.returned (.tuple #[])/\SP wB qb w0 v0 w' (l++[s].map O) rv:=by subst hcs hn;exact S.opC [s] hl #[.string s] rfl 1 rfl
theorem SP.aHh{s:dL}{n:Nat}{cs:Array Value}(hcs:cs=#[.string s]:=by exact rfl)(hn:n=1:=by exact rfl)(hl:l.length+1<=fG:=by exact fO) :
 AAA 98 #[pq qb,.slice (some (AAF w.heap.size 0)) n n] (w.alloc (.cells cs 9)) λe w'=>e=.returned (.tuple #[])/\SP wB qb w0 v0 w' (l++[s].map W) rv:=by subst hcs hn;exact S.kS [s] hl #[.string s] rfl 1 rfl
theorem SP.aHz{s t:dL}{n:Nat}{cs:Array Value}(hcs:cs=#[.string s,.string t]:=by exact rfl)(hn:n=2:=by exact rfl)(hl:l.length+2<=fG:=by exact fO) :
 AAA 98 #[pq qb,.slice (some (AAF w.heap.size 0)) n n] (w.alloc (.cells cs 9)) λe w'=>e=.returned (.tuple #[])/\SP wB qb w0 v0 w' (l++[s,t].map W) rv:=by subst hcs hn;exact S.kS [s,t] hl #[.string s,.string t] rfl 2 rfl
theorem SP.aIA{s t u:dL}{n:Nat}{cs:Array Value}(hcs:cs=#[.string s,.string t,.string u]:=by exact rfl)(hn:n=3:=by exact rfl)(hl:l.length+3<=fG:=by exact fO) :
 AAA 98 #[pq qb,.slice (some (AAF w.heap.size 0)) n n] (w.alloc (.cells cs 9)) λe w'=>e=.returned (.tuple #[])/\SP wB qb w0 v0 w' (l++[s,t,u].map W) rv:=by subst hcs hn;exact S.kS [s,t,u] hl #[.string s,.string t,.string u] rfl 3 rfl
theorem SP.Yo{t:T}{k n a:Int}{s:dL}{ao:iD}{m c:Nat}(ht:Tr wB t (vT k n a s ao m c))(i:Nat){j:Int}(hj:j=i:=by exact rfl) :
 AAA 101 #[tg k n a s ao m c,j] w λe w'=>(∃ k' n' a' s' ao' m' c',e=.returned (tg k' n' a' s' ao' m' c')/\Tr wB (Px.part t.l i) (vT k' n' a' s' ao' m' c'))/\SP wB qb w0 v0 w' l rv:=by subst hj;exact S.kR ht i
theorem SP.aoG{t:T}{k n a:Int}{s:dL}{ao:iD}{m c:Nat}(ht:Tr wB t (vT k n a s ao m c))(i:Nat){j:Int}(hj:j=i:=by first|exact rfl|assumption) :
 AAA 108 #[tg k n a s ao m c,j] w λe w'=>(∃ x,e=.returned x/\mH wB w' rv x (t.l.drop i))/\SP wB qb w0 v0 w' l rv:=by subst hj;exact S.apD ht i
theorem SP.DS(word:dL){x:dL}{t:T}{k n a:Int}{s:dL}{ao:iD}{m c:Nat}(ht:Tr wB t (vT k n a s ao m c))(hT:t.kind≠10->TP wB qb t)(hx:x=word:=by decide +kernel)(hl:l.length+(opt word t (aL false t)).length<=fG:=by exact fO) :
 AAA 146 #[pq qb,x,tg k n a s ao m c] w λe w'=>e=.returned (.tuple #[])/\SP wB qb w0 v0 w' (l++opt word t (aL false t)) rv:=by subst hx;exact S.tW _ ht hT hl
end
def SP.box{s:Code}{P:Program}{Q:Exit->Act->World->Prop}{a:Act}{cs:Array Value}(S:SP wB qb w0 v0 w l rv)(us:List Value)(hc:cs=us.toArray)(h:∀ w',SP wB qb w0 v0 w' l ((w.heap.size,us)::rv)->s.wp P Q a w'):s.wp P Q a (w.alloc (.cells cs 24)):=
 h _ (S.oF us cs hc _ rfl)
end
def Vu{wB w1 w:World}{qb B:Nat}{v:Value}{x y z u q:Value}(KT:Hid (∀ (w':World) (l':List Tk) (rv:List (Nat×List Value)),SP wB qb w1 v w' l' rv->TV w' B x y z u q)){P:Program}{f:FuncId}{args:Array Value}{r:Value}{l':List Tk}{rv:List (Nat×List Value)}{R:Ending->World->Prop}(h:Calls P f args w λe w'=>e=.returned r/\SP wB qb w1 v w' l' rv)(g:∀ w',SP wB qb w1 v w' l' rv->(w'.cell? (AAF B 0)=some x/\w'.cell? (AAF B 1)=some y/\w'.cell? (AAF B 2)=some z/\w'.cell? (AAF B 3)=some u/\w'.cell? (AAF B 4)=some q/\w'.frozen? (AAF B 0)=false/\w'.frozen? (AAF B 1)=false/\w'.frozen? (AAF B 2)=false/\w'.frozen? (AAF B 3)=false/\w'.frozen? (AAF B 4)=false)->R (.returned r) w'):Calls P f args w R:=by
 refine h.mono ?_;rintro e w' ⟨rfl,S⟩;exact g w' S (oS KT S)
def aLh{wB w:World}{qb:Nat}{v:Value}{l:List Tk}{P:Program}{f:FuncId}{x y z u q:Value}{R:Ending->World->Prop}(h:Pt wB qb w v l)(k:iY w (w.alloc (.cells #[x,y,z,u,q] 24))->Hid (∀ (w':World) (l':List Tk) (rv:List (Nat×List Value)),SP wB qb (w.alloc (.cells #[x,y,z,u,q] 24)) v w' l' rv->TV w' w.heap.size x y z u q)->SP wB qb (w.alloc (.cells #[x,y,z,u,q] 24)) v (w.alloc (.cells #[x,y,z,u,q] 24)) l []->Calls P f #[pq qb,.agg #[x,y,z,u,q]] w R):Calls P f #[pq qb,.agg #[x,y,z,u,q]] w R:=by
 obtain⟨b1,n1,h1,ho,hq,hz⟩:=XK h #[x,y,z,u,q];obtain⟨KT,S0,_⟩:=kt1 h1 hz hq ho n1;exact k b1 KT S0
def aLu{wB w w1 w':World}{qb:Nat}{v:Value}{l2:List Tk}{rv}(S:SP wB qb w1 v w' l2 rv)(b1:iY w w1)(l tok:List Tk)(e:l2=l++tok:=by first|(simp only[bT,bD];done)|(simp only[bT,bD];rfl)|rfl):lJ wB qb w v l tok (.returned (.tuple #[])) w':=by
 subst e;exact lJ.pre (SP.KX S) b1
def aDV{p:Prop}(h:p:=by first|exact mH.tree Sq.low ht|exact mH.tree Sq.low hxq|exact hyq ):p:=h
def aFu{p:Prop}(h:p:=by first|exact D.n|exact D.nn _|(have:=D.n;rw[zV];omega)):p:=h
def aGa{p:Prop}(h:p:=by first|exact D.l|exact D.ll _|exact λy hy=>D.l y (zU hy)):p:=h
def kQ{p:Prop}(h:p:=by
 refine aLh h λb1 KT Sq=>?_;clear h
 (first|(have hsd:(s.toList == [80])=false:=dR.2 λe=>hs Dv)|skip)
 (first|(have hse:decide (s=⟨#[80]⟩)=false:=bX hs)|skip)
 go_in
 go_upto_region 1 with fail;generalize World.alloc w _=w1 at b1 KT Sq ⊢;generalize w.heap.size=B3 at KT ⊢;have TT:=oS KT Sq
 go_upto_region 99999 with (first
  | (go_at_call 97;refine Vu KT Sq.op1 λx Sq TT=>?_;(first|(have VV:=AAD (Sq.facts 0 rfl))|skip))
  | (go_at_call 98;(first|refine Vu KT Sq.aHh λx Sq TT=>?_|refine Vu KT Sq.aHz λx Sq TT=>?_|refine Vu KT Sq.aIA λx Sq TT=>?_);(first|(have VV:=AAD (Sq.facts 0 rfl))|skip))
  | (go_at_call 101;(first|refine(Sq.Yo ht 0).mono ?_|refine(Sq.Yo ht 1).mono ?_|refine(Sq.Yo ht 2).mono ?_|refine(Sq.Yo ht 3).mono ?_|refine(Sq.Yo ht 4).mono ?_|refine(Sq.Yo ht 5).mono ?_);rintro e x ⟨⟨kq,nq,aq,sq,oq,mq,cq,rfl,hxq⟩,Sq⟩;have TT:=oS KT Sq;(first|(have e9:kq=10:=hxq.split.1.trans hk0;subst e9)|skip);(first|(have e9:kq=40:=hxq.split.1.trans hk0;subst e9)|skip);(first|(have hz0:¬ kq=10:=λe=>hk0 (hxq.split.1.symm.trans e))|skip);(first|(have hz0:¬ kq=40:=λe=>hk0 (hxq.split.1.symm.trans e))|skip);(first|(have e9:kq=10:=hxq.split.1.trans hk1;subst e9)|skip);(first|(have hz0:¬ kq=10:=λe=>hk1 (hxq.split.1.symm.trans e))|skip);(first|(have e9:mq=0:=hxq.split.2.2.2.2.trans ha;subst e9)|skip);(first|(have e9:mq=0:=hxq.split.2.2.2.2.trans hb;subst e9)|skip);(first|(have hm0:(0:Int)<(mq:Int):=by have:=hxq.split.2.2.2.2;omega)|skip))
  | (go_at_call 67;refine Vu KT (Sq.eK (D.p _) hxq fO) λx Sq TT=>?_;(first|(have VV:=AAD (Sq.facts 0 rfl))|skip))
  | (go_at_call 146;(first|refine Vu KT (Sq.DS gF hxq (λ_=>D.p _)) λx Sq TT=>?_|refine Vu KT (Sq.DS gA hxq (λ_=>D.p _)) λx Sq TT=>?_|refine Vu KT (Sq.DS GN hxq (λ_=>D.p _)) λx Sq TT=>?_|refine Vu KT (Sq.DS JJ hxq (λ_=>D.p _)) λx Sq TT=>?_|refine Vu KT (Sq.DS yV hxq (λ_=>D.p _)) λx Sq TT=>?_|refine Vu KT (Sq.DS oW hxq (λ_=>D.p _)) λx Sq TT=>?_|refine Vu KT (Sq.DS oE hxq (λ_=>D.p _)) λx Sq TT=>?_|refine Vu KT (Sq.DS nJ hxq (λ_=>D.p _)) λx Sq TT=>?_);(first|(have VV:=AAD (Sq.facts 0 rfl))|skip))
  | (go_at_call 99;refine Vu KT (Sq.pA aDV aFu aGa fO) λx Sq TT=>?_;(first|(have VV:=AAD (Sq.facts 0 rfl))|skip))
  | (go_at_call 99;have Sq:=Sq.oF (vT kq nq aq sq oq mq cq) (tg kq nq aq sq oq mq cq) rfl _ rfl;refine Vu KT (Sq.pA (lt:=[Px.part t.l 0]) (mH.one hxq (.head _) (Sq.tvb (.head _))) (show (1:Nat)<=1000000 by decide) (λy hy=>by rw[cO.1 hy];exact D.p 0) fO) λx Sq TT=>?_;(first|(have VV:=AAD (Sq.facts 0 rfl))|skip))
  | (go_at_call 107;refine Vu KT (Sq.LM aDV aFu aGa fO) λx Sq TT=>?_;(first|(have VV:=AAD (Sq.facts 0 rfl))|skip))
  | (go_at_call 100;refine Vu KT (Sq.azL aDV aFu aGa fO) λx Sq TT=>?_;(first|(have VV:=AAD (Sq.facts 0 rfl))|skip))
  | (go_at_call 130;refine Vu KT (Sq.aCu aDV aFu aGa fO) λx Sq TT=>?_;(first|(have VV:=AAD (Sq.facts 0 rfl))|skip))
  | (go_at_call 108;(first|refine(Sq.aoG ht 0).mono ?_|refine(Sq.aoG ht 1).mono ?_|refine(Sq.aoG ht 2).mono ?_|refine(Sq.aoG ht 6).mono ?_);rintro e x ⟨⟨yq,rfl,hyq⟩,Sq⟩;have TT:=oS KT Sq)
  | (go_at_call 106;refine Vu KT (Sq.JM hTab n hr.1 hr.2 fO) λx Sq TT=>?_;(first|(have VV:=AAD (Sq.facts 0 rfl))|skip))
  | (go_at_call 96;refine Vu KT (Sq.call λv2 hv=>IB wB qb _ v2 _ _ _ hv fO) λx Sq TT=>?_;(first|(have VV:=AAD (Sq.facts 0 rfl))|skip))
  | (go_at_call 105;refine(Sq.aIa hxq).mono ?_;rintro e x ⟨rfl,Sq⟩;rw[hc];have TT:=oS KT Sq)
  | (go_at_call 147;refine Vu KT (Sq.call λv2 hv=>hX _ v2 _ hv fO) λx Sq TT=>?_;(first|(have VV:=AAD (Sq.facts 0 rfl))|skip))
  | (go_at_call 131;refine Vu KT (Sq.call λv2 hv=>hX _ v2 _ hv fO) λx Sq TT=>?_;(first|(have VV:=AAD (Sq.facts 0 rfl))|skip))
  | (go_at_call 109;refine Vu KT (Sq.call λv2 hv=>hX _ v2 _ hv fO) λx Sq TT=>?_;(first|(have VV:=AAD (Sq.facts 0 rfl))|skip))
  | (refine Sq.box _ rfl λx Sq=>?_;have TT:=oS KT Sq;have VV:=AAD (Sq.facts 0 rfl)))
 all_goals (go_end0;exact aLu Sq b1 l _)):p:=h
def Cd{p:Prop}(h:p:=by intro wB hTab qb t D w v l n a s ao m c h ht hl;exact kQ):p:=h
end
