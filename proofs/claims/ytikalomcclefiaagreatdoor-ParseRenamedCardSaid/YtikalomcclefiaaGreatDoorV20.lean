/- Part 20. -/
import Derived.Test.YtikalomcclefiaaGreatDoorV19
set_option linter.all false
set_option maxHeartbeats 0
set_option maxRecDepth 100000
namespace Go.Proofs.YtikalomcclefiaaGreatDoor
section
open Go.RowKit Lx Px
def Av(w0:World)(rv:List (Nat×List Value))(b:Nat):Prop:=w0.heap.size<=b/\∀ p,p∈rv->b≠p.1
structure SV (pb:Nat) (L:List T3) (w0 w:World) (j:Nat) (rv:List (Nat×List Value)) (ts:List (T×List Value)):Prop where
 ok:Ok pb L j w0 w
 hp:pb<w0.heap.size
 tv:∀ p,p∈rv->w.heap[p.1]?=some (.cells p.2.toArray 24 (0,0))/\w0.heap.size<=p.1
 pw:rv.Pairwise (λp q=>p.1≠q.1)
 tr:∀ p,p∈ts->iB (Av w0 rv) w p.1 p.2
def SV.ps{pb:Nat}{L:List T3}{w0 w:World}{j:Nat}{rv ts}(S:SV pb L w0 w j rv ts):PS w pb L j:=S.ok.2
def SV.begin{pb:Nat}{L:List T3}{w:World}{j:Nat}(h:PS w pb L j):SV pb L w w j [] []:=
 ⟨⟨bS _ (bH _ _),h⟩,h.lt,λ_ h=>oU,.nil,λ_ h=>oU⟩
def SV.step{pb:Nat}{L:List T3}{w0 w w':World}{j j':Nat}{rv ts}(S:SV pb L w0 w j rv ts)(k:Ok pb L j' w w'):SV pb L w0 w' j' rv ts:=by
 have hp:=S.hp;refine⟨S.ok.trans k,S.hp,λp h=>⟨(k.1.block _ (aX.1 (S.tv p h).1).1 (λe=>?_)).trans (S.tv p h).1,(S.tv p h).2⟩,S.pw,λp h=>(S.tr p h).kept (λ_ hb _=>hb) k.1.size (λb hb hl=>k.1.block b hl (λe=>?_))⟩
 ·have:=(S.tv p h).2;cases e;omega
 ·have:=hb.1;cases e;omega
theorem SV.below{pb:Nat}{L:List T3}{w0 w w':World}{j:Nat}{rv ts}(S:SV pb L w0 w j rv ts)(b:iY w w'):SV pb L w0 w' j rv ts:=
 S.step ⟨bS _ b,S.ok.2.below b⟩
theorem SV.drew{pb:Nat}{L:List T3}{w0 w:World}{j:Nat}{rv ts}(S:SV pb L w0 w j rv ts):SV pb L w0 w.drew j rv ts:=
 S.step ⟨⟨rfl,rfl,rfl,aG _,λ_ _ _=>rfl⟩,S.ok.2.drewN 1⟩
def SV.read{pb:Nat}{L:List T3}{w0 w w':World}{j j':Nat}{rv ts}(S:SV pb L w0 w j rv ts)(k:Ok pb L j' w w'){t:T}{us:List Value}(ht:iB (Fr w) w' t us):SV pb L w0 w' j' rv ((t,us)::ts):=by
 have S':=S.step k;refine⟨S'.ok,S'.hp,S'.tv,S'.pw,λp h=>?_⟩
 rcases bO.1 h with rfl|h
 ·refine ht.kept (λb hb _=>⟨aZ S.ok.1.size hb,λq hq e=>?_⟩) (aG _) (λ_ _ _=>rfl);have:=(aX.1 (S.tv q hq).1).1;unfold Fr at hb;omega
 ·exact S'.tr p h
def SV.var{pb:Nat}{L:List T3}{w0 w:World}{j:Nat}{rv ts}(S:SV pb L w0 w j rv ts)(us:List Value)(cs:Array Value)(hc:cs=us.toArray):SV pb L w0 (w.alloc (.cells cs 24)) j ((w.heap.size,us)::rv) ts:=by
 subst hc;have b:=aJ w (.cells us.toArray 24);have S':=S.below b;refine⟨S'.ok,S'.hp,λp h=>?_,?_,λp h=>(S.tr p h).kept (λb hb hl=>⟨hb.1,λq hq=>?_⟩) b.size (λ_ _ hl=>b.block _ hl)⟩
 ·rcases bO.1 h with rfl|h
  ·exact⟨aP w _,S.ok.1.size⟩
  ·exact S'.tv p h
 ·refine sB.2 ⟨λq hq e=>?_,S.pw⟩;have:=(aX.1 (S.tv q hq).1).1;simp only at e;omega
 ·rcases bO.1 hq with rfl|hq
  ·exact λe=>by simp only at e;omega
  ·exact hb.2 q hq
def SV.oF{pb:Nat}{L:List T3}{w0 w:World}{j:Nat}{rv ts}(S:SV pb L w0 w j rv ts)(us:List Value)(cs:Array Value)(hc:cs=us.toArray)(B:Nat)(hB:w.heap.size=B):SV pb L w0 (w.alloc (.cells cs 24)) j ((B,us)::rv) ts:=by
 subst hB;exact S.var us cs hc
def SV.EU{pb:Nat}{L:List T3}{w0 w:World}{j:Nat}{rv ts}(S:SV pb L w0 w j rv ts)(us:List Value):SV pb L w0 (w.alloc (.cells us.toArray 24)) j ((w.heap.size,us)::rv) ts:=S.var us _ rfl
def SV.less{pb:Nat}{L:List T3}{w0 w:World}{j:Nat}{rv ts ts'}(S:SV pb L w0 w j rv ts)(h:∀ p,p∈ts'->p∈ts):SV pb L w0 w j rv ts':=
 ⟨S.ok,S.hp,S.tv,S.pw,λp hp=>S.tr p (h p hp)⟩
def aKb{rv:List (Nat×List Value)}(h:rv.Pairwise (λp q=>p.1≠q.1)):∀ (k m:Nat) (p q:Nat×List Value),rv[k]?=some p->rv[m]?=some q->k≠m->p.1≠q.1:=by
 intro k m p q hk hm hkm;obtain⟨h1,e1⟩:=lS.1 hk;obtain⟨h2,e2⟩:=lS.1 hm;rw[KZ]at h
 rcases cY k m with h3|h3
 ·rw[<- e1,<- e2];exact h k m h1 h2 h3
 ·rw[<- e1,<- e2];exact(h m k h2 h1 aB).symm
theorem SV.put{pb:Nat}{L:List T3}{w0 w:World}{j:Nat}{rv ts}(S:SV pb L w0 w j rv ts)(k:Nat){b:Nat}{us:List Value}(hk:rv[k]?=some (b,us))(i:Nat)(v:Value)(hi:i<us.length):SV pb L w0 (w.setCell (AAF b i) v) j (rv.set k (b,us.set i v)) ts:=by
 have hm:(b,us)∈rv:=lN hk;have hb:=(S.tv _ hm).2;have hh:=(S.tv _ hm).1;have hbb:∀ c,c≠b->(w.setCell (AAF b i) v).heap[c]?=w.heap[c]?:=λc hc=>dJ _ _ _ _ hc
 have hsz:(w.setCell (AAF b i) v).heap.size=w.heap.size:=by simp[World.setCell]
 refine⟨S.ok.put S.hp hb i v,S.hp,λp h=>?_,?_,λp h=>(S.tr p h).kept (λc hc _=>⟨hc.1,λq hq=>?_⟩) (Nat.le_of_eq hsz.symm) (λc hc _=>hbb c (hc.2 _ hm))⟩
 ·obtain⟨m,hm'⟩:=Ly h;rw[zG]at hm'
  split at hm'
  ·split at hm'
   ·obtain rfl:(b,us.set i v)=p:=by simpa using hm'
    refine⟨?_,hb⟩
    show (w.setCell (AAF b i) v).heap[b]?=_
    simp only at hh
    simp[World.setCell,pK,hh]
   ·cases hm'
  ·rename_i hne
   have hp:=S.tv p (lN hm');exact⟨(hbb _ (aKb S.pw _ _ _ _ hm' hk (λe=>hne e.symm))).trans hp.1,hp.2⟩
 ·have:=S.pw;rw[KZ]at this ⊢;intro x y hx hy hxy;rw[List.getElem_set,List.getElem_set];have hk':=lS.1 hk;obtain⟨hk1,hk2⟩:=hk';have hx':x<rv.length:=by simpa using hx
  have hy':y<rv.length:=by simpa using hy
  have h0:=this x y hx' hy' hxy
  split<;>split<;>rename_i h1 h2
  ·omega
  ·subst h1;rw[hk2]at h0;exact h0
  ·subst h2;rw[hk2]at h0;exact h0
  ·exact h0
 ·obtain⟨m,hm'⟩:=Ly hq;rw[zG]at hm'
  split at hm'
  ·split at hm'
   ·obtain rfl:(b,us.set i v)=q:=by simpa using hm'
    have:=hc.2 _ hm;exact this
   ·cases hm'
  ·exact hc.2 _ (lN hm')
def SV.fY{pb:Nat}{L:List T3}{w0 w:World}{j:Nat}{rv ts}(S:SV pb L w0 w j rv ts)(k:Nat){b:Nat}{x y z u v:Value}(hk:rv[k]?=some (b,[x,y,z,u,v]))(x' y' z' u' v':Value):SV pb L w0 (AY w b x' y' z' u' v') j (rv.set k (b,[x',y',z',u',v'])) ts:=by
 have h0:k<rv.length:=(lS.1 hk).1;have S1:=S.put k hk 0 x' aI;have S2:=S1.put k (b:=b) (us:=[x',y,z,u,v]) (by simp[h0]) 1 y' aI;have S3:=S2.put k (b:=b) (us:=[x',y',z,u,v]) (by simp[h0]) 2 z' aI;have S4:=S3.put k (b:=b) (us:=[x',y',z',u,v]) (by simp[h0]) 3 u' aI;have S5:=S4.put k (b:=b) (us:=[x',y',z',u',v]) (by simp[h0]) 4 v' aI
 simpa using S5
def SV.facts{pb:Nat}{L:List T3}{w0 w:World}{j:Nat}{rv ts}(S:SV pb L w0 w j rv ts)(k:Nat){b:Nat}{x y z u v:Value}(hk:rv[k]?=some (b,[x,y,z,u,v])):TV w b x y z u v:=(S.tv _ (lN hk)).1
theorem SV.lit{pb:Nat}{L:List T3}{w0 w:World}{j:Nat}{rv ts}(S:SV pb L w0 w j rv ts){l:List T}{us:List Value}(h:dO (Av w0 rv) w l us)(cs:Array Value)(hc:cs=us.toArray)(k n a:Int)(s:dL)(m c:Nat)(hm:m=l.length)(hcap:l.length<=c:=by exact aG _):SV pb L w0 (w.alloc (.cells cs 24)) j rv ((.mk k n a s l,vT k n a s (some (AAF w.heap.size 0)) m c)::ts):=by
 subst hc hm;have S':=S.below (aJ w (.cells us.toArray 24));refine⟨S'.ok,S'.hp,S'.tv,S'.pw,λp hp=>?_⟩
 rcases bO.1 hp with rfl|hp
 ·exact iB.lit (w:=w) h ⟨S.ok.1.size,λq hq e=>by have:=(aX.1 (S.tv q hq).1).1;omega⟩ (bH _ _) k n a s c hcap
 ·exact S'.tr p hp
theorem SV.leaf{pb:Nat}{L:List T3}{w0 w:World}{j:Nat}{rv ts}(S:SV pb L w0 w j rv ts)(k n a:Int)(s:dL):SV pb L w0 w j rv ((.mk k n a s [],vT k n a s none 0 0)::ts):=by
 refine⟨S.ok,S.hp,S.tv,S.pw,λp hp=>?_⟩
 rcases bO.1 hp with rfl|hp
 ·exact iB.leaf _ _ k n a s 0
 ·exact S.tr p hp
section
variable{pb:Nat}{L:List T3}{w0 w:World}{j:Nat}
include pb L w0 w j
theorem SV.OV{rv ts}{t:T}{k n a:Int}{s:dL}{ao:iD}{m c:Nat}(S:SV pb L w0 w j rv ((t,vT k n a s ao m c)::ts))(k' n' a':Int)(s':dL):SV pb L w0 w j rv ((.mk k' n' a' s' t.l,vT k' n' a' s' ao m c)::ts):=by
 refine⟨S.ok,S.hp,S.tv,S.pw,λp hp=>?_⟩
 rcases bO.1 hp with rfl|hp
 ·have h:=S.tr _ (.head _);obtain⟨k0,n0,a0,s0,l⟩:=t;unfold iB at h ⊢;obtain⟨ao',cap,e,h⟩:=h;unfold vT at e ⊢;simp only[fL,vE,vD,dZ,mM,fD]at e
  obtain⟨_,_,_,_,rfl,rfl,rfl⟩:=e;exact⟨_,_,rfl,h⟩
 ·exact S.tr p (.tail _ hp)
theorem SV.res{rv ts}(S:SV pb L w0 w j rv ts){r:R T}{t:T}{us:List Value}(ht:(t,us)∈ts)(hr:r=.ok (t,j)){v:Value}(hv:v=.agg us.toArray):aU pb L w0 r (.returned v) w:=by
 exact aU.ok hr us hv ((S.tr _ ht).kept (λb hb _=>hb.1) (aG _) (λ_ _ _=>rfl)) S.ok
theorem SV.eK{rv ts}(S:SV pb L w0 w j rv ts){K:FuncId}{args:Array Value}{r:R T}(h:AAA K args w (aU pb L w r)):AAA K args w λe w'=>(∃ a,r=.error a/\e=gM a/\w0.grownBy w' (some pb))\/(∃ t j' k n a s ao m c,r=.ok (t,j')/\e=.returned (tg k n a s ao m c)/\SV pb L w0 w' j' rv ((t,vT k n a s ao m c)::ts)):=by
 refine h.mono ?_;intro e w' hp
 rcases hp.split with ⟨t,j',k,n,a,s,ao,m,c,h1,h2,h3,h4⟩|⟨a,h1,h2,h3⟩
 ·exact .inr ⟨t,j',k,n,a,s,ao,m,c,h1,h2,S.read h4 h3⟩
 exact Jh
theorem SV.apV{rv ts}(S:SV pb L w0 w j rv ts){K:FuncId}{args:Array Value}{r:R Unit}(h:AAA K args w (Ao pb L w r)):AAA K args w λe w'=>(∃ a,r=.error a/\e=gM a/\w0.grownBy w' (some pb))\/(∃ j',r=.ok ((),j')/\e=.returned (.tuple #[])/\SV pb L w0 w' j' rv ts):=by
 refine h.mono ?_;intro e w' hp
 rcases hp.split with ⟨j',h1,h2,h3⟩|⟨a,h1,h2,h3⟩
 ·exact .inr ⟨j',h1,h2,S.step h3⟩
 exact Jh
end
def SV.kG{pb:Nat}{L:List T3}{w0 w:World}{j:Nat}{rv ts}(S:SV pb L w0 w j rv ts)(s:dL):AAA 86 #[pq pb,s] w λe w'=>(∃ a,aW (lk L) j s=.error a/\e=gM a/\w0.grownBy w' (some pb))\/(∃ j',aW (lk L) j s=.ok ((),j')/\e=.returned (.tuple #[])/\SV pb L w0 w' j' rv ts):=
 S.apV (Wa pb L j s w S.ps)
def JZ{pb:Nat}{L:List T3}{w0 w:World}{j:Nat}{rv ts}(S:SV pb L w0 w j rv ts)(cs:Array Value)(u:Nat):SV pb L w0 (w.alloc (.cells cs u)) j rv ts:=S.below (aJ w _)
def SV.El{pb:Nat}{L:List T3}{w0 w:World}{j:Nat}{rv ts}(S:SV pb L w0 w j rv ts)(ss:List ByteArray)(hl:ss.length<=1000)(cs:Array Value)(hc:cs=(ss.map Value.string).toArray)(n:Nat)(hn:n=ss.length):AAA 89 #[pq pb,.slice (some (AAF w.heap.size 0)) n n] (w.alloc (.cells cs 9)) λe w'=>(∃ a,fV (lk L) j ss=.error a/\e=gM a/\w0.grownBy w' (some pb))\/(∃ j',fV (lk L) j ss=.ok ((),j')/\e=.returned (.tuple #[])/\SV pb L w0 w' j' rv ts):=
 (JZ S cs 9).apV (ZK pb L j _ ss hl _ (JZ S cs 9).ps (fM.Ol w ss cs hc n hn))
section
variable{pb:Nat}{L:List T3}{w0 w:World}{j:Nat}
include pb L w0 w j
theorem SV.GJ{rv ts}(S:SV pb L w0 w j rv ts)(ss:List ByteArray)(hl:ss.length<=1000)(cs:Array Value)(hc:cs=(ss.map Value.string).toArray)(n:Nat)(hn:n=ss.length)(b:Bool)(hb:iT (lk L) j ss=b):AAA 143 #[pq pb,.slice (some (AAF w.heap.size 0)) n n] (w.alloc (.cells cs 9)) λe w'=>e=.returned (.bool b)/\SV pb L w0 w' j rv ts:=by
 have S':=JZ S cs 9;refine(Ew pb L j _ ss hl _ S'.ps (fM.Ol w ss cs hc n hn)).mono ?_;exact DO
theorem SV.kwC{rv ts}(S:SV pb L w0 w j rv ts)(ss:List ByteArray)(hl:ss.length<=1000)(cs:Array Value)(hc:cs=(ss.map Value.string).toArray)(n:Nat)(hn:n=ss.length)(b:Bool)(hb:keyword (lk L) j ss=b):AAA 125 #[pq pb,.slice (some (AAF w.heap.size 0)) n n] (w.alloc (.cells cs 9)) λe w'=>e=.returned (.bool b)/\SV pb L w0 w' j rv ts:=by
 have S':=JZ S cs 9;refine(ahW pb L j _ ss hl _ S'.ps (fM.Ol w ss cs hc n hn)).mono ?_;exact DO
theorem SV.Li{rv ts}(S:SV pb L w0 w j rv ts)(ss:List ByteArray)(hl:ss.length<=1000)(cs:Array Value)(hc:cs=(ss.map Value.string).toArray)(n:Nat)(hn:n=ss.length)(b:Bool)(hb:iT (lk L) j ss=b):AAA 124 #[pq pb,.slice (some (AAF w.heap.size 0)) n n] (w.alloc (.cells cs 9)) λe w'=>e=.returned (.bool b)/\SV pb L w0 w' (adv b j) rv ts:=by
 have S':=JZ S cs 9;refine(Mx pb L j _ ss hl _ S'.ps (fM.Ol w ss cs hc n hn)).mono ?_;rintro e w' ⟨rfl,h⟩;rw[hb]at h;exact⟨by rw[hb],S'.step h⟩
theorem SV.oN{rv ts}(S:SV pb L w0 w j rv ts)(a:Nat)(ha:a<=9)(ss:List ByteArray)(hl:ss.length<=1000)(cs:Array Value)(hc:cs=(ss.map Value.string).toArray)(n:Nat)(hn:n=ss.length)(b:Bool)(hb:cD (lk L) (j+a) ss=b):AAA 112 #[pq pb,a,.slice (some (AAF w.heap.size 0)) n n] (w.alloc (.cells cs 9)) λe w'=>e=.returned (.bool b)/\SV pb L w0 w' j rv ts:=by
 have S':=JZ S cs 9;refine(EN pb L j a ha _ ss hl _ S'.ps (fM.Ol w ss cs hc n hn)).mono ?_;exact DO
theorem SV.takeC{rv ts}(S:SV pb L w0 w j rv ts)(s:dL)(b:Bool)(hb:cD (lk L) j [s]=b):AAA 123 #[pq pb,s] w λe w'=>e=.returned (.bool b)/\SV pb L w0 w' (adv b j) rv ts:=by
 refine(yJ pb L j s w S.ps).mono ?_;rintro e w' ⟨rfl,h⟩;rw[hb]at h;exact⟨by rw[hb],S.step h⟩
end
def SV.LW{pb:Nat}{L:List T3}{w0 w:World}{j:Nat}{rv ts}(S:SV pb L w0 w j rv ts)(s:dL)(hb:cD (lk L) j [s]=true) :
 AAA 123 #[pq pb,s] w λe w'=>e=.returned (.bool true)/\SV pb L w0 w' (j+1) rv ts:=S.takeC s true hb
def SV.Ma{pb:Nat}{L:List T3}{w0 w:World}{j:Nat}{rv ts}(S:SV pb L w0 w j rv ts)(s:dL)(hb:cD (lk L) j [s]=false) :
 AAA 123 #[pq pb,s] w λe w'=>e=.returned (.bool false)/\SV pb L w0 w' j rv ts:=S.takeC s false hb
def SV.aaQ{pb:Nat}{L:List T3}{w0 w:World}{j:Nat}{rv ts}(S:SV pb L w0 w j rv ts)(ss:List ByteArray)(hl:ss.length<=1000)(cs:Array Value)(hc:cs=(ss.map Value.string).toArray)(n:Nat)(hn:n=ss.length)(hb:iT (lk L) j ss=true) :
 AAA 124 #[pq pb,.slice (some (AAF w.heap.size 0)) n n] (w.alloc (.cells cs 9)) λe w'=>e=.returned (.bool true)/\SV pb L w0 w' (j+1) rv ts:=S.Li ss hl cs hc n hn true hb
def SV.abQ{pb:Nat}{L:List T3}{w0 w:World}{j:Nat}{rv ts}(S:SV pb L w0 w j rv ts)(ss:List ByteArray)(hl:ss.length<=1000)(cs:Array Value)(hc:cs=(ss.map Value.string).toArray)(n:Nat)(hn:n=ss.length)(hb:iT (lk L) j ss=false) :
 AAA 124 #[pq pb,.slice (some (AAF w.heap.size 0)) n n] (w.alloc (.cells cs 9)) λe w'=>e=.returned (.bool false)/\SV pb L w0 w' j rv ts:=S.Li ss hl cs hc n hn false hb
section
variable{pb:Nat}{L:List T3}{w0 w:World}{j:Nat}
include pb L w0 w j
theorem SV.Bn{rv ts}(S:SV pb L w0 w j rv ts){K:FuncId}{args:Array Value}{r:R ByteArray}(h:AAA K args w (Ey pb L w r)):AAA K args w λe w'=>(∃ a,r=.error a/\e=gM a/\w0.grownBy w' (some pb))\/(∃ s j',r=.ok (s,j')/\e=.returned (.string s)/\SV pb L w0 w' j' rv ts):=by
 refine h.mono ?_;intro e w' hp
 cases r with
 | ok sj=>exact OJ
 | error a=>exact .inl ⟨a,rfl,hp.1,S.ok.1.trans hp.2⟩
theorem SV.QW{rv ts}(S:SV pb L w0 w j rv ts):AAA 76 #[pq pb] w λe w'=>e=gM j/\w0.grownBy w' (some pb):=by
 refine(Jk pb L j w S.ps).mono ?_;rintro e w' ⟨rfl,rfl⟩;exact⟨rfl,S.ok.1⟩
theorem SV.eT{rv ts}(S:SV pb L w0 w j rv ts){K:FuncId}{args:Array Value}{E:Ending->Prop}(h:AAA K args w λe w'=>E e/\iY w w'):AAA K args w λe w'=>E e/\SV pb L w0 w' j rv ts:=by
 exact PJ
end
def SV.Mn{pb:Nat}{L:List T3}{w0 w:World}{j:Nat}{rv ts}(S:SV pb L w0 w j rv ts):AAA 88 #[] w λe w'=>e=.returned (tg 10 0 0 ⟨#[]⟩ none 0 0)/\SV pb L w0 w' j rv ((none_,vT 10 0 0 ⟨#[]⟩ none 0 0)::ts):=
 (S.leaf 10 0 0 e0).eT (E:=λe=>e=_) (aeC w)
def SV.pG{pb:Nat}{L:List T3}{w0 w:World}{j:Nat}{rv ts}{t:T}{k0 n0 a0:Int}{s0:dL}{ao:iD}{m c:Nat}(S:SV pb L w0 w j rv ((t,vT k0 n0 a0 s0 ao m c)::ts))(k a:Int):AAA 87 #[k,a,.slice ao m c] w λe w'=>e=.returned (tg k 0 a ⟨#[]⟩ ao m c)/\SV pb L w0 w' j rv ((.mk k 0 a ⟨#[]⟩ t.l,vT k 0 a ⟨#[]⟩ ao m c)::ts):=
 (S.OV k 0 a ⟨#[]⟩).eT (E:=λe=>e=_) (yM k a ao m c w)
def GR{G K:Act->World->Prop}(hK:∀ a w,G a w->K a w){a:Act}{w:World}{pb:Nat}{L:List T3}{w0:World}{j:Nat}{rv ts}(_:SV pb L w0 w j rv ts)(h:G a w):K a w:=hK _ _ h
def LP{p:Prop}(h:p:=by first|exact Sq.facts 0 rfl|exact Sq.facts 1 rfl|exact Sq.facts 2 rfl|exact Sq.facts 3 rfl|exact Sq.facts 4 rfl):p:=h
abbrev Cg: List Value:=[.int .i64 0,.int .i64 0,.int .i64 0,.string ⟨#[]⟩,.slice none 0 0]
def SV.new{pb:Nat}{L:List T3}{w:World}{j:Nat}(h:PS w pb L j):SV pb L w (w.alloc (.cells sZ 24)) j [(w.heap.size,Cg)] []:=(SV.begin h).var Cg _ rfl
def asC(pb:Nat)(L:List T3)(i:Nat)(k n a:Int)(s:dL)(ao:iD)(m c:Nat)(w:World)(h:PS w pb L i):AAA 209 #[pq pb,tg k n a s ao m c] w λe w'=>(∃ x,aW (lk L) i aT=.error x/\e=gM x/\w.grownBy w' (some pb))\/(∃ j,aW (lk L) i aT=.ok ((),j)/\e=.returned (tg k n a s ao m c)/\Ok pb L j w w'):=by
 have S0:=SV.begin h;go_in;go_upto_region 1 with fail;have S1:=S0.var (vT k n a s ao m c) (tg k n a s ao m c) rfl;have S2:=S1.oF Cg sZ rfl (w.heap.size+1) aI;generalize (w.alloc (.cells (tg k n a s ao m c) 24)).alloc _=w2 at S2 ⊢;go_upto_block 1 with fail;refine(S2.kG aT).mono ?_;rintro e w3 (⟨x,hr,rfl,hg⟩|⟨j,hr,rfl,S3⟩)
 ·unfold gM;go_wp2_with fail;exact⟨rfl,.inl ⟨x,hr,rfl,hg⟩⟩
 have:=AAD (S3.facts 0 rfl);have:=AAD (S3.facts 1 rfl);go_wp2_with fail;have S4:=S3.fY 0 rfl k n a s (.slice ao m c);refine nX (S4.facts 0 rfl) Tryz.results209 ?_;exact .inr ⟨j,hr,rfl,S4.ok⟩
def SV.sR{pb:Nat}{L:List T3}{w0 w:World}{j:Nat}{rv ts}(S:SV pb L w0 w j rv ts)(k n a:Int)(s:dL)(ao:iD)(m c:Nat):AAA 209 #[pq pb,tg k n a s ao m c] w λe w'=>(∃ x,aW (lk L) j aT=.error x/\e=gM x/\w0.grownBy w' (some pb))\/(∃ j',aW (lk L) j aT=.ok ((),j')/\e=.returned (tg k n a s ao m c)/\SV pb L w0 w' j' rv ts):=by
 refine(asC pb L j k n a s ao m c w S.ps).mono ?_;rintro e w' (⟨x,h1,h2,h3⟩|⟨j',h1,h2,h3⟩)
 ·exact .inl ⟨x,h1,h2,S.ok.1.trans h3⟩
 ·exact .inr ⟨j',h1,h2,S.step h3⟩
def uU(pb:Nat)(L:List T3)(i:Nat)(w:World)(h:PS w pb L i):AAA 207 #[pq pb] w (aU pb L w (fB (lk L) i)):=by
 have HU:=aN (show fB (lk L) i=aH (aW (lk L) i cJ) λ_ j=>aH (dB (lk L) j) λx j'=>aH (aW (lk L) j' dA) λ_ j2=>.ok (x,j2)from rfl);go_in;go_upto_region 1 with fail;have S1:=SV.new h;generalize World.alloc w _=w1 at S1 ⊢;go_upto_block 1 with fail;refine(S1.kG cJ).mono ?_;rintro e w2 (⟨x,hr,rfl,hg⟩|⟨j,hr,rfl,S2⟩)
 ·unfold gM;go_wp2_with fail;exact⟨rfl,aU.err x (by simp only[HU.out,aH,hr]) hg⟩
 have H1:=aN hr;clear hr;go_upto_block 2 with fail;refine(S2.eK (fA pb L j w2 (aS _) S2.ps)).mono ?_;rintro e w3 (⟨x,hr,rfl,hg⟩|⟨t,j3,k3,n3,a3,s3,o3,m3,c3,hr,rfl,S3⟩)
 ·unfold gM;go_wp2_with fail;exact⟨rfl,aU.err x (by simp only[HU.out,aH,H1.out,hr]) hg⟩
 have H2:=aN hr;clear hr;go_upto_region 3 with fail;have S4:=S3.EU (tg k3 n3 a3 s3 o3 m3 c3);generalize World.alloc w3 _=w4 at S4 ⊢;generalize w3.heap.size=B4 at S4 ⊢;go_upto_block 3 with fail;refine(S4.kG dA).mono ?_;rintro e w5 (⟨x,hr,rfl,hg⟩|⟨j5,hr,rfl,S5⟩)
 ·unfold gM;go_wp2_with fail;exact⟨rfl,aU.err x (by simp only[HU.out,aH,H1.out,H2.out,hr]) hg⟩
 have:=AAD (S5.facts 0 rfl);have:=AAD (S5.facts 1 rfl);have H3:=aN hr;clear hr;go_wp2_with fail;have S6:=S5.fY 1 rfl k3 n3 a3 s3 (.slice o3 m3 c3);refine nX (S6.facts 1 rfl) Tryz.results207 ?_;exact S6.res (.head _) (by simp only[HU.out,aH,H1.out,H2.out,H3.out]) rfl
section
variable(pb:Nat)(L:List T3)(x:dL)(i:Nat)(w:World)(h:PS w pb L i)
include pb L x i w h
theorem zZ:AAA 206 #[pq pb,x] w (aU pb L w (gL (lk L) x i)):=by
 have HU:=aN (show gL (lk L) x i=if iT (lk L) i [x]then fB (lk L) (i+1)else .ok (none_,i)from rfl);go_in;go_upto_region 1 with fail;have S1:=SV.new h;generalize World.alloc w _=w1 at S1 ⊢
 cases hs:iT (lk L) i [x] with
 | true=>
  have hC:=S1.aaQ [x] aI #[.string x] rfl 1 rfl hs;have HS:=aN hs;clear hs;go_upto_block 2 with (go_at_call 124;refine hC.mono ?_;rintro e w2 ⟨rfl,S2⟩);refine(S2.eK (uU pb L (i+1) w2 S2.ps)).mono ?_;rintro e w3 (⟨x,hr,rfl,hg⟩|⟨t,j3,k3,n3,a3,s3,o3,m3,c3,hr,rfl,S3⟩)
  ·exact rV
  have H1:=aN hr;clear hr;have:=AAD (S3.facts 0 rfl);go_wp2_with fail;have S4:=S3.fY 0 rfl k3 n3 a3 s3 (.slice o3 m3 c3);refine nX (S4.facts 0 rfl) Tryz.results206 ?_;exact Jy
 | false=>
  have hC:=S1.abQ [x] aI #[.string x] rfl 1 rfl hs;have HS:=aN hs;clear hs;go_wp2_with (first|(go_at_call 124;refine hC.mono ?_;rintro e w2 ⟨rfl,S2⟩)|(go_at_call 88;refine S2.Mn.mono ?_;rintro e w3 ⟨rfl,S3⟩;have:=AAD (S3.facts 0 rfl)));have S4:=S3.fY 0 rfl (iq 10) (iq 0) (iq 0) (.string ⟨#[]⟩) (.slice none 0 0);refine nX (S4.facts 0 rfl) Tryz.results206 ?_;exact Jf
theorem GH:AAA 205 #[pq pb,x] w (aU pb L w (jK (lk L) x i)):=by
 have HU:=aN (show jK (lk L) x i=if iT (lk L) i [x]then dB (lk L) (i+1)else .ok (none_,i)from rfl);go_in;go_upto_region 1 with fail;have S1:=SV.new h;generalize World.alloc w _=w1 at S1 ⊢
 cases hs:iT (lk L) i [x] with
 | true=>
  have hC:=S1.aaQ [x] aI #[.string x] rfl 1 rfl hs;have HS:=aN hs;clear hs;go_upto_block 2 with (go_at_call 124;refine hC.mono ?_;rintro e w2 ⟨rfl,S2⟩);refine(S2.eK (fA pb L (i+1) w2 (aS _) S2.ps)).mono ?_;rintro e w3 (⟨x,hr,rfl,hg⟩|⟨t,j3,k3,n3,a3,s3,o3,m3,c3,hr,rfl,S3⟩)
  ·exact rV
  have H1:=aN hr;clear hr;have:=AAD (S3.facts 0 rfl);go_wp2_with fail;have S4:=S3.fY 0 rfl k3 n3 a3 s3 (.slice o3 m3 c3);refine nX (S4.facts 0 rfl) Tryz.results205 ?_;exact Jy
 | false=>
  have hC:=S1.abQ [x] aI #[.string x] rfl 1 rfl hs;have HS:=aN hs;clear hs;go_wp2_with (first|(go_at_call 124;refine hC.mono ?_;rintro e w2 ⟨rfl,S2⟩)|(go_at_call 88;refine S2.Mn.mono ?_;rintro e w3 ⟨rfl,S3⟩;have:=AAD (S3.facts 0 rfl)));have S4:=S3.fY 0 rfl (iq 10) (iq 0) (iq 0) (.string ⟨#[]⟩) (.slice none 0 0);refine nX (S4.facts 0 rfl) Tryz.results205 ?_;exact Jf
theorem JK:AAA 212 #[pq pb,x] w (aU pb L w (nP (lk L) x i)):=by
 have HU:=aN (show nP (lk L) x i=if iT (lk L) i [x]then aH (aW (lk L) (i+1) cJ) λ_ j=>aH (yZ (lk L) j) λr j'=>aH (aW (lk L) j' dA) λ_ j2=>.ok (r,j2)else .ok (none_,i)from rfl);go_in;go_upto_region 1 with fail;have S1:=SV.new h;generalize World.alloc w _=w1 at S1 ⊢
 cases hs:iT (lk L) i [x] with
 | true=>
  have hC:=S1.aaQ [x] aI #[.string x] rfl 1 rfl hs;have HS:=aN hs;clear hs;go_upto_block 3 with (go_at_call 124;refine hC.mono ?_;rintro e w2 ⟨rfl,S2⟩);refine(S2.kG cJ).mono ?_;rintro e w3 (⟨x,hr,rfl,hg⟩|⟨j3,hr,rfl,S3⟩)
  ·exact rV
  have H1:=aN hr;clear hr;go_upto_block 4 with fail;refine(S3.eK (Jj pb L j3 w3 (aS _) S3.ps)).mono ?_;rintro e w4 (⟨x,hr,rfl,hg⟩|⟨t,j4,k4,n4,a4,s4,o4,m4,c4,hr,rfl,S4⟩)
  ·unfold gM;go_wp2_with fail;exact⟨rfl,aU.err x (by simp[HU.out,aH,HS.out,H1.out,hr]) hg⟩
  have H2:=aN hr;clear hr;go_upto_region 5 with fail;have S5:=S4.EU (tg k4 n4 a4 s4 o4 m4 c4);generalize World.alloc w4 _=w5 at S5 ⊢;generalize w4.heap.size=B5 at S5 ⊢;go_upto_block 5 with fail;refine(S5.kG dA).mono ?_;rintro e w6 (⟨x,hr,rfl,hg⟩|⟨j6,hr,rfl,S6⟩)
  ·unfold gM;go_wp2_with fail;exact⟨rfl,aU.err x (by simp[HU.out,aH,HS.out,H1.out,H2.out,hr]) hg⟩
  have H3:=aN hr;clear hr;have:=AAD (S6.facts 0 rfl);have:=AAD (S6.facts 1 rfl);go_wp2_with fail;have S7:=S6.fY 1 rfl k4 n4 a4 s4 (.slice o4 m4 c4);refine nX (S7.facts 1 rfl) Tryz.results212 ?_;exact S7.res (.head _) (by simp[HU.out,aH,HS.out,H1.out,H2.out,H3.out]<;>rfl) rfl
 | false=>
  have hC:=S1.abQ [x] aI #[.string x] rfl 1 rfl hs;have HS:=aN hs;clear hs;go_wp2_with (first|(go_at_call 124;refine hC.mono ?_;rintro e w2 ⟨rfl,S2⟩)|(go_at_call 88;refine S2.Mn.mono ?_;rintro e w3 ⟨rfl,S3⟩;have:=AAD (S3.facts 0 rfl)));have S4:=S3.fY 0 rfl (iq 10) (iq 0) (iq 0) (.string ⟨#[]⟩) (.slice none 0 0);refine nX (S4.facts 0 rfl) Tryz.results212 ?_;exact Jf
theorem Ee:AAA 215 #[pq pb,x] w (aU pb L w (fH (lk L) x i)):=by
 have HU:=aN (show fH (lk L) x i=if iT (lk L) i [x]then nP (lk L) x i else .error i from rfl);go_in;go_upto_region 1 with fail;have S1:=SV.new h;generalize World.alloc w _=w1 at S1 ⊢
 cases hs:iT (lk L) i [x] with
 | true=>
  have hC:=S1.GJ [x] aI #[.string x] rfl 1 rfl true hs;have HS:=aN hs;clear hs;go_upto_block 3 with (go_at_call 143;refine hC.mono ?_;rintro e w2 ⟨rfl,S2⟩);refine(S2.eK (JK pb L x i w2 S2.ps)).mono ?_;rintro e w3 (⟨x,hr,rfl,hg⟩|⟨t,j3,k3,n3,a3,s3,o3,m3,c3,hr,rfl,S3⟩)
  ·exact rV
  have H1:=aN hr;clear hr;have:=AAD (S3.facts 0 rfl);go_wp2_with fail;have S4:=S3.fY 0 rfl k3 n3 a3 s3 (.slice o3 m3 c3);refine nX (S4.facts 0 rfl) Tryz.results215 ?_;exact Jy
 | false=>
  have hC:=S1.GJ [x] aI #[.string x] rfl 1 rfl false hs;have HS:=aN hs;clear hs;go_upto_block 2 with (go_at_call 143;refine hC.mono ?_;rintro e w2 ⟨rfl,S2⟩);refine S2.QW.mono ?_;rintro e wf ⟨rfl,hg⟩;unfold gM;go_wp2_with fail;exact⟨rfl,aU.err _ (by simp[HU.out,aH,HS.out]) hg⟩
end
def xM(pb:Nat)(L:List T3)(i:Nat)(w:World)(h:PS w pb L i):AAA 214 #[pq pb] w (Ey pb L w (rT (lk L) i)):=by
 have HU:=aN (show rT (lk L) i=aH (fV (lk L) i [gR]) λ_ j=>aH (aW (lk L) j cJ) λ_ j1=>aH (iN (lk L) j1) λs j2=>aH (aW (lk L) j2 dA) λ_ j3=>.ok (s,j3)from rfl);have S1:=SV.begin h;go_in;go_upto_block 1 with fail;refine(S1.El [gR] aI _ rfl 1 rfl).mono ?_;rintro e w2 (⟨x,hr,rfl,hg⟩|⟨j2,hr,rfl,S2⟩)
 ·unfold gM;go_wp2_with fail;exact⟨rfl,Ey.err x Ar hg⟩
 have H1:=aN hr;clear hr;go_upto_block 2 with fail;refine(S2.kG cJ).mono ?_;rintro e w3 (⟨x,hr,rfl,hg⟩|⟨j3,hr,rfl,S3⟩)
 ·unfold gM;go_wp2_with fail;exact⟨rfl,Ey.err x (by simp[HU.out,aH,H1.out,hr]) hg⟩
 have H2:=aN hr;clear hr;go_upto_block 3 with fail;refine(S3.Bn (rM pb L j3 w3 S3.ps)).mono ?_;rintro e w4 (⟨x,hr,rfl,hg⟩|⟨s4,j4,hr,rfl,S4⟩)
 ·unfold gM;go_wp2_with fail;exact⟨rfl,Ey.err x (by simp[HU.out,aH,H1.out,H2.out,hr]) hg⟩
 have H3:=aN hr;clear hr;go_upto_block 4 with fail;refine(S4.kG dA).mono ?_;rintro e w5 (⟨x,hr,rfl,hg⟩|⟨j5,hr,rfl,S5⟩)
 ·unfold gM;go_wp2_with fail;exact⟨rfl,Ey.err x (by simp[HU.out,aH,H1.out,H2.out,H3.out,hr]) hg⟩
 have H4:=aN hr;clear hr;go_wp2_with fail;go_ret;exact Ey.ok (by simp[HU.out,aH,H1.out,H2.out,H3.out,H4.out]) S5.ok
def Ep(pb:Nat)(L:List T3)(arg:Bool)(i:Nat)(w:World)(h:PS w pb L i):AAA 211 #[pq pb,.bool arg] w (aU pb L w (qL (lk L) arg i)):=by
 have HU:=aN (show qL (lk L) arg i=aH (iN (lk L) i) λs j=>
  if arg&&cD (lk L) j [cJ]then aH (mI (lk L) (j+1)) λx j'=>aH (aW (lk L) j' dA) λ_ j2=>.ok (.mk 12 0 i s [x],j2)else .ok (.mk 12 0 i s [],j)from rfl)
 go_in;go_upto_region 1 with fail;have S1:=SV.new h;generalize World.alloc w _=w1 at S1 ⊢;obtain⟨k1,_⟩:=S1.ps.cells;go_upto_block 2 with fail;refine(S1.Bn (rM pb L i w1 S1.ps)).mono ?_;rintro e w2 (⟨x,hr,rfl,hg⟩|⟨s2,j2,hr,rfl,S2⟩)
 ·exact jQ
 have H1:=aN hr;clear hr;go_upto_region 3 with fail;have S3:=S2.EU (tg 12 0 i s2 none 0 0);generalize World.alloc w2 _=w3 at S3 ⊢;generalize w2.heap.size=B3 at S3 ⊢
 cases arg with
 | false=>
  have:=AAD (S3.facts 0 rfl);have:=AAD (S3.facts 1 rfl);go_wp2_with fail;have S4:=(S3.fY 1 rfl (iq 12) (iq 0) i s2 (.slice none 0 0)).leaf 12 0 i s2;refine nX (S4.facts 1 rfl) Tryz.results211 ?_;exact S4.res (.head _) (by simp[HU.out,aH,H1.out]<;>rfl) rfl
 | true=>
  cases hs:cD (lk L) j2 [cJ] with
  | false=>
   have hC:=S3.Ma cJ hs;have HS:=aN hs;clear hs;go_wp2_with (go_at_call 123;refine hC.mono ?_;rintro e w4 ⟨rfl,S4⟩;have:=AAD (S4.facts 0 rfl);have:=AAD (S4.facts 1 rfl));have S5:=(S4.fY 1 rfl (iq 12) (iq 0) i s2 (.slice none 0 0)).leaf 12 0 i s2;refine nX (S5.facts 1 rfl) Tryz.results211 ?_;exact S5.res (.head _) (by simp[HU.out,aH,H1.out,HS.out]<;>rfl) rfl
  | true=>
   have hC:=S3.LW cJ hs;have HS:=aN hs;clear hs;go_upto_block 4 with (go_at_call 123;refine hC.mono ?_;rintro e w4 ⟨rfl,S4⟩);refine(S4.eK (Ka pb L (j2+1) w4 S4.ps)).mono ?_;rintro e w5 (⟨x,hr,rfl,hg⟩|⟨t5,j5,k5,n5,a5,s5,o5,m5,c5,hr,rfl,S5⟩)
   ·unfold gM;go_wp2_with fail;exact⟨rfl,aU.err x (by simp[HU.out,aH,H1.out,HS.out,hr]) hg⟩
   have H2:=aN hr;clear hr;have S6:=S5.lit (dO.one (S5.tr _ (.head _))) (tg k5 n5 a5 s5 o5 m5 c5) rfl 12 0 i s2 1 1 rfl;have:=AAD (S6.facts 0 rfl);have S7:=S6.put 0 rfl 4 (.slice (some (AAF w5.heap.size 0)) 1 1) aI;go_upto_region 5 with fail;generalize World.setCell _ (AAF B3 4) _=w7 at S7 ⊢;go_upto_block 5 with fail;refine(S7.kG dA).mono ?_;rintro e w8 (⟨x,hr,rfl,hg⟩|⟨j8,hr,rfl,S8⟩)
   ·unfold gM;go_wp2_with fail;exact⟨rfl,aU.err x (by simp[HU.out,aH,H1.out,HS.out,H2.out,hr]) hg⟩
   have H3:=aN hr;clear hr;have:=AAD (S8.facts 0 rfl);have:=AAD (S8.facts 1 rfl);go_wp2_with fail;have S9:=S8.fY 1 rfl (iq 12) (iq 0) i s2 (.slice (some (AAF w5.heap.size 0)) 1 1);refine nX (S9.facts 1 rfl) Tryz.results211 ?_;exact S9.res (.head _) (by simp[HU.out,aH,H1.out,HS.out,H2.out,H3.out]<;>rfl) rfl
end
