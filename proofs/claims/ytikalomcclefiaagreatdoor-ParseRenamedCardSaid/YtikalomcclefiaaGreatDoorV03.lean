/- Part 03. -/
import Derived.Test.YtikalomcclefiaaGreatDoorV02
set_option linter.all false
set_option maxHeartbeats 0
set_option maxRecDepth 100000
namespace Go.Proofs.YtikalomcclefiaaGreatDoor
section
namespace Lx
def Np: Bs->Bs
 | []=>[]
 | c::l=>if c=39 then 39::39::Np l else c::Np l
def CP(c:UInt8)(l:Bs):Np (c::l)=if c=39 then 39::39::Np l else c::Np l:=rfl
def aLb(c:UInt8)(l:Bs)(h:Lib.occAt (c::l) [39] 0=false):¬ c=39:=by
 intro e;subst e;simp[Lib.occAt]at h
def aoS(m r:Bs):(∀ j,j<m.length->Lib.occAt (m++r) [39] j=false)->m.count 39=0/\Np (m++r)=m++Np r:=by
 induction m with
 | nil=>intro _;exact⟨rfl,rfl⟩
 | cons c m im=>
  intro hm;have hc:¬ c=39:=aLb c (m++r) (hm 0 aI);have hr:=im (λj hj=>by have:=hm (j+1) dW;simpa[Lib.occAt]using this);refine⟨by simp[hr.1,hc],?_⟩;rw[kE,CP,aC hc,hr.2];rfl
def Xj: ∀ (n:Nat) (l:Bs),l.length=n->Lib.replaceK [39] [39,39] (l.count 39) l=Np l:=by
 intro n
 induction n using Nat.strongRecOn with
 | ind n ih=>
  intro l hl
  rcases Lib.index_spec l [39]with ⟨h1,h2⟩|⟨i,h1,h2,h3,h4⟩
  ·have hno:=aoS l [] (λj hj=>by rw[bD];exact h2 j (iH hj));rw[bD]at hno;rw[hno.1,hno.2];simp[Lib.replaceK,Np]
  ·have hi:i<l.length:=by
    rcases cY i l.length with h'|h'
    ·exact h'
    ·have:i=l.length:=by omega
     subst this;simp[Lib.occAt]at h3
   obtain⟨a,b,hab,hla⟩:∃ a b,l=a++39::b/\a.length=i:=by
    refine⟨l.take i,l.drop (i+1),?_,by simp;omega⟩;have hd:=zF hi;have hc:l[i]=39:=by
     have:=h3;unfold Lib.occAt at this;rw[hd]at this
     simp[List.isPrefixOf]at this;exact this.symm
    rw[hc]at hd;rw[<- hd,Lr]
   subst hab;have hp:=aoS a (39::b) (λj hj=>h4 j aB);have hcount:(a++39::b).count 39=b.count 39+1:=by
    rw[List.count_append,hp.1];simp
   rw[hcount,Lib.replaceK_hit _ _ _ _ i h1,hp.2,CP,aF rfl];have e1:(a++39::b).take i=a:=by rw[<- hla];simp
   have e2:(a++39::b).drop (i+[(39:UInt8)].length)=b:=by
    have:i+[(39:UInt8)].length=a.length+1:=by simp[hla]
    rw[this,Dd];simp
   rw[e1,e2,ih b.length (by simp at hl;omega) b rfl];simp
def VN(l:Bs):Lib.replaceAll l [39] [39,39]=Np l:=by
 unfold Lib.replaceAll Lib.replace;rw[aC aD];unfold Lib.replaceNum;rw[aF (.inl aD),Lib.count_one];exact Xj _ l rfl
def alW(l:Bs):(Np l).length=l.length+l.count 39:=by
 induction l with
 | nil=>rfl
 | cons c l ih=>
  rw[CP]
  by_cases h:c=39
  ·subst h;simp[ih];omega
  ·rw[aC h];simp[h,ih];omega
def count_le(l:Bs):l.count 39<=l.length:=List.count_le_length
def eY(k:Int)(t:AAE):ByteArray:=
 if k=3 then⟨t.data ++ #[66]⟩
 else if k=4 then⟨(39::Np t.data.toList++[39]).toArray⟩
 else if k=5 then⟨(39::t.data.toList++[39,66]).toArray⟩
 else t
end Lx
end
section
open Go.RowKit Lx
def ML(w:World):Prop:=0<w.heap.size/\∃ m:Int,w.cell? (AAF 0 0)=some (.int .i64 m)
def ML.below{w w':World}(h:ML w)(hb:Below w.heap.size w w'):ML w':=by
 obtain⟨h1,m,h2⟩:=h;exact⟨gH h1 hb.size,m,(hb.cell (p:=(AAF _ 0)) h1).trans h2⟩
def akQ(s:AAE)(hs:s.size<=2147483647)(w:World)(hm:ML w):AAA 120 #[.string s,.string ⟨#[39]⟩,.string ⟨#[39,39]⟩] w λe w'=>e=.returned (.string ⟨(Np s.data.toList).toArray⟩)/\Below w.heap.size w w':=by
 obtain⟨_,m,hm⟩:=hm;have hc:Lib.countB s ⟨#[39]⟩<=s.size:=Lib.countB_le _ aD _ s (aG _)
 have h:=Tryz.strings_ReplaceAll s ⟨#[39]⟩ ⟨#[39,39]⟩ m w aB hm aD (by
  have:(⟨#[39,39]⟩:ByteArray).size=2:=rfl
  rw[this];omega)
 rw[show (⟨#[39]⟩:ByteArray).data.toList=[39]from rfl,show (⟨#[39,39]⟩:ByteArray).data.toList=[39,39]from rfl,VN]at h;exact h
def aoZ{a b:AAE}(h:a=b):Ending.returned (.string a)=.returned (.string b):=by rw[h]
def KN{a b:AAE}(h:a.data.toList=b.data.toList):a=b:=by obtain⟨⟨x⟩⟩:=a;obtain⟨⟨y⟩⟩:=b;simpa using h
def YB(k:Int)(t:AAE)(a:Int)(hs:t.size<=2147483647)(w:World)(hm:ML w):AAA 80 #[.agg #[.int .i64 k,.string t,.int .i64 a]] w λe w'=>e=.returned (.string (eY k t))/\Below w.heap.size w w':=by
 by_cases h3:k=3
 ·subst h3;exact QC
 by_cases h4:k=4
 ·subst h4;have hd:(Np t.data.toList).length<=4294967294:=by have:=alW t.data.toList;have h2:=count_le t.data.toList;have:t.data.toList.length=t.size:=rfl;omega
  have hm1:ML (w.alloc (.cells #[.int .i64 4,.string t,.int .i64 a] 47)):=hm.below (aJ _ _);go_in;go_wp2_with (go_at_call 120;refine(akQ _ hs _ hm1).mono ?_;rintro e w' ⟨rfl,hb⟩);go_ret;exact⟨aoZ (KN (by simp[eY])),eU _ _ _ hb⟩
 by_cases h5:k=5
 ·subst h5;exact QC
 ·have e3:(k==3)=false:=by simpa using h3
  have e4:(k==4)=false:=by simpa using h4
  have e5:(k==5)=false:=by simpa using h5
  have hf:eY k t=t:=by unfold eY;rw[aC h3,aC h4,aC h5]
  have HF:=aM hf;clear hf h3 h4 h5;go_in
  go_wp2
  go_ret;exact⟨by rw[HF.out];rfl,aJ _ _⟩
end
section
namespace Lx
def dN: Bs->Bool->Nat×Bool
 | [],p=>(0,p)
 | c::l,p=>
  if (c.toNat:Int)=46/\p=false/\gI (hd l)=true then((dN l true).1+1,(dN l true).2)
  else if gI (c.toNat:Int)=true then((dN l p).1+1,(dN l p).2)
  else(0,p)
def iI(c:UInt8)(l:Bs)(p:Bool):dN (c::l) p =
 if (c.toNat:Int)=46/\p=false/\gI (hd l)=true then((dN l true).1+1,(dN l true).2)
 else if gI (c.toNat:Int)=true then((dN l p).1+1,(dN l p).2)else(0,p):=rfl
def Ua(c:Int):Bool:=c==66||c==98
structure Got where
 kind:Int
 text:Bs
 len:Nat
 ok:Bool
def rJ(l:Bs):Got:=
 let n:=(dN l false).1
 let p:=(dN l false).2
 if Ua (hd (l.drop n))=true/\p=false then⟨3,l.take n,n+1,!kK (hd (l.drop (n+1)))⟩
 else⟨2,l.take n,n,!kK (hd (l.drop n))⟩
def quo: Bs->Option (Bs×Nat)
 | []=>none
 | c::l=>
  if jI (c.toNat:Int)=false then none
  else if c=39 then
   match l with
   | []=>some ([],1)
   | d::r=>if d=39 then(quo r).map λx=>(39::x.1,x.2+2)else some ([],1)
  else(quo l).map λx=>(c::x.1,x.2+1)
def vJ(l:Bs):Option Got:=
 (quo (l.drop 1)).map λx=>
  if Ua (hd (l.drop (x.2+1)))=true then⟨5,x.1,x.2+2,!kK (hd (l.drop (x.2+2)))⟩
  else⟨4,x.1,x.2+1,!kK (hd (l.drop (x.2+1)))⟩
def kM: Bs->Nat
 | []=>0
 | c::l=>if kK (c.toNat:Int)=true then kM l+1 else 0
def rG(t:Bs)(signs:List ByteArray):Bool:=signs.any λs=>decide (s=⟨t.toArray⟩)
def gT(signs:List ByteArray)(l:Bs):Option Got:=
 if AF (hd l)=true then some ⟨1,(l.take (kM l)).map upC,kM l,true⟩
 else if hd l=39 then vJ l
 else if gI (hd l)=true\/(hd l=46/\gI (hd (l.drop 1))=true)then some (rJ l)
 else if 2<=l.length/\rG (l.take 2) signs=true then some ⟨6,l.take 2,2,true⟩
 else if 1<=l.length/\rG (l.take 1) signs=true then some ⟨6,l.take 1,1,true⟩
 else none
def Wj(l:Bs):∀ p,(dN l p).1<=l.length:=by
 induction l with
 | nil=>intro p;exact aG _
 | cons c l ih=>
  intro p;rw[iI];have h1:=ih true;have h2:=ih p
  split
  ·simp;omega
  ·split
   ·simp;omega
   ·simp
def Vg(l:Bs):kM l<=l.length:=by
 induction l with
 | nil=>exact aG _
 | cons c l ih=>unfold kM;split<;>simp<;>omega
def Xy(s:AAE)(k:Nat)(h1:fR s k=46)(h2:gI (fR s (k+1))=true):dN (s.data.toList.drop k) false=((dN (s.data.toList.drop (k+1)) true).1+1,(dN (s.data.toList.drop (k+1)) true).2):=by
 have hk:k<s.size:=by
  exact Re
 have e:(k:Int)+1=((k+1:Nat):Int):=by omega
 rw[e,kP s (k+1)]at h2;rw[Hp s k aB AI]at h1;rw[drop_cons s k hk,iI,aF ⟨h1,rfl,h2⟩]
def Xh(s:AAE)(k:Nat)(p:Bool)(h1:gI (fR s k)=true):dN (s.data.toList.drop k) p=((dN (s.data.toList.drop (k+1)) p).1+1,(dN (s.data.toList.drop (k+1)) p).2):=by
 have hk:k<s.size:=by
  exact Re
 rw[Hp s k aB AI]at h1;have h1':gI ((s[k].toNat:Nat):Int)=true:=h1;rw[drop_cons s k hk,iI,aC,aF h1'];rintro⟨h,_⟩;rw[h]at h1';cases h1'
def afO(s:AAE)(k:Nat)(p:Bool)(h1:gI (fR s k)=false)(h2:¬ (fR s k=46/\p=false/\gI (fR s (k+1))=true)):dN (s.data.toList.drop k) p=(0,p):=by
 rcases cY k s.size with hk|hk
 ·have e:(k:Int)+1=((k+1:Nat):Int):=by omega
  rw[e,kP s (k+1),Hp s k aB AI]at h2;rw[Hp s k aB AI]at h1;have h1':gI ((s[k].toNat:Nat):Int)=false:=h1;rw[drop_cons s k hk,iI,aC (by simpa using h2),aC (by rw[h1'];decide)]
 exact Hq
def tO(c:UInt8)(l:Bs):quo (c::l) =
 if jI (c.toNat:Int)=false then none
 else if c=39 then
  match l with
  | []=>some ([],1)
  | d::r=>if d=39 then(quo r).map λx=>(39::x.1,x.2+2)else some ([],1)
 else(quo l).map λx=>(c::x.1,x.2+1):=by
 conv=>lhs;unfold quo
 rfl
def zN(s:AAE)(j:Nat)(h:0<=fR s j):j<s.size:=by
 rcases cY j s.size with h'|h'
 ·exact h'
 ·rw[Du s j aB]at h;omega
def BJ(s:AAE)(j:Nat)(h:j<s.size):fR s (j:Int)=((s[j]'h).toNat:Int):=by
 rw[Hp s j aB qA];rfl
def MI(c:UInt8)(n:Nat)(hn:n<256):c=UInt8.ofNat n↔(c.toNat:Int)=n:=by
 constructor
 ·rintro rfl;simp;omega
 ·intro h;have:c.toNat=n:=by omega
  rw[<- this];simp
def ZD(c:UInt8):c=39↔(c.toNat:Int)=39:=MI c 39 aD
def axV{c:Int}(h:jI c=true):32<=c/\c<=126:=by unfold jI at h;simpa using h
def aGI(s:AAE)(j:Nat)(h:jI (fR s j)=false):quo (s.data.toList.drop j)=none:=by
 rcases cY j s.size with hj|hj
 ·rw[BJ s j hj]at h;rw[drop_cons s j hj,tO,aF h]
 exact Hq
def aFp(s:AAE)(j:Nat)(h:fR s j=39)(h2:¬ fR s (j+1)=39):quo (s.data.toList.drop j)=some ([],1):=by
 have hj:=zN s j aB;have hg:=BJ s j hj;rw[drop_cons s j hj,tO,aC Hn,aF (by rw[ZD,<- hg,h])]
 rcases cY (j+1) s.size with hk|hk
 ·rw[drop_cons s (j+1) hk];have hg2:=BJ s (j+1) hk;have:¬ s[j+1]=39:=by rw[ZD,<- hg2];exact h2
  simp[this]
 ·rw[iF (by have:s.data.toList.length=s.size:=rfl;omega)]
def aGD(s:AAE)(j:Nat)(h:fR s j=39)(h2:fR s (j+1)=39):quo (s.data.toList.drop j)=(quo (s.data.toList.drop (j+2))).map λx=>(39::x.1,x.2+2):=by
 have hj:=zN s j aB;have hg:=BJ s j hj;have e:(j:Int)+1=((j+1:Nat):Int):=by omega
 rw[e]at h2;have hk:=zN s (j+1) aB;have hg2:=BJ s (j+1) hk;rw[drop_cons s j hj,tO,aC Hn,aF (by rw[ZD,<- hg,h]),drop_cons s (j+1) hk];have:s[j+1]=39:=by rw[ZD,<- hg2];exact h2
 simp[this]
def axU(s:AAE)(j:Nat)(hj:j<s.size)(h:jI (fR s j)=true)(h2:¬ fR s j=39):quo (s.data.toList.drop j)=(quo (s.data.toList.drop (j+1))).map λx=>(s[j]::x.1,x.2+1):=by
 have hg:=BJ s j hj;rw[drop_cons s j hj,tO,aC Hn,aC (by rw[ZD,<- hg];exact h2)]
def aoK{o:Option (Bs×Nat)}(acc:Bs)(c:UInt8)(n m:Nat):(o.map λx=>(c::x.1,x.2+m)).map (λx=>(acc++x.1,x.2+n))=o.map λx=>((acc++[c])++x.1,x.2+(n+m)):=by
 cases o with
 | none=>rfl
 | some x=>simp;omega
def adA(s:AAE)(i:Nat)(h:quo (s.data.toList.drop (i+1))=none):vJ (s.data.toList.drop i)=none:=by
 unfold vJ;rw[fE,h];rfl
def afV(s:AAE)(i:Nat)(t:Bs)(n:Nat)(h:quo (s.data.toList.drop (i+1))=some (t,n)):vJ (s.data.toList.drop i)=some (if Ua (fR s ((i+1+n:Nat):Int))=true then⟨5,t,n+2,!kK (fR s ((i+1+n+1:Nat):Int))⟩else⟨4,t,n+1,!kK (fR s ((i+1+n:Nat):Int))⟩):=by
 unfold vJ;rw[fE,h,kP,kP];simp only[tE,fE]
 rw[show i+(n+1)=i+1+n from by omega,show i+(n+2)=i+1+n+1 from by omega]
def aaP: ∀ (l:Bs) (t:Bs) (n:Nat),quo l=some (t,n)->n<=l.length/\t.length<=n:=by
 intro l
 induction h:l.length using Nat.strongRecOn generalizing l with
 | ind m ih=>
  intro t n hq
  match l,h with
  | [],_=>cases hq
  | c::l,h=>
   rw[tO]at hq
   split at hq
   ·cases hq
   ·split at hq
    ·match l,h,hq with
     | [],h,hq=>simp at hq;obtain⟨rfl,rfl⟩:=hq;simp at h;simp;omega
     | d::r,h,hq=>
      simp only at hq
      split at hq
      ·rw[gY]at hq;obtain⟨⟨t',n'⟩,hq,he⟩:=hq;have:=ih r.length wN r rfl t' n' hq
       simp at he h;obtain⟨rfl,rfl⟩:=he;simp;omega
      ·simp at hq h;obtain⟨rfl,rfl⟩:=hq;simp;omega
    ·rw[gY]at hq;obtain⟨⟨t',n'⟩,hq,he⟩:=hq;have:=ih l.length wN l rfl t' n' hq
     simp at he h;obtain⟨rfl,rfl⟩:=he;simp;omega
def ZL(s:AAE)(j:Nat)(h:kK (fR s j)=true)(hj:j<s.size):kM (s.data.toList.drop j)=kM (s.data.toList.drop (j+1))+1:=by
 rw[drop_cons s j hj]
 conv=>lhs;unfold kM
 rw[aF (by rw[<- BJ s j hj];exact h)]
def aeZ(s:AAE)(j:Nat)(h:kK (fR s j)=false):kM (s.data.toList.drop j)=0:=by
 rcases cY j s.size with hj|hj
 ·rw[drop_cons s j hj];unfold kM;rw[aC (by rw[<- BJ s j hj,h];decide)]
 exact Hq
def aFT(s:AAE)(j:Nat)(h:kK (fR s j)=true):j<s.size:=by
 rcases cY j s.size with h'|h'
 ·exact h'
 ·rw[Du s j aB]at h;exact mW
def GY(l:Bs)(p:Bool)(h:gI (hd l)=true):1<=(dN l p).1:=by
 cases l with
 | nil=>exact mW
 | cons c l=>
  rw[iI]
  split
  ·simp
  ·rw[aF (by exact h)];simp
def aiY(l:Bs)(h:gI (hd l)=true\/(hd l=46/\gI (hd (l.drop 1))=true)):1<=(rJ l).len:=by
 have h1:1<=(dN l false).1:=by
  rcases h with h|⟨h,h2⟩
  ·exact GY l false h
  ·cases l with
   | nil=>exact mW
   | cons c l=>
    rw[iI,aF ⟨h,rfl,h2⟩];simp
 unfold rJ;simp only;split<;>simp<;>omega
def EA(signs:List ByteArray)(l:Bs)(g:Got)(h:gT signs l=some g):1<=g.len:=by
 unfold gT at h
 split at h
 ·rename_i hb
  cases h
  cases l with
  | nil=>exact absurd hb aD
  | cons c l=>
   have hp:kK (c.toNat:Int)=true:=by
    have:AF ((c.toNat:Nat):Int)=true:=hb;unfold AF at this;simp at this;exact this.1.1
   simp[kM,hp]
 ·split at h
  ·unfold vJ at h;rw[gY]at h;obtain⟨x,_,rfl⟩:=h
   split<;>simp
  ·split at h
   ·rename_i hn
    cases h;exact aiY l hn
   ·split at h
    ·cases h;simp
    ·split at h
     ·cases h;simp
     ·cases h
def TR(l:Bs):Option Nat:=
 if Lib.index (l.drop 2) [42,47]<0 then none
 else if (l.take ((Lib.index (l.drop 2) [42,47]).toNat+4)).all (λc=>jI (c.toNat:Int)||c==10)then some ((Lib.index (l.drop 2) [42,47]).toNat+4)
 else none
def zS: Nat->Bs->Nat->Bool×Nat×List (Nat×Nat)
 | 0,_,i=>(true,i,[])
 | f+1,l,i=>
  if hd l=32\/hd l=10 then zS f (l.drop 1) (i+1)
  else if hd l=47/\hd (l.drop 1)=42 then
   match TR l with
   | none=>(false,i,[])
   | some n=>((zS f (l.drop n) (i+n)).1,(zS f (l.drop n) (i+n)).2.1,(i,i+n)::(zS f (l.drop n) (i+n)).2.2)
  else(true,i,[])
structure Tok where
 kind:Int
 text:ByteArray
 at_:Nat
structure Og where
 toks:List Tok
 coms:List (Nat×Nat)
 at_:Nat
 err:Int
def Og.alJ(t:Tok)(r:Og):Og:={ r with toks:=t::r.toks }
def Og.axY(c:Nat×Nat)(r:Og):Og:={ r with coms:=c::r.coms }
def Bo: Nat->Bs->Nat->Nat->Og
 | 0,_,_,_=>⟨[],[],0,0⟩
 | f+1,l,i,nt=>
  if l=[]then⟨[],[],0,0⟩
  else if hd l=32\/hd l=10 then Bo f (l.drop 1) (i+1) nt
  else if hd l=47/\hd (l.drop 1)=42 then
   match TR l with
   | none=>⟨[],[],i,50⟩
   | some n=>(Bo f (l.drop n) (i+n) nt).axY (i,i+n)
  else
   match gT bF l with
   | none=>⟨[],[],i,50⟩
   | some g=>
    if g.ok=false\/eP g.kind ⟨g.text.toArray⟩=false then⟨[],[],i,50⟩
    else if nt=5000 then⟨[],[],i,2⟩
    else(Bo f (l.drop g.len) (i+g.len) (nt+1)).alJ ⟨g.kind,⟨g.text.toArray⟩,i⟩
def fX(s:AAE):Og:=if 20000<s.size then⟨[],[],0,2⟩else Bo s.size s.data.toList 0 0
def CX(f:Nat)(l:Bs)(i:Nat)(h1:¬ (hd l=32\/hd l=10))(h2:¬ (hd l=47/\hd (l.drop 1)=42)):zS f l i=(true,i,[]):=by
 cases f with
 | zero=>rfl
 | succ f=>unfold zS;rw[aC h1,aC h2]
def DJ{l:Bs}{n:Nat}(h:TR l=some n):4<=n:=by
 unfold TR at h
 split at h
 ·cases h
 ·split at h
  ·cases h;omega
  ·cases h
def TD: ∀ (f g:Nat) (l:Bs) (i:Nat),l.length<=f->l.length<=g->zS f l i=zS g l i:=by
 intro f
 induction f with
 | zero=>
  intro g l i hf hg;have:l=[]:=kU aB;subst this;rw[CX g [] i rP rP];rfl
 | succ f ih=>
  intro g l i hf hg
  cases g with
  | zero=>
   have:l=[]:=kU aB;subst this;rw[CX (f+1) [] i rP rP];rfl
  | succ g=>
   cases l with
   | nil=>rw[CX _ [] i rP rP,CX _ [] i rP rP]
   | cons c l=>
    simp only[aV]at hf hg
    unfold zS
    split
    ·exact ih g _ _ dW dW
    ·split
     ·split
      ·rfl
      ·rename_i n hn
       have:=DJ hn;have e:=ih g ((c::l).drop n) (i+n) dW dW;rw[e]
     ·rfl
def Ug(s:AAE)(i:Nat):Bool×Nat×List (Nat×Nat):=zS (s.size - i) (s.data.toList.drop i) i
def EK(s:AAE)(i:Nat):(s.data.toList.drop i).length=s.size - i:=by
 exact Rl
def Yh(s:AAE)(j:Nat)(h:fR s j=32\/fR s j=10):Ug s j=Ug s (j+1):=by
 have hj:j<s.size:=zN s j aB;unfold Ug;obtain⟨f,hf⟩:∃ f,s.size - j=f+1:=⟨s.size - j - 1,by omega⟩
 rw[hf]
 conv=>lhs;unfold zS
 rw[aF (by rw[<- kP];exact h),fE];exact TD _ _ _ _ nI nI
def WI(s:AAE)(j:Nat)(h1:fR s j=47)(h2:fR s (j+1)=42)(h3:TR (s.data.toList.drop j)=none):Ug s j=(false,j,[]):=by
 have hj:j<s.size:=zN s j aB;have e:(j:Int)+1=((j+1:Nat):Int):=by omega
 rw[e,kP]at h2;unfold Ug;obtain⟨f,hf⟩:∃ f,s.size - j=f+1:=⟨s.size - j - 1,by omega⟩
 rw[hf];unfold zS;rw[<- kP,aC aB,fE,aF ⟨h1,h2⟩,h3]
def aoD(s:AAE)(j n:Nat)(h1:fR s j=47)(h2:fR s (j+1)=42)(h3:TR (s.data.toList.drop j)=some n):Ug s j=((Ug s (j+n)).1,(Ug s (j+n)).2.1,(j,j+n)::(Ug s (j+n)).2.2):=by
 have hj:j<s.size:=zN s j aB;have e:(j:Int)+1=((j+1:Nat):Int):=by omega
 rw[e,kP]at h2;have hn:=DJ h3;unfold Ug;obtain⟨f,hf⟩:∃ f,s.size - j=f+1:=⟨s.size - j - 1,by omega⟩
 rw[hf]
 conv=>lhs;unfold zS
 rw[<- kP,aC aB,fE,aF ⟨h1,h2⟩,h3];simp only[fE]
 have e:=TD f (s.size - (j+n)) (s.data.toList.drop (j+n)) (j+n) nI nI;rw[e]
def aeQ(s:AAE)(j:Nat)(h1:¬ (fR s j=32\/fR s j=10))(h2:¬ (fR s j=47/\fR s (j+1)=42)):Ug s j=(true,j,[]):=by
 have e:(j:Int)+1=((j+1:Nat):Int):=by omega
 rw[e,kP s (j+1)]at h2;unfold Ug;exact CX _ _ _ (by rw[<- kP];exact h1) (by rw[<- kP,fE];exact h2)
def Je(s:AAE)(k:Nat):(s.extract k s.size).data.toList=s.data.toList.drop k:=by
 simp[ByteArray.data_extract,List.take_drop]
 rw[nQ];have:s.data.toList.length=s.size:=rfl
 simp at this ⊢; omega
def awY(s:AAE)(j:Nat)(h:Lib.index (s.extract (j+2) s.size).data.toList [42,47]<0):TR (s.data.toList.drop j)=none:=by
 rw[Je]at h;unfold TR;rw[fE,aF h]
def aqJ(s:AAE)(j k:Nat)(h:Lib.index (s.extract (j+2) s.size).data.toList [42,47]=k):j+k+4<=s.size/\TR (s.data.toList.drop j)=if ((s.data.toList.drop j).take (k+4)).all (λc=>jI (c.toNat:Int)||c==10)then some (k+4)else none:=by
 have hr:=Lib.index_room _ _ (by rw[h];omega);rw[h]at hr;rw[Je]at h hr;have hl:=EK s (j+2);refine⟨?_,?_⟩
 ·rw[hl]at hr;simp at hr;omega
 ·unfold TR;rw[fE,aC (by rw[h];omega),h];simp
def Wp(s:AAE)(j p:Nat)(h:j+p<s.size):(s.data.toList.drop j).take (p+1)=(s.data.toList.drop j).take p++[s[j+p]'h]:=by
 rw[jY nI]
 congr 2
 simp[UR]
def Xs(f:UInt8->Bool)(s:AAE)(j p:Nat)(h:j+p<s.size)(h1:((s.data.toList.drop j).take p).all f=true)(h2:f (s[j+p]'h)=true):((s.data.toList.drop j).take (p+1)).all f=true:=by
 rw[Wp s j p h,List.all_append,h1];simp[h2]
def ZR(f:UInt8->Bool)(s:AAE)(j p n:Nat)(h:j+p<s.size)(hp:p<n)(h2:f (s[j+p]'h)=false):((s.data.toList.drop j).take n).all f=false:=by
 rw[List.all_eq_false];refine⟨s[j+p]'h,?_,by rw[h2];decide⟩;have hl:p<((s.data.toList.drop j).take n).length:=by rw[jV,EK];omega
 have:((s.data.toList.drop j).take n)[p]'hl=s[j+p]'h:=by simp[UR]
 rw[<- this];exact eJ hl
end Lx
end
