/- ParseWhole, part 3: what it stands on. -/
import Derived.Test.YtfdlmcgcckkkdaaGreatDoorV01
import Derived.Lib.Replace
import Derived.Lib.SplitLaws
import Derived.Test.YtfdlmcgcckkkdaaGreatDoorV02
set_option linter.all false
set_option maxHeartbeats 40000000
set_option maxRecDepth 100000
namespace Go.Proofs.YtfdlmcgcckkkdaaGreatDoor
section
namespace Lx
def dbl: Bs→Bs
 | []=>[]
 | c::l=>if c=39 then 39::39::dbl l else c::dbl l
theorem AG(c:UInt8)(l:Bs):dbl (c::l)=if c=39 then 39::39::dbl l else c::dbl l:=rfl
theorem Ry(c:UInt8)(l:Bs)(h:Lib.occAt (c::l) [39] 0=false):¬ c=39:=by
 intro e;subst e;simp[Lib.occAt]at h
theorem Jz(m r:Bs):(∀ j,j<m.length→Lib.occAt (m++r) [39] j=false)→m.count 39=0∧dbl (m++r)=m++dbl r:=by
 induction m with
 | nil=>intro _;exact⟨rfl,rfl⟩
 | cons c m im=>
  intro hm;have hc:¬ c=39:=Ry c (m++r) (hm 0 (by simp));have hr:=im (fun j hj=>by have:=hm (j+1) (by simp;omega);simpa[Lib.occAt]using this);refine⟨by simp[hr.1,hc],?_⟩;rw[List.cons_append,AG,if_neg hc,hr.2];rfl
theorem AD: ∀ (n:Nat) (l:Bs),l.length=n→Lib.replaceK [39] [39,39] (l.count 39) l=dbl l:=by
 intro n
 induction n using Nat.strongRecOn with
 | ind n ih=>
  intro l hl
  rcases Lib.index_spec l [39]with ⟨h1,h2⟩|⟨i,h1,h2,h3,h4⟩
  ·have hno:=Jz l [] (fun j hj=>by rw[List.append_nil];exact h2 j (Nat.le_of_lt hj));rw[List.append_nil]at hno;rw[hno.1,hno.2];simp[Lib.replaceK,dbl]
  ·have hi:i<l.length:=by
    rcases Nat.lt_or_ge i l.length with h'|h'
    ·exact h'
    ·have:i=l.length:=by omega
     subst this;simp[Lib.occAt]at h3
   obtain⟨a,b,hab,hla⟩:∃ a b,l=a++39::b∧a.length=i:=by
    refine⟨l.take i,l.drop (i+1),?_,by simp;omega⟩;have hd:=List.drop_eq_getElem_cons hi;have hc:l[i]=39:=by
     have:=h3;unfold Lib.occAt at this;rw[hd]at this
     simp[List.isPrefixOf]at this;exact this.symm
    rw[hc]at hd;rw[← hd,List.take_append_drop]
   subst hab;have hp:=Jz a (39::b) (fun j hj=>h4 j (by omega));have hcount:(a++39::b).count 39=b.count 39+1:=by
    rw[List.count_append,hp.1];simp
   rw[hcount,Lib.replaceK_hit _ _ _ _ i h1,hp.2,AG,if_pos rfl];have e1:(a++39::b).take i=a:=by rw[← hla];simp
   have e2:(a++39::b).drop (i+[(39:UInt8)].length)=b:=by
    have:i+[(39:UInt8)].length=a.length+1:=by simp[hla]
    rw[this,List.drop_append];simp
   rw[e1,e2,ih b.length (by simp at hl;omega) b rfl];simp
theorem xN(l:Bs):Lib.replaceAll l [39] [39,39]=dbl l:=by
 unfold Lib.replaceAll Lib.replace;rw[if_neg (by decide)];unfold Lib.replaceNum;rw[if_pos (.inl (by decide)),Lib.count_one];exact AD _ l rfl
theorem GM(l:Bs):(dbl l).length=l.length+l.count 39:=by
 induction l with
 | nil=>rfl
 | cons c l ih=>
  rw[AG]
  by_cases h:c=39
  ·subst h;simp[ih];omega
  ·rw[if_neg h];simp[h,ih];omega
theorem count_le(l:Bs):l.count 39≤l.length:=List.count_le_length
def aZ(k:Int)(t:ByteArray):ByteArray:=
 if k=3 then⟨t.data ++ #[66]⟩
 else if k=4 then⟨(39::dbl t.data.toList++[39]).toArray⟩
 else if k=5 then⟨(39::t.data.toList++[39,66]).toArray⟩
 else t
end Lx
end
section
open Go.RowKit Lx
def ML(w:World):Prop:=0<w.heap.size∧∃ m:Int,w.cell? ⟨0,0,none⟩=some (.int .i64 m)
theorem ML.below{w w':World}(h:ML w)(hb:Below w.heap.size w w'):ML w':=by
 obtain⟨h1,m,h2⟩:=h;exact⟨Nat.lt_of_lt_of_le h1 hb.size,m,(hb.cell (p:=⟨_,0,none⟩) h1).trans h2⟩
theorem FA(s:ByteArray)(hs:s.size≤2147483647)(w:World)(hm:ML w):Calls Tryz.prog 132 #[.string s,.string ⟨#[39]⟩,.string ⟨#[39,39]⟩] w fun e w'=>e=.returned (.string ⟨(dbl s.data.toList).toArray⟩)∧Below w.heap.size w w':=by
 obtain⟨_,m,hm⟩:=hm;have hc:Lib.countB s ⟨#[39]⟩≤s.size:=Lib.countB_le _ (by decide) _ s (Nat.le_refl _)
 have h := Tryz.strings_ReplaceAll s ⟨#[39]⟩ ⟨#[39, 39]⟩ m w (by omega) hm (by decide) (by
   have : (⟨#[39, 39]⟩ : ByteArray).size = 2 := rfl
   rw [this]; omega)
 rw[show (⟨#[39]⟩:ByteArray).data.toList=[39]from rfl,show (⟨#[39,39]⟩:ByteArray).data.toList=[39,39]from rfl,xN]at h;exact h
theorem Dt{a b:ByteArray}(h:a=b):Ending.returned (.string a)=.returned (.string b):=by rw[h]
theorem tR{a b:ByteArray}(h:a.data.toList=b.data.toList):a=b:=by obtain⟨⟨x⟩⟩:=a;obtain⟨⟨y⟩⟩:=b;simpa using h
theorem Ck(k:Int)(t:ByteArray)(a:Int)(hs:t.size≤2147483647)(w:World)(hm:ML w):Calls Tryz.prog 90 #[.agg #[.int .i64 k,.string t,.int .i64 a]] w fun e w'=>e=.returned (.string (aZ k t))∧Below w.heap.size w w':=by
 by_cases h3:k=3
 ·subst h3;go_enter Tryz.func90,Tryz.ntmps90
  go_wp2
  go_ret;exact⟨Dt (tR (by simp[aZ])),aC _ _⟩
 by_cases h4:k=4
 ·subst h4;have hd:(dbl t.data.toList).length≤4294967294:=by have:=GM t.data.toList;have h2:=count_le t.data.toList;have:t.data.toList.length=t.size:=rfl;omega
  have hm1:ML (w.alloc (.cells #[.int .i64 4,.string t,.int .i64 a] 43)):=hm.below (aC _ _);go_enter Tryz.func90,Tryz.ntmps90;go_wp2_with (go_at_call 132;refine(FA _ hs _ hm1).mono ?_;rintro e w' ⟨rfl,hb⟩);go_ret;exact⟨Dt (tR (by simp[aZ])),aT _ _ _ hb⟩
 by_cases h5:k=5
 ·subst h5;go_enter Tryz.func90,Tryz.ntmps90
  go_wp2
  go_ret;exact⟨Dt (tR (by simp[aZ])),aC _ _⟩
 ·have e3:(k==3)=false:=by simpa using h3
  have e4:(k==4)=false:=by simpa using h4
  have e5:(k==5)=false:=by simpa using h5
  have hf:aZ k t=t:=by unfold aZ;rw[if_neg h3,if_neg h4,if_neg h5]
  have HF:=Lib.hid hf;clear hf h3 h4 h5;go_enter Tryz.func90,Tryz.ntmps90
  go_wp2
  go_ret;exact⟨by rw[HF.out];rfl,aC _ _⟩
end
section
namespace Lx
def cV: Bs→Bool→Nat×Bool
 | [],p=>(0,p)
 | c::l,p=>
  if (c.toNat:Int)=46∧p=false∧iP (hd l)=true then((cV l true).1+1,(cV l true).2)
  else if iP (c.toNat:Int)=true then((cV l p).1+1,(cV l p).2)
  else(0,p)
theorem gR(c:UInt8)(l:Bs)(p:Bool):cV (c::l) p =
 if (c.toNat:Int)=46∧p=false∧iP (hd l)=true then((cV l true).1+1,(cV l true).2)
 else if iP (c.toNat:Int)=true then((cV l p).1+1,(cV l p).2)else(0,p):=rfl
def isB(c:Int):Bool:=c==66||c==98
structure Got where
 kind:Int
 text:Bs
 len:Nat
 ok:Bool
def mQ(l:Bs):Got:=
 let n:=(cV l false).1
 let p:=(cV l false).2
 if isB (hd (l.drop n))=true∧p=false then⟨3,l.take n,n+1,!fW (hd (l.drop (n+1)))⟩
 else⟨2,l.take n,n,!fW (hd (l.drop n))⟩
def quo: Bs→Option (Bs×Nat)
 | []=>none
 | c::l=>
  if dZ (c.toNat:Int)=false then none
  else if c=39 then
   match l with
   | []=>some ([],1)
   | d::r=>if d=39 then(quo r).map fun x=>(39::x.1,x.2+2)else some ([],1)
  else(quo l).map fun x=>(c::x.1,x.2+1)
def nN(l:Bs):Option Got:=
 (quo (l.drop 1)).map fun x=>
  if isB (hd (l.drop (x.2+1)))=true then⟨5,x.1,x.2+2,!fW (hd (l.drop (x.2+2)))⟩
  else⟨4,x.1,x.2+1,!fW (hd (l.drop (x.2+1)))⟩
def gA: Bs→Nat
 | []=>0
 | c::l=>if fW (c.toNat:Int)=true then gA l+1 else 0
def iE(t:Bs)(signs:List ByteArray):Bool:=signs.any fun s=>decide (s=⟨t.toArray⟩)
def iL(signs:List ByteArray)(l:Bs):Option Got:=
 if xX (hd l)=true then some ⟨1,(l.take (gA l)).map upC,gA l,true⟩
 else if hd l=39 then nN l
 else if iP (hd l)=true∨(hd l=46∧iP (hd (l.drop 1))=true)then some (mQ l)
 else if 2≤l.length∧iE (l.take 2) signs=true then some ⟨6,l.take 2,2,true⟩
 else if 1≤l.length∧iE (l.take 1) signs=true then some ⟨6,l.take 1,1,true⟩
 else none
theorem Fa(l:Bs):∀ p,(cV l p).1≤l.length:=by
 induction l with
 | nil=>intro p;exact Nat.le_refl _
 | cons c l ih=>
  intro p;rw[gR];have h1:=ih true;have h2:=ih p
  split
  ·simp;omega
  ·split
   ·simp;omega
   ·simp
theorem Fh(l:Bs):gA l≤l.length:=by
 induction l with
 | nil=>exact Nat.le_refl _
 | cons c l ih=>unfold gA;split<;>simp<;>omega
theorem AP(s:ByteArray)(k:Nat)(h1:atI s k=46)(h2:iP (atI s (k+1))=true):cV (s.data.toList.drop k) false=((cV (s.data.toList.drop (k+1)) true).1+1,(cV (s.data.toList.drop (k+1)) true).2):=by
 have hk:k<s.size:=by
  rcases Nat.lt_or_ge k s.size with h|h
  ·exact h
  ·rw[lP s k (by omega)]at h1;cases h1
 have e:(k:Int)+1=((k+1:Nat):Int):=by omega
 rw[e,dO s (k+1)]at h2;rw[uB s k (by omega) (by simpa using hk)]at h1;rw[drop_cons s k hk,gR,if_pos ⟨h1,rfl,h2⟩]
theorem Ap(s:ByteArray)(k:Nat)(p:Bool)(h1:iP (atI s k)=true):cV (s.data.toList.drop k) p=((cV (s.data.toList.drop (k+1)) p).1+1,(cV (s.data.toList.drop (k+1)) p).2):=by
 have hk:k<s.size:=by
  rcases Nat.lt_or_ge k s.size with h|h
  ·exact h
  ·rw[lP s k (by omega)]at h1;cases h1
 rw[uB s k (by omega) (by simpa using hk)]at h1;have h1':iP ((s[k].toNat:Nat):Int)=true:=h1;rw[drop_cons s k hk,gR,if_neg,if_pos h1'];rintro⟨h,_⟩;rw[h]at h1';cases h1'
theorem DR(s:ByteArray)(k:Nat)(p:Bool)(h1:iP (atI s k)=false)(h2:¬ (atI s k=46∧p=false∧iP (atI s (k+1))=true)):cV (s.data.toList.drop k) p=(0,p):=by
 rcases Nat.lt_or_ge k s.size with hk|hk
 ·have e:(k:Int)+1=((k+1:Nat):Int):=by omega
  rw[e,dO s (k+1),uB s k (by omega) (by simpa using hk)]at h2;rw[uB s k (by omega) (by simpa using hk)]at h1;have h1':iP ((s[k].toNat:Nat):Int)=false:=h1;rw[drop_cons s k hk,gR,if_neg (by simpa using h2),if_neg (by rw[h1'];decide)]
 ·rw[List.drop_of_length_le (by have:s.data.toList.length=s.size:=rfl;omega)];rfl
theorem rA (c : UInt8) (l : Bs) : quo (c :: l) =
    if dZ (c.toNat : Int) = false then none
    else if c = 39 then
      match l with
      | [] => some ([], 1)
      | d :: r => if d = 39 then (quo r).map fun x => (39 :: x.1, x.2 + 2) else some ([], 1)
    else (quo l).map fun x => (c :: x.1, x.2 + 1) := by
  conv => lhs; unfold quo
  rfl
theorem kU(s:ByteArray)(j:Nat)(h:0≤atI s j):j<s.size:=by
 rcases Nat.lt_or_ge j s.size with h'|h'
 ·exact h'
 ·rw[lP s j (by omega)]at h;omega
theorem lY(s:ByteArray)(j:Nat)(h:j<s.size):atI s (j:Int)=((s[j]'h).toNat:Int):=by
 rw[uB s j (by omega) (by simpa using h)];rfl
theorem IJ(c:UInt8)(n:Nat)(hn:n<256):c=UInt8.ofNat n↔(c.toNat:Int)=n:=by
 constructor
 ·rintro rfl;simp;omega
 ·intro h;have:c.toNat=n:=by omega
  rw[← this];simp
theorem PO(c:UInt8):c=39↔(c.toNat:Int)=39:=IJ c 39 (by decide)
theorem Ka{c:Int}(h:dZ c=true):32≤c∧c≤126:=by unfold dZ at h;simpa using h
theorem NS(s:ByteArray)(j:Nat)(h:dZ (atI s j)=false):quo (s.data.toList.drop j)=none:=by
 rcases Nat.lt_or_ge j s.size with hj|hj
 ·rw[lY s j hj]at h;rw[drop_cons s j hj,rA,if_pos h]
 ·rw[List.drop_of_length_le (by have:s.data.toList.length=s.size:=rfl;omega)];rfl
theorem Nb(s:ByteArray)(j:Nat)(h:atI s j=39)(h2:¬ atI s (j+1)=39):quo (s.data.toList.drop j)=some ([],1):=by
 have hj:=kU s j (by omega);have hg:=lY s j hj;rw[drop_cons s j hj,rA,if_neg (by rw[← hg,h];decide),if_pos (by rw[PO,← hg,h])]
 rcases Nat.lt_or_ge (j+1) s.size with hk|hk
 ·rw[drop_cons s (j+1) hk];have hg2:=lY s (j+1) hk;have:¬ s[j+1]=39:=by rw[PO,← hg2];exact h2
  simp[this]
 ·rw[List.drop_of_length_le (by have:s.data.toList.length=s.size:=rfl;omega)]
theorem MY(s:ByteArray)(j:Nat)(h:atI s j=39)(h2:atI s (j+1)=39):quo (s.data.toList.drop j)=(quo (s.data.toList.drop (j+2))).map fun x=>(39::x.1,x.2+2):=by
 have hj:=kU s j (by omega);have hg:=lY s j hj;have e:(j:Int)+1=((j+1:Nat):Int):=by omega
 rw[e]at h2;have hk:=kU s (j+1) (by omega);have hg2:=lY s (j+1) hk;rw[drop_cons s j hj,rA,if_neg (by rw[← hg,h];decide),if_pos (by rw[PO,← hg,h]),drop_cons s (j+1) hk];have:s[j+1]=39:=by rw[PO,← hg2];exact h2
 simp[this]
theorem Ha(s:ByteArray)(j:Nat)(hj:j<s.size)(h:dZ (atI s j)=true)(h2:¬ atI s j=39):quo (s.data.toList.drop j)=(quo (s.data.toList.drop (j+1))).map fun x=>(s[j]::x.1,x.2+1):=by
 have hg:=lY s j hj;rw[drop_cons s j hj,rA,if_neg (by rw[← hg,h];decide),if_neg (by rw[PO,← hg];exact h2)]
theorem Jv{o:Option (Bs×Nat)}(acc:Bs)(c:UInt8)(n m:Nat):(o.map fun x=>(c::x.1,x.2+m)).map (fun x=>(acc++x.1,x.2+n))=o.map fun x=>((acc++[c])++x.1,x.2+(n+m)):=by
 cases o with
 | none=>rfl
 | some x=>simp;omega
theorem CC(s:ByteArray)(i:Nat)(h:quo (s.data.toList.drop (i+1))=none):nN (s.data.toList.drop i)=none:=by
 unfold nN;rw[List.drop_drop,h];rfl
theorem Ec(s:ByteArray)(i:Nat)(t:Bs)(n:Nat)(h:quo (s.data.toList.drop (i+1))=some (t,n)):nN (s.data.toList.drop i)=some (if isB (atI s ((i+1+n:Nat):Int))=true then⟨5,t,n+2,!fW (atI s ((i+1+n+1:Nat):Int))⟩else⟨4,t,n+1,!fW (atI s ((i+1+n:Nat):Int))⟩):=by
 unfold nN;rw[List.drop_drop,h,dO,dO];simp only[Option.map_some,List.drop_drop]
 rw[show i+(n+1)=i+1+n from by omega,show i+(n+2)=i+1+n+1 from by omega]
theorem Dv: ∀ (l:Bs) (t:Bs) (n:Nat),quo l=some (t,n)→n≤l.length∧t.length≤n:=by
 intro l
 induction h:l.length using Nat.strongRecOn generalizing l with
 | ind m ih=>
  intro t n hq
  match l,h with
  | [],_=>cases hq
  | c::l,h=>
   rw[rA]at hq
   split at hq
   ·cases hq
   ·split at hq
    ·match l,h,hq with
     | [],h,hq=>simp at hq;obtain⟨rfl,rfl⟩:=hq;simp at h;simp;omega
     | d::r,h,hq=>
      simp only at hq
      split at hq
      ·rw[Option.map_eq_some_iff]at hq;obtain⟨⟨t',n'⟩,hq,he⟩:=hq;have:=ih r.length (by simp at h;omega) r rfl t' n' hq
       simp at he h;obtain⟨rfl,rfl⟩:=he;simp;omega
      ·simp at hq h;obtain⟨rfl,rfl⟩:=hq;simp;omega
    ·rw[Option.map_eq_some_iff]at hq;obtain⟨⟨t',n'⟩,hq,he⟩:=hq;have:=ih l.length (by simp at h;omega) l rfl t' n' hq
     simp at he h;obtain⟨rfl,rfl⟩:=he;simp;omega
theorem BP(s:ByteArray)(j:Nat)(h:fW (atI s j)=true)(hj:j<s.size):gA (s.data.toList.drop j)=gA (s.data.toList.drop (j+1))+1:=by
 rw[drop_cons s j hj]
 conv=>lhs;unfold gA
 rw[if_pos (by rw[← lY s j hj];exact h)]
theorem DD(s:ByteArray)(j:Nat)(h:fW (atI s j)=false):gA (s.data.toList.drop j)=0:=by
 rcases Nat.lt_or_ge j s.size with hj|hj
 ·rw[drop_cons s j hj];unfold gA;rw[if_neg (by rw[← lY s j hj,h];decide)]
 ·rw[List.drop_of_length_le (by have:s.data.toList.length=s.size:=rfl;omega)];rfl
theorem MM(s:ByteArray)(j:Nat)(h:fW (atI s j)=true):j<s.size:=by
 rcases Nat.lt_or_ge j s.size with h'|h'
 ·exact h'
 ·rw[lP s j (by omega)]at h;exact absurd h (by decide)
theorem CB(l:Bs)(p:Bool)(h:iP (hd l)=true):1≤(cV l p).1:=by
 cases l with
 | nil=>exact absurd h (by decide)
 | cons c l=>
  rw[gR]
  split
  ·simp
  ·rw[if_pos (by exact h)];simp
theorem Ff(l:Bs)(h:iP (hd l)=true∨(hd l=46∧iP (hd (l.drop 1))=true)):1≤(mQ l).len:=by
 have h1:1≤(cV l false).1:=by
  rcases h with h|⟨h,h2⟩
  ·exact CB l false h
  ·cases l with
   | nil=>exact absurd h (by decide)
   | cons c l=>
    rw[gR,if_pos ⟨h,rfl,h2⟩];simp
 unfold mQ;simp only;split<;>simp<;>omega
theorem vV(signs:List ByteArray)(l:Bs)(g:Got)(h:iL signs l=some g):1≤g.len:=by
 unfold iL at h
 split at h
 ·rename_i hb
  cases h
  cases l with
  | nil=>exact absurd hb (by decide)
  | cons c l=>
   have hp:fW (c.toNat:Int)=true:=by
    have:xX ((c.toNat:Nat):Int)=true:=hb;unfold xX at this;simp at this;exact this.1.1
   simp[gA,hp]
 ·split at h
  ·unfold nN at h;rw[Option.map_eq_some_iff]at h;obtain⟨x,_,rfl⟩:=h
   split<;>simp
  ·split at h
   ·rename_i hn
    cases h;exact Ff l hn
   ·split at h
    ·cases h;simp
    ·split at h
     ·cases h;simp
     ·cases h
def cmt(l:Bs):Option Nat:=
 if Lib.index (l.drop 2) [42,47]<0 then none
 else if (l.take ((Lib.index (l.drop 2) [42,47]).toNat+4)).all (fun c=>dZ (c.toNat:Int)||c==10)then some ((Lib.index (l.drop 2) [42,47]).toNat+4)
 else none
def kQ: Nat→Bs→Nat→Bool×Nat×List (Nat×Nat)
 | 0,_,i=>(true,i,[])
 | f+1,l,i=>
  if hd l=32∨hd l=10 then kQ f (l.drop 1) (i+1)
  else if hd l=47∧hd (l.drop 1)=42 then
   match cmt l with
   | none=>(false,i,[])
   | some n=>((kQ f (l.drop n) (i+n)).1,(kQ f (l.drop n) (i+n)).2.1,(i,i+n)::(kQ f (l.drop n) (i+n)).2.2)
  else(true,i,[])
structure Tok where
 kind:Int
 text:ByteArray
 at_:Nat
structure Res where
 toks:List Tok
 coms:List (Nat×Nat)
 at_:Nat
 err:Int
def Res.OM(t:Tok)(r:Res):Res:={ r with toks:=t::r.toks }
def Res.Qb(c:Nat×Nat)(r:Res):Res:={ r with coms:=c::r.coms }
def sN: Nat→Bs→Nat→Nat→Res
 | 0,_,_,_=>⟨[],[],0,0⟩
 | f+1,l,i,nt=>
  if l=[]then⟨[],[],0,0⟩
  else if hd l=32∨hd l=10 then sN f (l.drop 1) (i+1) nt
  else if hd l=47∧hd (l.drop 1)=42 then
   match cmt l with
   | none=>⟨[],[],i,50⟩
   | some n=>(sN f (l.drop n) (i+n) nt).Qb (i,i+n)
  else
   match iL aI l with
   | none=>⟨[],[],i,50⟩
   | some g=>
    if g.ok=false∨bX g.kind ⟨g.text.toArray⟩=false then⟨[],[],i,50⟩
    else if nt=5000 then⟨[],[],i,2⟩
    else(sN f (l.drop g.len) (i+g.len) (nt+1)).OM ⟨g.kind,⟨g.text.toArray⟩,i⟩
def dC(s:ByteArray):Res:=if 20000<s.size then⟨[],[],0,2⟩else sN s.size s.data.toList 0 0
theorem lI(f:Nat)(l:Bs)(i:Nat)(h1:¬ (hd l=32∨hd l=10))(h2:¬ (hd l=47∧hd (l.drop 1)=42)):kQ f l i=(true,i,[]):=by
 cases f with
 | zero=>rfl
 | succ f=>unfold kQ;rw[if_neg h1,if_neg h2]
theorem vI{l:Bs}{n:Nat}(h:cmt l=some n):4≤n:=by
 unfold cmt at h
 split at h
 ·cases h
 ·split at h
  ·cases h;omega
  ·cases h
theorem wV: ∀ (f g:Nat) (l:Bs) (i:Nat),l.length≤f→l.length≤g→kQ f l i=kQ g l i:=by
 intro f
 induction f with
 | zero=>
  intro g l i hf hg;have:l=[]:=List.eq_nil_of_length_eq_zero (by omega);subst this;rw[lI g [] i (by simp[hd]) (by simp[hd])];rfl
 | succ f ih=>
  intro g l i hf hg
  cases g with
  | zero=>
   have:l=[]:=List.eq_nil_of_length_eq_zero (by omega);subst this;rw[lI (f+1) [] i (by simp[hd]) (by simp[hd])];rfl
  | succ g=>
   cases l with
   | nil=>rw[lI _ [] i (by simp[hd]) (by simp[hd]),lI _ [] i (by simp[hd]) (by simp[hd])]
   | cons c l=>
    simp only[List.length_cons]at hf hg
    unfold kQ
    split
    ·exact ih g _ _ (by simp;omega) (by simp;omega)
    ·split
     ·split
      ·rfl
      ·rename_i n hn
       have:=vI hn;have e:=ih g ((c::l).drop n) (i+n) (by simp;omega) (by simp;omega);rw[e]
     ·rfl
def spc(s:ByteArray)(i:Nat):Bool×Nat×List (Nat×Nat):=kQ (s.size - i) (s.data.toList.drop i) i
theorem eK(s:ByteArray)(i:Nat):(s.data.toList.drop i).length=s.size - i:=by
 have:s.data.toList.length=s.size:=rfl;rw[List.length_drop,this]
theorem Bz(s:ByteArray)(j:Nat)(h:atI s j=32∨atI s j=10):spc s j=spc s (j+1):=by
 have hj:j<s.size:=kU s j (by omega);unfold spc;obtain⟨f,hf⟩:∃ f,s.size - j=f+1:=⟨s.size - j - 1,by omega⟩
 rw[hf]
 conv=>lhs;unfold kQ
 rw[if_pos (by rw[← dO];exact h),List.drop_drop];exact wV _ _ _ _ (by rw[eK];omega) (by rw[eK];omega)
theorem AX(s:ByteArray)(j:Nat)(h1:atI s j=47)(h2:atI s (j+1)=42)(h3:cmt (s.data.toList.drop j)=none):spc s j=(false,j,[]):=by
 have hj:j<s.size:=kU s j (by omega);have e:(j:Int)+1=((j+1:Nat):Int):=by omega
 rw[e,dO]at h2;unfold spc;obtain⟨f,hf⟩:∃ f,s.size - j=f+1:=⟨s.size - j - 1,by omega⟩
 rw[hf];unfold kQ;rw[← dO,if_neg (by omega),List.drop_drop,if_pos ⟨h1,h2⟩,h3]
theorem JI(s:ByteArray)(j n:Nat)(h1:atI s j=47)(h2:atI s (j+1)=42)(h3:cmt (s.data.toList.drop j)=some n):spc s j=((spc s (j+n)).1,(spc s (j+n)).2.1,(j,j+n)::(spc s (j+n)).2.2):=by
 have hj:j<s.size:=kU s j (by omega);have e:(j:Int)+1=((j+1:Nat):Int):=by omega
 rw[e,dO]at h2;have hn:=vI h3;unfold spc;obtain⟨f,hf⟩:∃ f,s.size - j=f+1:=⟨s.size - j - 1,by omega⟩
 rw[hf]
 conv=>lhs;unfold kQ
 rw[← dO,if_neg (by omega),List.drop_drop,if_pos ⟨h1,h2⟩,h3];simp only[List.drop_drop]
 have e:=wV f (s.size - (j+n)) (s.data.toList.drop (j+n)) (j+n) (by rw[eK];omega) (by rw[eK];omega);rw[e]
theorem Ee(s:ByteArray)(j:Nat)(h1:¬ (atI s j=32∨atI s j=10))(h2:¬ (atI s j=47∧atI s (j+1)=42)):spc s j=(true,j,[]):=by
 have e:(j:Int)+1=((j+1:Nat):Int):=by omega
 rw[e,dO s (j+1)]at h2;unfold spc;exact lI _ _ _ (by rw[← dO];exact h1) (by rw[← dO,List.drop_drop];exact h2)
theorem pV(s:ByteArray)(k:Nat):(s.extract k s.size).data.toList=s.data.toList.drop k:=by
 simp[ByteArray.data_extract,List.take_drop]
 rw[List.take_of_length_le];have:s.data.toList.length=s.size:=rfl
 simp at this ⊢; omega
theorem Hq(s:ByteArray)(j:Nat)(h:Lib.index (s.extract (j+2) s.size).data.toList [42,47]<0):cmt (s.data.toList.drop j)=none:=by
 rw[pV]at h;unfold cmt;rw[List.drop_drop,if_pos h]
theorem JH(s:ByteArray)(j k:Nat)(h:Lib.index (s.extract (j+2) s.size).data.toList [42,47]=k):j+k+4≤s.size∧cmt (s.data.toList.drop j)=if ((s.data.toList.drop j).take (k+4)).all (fun c=>dZ (c.toNat:Int)||c==10)then some (k+4)else none:=by
 have hr:=Lib.index_room _ _ (by rw[h];omega);rw[h]at hr;rw[pV]at h hr;have hl:=eK s (j+2);refine⟨?_,?_⟩
 ·rw[hl]at hr;simp at hr;omega
 ·unfold cmt;rw[List.drop_drop,if_neg (by rw[h];omega),h];simp
theorem xL(s:ByteArray)(j p:Nat)(h:j+p<s.size):(s.data.toList.drop j).take (p+1)=(s.data.toList.drop j).take p++[s[j+p]'h]:=by
 rw[List.take_succ_eq_append_getElem (by rw[eK];omega)]
 congr 2
 simp[ByteArray.getElem_eq_getElem_data]
theorem Aa(f:UInt8→Bool)(s:ByteArray)(j p:Nat)(h:j+p<s.size)(h1:((s.data.toList.drop j).take p).all f=true)(h2:f (s[j+p]'h)=true):((s.data.toList.drop j).take (p+1)).all f=true:=by
 rw[xL s j p h,List.all_append,h1];simp[h2]
theorem BV(f:UInt8→Bool)(s:ByteArray)(j p n:Nat)(h:j+p<s.size)(hp:p<n)(h2:f (s[j+p]'h)=false):((s.data.toList.drop j).take n).all f=false:=by
 rw[List.all_eq_false];refine⟨s[j+p]'h,?_,by rw[h2];decide⟩;have hl:p<((s.data.toList.drop j).take n).length:=by rw[List.length_take,eK];omega
 have:((s.data.toList.drop j).take n)[p]'hl=s[j+p]'h:=by simp[ByteArray.getElem_eq_getElem_data]
 rw[← this];exact List.getElem_mem hl
end Lx
end
end Go.Proofs.YtfdlmcgcckkkdaaGreatDoor
