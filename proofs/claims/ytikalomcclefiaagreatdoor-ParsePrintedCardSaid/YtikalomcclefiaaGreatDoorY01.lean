/- Part 01. -/
import Derived.Test.YtikalomcclefiaaGreatDoorV07
set_option linter.all false
set_option maxHeartbeats 0
set_option maxRecDepth 100000
namespace Go.Proofs.YtikalomcclefiaaGreatDoor
section
namespace Lx
def PK{s:AAE}(h:(fX s).err=0):s.size<=20000:=by
 unfold fX at h
 split at h
 ·exact mW
 ·omega
end Lx
namespace Lx
def MA{c:Int}(h:XR c=true):kK c=false:=by rcases JW h with rfl|rfl|rfl<;>decide
def aqV{c:Int}(h:XR c=true):gI c=false:=by rcases JW h with rfl|rfl|rfl<;>decide
def aAC{c d:Int}(h:XR c=true)(hd:XR d=false):c≠d:=by rintro rfl;rw[h]at hd;cases hd
structure aCo (l l':Bs) (n:Nat):Prop where
 len:n<=l'.length
 take:l'.take n=l.take n
 look:XR (hd (l'.drop n))=true\/(hd (l'.drop n)=hd (l.drop n)/\(hd (l'.drop n)=46->gI (hd (l'.drop (n+1)))=true->gI (hd (l.drop (n+1)))=true))
def Ui{l l':Bs}{n:Nat}(h:l'.take n=l.take n)(hn:1<=n):hd l'=hd l:=by
 obtain⟨n,rfl⟩:∃ k,n=k+1:=⟨n - 1,by omega⟩
 cases l<;>cases l'<;>simp_all [hd]
def Uq{l l':Bs}{n m:Nat}(h:l'.take n=l.take n)(hm:m<=n):l'.take m=l.take m:=by
 have:=congrArg (List.take m) h
 rwa[List.take_take,List.take_take,FW hm]at this
def BL{l l':Bs}{n k:Nat}(h:l'.take (k+n)=l.take (k+n)):(l'.drop k).take n=(l.drop k).take n:=by
 have:=congrArg (List.drop k) h
 rwa[List.drop_take,List.drop_take,show k+n - k=n from by omega]at this
def BI{l l':Bs}{n k:Nat}(h:l'.take n=l.take n)(hn:k<n):hd (l'.drop k)=hd (l.drop k):=by
 obtain⟨m,rfl⟩:∃ m,n=k+(m+1):=⟨n - k - 1,by omega⟩
 exact Ui (BL h) aB
def acW(l:Bs):(l.take (kM l)).all (λc=>kK (c.toNat:Int))=true/\kK (hd (l.drop (kM l)))=false:=by
 induction l with
 | nil=>exact⟨rfl,by decide⟩
 | cons c l ih=>
  unfold kM
  split
  ·rename_i h;simp[h];simpa using ih
  ·rename_i h;simp[hd];simpa using h
def WO(l:Bs):∀ n,n<=l.length->(l.take n).all (λc=>kK (c.toNat:Int))=true->kK (hd (l.drop n))=false->kM l=n:=by
 induction l with
 | nil=>intro n h _ _;simp at h;subst h;rfl
 | cons c l ih=>
  intro n h1 h2 h3
  cases n with
  | zero=>unfold kM;rw[aC];rw[List.drop_zero]at h3;rw[show hd (c::l)=(c.toNat:Int)from rfl]at h3;rw[h3];decide
  | succ n=>
   simp only[tD,pH,bA]at h2
   unfold kM;rw[aF h2.1,ih n wX h2.2 (by simpa using h3)]
def ZP(l:Bs):∀ p,gI (hd (l.drop (dN l p).1))=false/\¬ (hd (l.drop (dN l p).1)=46/\(dN l p).2=false/\gI (hd (l.drop ((dN l p).1+1)))=true):=by
 induction l with
 | nil=>intro p;exact⟨(by decide:gI (-1)=false),by rintro⟨h,_⟩;exact absurd (show (-1:Int)=46 from h) aD⟩
 | cons c l ih=>
  intro p;rw[iI]
  split
  ·simpa using ih true
  ·split
   ·simpa using ih p
   ·rename_i h1 h2
    refine⟨by simpa[hd]using h2,?_⟩;rintro⟨a,b,d⟩;exact h1 ⟨a,b,d⟩
def Mw: ∀ (l:Bs) (p:Bool) (l':Bs),(dN l p).1<=l'.length->l'.take (dN l p).1=l.take (dN l p).1->gI (hd (l'.drop (dN l p).1))=false->¬ (hd (l'.drop (dN l p).1)=46/\(dN l p).2=false/\gI (hd (l'.drop ((dN l p).1+1)))=true)->dN l' p=dN l p:=by
 intro l;have stop:∀ (l':Bs) (p:Bool),gI (hd l')=false->¬ (hd l'=46/\p=false/\gI (hd (l'.drop 1))=true)->dN l' p=(0,p):=by
  intro l' p h1 h2
  cases l' with
  | nil=>rfl
  | cons c r=>
   rw[iI,aC (by rintro⟨a,b,d⟩;exact h2 ⟨a,b,d⟩),aC];intro h;rw[show hd (c::r)=(c.toNat:Int)from rfl,h]at h1;cases h1
 induction l with
 | nil=>intro p l' h1 h2 h3 h4;exact stop l' p h3 h4
 | cons c l ih=>
  intro p l';rw[iI]
  split
  ·rename_i hc
   intro h1 h2 h3 h4;simp only at h1 h2 h3 h4
   cases l' with
   | nil=>simp at h1
   | cons d r=>
    simp only[tD,fL,sJ,aV]at h1 h2 h3 h4
    obtain⟨rfl,h2⟩:=h2;have hp:=GY l true hc.2.2;rw[iI,aF ⟨hc.1,hc.2.1,by rw[Ui h2 hp];exact hc.2.2⟩,ih true r aB h2 h3 h4]
  ·rename_i hc
   split
   ·rename_i hd'
    intro h1 h2 h3 h4;simp only at h1 h2 h3 h4
    cases l' with
    | nil=>simp at h1
    | cons d r=>
     simp only[tD,fL,sJ,aV]at h1 h2 h3 h4
     obtain⟨rfl,h2⟩:=h2;rw[iI,aC,aF hd',ih p r aB h2 h3 h4];rintro⟨a,_⟩;rw[a]at hd';cases hd'
   ·intro h1 h2 h3 h4;exact stop l' p h3 h4
def ZA: ∀ (l:Bs) (t:Bs) (n:Nat),quo l=some (t,n)->hd (l.drop n)≠39/\n<=l.length/\1<=n/\(l.take n).all (λc=>jI (c.toNat:Int))=true:=by
 intro l
 induction h:l.length using Nat.strongRecOn generalizing l with
 | ind m ih=>
  intro t n hq
  match l,h with
  | [],_=>cases hq
  | c::l,h=>
   rw[tO]at hq
   split at hq
   ·cases hq
   ·rename_i hs
    have hs':jI (c.toNat:Int)=true:=by simpa using hs
    split at hq
    ·rename_i h39
     match l,h,hq with
     | [],h,hq=>simp at hq;obtain⟨rfl,rfl⟩:=hq;simp[hd,hs']at h ⊢; omega
     | d::r,h,hq=>
      simp only at hq
      split at hq
      ·rename_i hd39
       rw[gY]at hq;obtain⟨⟨t',n'⟩,hq,he⟩:=hq;have hi:=ih r.length wN r rfl t' n' hq
       simp at he h;obtain⟨rfl,rfl⟩:=he
       have hs2:jI (d.toNat:Int)=true:=by rw[hd39];decide
       simp only[sJ,tD,pH,hs',hs2,qV]
       exact⟨hi.1,by omega,by omega,hi.2.2.2⟩
      ·rename_i hd39
       simp at hq h;obtain⟨rfl,rfl⟩:=hq
       refine⟨?_,by omega,by omega,by simp[hs']⟩;intro e;exact hd39 ((ZD d).2 e)
    ·rw[gY]at hq;obtain⟨⟨t',n'⟩,hq,he⟩:=hq;have hi:=ih l.length wN l rfl t' n' hq
     simp at he h;obtain⟨rfl,rfl⟩:=he
     simp only[sJ,tD,pH,hs',qV]
     exact⟨hi.1,by omega,by omega,hi.2.2.2⟩
def afQ: ∀ (l:Bs) (t:Bs) (n:Nat) (l':Bs),quo l=some (t,n)->n<=l'.length->l'.take n=l.take n->hd (l'.drop n)≠39->quo l'=some (t,n):=by
 intro l
 induction h:l.length using Nat.strongRecOn generalizing l with
 | ind m ih=>
  intro t n l' hq h1 h2 h3
  match l,h with
  | [],_=>cases hq
  | c::l,h=>
   have hn:=(ZA _ _ _ hq).2.2.1;obtain⟨n,rfl⟩:∃ k,n=k+1:=⟨n - 1,by omega⟩
   match l' with
   | []=>simp at h1
   | c'::l'=>
   simp only[tD,fL,sJ,aV]at h1 h2 h3 h
   obtain⟨rfl,h2⟩:=h2;rw[tO]at hq ⊢
   split at hq
   ·cases hq
   ·rename_i hs
    rw[aC hs]
    split at hq
    ·rename_i h39
     rw[aF h39]
     match l,h,hq,h2 with
     | [],h,hq,h2=>
      simp at hq;obtain⟨rfl,rfl⟩:=hq
      cases l' with
      | nil=>rfl
      | cons d r=>
       simp only
       rw[aC];intro e;exact h3 ((ZD d).1 e)
     | d::r,h,hq,h2=>
      simp only at hq
      split at hq
      ·rename_i hd39
       rw[gY]at hq;obtain⟨⟨t',n'⟩,hqq,he⟩:=hq
       simp at he h;obtain⟨rfl,rfl⟩:=he
       match l',h1,h2,h3 with
       | [],k1,k2,k3=>simp at k1
       | d'::r',k1,k2,k3=>
        simp only[tD,fL,sJ,aV]at k1 k2 k3
        obtain⟨rfl,k2⟩:=k2;simp only
        rw[aF hd39,ih r.length aB r rfl t' n' r' hqq aB k2 k3];rfl
      ·rename_i hd39
       simp at hq h;obtain⟨rfl,rfl⟩:=hq
       cases l' with
       | nil=>rfl
       | cons d' r'=>
        simp only
        rw[aC];intro e;exact h3 ((ZD d').1 e)
    ·rename_i h39
     rw[aC h39];rw[gY]at hq;obtain⟨⟨t',n'⟩,hq,he⟩:=hq
     simp at he;obtain⟨rfl,rfl⟩:=he
     rw[ih l.length aB l rfl t' n' l' hq aB h2 h3];rfl
def VK(signs:List ByteArray)(l:Bs)(g:Got)(h:gT signs l=some g)(hok:g.ok=true):g.len<=l.length:=by
 have hne:0<l.length:=by
  cases l with
  | nil=>
   have e:gT signs []=none:=by
    unfold gT;rw[aC aD,aC aD,aC aD,aC aI,aC aI]
   rw[e]at h;cases h
  | cons c l=>simp
 have:=YZ signs ⟨l.toArray⟩ 0 g qA hok (by simpa[ByteArray.size]using hne)
 simpa[ByteArray.size]using this
def asJ(c:UInt8)(d:UInt8)(h:XR (d.toNat:Int)=true):rG [c,d] bF=false:=by
 have hd:d=32\/d=10:=by
  rcases JW h with h|h|h
  ·omega
  ·exact .inl ((MI d 32 aD).2 h)
  ·exact .inr ((MI d 10 aD).2 h)
 rcases hd with rfl|rfl<;>simp[rG,bF]
def amD(l l':Bs)(g:Got)(h:gT bF l=some g)(hok:g.ok=true)(hl:aCo l l' g.len):gT bF l'=some g:=by
 have hpos:=EA _ _ _ h;have hhd:=Ui hl.take hpos;have hfit:=VK _ _ _ h hok;unfold gT at h ⊢;rw[hhd]
 split at h
 ·rename_i hb
  rw[aF hb]
  cases h
  have hs:=acW l
  have e : kM l' = kM l := WO l' _ hl.len (by rw [hl.take]; exact hs.1) (by
    rcases hl.look with h | h
    · exact MA h
    · rw [h.1]; exact hs.2)
  rw[e,hl.take]
 ·rename_i hb
  rw[aC hb]
  split at h
  ·rename_i hq
   rw[aF hq];unfold vJ at h ⊢;rw[gY]at h;obtain⟨⟨t,n⟩,hx,rfl⟩:=h;have ha:=ZA _ _ _ hx;have haf:hd (l.drop (n+1))≠39:=by have:=ha.1;rwa[fE,CV]at this
   simp only at hl hok hpos hfit ⊢
   by_cases hB:Ua (hd (l.drop (n+1)))=true
   ·rw[aF hB]at hl hok hpos hfit ⊢;simp only at hl hok hpos hfit
    have e1:hd (l'.drop (n+1))=hd (l.drop (n+1)):=BI hl.take aB
    have hq':quo (l'.drop 1)=some (t,n):=afQ _ _ _ _ hx (by have:=hl.len;simp;omega) (BL (Uq hl.take aB)) (by
     rw[fE,CV,e1];exact haf)
    rw[hq'];simp only[tE]
    rw[e1,aF hB]
    exact TE
   ·rw[aC hB]at hl hok hpos hfit ⊢;simp only at hl hok hpos hfit
    have e0:hd (l'.drop (n+1))≠39/\Ua (hd (l'.drop (n+1)))=false/\kK (hd (l'.drop (n+1)))=false:=by
     rcases hl.look with h|h
     ·exact⟨aAC h aD,afI h,MA h⟩
     ·rw[h.1];exact⟨haf,by simpa using hB,by simpa using hok⟩
    have hq':quo (l'.drop 1)=some (t,n):=afQ _ _ _ _ hx (by have:=hl.len;simp;omega) (BL (by rw[CV];exact hl.take)) (by
     rw[fE,CV];exact e0.1)
    rw[hq'];simp only[tE]
    rw[aC (by rw[e0.2.1];decide),e0.2.2]
    simp[hok]
  ·rename_i hq
   rw[aC hq]
   split at h
   ·rename_i hn
    cases h
    have hn1:2<=(rJ l).len\/gI (hd l)=true:=by
     rcases hn with hn|⟨hn,hn2⟩
     ·exact .inr hn
     ·left
      cases l with
      | nil=>exact absurd hn aD
      | cons c r=>
       have hp:=GY r true hn2;have e:dN (c::r) false=_:=iI c r false;rw[aF ⟨hn,rfl,hn2⟩]at e;unfold rJ;rw[e];simp only
       split
       ·simp only;omega
       ·simp only;omega
    have hn':gI (hd l)=true\/(hd l=46/\gI (hd (l'.drop 1))=true):=by
     rcases hn1 with h2|h2
     ·rcases hn with hn|⟨hn,hn2⟩
      ·exact .inl hn
      ·exact .inr ⟨hn,by rw[BI hl.take aB];exact hn2⟩
     ·exact .inl h2
    rw[aF hn'];have hst:=ZP l false;unfold rJ at hl hok ⊢;simp only at hl hok ⊢
    by_cases hB:Ua (hd (l.drop (dN l false).1))=true/\(dN l false).2=false
    ·rw[aF hB]at hl hok ⊢;simp only at hl hok
     have e1:hd (l'.drop (dN l false).1)=hd (l.drop (dN l false).1):=BI hl.take aB;have hb66:hd (l.drop (dN l false).1)≠46:=by intro e;rw[e]at hB;exact absurd hB.1 aD
     have e:=Mw l false l' (by have:=hl.len;omega) (Uq hl.take aB) (by rw[e1];exact hst.1) (by rw[e1];rintro⟨a,_⟩;exact hb66 a);rw[e,e1,aF hB,Uq hl.take (bU _)]
     exact TE
    ·rw[aC hB]at hl hok ⊢;simp only at hl hok
     have e0:gI (hd (l'.drop (dN l false).1))=false/\¬ (hd (l'.drop (dN l false).1)=46/\(dN l false).2=false/\gI (hd (l'.drop ((dN l false).1+1)))=true)/\
      ¬ (Ua (hd (l'.drop (dN l false).1))=true/\(dN l false).2=false)/\kK (hd (l'.drop (dN l false).1))=false:=by
      rcases hl.look with h|h
      ·exact⟨aqV h,by rintro⟨a,_⟩;exact aAC h aD a,by rw[afI h];simp,MA h⟩
      ·have h2:=h.2;rw[h.1]at h2 ⊢;exact⟨hst.1,by rintro⟨a,b,c⟩;exact hst.2 ⟨a,b,h2 a c⟩,hB,by simpa using hok⟩
     have e:=Mw l false l' hl.len hl.take e0.1 e0.2.1;rw[e,aC e0.2.2.1,hl.take,e0.2.2.2]
     simp[hok]
   ·rename_i hn
    have h46:∀ (k:Bool),(k=true->g.len=1)->(k=false->g.len=2)->¬ (gI (hd l)=true\/(hd l=46/\gI (hd (l'.drop 1))=true)):=by
     rintro k h1 h2 (a|⟨a,b⟩)
     ·exact hn (.inl a)
     ·cases k with
      | false=>rw[BI hl.take (by rw[h2 rfl];decide)]at b;exact hn (.inr ⟨a,b⟩)
      | true=>
       have hlk:=hl.look;rw[h1 rfl]at hlk
       rcases hlk with h|h
       ·rw[aqV h]at b;cases b
       ·rw[h.1]at b;exact hn (.inr ⟨a,b⟩)
    split at h
    ·rename_i hs
     cases h
     rw[aC (h46 false aI aI),aF ⟨hl.len,by rw[hl.take];exact hs.2⟩,hl.take]
    ·rename_i hs2
     split at h
     ·rename_i hs
      cases h
      have hlk:=hl.look;have htk:=hl.take;have hln:=hl.len;simp only at hlk htk hln
      rw[aC (h46 true aI aI),aC,aF ⟨hl.len,by rw[htk];exact hs.2⟩,htk];rintro⟨a,b⟩
      match l',l,a,hs.1,htk,hlk,b,hs2 with
      | c::d::r,c'::s,a,_,htk,hlk,b,hs2=>
       simp at htk
       subst htk;simp only[tD,Co,sJ,List.drop_zero]at b hlk hs2
       rcases hlk with h|h
       ·rw[show hd (d::r)=(d.toNat:Int)from rfl]at h;rw[asJ _ _ h]at b;cases b
       ·cases s with
        | nil=>simp[hd]at h
        | cons e s=>
         have he:d=e:=by
          have h1:(d.toNat:Int)=(e.toNat:Int):=h.1;exact UInt8.toNat_inj.1 aB
         subst he;exact hs2 ⟨by simp,by simpa using b⟩
     ·cases h
def aBn(l l':Bs)(n:Nat)(h:TR l=some n)(hn:n<=l'.length)(ht:l'.take n=l.take n):TR l'=some n:=by
 unfold TR at h
 split at h
 ·cases h
 ·rename_i hneg
  split at h
  ·rename_i hall
   cases h
   rcases Lib.index_spec (l.drop 2) [42,47]with ⟨h1,_⟩|⟨i,h1,h2,h3,h4⟩
   ·omega
   ·rw[h1,CG]at hall hn ht ⊢;have hocc:∀ j,j+2<=i+2->Lib.occAt (l'.drop 2) [42,47] j=Lib.occAt (l.drop 2) [42,47] j:=by
     intro j hj;have e:(l'.drop (2+j)).take 2=(l.drop (2+j)).take 2:=BL (Uq ht aB);unfold Lib.occAt;rw[fE,fE];generalize l'.drop (2+j)=x at e;generalize l.drop (2+j)=y at e
     match x,y with
     | [],[]=>rfl
     | [],_::_=>simp at e
     | _::_,[]=>simp at e
     | [a],[b]=>simp at e;subst e;rfl
     | [a],_::_::_=>simp at e
     | _::_::_,[b]=>simp at e
     | a::b::x,c::d::y=>simp at e;obtain⟨rfl,rfl⟩:=e;simp[List.isPrefixOf]
    have e:Lib.index (l'.drop 2) [42,47]=i:=Lib.index_first dW (by rw[hocc i aB];exact h3) (λj hj=>by rw[hocc j aB];exact h4 j hj);unfold TR;rw[e,aC aB,CG,ht,aF hall]
  ·cases h
def aCh(l:Bs)(n:Nat)(h:TR l=some n):n<=l.length:=by
 have:=aCV (s:=⟨l.toArray⟩) (j:=0) (n:=n) qA
 simpa[ByteArray.size]using this
end Lx
namespace Lx
def Mo: step []=none:=by
 unfold step;rw[aC aD,aC aD];have:gT bF []=none:=by unfold gT;simp[hd];decide
 rw[this]
def aqN{l:Bs}{it:It}(h:step l=some it):l≠[]:=by rintro rfl;rw[Mo]at h;cases h
def As{l:Bs}{it:It}(h:step l=some it):1<=it.len/\it.len<=l.length:=by
 have hne:=aqN h;have h0:0<l.length:=by cases l with
  | nil=>exact absurd rfl hne
  | cons _ _=>simp
 unfold step at h
 split at h
 ·cases h;exact⟨aG _,h0⟩
 ·split at h
  ·rw[gY]at h;obtain⟨n,hn,rfl⟩:=h;have:=DJ hn;exact⟨by simp only;omega,aCh l n hn⟩
  ·split at h
   ·cases h
   ·rename_i g hg
    split at h
    ·cases h
    ·rename_i hok
     cases h
     exact⟨EA _ _ _ hg,VK _ _ _ hg (by simpa using λh=>hok (.inl h))⟩
def YE{l l':Bs}{it:It}(h:step l=some it)(hl:aCo l l' it.len):step l'=some it:=by
 have hp:=As h;have hhd:=Ui hl.take hp.1;unfold step at h ⊢;rw[hhd]
 split at h
 ·rename_i hb;rw[aF hb];exact h
 ·rename_i hb
  rw[aC hb]
  split at h
  ·rename_i hc
   rw[gY]at h;obtain⟨n,hn,rfl⟩:=h;have h4:=DJ hn;have h1:hd (l'.drop 1)=hd (l.drop 1):=BI hl.take (by simp only;omega);rw[aF (by rw[h1];exact hc),aBn l l' n hn hl.len hl.take];rfl
  ·rename_i hc
   split at h
   ·cases h
   ·rename_i g hg
    split at h
    ·cases h
    ·rename_i hok
     cases h
     have hgo:g.ok=true:=by simpa using λh=>hok (.inl h)
     rw[aC,amD l l' g hg hgo hl]
     ·simp only;rw[aC hok]
     ·rintro⟨a,b⟩
      rcases cY 1 g.len with h2|h2
      ·rw[BI hl.take (by exact h2)]at b;exact hc ⟨a,b⟩
      ·have hlk:=hl.look;have e:g.len=1:=by have:=hp.1;simp only at this;omega
       simp only at hlk
       rw[e]at hlk
       rcases hlk with h|h
       ·rw[b]at h;exact mW
       ·rw[h.1]at b;exact hc ⟨a,b⟩
def aCo.more{l:Bs}{n:Nat}(h1:n<=l.length)(c:UInt8)(r:Bs)(hc:c=32\/c=10):aCo l (l++c::r) n:=by
 refine⟨by simp;omega,by rw[List.take_append_of_le_length h1],?_⟩;have hb:XR (c.toNat:Int)=true/\gI (c.toNat:Int)=false:=by rcases hc with rfl|rfl<;>decide
 rcases cY n l.length with h|h
 ·right
  have e0:∀ k,k<l.length->hd ((l++c::r).drop k)=hd (l.drop k):=λk hk=>BI (n:=l.length) aI hk
  refine⟨e0 n h,λ_ hd'=>?_⟩
  rcases cY (n+1) l.length with h'|h'
  ·rwa[e0 _ h']at hd'
  ·have e:n+1=l.length:=by omega
   rw[e,Dd,iF (aG _),Nat.sub_self]at hd';rw[show hd ([]++(c::r).drop 0)=(c.toNat:Int)from rfl,hb.2]at hd';cases hd'
 ·left
  have e:n=l.length:=by omega
  rw[e,Dd,iF (aG _),Nat.sub_self];exact hb.1
def aBe: ∀ (f g:Nat) (l:Bs),l.length<=f->l.length<=g->run f l=run g l:=by
 intro f
 induction f with
 | zero=>
  intro g l hf hg;have:l=[]:=kU aB;subst this
  cases g with
  | zero=>rfl
  | succ g=>unfold run;rw[Mo]
 | succ f ih=>
  intro g l hf hg
  cases g with
  | zero=>
   have:l=[]:=kU aB;subst this;unfold run;rw[Mo]
  | succ g=>
   unfold run
   rcases hs:step l with _|it
   ·rfl
   ·have:=As hs;simp only
    rw[ih g (l.drop it.len) dW dW]
def parse(l:Bs):List It×Bs:=run l.length l
def FN{l:Bs}(h:step l=none):parse l=([],l):=by
 unfold parse
 cases hl:l.length with
 | zero=>rfl
 | succ f=>unfold run;rw[h]
def Ct{l:Bs}{it:It}(h:step l=some it):parse l=(it::(parse (l.drop it.len)).1,(parse (l.drop it.len)).2):=by
 have hs:=As h;unfold parse;obtain⟨f,hf⟩:∃ f,l.length=f+1:=⟨l.length - 1,by omega⟩
 rw[hf]
 conv=>lhs;unfold run
 rw[h];simp only
 rw[aBe f (l.drop it.len).length (l.drop it.len) dW (aG _)]
def auE: parse []=([],[]):=FN Mo
def Yt{P:Bs->Prop}(h0:∀ l,step l=none->P l)(h1:∀ l it,step l=some it->P (l.drop it.len)->P l)(l:Bs):P l:=by
 induction h:l.length using Nat.strongRecOn generalizing l with
 | ind n ih=>
  rcases hs:step l with _|it
  ·exact h0 l hs
  ·have:=As hs;exact h1 l it hs (ih (l.drop it.len).length dW _ rfl)
def wid: List It->Nat
 | []=>0
 | it::r=>it.len+wid r
def Bl: Nat->List It->List Tok
 | _,[]=>[]
 | i,it::r=>match it.tok with
  | some (k,t)=>⟨k,t,i⟩::Bl (i+it.len) r
  | none=>Bl (i+it.len) r
def OH: Nat->List It->List (Nat×Nat)
 | _,[]=>[]
 | i,it::r=>if it.com=true/\it.tok=none then(i,i+it.len)::OH (i+it.len) r else OH (i+it.len) r
def scl(l:Bs)(i nt:Nat):Og:=Bo l.length l i nt
def afJ{l:Bs}(h:step l=none)(hne:l≠[])(i nt:Nat):scl l i nt=⟨[],[],i,50⟩:=by
 unfold scl
 obtain ⟨f, hf⟩ : ∃ f, l.length = f + 1 := ⟨l.length - 1, by cases l with
   | nil => exact absurd rfl hne
   | cons _ _ => simp⟩
 rw[hf,CH,aC hne];unfold step at h
 split at h
 ·cases h
 ·rename_i hb
  rw[aC hb]
  split at h
  ·rename_i hc
   rw[aF hc];rw[Option.map_eq_none_iff]at h;rw[h]
  ·rename_i hc
   rw[aC hc]
   rcases hg:gT bF l with _|g
   ·rfl
   ·rw[hg]at h;simp only at h ⊢
    split at h
    ·rename_i ho;rw[aF ho]
    ·cases h
def ahA{l:Bs}{it:It}(h:step l=some it)(i nt:Nat):scl l i nt=match it.tok with
 | some (k,t)=>if nt=5000 then⟨[],[],i,2⟩else(scl (l.drop it.len) (i+it.len) (nt+1)).alJ ⟨k,t,i⟩
 | none=>if it.com=true then(scl (l.drop it.len) (i+it.len) nt).axY (i,i+it.len)else scl (l.drop it.len) (i+it.len) nt:=by
 have hs:=As h;have hne:=aqN h;unfold scl;obtain⟨f,hf⟩:∃ f,l.length=f+1:=⟨l.length - 1,by omega⟩
 rw[hf,CH,aC hne];have hfu:∀ j mt,Bo f (l.drop it.len) j mt=Bo (l.drop it.len).length (l.drop it.len) j mt:=λj mt=>Fo _ _ _ _ _ dW (aG _)
 unfold step at h
 split at h
 ·rename_i hb
  cases h
  rw[aF hb];exact hfu _ _
 ·rename_i hb
  rw[aC hb]
  split at h
  ·rename_i hc
   rw[aF hc];rw[gY]at h;obtain⟨n,hn,rfl⟩:=h;rw[hn];simp only
   rw[hfu];rfl
  ·rename_i hc
   rw[aC hc]
   rcases hg:gT bF l with _|g
   ·rw[hg]at h;cases h
   ·rw[hg]at h;simp only at h ⊢
    split at h
    ·cases h
    ·rename_i ho
     cases h
     rw[aC ho];simp only
     rw[hfu]
def LY: List It->Nat
 | []=>0
 | it::r=>(if it.tok=none then 0 else 1)+LY r
def aoA(r:List It):∀ i,(Bl i r).length=LY r:=by
 induction r with
 | nil=>intro i;rfl
 | cons it r ih=>
  intro i;have:=ih (i+it.len);unfold Bl LY
  rcases it.tok with _|⟨k,t⟩
  ·simp only;rw[aF trivial];omega
  ·simp only;rw[aC aI,aV];omega
def ayC(l:Bs):∀ i nt,nt+LY (parse l).1<=5000->scl l i nt=⟨Bl i (parse l).1,OH i (parse l).1,if (parse l).2=[]then 0 else i+wid (parse l).1,if (parse l).2=[]then 0 else 50⟩:=by
 refine Yt (P:=λl=>∀ i nt,nt+LY (parse l).1<=5000->scl l i nt=⟨Bl i (parse l).1,OH i (parse l).1,if (parse l).2=[]then 0 else i+wid (parse l).1,if (parse l).2=[]then 0 else 50⟩) (λl h=>?_) (λl it h ih=>?_) l
 ·intro i nt _;rw[FN h]
  by_cases hne:l=[]
  ·subst hne;rfl
  ·rw[afJ h hne,aC hne,aC hne];rfl
 ·intro i nt hn;have hs:=As h;rw[Ct h]at hn ⊢;rw[ahA h];simp only[Bl,OH,wid,LY]at hn ⊢
  rcases ht:it.tok with _|⟨k,t⟩
  ·rw[ht]at hn;simp only[if_true]at hn ⊢
   have e:=ih (i+it.len) nt aB;rw[e]
   by_cases hc:it.com=true
   ·simp[hc,Og.axY,gJ]
   ·simp[hc,gJ]
  ·rw[ht]at hn;rw[aC aI]at hn;simp only
   have e:=ih (i+it.len) (nt+1) aB;rw[aC aB,e]
   simp[Og.alJ,gJ]
def LN(s:AAE)(h:s.size<=20000)(h2:LY (parse s.data.toList).1<=5000):fX s=⟨Bl 0 (parse s.data.toList).1,OH 0 (parse s.data.toList).1,if (parse s.data.toList).2=[]then 0 else wid (parse s.data.toList).1,if (parse s.data.toList).2=[]then 0 else 50⟩:=by
 unfold fX;rw[aC aB];have:=ayC s.data.toList 0 0 aB;unfold scl at this;rw[show s.data.toList.length=s.size from rfl]at this;rw[this];simp
end Lx
namespace Lx
def NI{l r:Bs}(h:0<l.length):hd (l++r)=hd l:=by cases l with
 | nil=>simp at h
 | cons c l=>rfl
def ayX{p:Int->Bool}{t:Bs}(h:t.all (λc=>p (c.toNat:Int))=true)(h0:0<t.length):p (hd t)=true:=by
 cases t with
 | nil=>simp at h0
 | cons c t=>simp at h;exact h.1
def anK: ∀ (l:Bs) (d b:Nat) (pt:Bool) (r:Nat×Nat),uO l d b pt=some r->(dN l pt).1=l.length/\d<=r.1/\(d<r.1->gI (hd l)=true\/(hd l=46/\gI (hd (l.drop 1))=true)):=by
 intro l
 induction l with
 | nil=>intro d b pt r h;cases h;exact⟨rfl,aG _,λh=>absurd h (Gi _)⟩
 | cons c l ih=>
  intro d b pt r h;unfold uO at h;rw[iI]
  split at h
  ·rename_i hd'
   have hi:=ih _ _ _ _ h;have hne:¬ ((c.toNat:Int)=46/\pt=false/\gI (hd l)=true):=by rintro⟨a,_⟩;rw[a]at hd';cases hd'
   rw[aC hne,aF hd'];refine⟨by simp only[hi.1,aV],by omega,λ_=>.inl hd'⟩
  ·rename_i hd'
   split at h
   ·rename_i hp
    have hi:=ih _ _ _ _ h;rw[aF hp];refine⟨by simp only[hi.1,aV],hi.2.1,λ_=>.inr ⟨hp.1,by simpa using hp.2.2⟩⟩
   ·cases h
def Vd(t:AAE)(h:(Ns t).2.2=true):(dN t.data.toList false).1=t.size/\1<=t.size/\(gI (hd t.data.toList)=true\/(hd t.data.toList=46/\gI (hd (t.data.toList.drop 1))=true)):=by
 unfold Ns at h
 split at h
 ·rename_i d b hg
  simp at h
  have:=anK _ _ _ _ _ hg;refine⟨this.1,?_,this.2.2 (by simp only;omega)⟩
  rcases cY 0 t.size with h'|h'
  ·exact h'
  ·have hnil:t.data.toList=[]:=kU (by show t.size=0;omega);rw[hnil]at hg
   cases hg;omega
 ·cases h
def Wt: ∀ (t:Bs) (r:Bs),t.all (λc=>gI (c.toNat:Int))=true->gI (hd r)=false->hd r≠46->dN (t++r) false=(t.length,false):=by
 intro t
 induction t with
 | nil=>
  intro r _ h1 h2
  cases r with
  | nil=>rfl
  | cons c r=>rw[dI,iI,aC (by rintro⟨a,_⟩;exact h2 a),aC (by rw[show gI (c.toNat:Int)=false from h1];decide)];rfl
 | cons c t ih=>
  intro r h h1 h2;simp only[pH,bA]at h
  rw[kE,iI,aC (by rintro⟨a,_⟩;rw[a]at h;exact absurd h.1 aD),aF h.1,ih r h.2 h1 h2];rfl
def aoY(t:Bs)(h:t.all (λc=>FI (c.toNat:Int))=true):t.all (λc=>gI (c.toNat:Int))=true:=by
 rw[iJ]at h ⊢;intro c hc;have:=h c hc;unfold FI at this;unfold gI
 simp at this ⊢
 omega
def apI: ∀ (t:Bs) (r:Bs),t.all (λc=>jI (c.toNat:Int))=true->hd r≠39->quo (Np t++39::r)=some (t,(Np t).length+1):=by
 intro t
 induction t with
 | nil=>
  intro r _ h
  show quo (39::r)=some ([],1)
  rw[tO,aC aD,aF rfl]
  cases r with
  | nil=>rfl
  | cons d r=>simp only;rw[aC];intro e;exact h ((ZD d).1 e)
 | cons c t ih=>
  intro r h hr;simp only[pH,bA]at h
  have e:=ih r h.2 hr;rw[CP]
  by_cases hc:c=39
  ·subst hc;rw[aF rfl,kE,kE,tO,aC aD,aF rfl];simp only
   rw[aF trivial,e];rfl
  ·rw[aC hc,kE,tO,aC (by rw[h.1];decide),aC hc,e];rfl
def aGb: ∀ (l:Bs) (t:Bs) (n:Nat),quo l=some (t,n)->n=(Np t).length+1:=by
 intro l
 induction h:l.length using Nat.strongRecOn generalizing l with
 | ind m ih=>
  intro t n hq
  match l,h with
  | [],_=>cases hq
  | c::l,h=>
   rw[tO]at hq
   split at hq
   ·cases hq
   ·split at hq
    ·match l,h,hq with
     | [],h,hq=>simp at hq;obtain⟨rfl,rfl⟩:=hq;rfl
     | d::r,h,hq=>
      simp only at hq
      split at hq
      ·rw[gY]at hq;obtain⟨⟨t',n'⟩,hq,he⟩:=hq;have:=ih r.length wN r rfl t' n' hq
       simp at he;obtain⟨rfl,rfl⟩:=he
       rw[CP,aF rfl];simp;omega
      ·simp at hq;obtain⟨rfl,rfl⟩:=hq;rfl
    ·rename_i hc
     rw[gY]at hq;obtain⟨⟨t',n'⟩,hq,he⟩:=hq;have:=ih l.length wN l rfl t' n' hq
     simp at he;obtain⟨rfl,rfl⟩:=he
     rw[CP,aC hc];simp;omega
def adP(t:Bs)(h:t.all (λc=>FI (c.toNat:Int))=true):Np t=t:=by
 induction t with
 | nil=>rfl
 | cons c t ih=>
  simp only[pH,bA]at h
  rw[CP,aC,ih h.2];rintro rfl;exact absurd h.1 aD
def awZ(t:Bs)(h:t.all (λc=>FI (c.toNat:Int))=true):t.all (λc=>jI (c.toNat:Int))=true:=by
 rw[iJ]at h ⊢;intro c hc;have:=h c hc;unfold FI at this;unfold jI
 simp at this ⊢
 omega
def Cc{p:Int->Bool}{t:AAE}(h:allI p t=true):t.data.toList.all (λc=>p (c.toNat:Int))=true:=h
def agL(t:AAE):qO (1,t)=t.data.toList:=rfl
def aaT(t:AAE):qO (2,t)=t.data.toList:=rfl
def aaZ(t:AAE):qO (3,t)=t.data.toList++[66]:=by
 show (t.data ++ #[66]).toList=_
 simp
def VX(t:AAE):qO (4,t)=39::(Np t.data.toList++[39]):=rfl
def ZJ(t:AAE):qO (5,t)=39::(t.data.toList++[39,66]):=rfl
def WR(t:AAE):qO (6,t)=t.data.toList:=rfl
def IX{l:Bs}{g:Got}(h1:¬ (hd l=32\/hd l=10))(h2:¬ (hd l=47/\hd (l.drop 1)=42))(h:gT bF l=some g)(hok:g.ok=true)(hc:eP g.kind ⟨g.text.toArray⟩=true):step l=some ⟨g.len,some (g.kind,⟨g.text.toArray⟩),false⟩:=by
 unfold step;rw[aC h1,aC h2,h];simp only
 rw[aC];rintro (a|a)
 ·rw[hok]at a;cases a
 ·rw[hc]at a;cases a
def alP: ∀ t∈bF,step t.data.toList=some ⟨t.size,some (6,t),false⟩:=by
 have h:(bF.all λt=>decide ((step t.data.toList).isSome)&&(match step t.data.toList with
  | none=>false
  | some it=>decide (it.len=t.size)&&decide (it.tok=some (6,t))&&decide (it.com=false)))=true:=by decide +kernel
 intro t ht;have:=iJ.1 h t ht
 rcases hs:step t.data.toList with _|⟨n,o,c⟩
 ·rw[hs]at this;simp at this
 ·rw[hs]at this
  simp at this
  obtain⟨⟨rfl,rfl⟩,rfl⟩:=this;rfl
def WC(a:Int×ByteArray)(h:XB a=true):(a.1=1/\oI a.2=true)\/(a.1=2/\(Ns a.2).2.2=true)\/(a.1=3/\1<=a.2.size/\a.2.size<=31/\allI FI a.2=true)\/(a.1=4/\a.2.size<=255/\allI jI a.2=true)\/(a.1=5/\a.2.size<=64/\allI FI a.2=true)\/(a.1=6/\a.2∈bF):=by
 unfold XB eP at h
 split at h
 ·rename_i e;exact .inl ⟨e,h⟩
 ·split at h
  ·rename_i e;exact .inr (.inl ⟨e,h⟩)
  ·split at h
   ·rename_i e;simp at h;exact .inr (.inr (.inl ⟨e,h.1.1,h.1.2,h.2⟩))
   ·split at h
    ·rename_i e;simp at h;exact .inr (.inr (.inr (.inl ⟨e,h.1,h.2⟩)))
    ·split at h
     ·rename_i e;simp at h;exact .inr (.inr (.inr (.inr (.inl ⟨e,h.1,h.2⟩))))
     ·split at h
      ·rename_i e;exact .inr (.inr (.inr (.inr (.inr ⟨e,(eX _ _).1 h⟩))))
      ·cases h
def aEo{t:AAE}(h:upS t=t):t.data.toList.map upC=t.data.toList:=by
 have:=congrArg (λs:ByteArray=>s.data.toList) h
 simpa[upS]using this
def BY{c:Int}(h:kK c=true):¬ (c=32\/c=10)/\c≠47/\c≠39/\c≠46:=by
 refine⟨?_,?_,?_,?_⟩
 ·rintro (rfl|rfl)<;>exact absurd h aD
 ·exact IT
 ·exact IT
 ·exact IT
def Jo{c:Int}(h:gI c=true):kK c=true:=by unfold kK;simp[h]
def arD{c:Int}(h:gI c=true):AF c=false:=by unfold AF;simp[h]
def aCZ{c:Int}(h:AF c=true):kK c=true:=by unfold AF at h;simp at h;exact h.1.1
def Ix(a:Int×ByteArray)(h:XB a=true):step (qO a)=some ⟨(qO a).length,some a,false⟩:=by
 obtain⟨k,t⟩:=a;have hck:=h;unfold XB at hck
 rcases WC _ h with ⟨e,hh⟩|⟨e,hh⟩|⟨e,h1,h2,h3⟩|⟨e,h1,h2⟩|⟨e,h1,h2⟩|⟨e,hh⟩
 ·simp only at e hh;subst e
  rw[agL];unfold oI xE at hh
  simp at hh
  obtain⟨⟨⟨⟨h1,h2⟩,h3⟩,h4⟩,h5⟩:=hh;have hb:AF (hd t.data.toList)=true:=by
   have:fR t 0=hd t.data.toList:=kP t 0
   rwa[this]at h3
  have hn:kM t.data.toList=t.data.toList.length:=WO _ _ (aG _) (by rw[jP];exact h4) (by rw[vZ];decide);have hx:gT bF t.data.toList=some ⟨1,t.data.toList,t.data.toList.length,true⟩:=by
   unfold gT;rw[aF hb,hn,jP,aEo h5]
  have hp:=BY (aCZ hb);have:=IX hp.1 (λh=>hp.2.1 h.1) hx rfl Al;rw[this]
 ·simp only at e hh;subst e
  rw[aaT];obtain⟨h1,h2,h3⟩:=Vd t hh;have hx:gT bF t.data.toList=some ⟨2,t.data.toList,t.data.toList.length,true⟩:=by
   unfold gT;have hh:AF (hd t.data.toList)=false/\hd t.data.toList≠39:=by
    rcases h3 with h|⟨h,_⟩
    ·exact⟨arD h,(BY (Jo h)).2.2.1⟩
    ·rw[h];decide
   rw[aC (by rw[hh.1];decide),aC hh.2,aF h3];unfold rJ;simp only
   rw[h1,show t.size=t.data.toList.length from rfl,vZ,aC (by rintro⟨a,_⟩;exact absurd a aD),jP];rfl
  have hh:¬ (hd t.data.toList=32\/hd t.data.toList=10)/\hd t.data.toList≠47:=by
   rcases h3 with h|⟨h,_⟩
   ·exact⟨(BY (Jo h)).1,(BY (Jo h)).2.1⟩
   ·rw[h];decide
  have:=IX hh.1 (λh=>hh.2 h.1) hx rfl Al;rw[this]
 ·simp only at e h1 h2 h3;subst e
  rw[aaZ];have hdg:=aoY _ (Cc h3);have hn:=Wt t.data.toList [66] hdg aD aD;have hlen:0<t.data.toList.length:=h1;have hh:gI (hd (t.data.toList++[66]))=true:=by rw[NI hlen];exact ayX hdg hlen
  have hx:gT bF (t.data.toList++[66])=some ⟨3,t.data.toList,t.data.toList.length+1,true⟩:=by
   unfold gT;rw[aC (by rw[arD hh];decide),aC (BY (Jo hh)).2.2.1,aF (.inl hh)];unfold rJ;rw[hn];simp only
   rw[Ac (aG _),vZ,aF ⟨by decide,trivial⟩,List.take_append_of_le_length (aG _),jP,
    iF aI]
   rfl
  have hp:=BY (Jo hh);have:=IX hp.1 (λh=>hp.2.1 h.1) hx rfl Al;exact Jr
 ·simp only at e h1 h2;subst e
  rw[VX];have hq:=apI t.data.toList [] (Cc h2) aD;have hx:gT bF (39::(Np t.data.toList++[39]))=some ⟨4,t.data.toList,(Np t.data.toList).length+1+1,true⟩:=by
   unfold gT;rw[aC Tl,aF (show hd (39::(Np t.data.toList++[39]))=39 from rfl)];unfold vJ;rw[show (39::(Np t.data.toList++[39])).drop 1=Np t.data.toList++[39]from rfl,hq];simp only[tE]
   rw[iF aI,aC aD];rfl
  have:=IX Tl (by rw[show hd (39::(Np t.data.toList++[39]))=39 from rfl];rintro⟨a,_⟩;exact absurd a aD) hx rfl Al;exact Jr
 ·simp only at e h1 h2;subst e
  rw[ZJ];have hq:=apI t.data.toList [66] (awZ _ (Cc h2)) aD;rw[adP _ (Cc h2)]at hq;have hx:gT bF (39::(t.data.toList++[39,66]))=some ⟨5,t.data.toList,t.data.toList.length+1+2,true⟩:=by
   unfold gT;rw[aC Sr,aF (show hd (39::(t.data.toList++[39,66]))=39 from rfl)];unfold vJ;rw[show (39::(t.data.toList++[39,66])).drop 1=t.data.toList++[39,66]from rfl,hq];simp only[tE]
   have e1:(39::(t.data.toList++[39,66])).drop (t.data.toList.length+1+1)=[66]:=by
    rw[sJ,Dd];simp
   rw[e1,aF aD,iF aI];rfl
  have:=IX Sr (by rw[show hd (39::(t.data.toList++[39,66]))=39 from rfl];rintro⟨a,_⟩;exact absurd a aD) hx rfl Al;exact Jr
 ·simp only at e hh;subst e
  rw[WR,alP t hh];rfl
def aDA{l:Bs}{it:It}{a:Int×ByteArray}(h:step l=some it)(ha:it.tok=some a):it.len=(qO a).length/\XB a=true/\it.com=false:=by
 unfold step at h
 split at h
 ·cases h;cases ha
 ·split at h
  ·exact Tt
  ·split at h
   ·cases h
   ·rename_i g hg
    split at h
    ·cases h
    ·rename_i hok
     cases h
     cases ha
     have hc:eP g.kind ⟨g.text.toArray⟩=true:=by simpa using λh=>hok (.inr h)
     refine⟨?_,hc,rfl⟩;simp only
     unfold gT at hg
     split at hg
     ·cases hg;rw[agL];have:=Vg l;simp;omega
     ·split at hg
      ·unfold vJ at hg;rw[gY]at hg;obtain⟨⟨t,n⟩,hq,rfl⟩:=hg;have hw:=aGb _ _ _ hq;simp only at hc ⊢
       split
       ·rename_i hb
        rw[aF hb]at hc;have hb5:t.all (λc=>FI (c.toNat:Int))=true:=by
         rcases WC (5,⟨t.toArray⟩) hc with ⟨e,_⟩|⟨e,_⟩|⟨e,_⟩|⟨e,_⟩|⟨_,_,h⟩|⟨e,_⟩
         ·exact AH
         ·exact AH
         ·exact AH
         ·exact AH
         ·simpa using Cc h
         ·exact AH
        rw[ZJ,hw,adP t hb5];simp
       ·rw[VX,hw];simp
      ·split at hg
       ·cases hg
        unfold rJ;have:=Wj l false;simp only
        split
        ·rw[aaZ];simp;omega
        ·rw[aaT];simp;omega
       ·split at hg
        ·rename_i hs;cases hg;rw[WR];simp;omega
        ·split at hg
         ·rename_i hs;cases hg;rw[WR];simp;omega
         ·cases hg
end Lx
namespace Lx
def aHH(l:Bs):∀ i nt,nt<=5000->(scl l i nt).err=0->(parse l).2=[]/\nt+LY (parse l).1<=5000:=by
 refine Yt (P:=λl=>∀ i nt,nt<=5000->(scl l i nt).err=0->(parse l).2=[]/\nt+LY (parse l).1<=5000) (λl h=>?_) (λl it h ih=>?_) l
 ·intro i nt hnt he;rw[FN h]
  by_cases hne:l=[]
  ·exact⟨hne,hnt⟩
  ·rw[afJ h hne]at he;exact absurd (show (50:Int)=0 from he) aD
 ·intro i nt hnt he;rw[Ct h];rw[ahA h]at he;simp only[LY]
  rcases ht:it.tok with _|⟨k,t⟩
  ·rw[ht]at he;simp only at he
   rw[aF (rfl:(none:Option (Int×ByteArray))=none),dT]
   split at he
   ·exact ih _ _ hnt he
   ·exact ih _ _ hnt he
  ·rw[ht]at he;simp only at he
   rw[aC aI]
   split at he
   ·exact absurd (show (2:Int)=0 from he) aD
   ·have:=ih _ _ aB he;exact⟨this.1,by omega⟩
def aAn(s:AAE)(h:(fX s).err=0):(parse s.data.toList).2=[]/\s.size<=20000/\LY (parse s.data.toList).1<=5000/\fX s=⟨Bl 0 (parse s.data.toList).1,OH 0 (parse s.data.toList).1,0,0⟩:=by
 have hs:=PK h;have he:(scl s.data.toList 0 0).err=0:=by
  unfold fX at h;rw[aC aB]at h;exact h
 have:=aHH _ 0 0 aB he;refine⟨this.1,hs,by omega,?_⟩;rw[LN s hs aB,aF this.1,aF this.1]
def aDa(s:AAE)(h1:(parse s.data.toList).2=[])(h2:s.size<=20000)(h3:LY (parse s.data.toList).1<=5000):fX s=⟨Bl 0 (parse s.data.toList).1,OH 0 (parse s.data.toList).1,0,0⟩:=by
 rw[LN s h2 h3,aF h1,aF h1]
def Ki{l:Bs}{it:It}{a:Int×ByteArray}(h:step l=some it)(ha:it.tok=some a):¬ (hd l=32\/hd l=10)/\¬ (hd l=47/\hd (l.drop 1)=42)/\∃ g,gT bF l=some g/\g.kind=a.1:=by
 unfold step at h
 split at h
 ·cases h;cases ha
 ·rename_i h1
  split at h
  ·exact Tt
  ·rename_i h2
   refine⟨h1,h2,?_⟩
   split at h
   ·cases h
   ·rename_i g hg
    split at h
    ·cases h
    ·cases h;cases ha;exact⟨g,hg,rfl⟩
def Ud{a:Int×ByteArray}(h:XB a=true):1<=(qO a).length:=(As (Ix a h)).1
def aCW{b:Int×ByteArray}(h:XB b=true)(h42:hd (qO b)=42):(qO b).length<=2:=by
 obtain⟨k,t⟩:=b;have hl:=Ud h;obtain⟨h1,h2,g,hg,hk⟩:=Ki (Ix _ h) rfl
 rcases WC _ h with ⟨e,hh⟩|⟨e,hh⟩|⟨e,a1,a2,a3⟩|⟨e,a1,a2⟩|⟨e,a1,a2⟩|⟨e,hh⟩
 ·simp only at e hh;subst e
  unfold gT at hg;rw[h42,aC aD,aC aD,aC (by rintro (a|⟨a,_⟩)<;>exact absurd a aD)]at hg
  split at hg
  ·exact Pv
  ·split at hg
   ·exact Pv
   ·cases hg
 ·simp only at e hh;subst e
  obtain⟨_,_,h3⟩:=Vd t hh;rw[aaT]at h42;rw[h42]at h3
  rcases h3 with a|⟨a,_⟩
  ·exact absurd a aD
  ·exact absurd a aD
 ·simp only at e a1 a2 a3;subst e
  rw[aaZ,NI (by exact a1)]at h42;have:=ayX (aoY _ (Cc a3)) a1;rw[h42]at this;exact rQ
 ·simp only at e;subst e
  rw[VX]at h42;exact absurd (show (39:Int)=42 from h42) aD
 ·simp only at e;subst e
  rw[ZJ]at h42;exact absurd (show (39:Int)=42 from h42) aD
 ·simp only at e hh;subst e
  rw[WR];have:(bF.all λt=>decide (t.data.toList.length<=2))=true:=by decide
  exact iG (iJ.1 this t hh)
def Jg{i:Nat}{it:It}{r:List It}{x:Int×ByteArray}(h:it.tok=some x):(Bl i (it::r)).map kt=x::(Bl (i+it.len) r).map kt:=by
 obtain⟨k,t⟩:=x;simp only[Bl,h,dC];rfl
def Ww{a b:Int×ByteArray}(ha:XB a=true)(hb:XB b=true)(h:xL a b=true):step (qO a++qO b)=some ⟨(qO a).length,some a,false⟩:=by
 unfold xL at h;simp only[bA,dX]at h
 obtain⟨h1,h2⟩:=h;obtain⟨h3,_,_,h4⟩:=aAn _ h1;rw[h4]at h2;have hl:(eY a.1 a.2++eY b.1 b.2).data.toList=qO a++qO b:=by simp[qO,ByteArray.data_append]
 rw[hl]at h2 h3;have pa:=Ud ha;have sa:=Ki (Ix a ha) rfl
 rcases hs:step (qO a++qO b)with _|it
 ·rw[FN hs]at h2;simp[Bl]at h2
 ·rcases ht:it.tok with _|x
  ·exfalso
   have hhd:hd (qO a++qO b)=hd (qO a):=NI pa;have hsl:=As hs;have hs0:=hs;unfold step at hs;rw[hhd,aC sa.1]at hs
   split at hs
   ·rename_i hc
    rw[gY]at hs;obtain⟨n,hn,rfl⟩:=hs;have h4:=DJ hn;simp only at hsl
    rw[aO]at hsl
    rcases cY 1 (qO a).length with h'|h'
    ·refine sa.2.1 ⟨hc.1,?_⟩;rw[<- hc.2];exact(BI (n:=(qO a).length) aI h').symm
    ·have e1:(qO a).length=1:=by omega
     have hb42:hd (qO b)=42:=by
      rw[<- hc.2,<- e1,Ac (aG _),vZ];rfl
     have:=aCW hb hb42;omega
   ·split at hs
    ·cases hs
    ·split at hs
     ·cases hs
     ·cases hs;cases ht
  ·rw[Ct hs]at h2;simp only at h2
   rw[Jg ht]at h2
   injection h2 with h2 h2'
   subst h2;obtain⟨w1,w2,w3⟩:=aDA hs ht;obtain⟨n,o,c⟩:=it;simp only at ht w1 w3
   subst ht;subst w1;subst w3;rfl
def aEd{b:Int×ByteArray}(h:XB b=true)(h46:hd (qO b)=46)(h1:(qO b).length=1):b.1=6/\qO b=[46]/\xY b=false:=by
 have hl:qO b=[46]:=by
  match hb:qO b,h1 with
  | [c],_=>
   rw[hb]at h46;have:=(MI c 46 aD).2 h46;rw[this];rfl
 refine⟨?_,hl,?_⟩
 ·obtain⟨g1,g2,g,hg,hk⟩:=Ki (Ix _ h) rfl;rw[hl]at hg;have:gT bF [46]=some ⟨6,[46],1,true⟩:=by
   unfold gT;rw[aC aD,aC aD,aC aD,aC aD,aF aD];rfl
  rw[this]at hg
  cases hg
  exact hk.symm
 ·unfold xY;rw[Bool.and_eq_false_iff]
  by_cases e:b.1=6
  ·right
   obtain⟨k,t⟩:=b;simp only at e;subst e
   rw[WR]at hl;rw[decide_eq_false_iff_not];simp only
   rintro rfl;exact absurd hl aD
  ·left;exact bX e
def aDX{b c:Int×ByteArray}(hb:XB b=true)(hc:XB c=true)(h6:b.1=6)(hl:qO b=[46])(h:xL b c=true):gI (hd (qO c))=false:=by
 have hs:=Ww hb hc h;rw[hl]at hs;obtain⟨_,_,g,hg,hk⟩:=Ki hs rfl;rw[Fq];intro hd';have e:gT bF ([46]++qO c)=some (rJ ([46]++qO c)):=by
  unfold gT;rw[aC SF,aC SF,aF (.inr ⟨rfl,hd'⟩)]
 rw[e]at hg
 cases hg
 rw[h6]at hk;unfold rJ at hk;simp only at hk
 split at hk
 ·exact absurd (show (3:Int)=6 from hk) aD
 ·exact absurd (show (2:Int)=6 from hk) aD
def alF(a:Int×ByteArray)(r:List (Int×ByteArray))(ha:XB a=true)(hr:r.all XB=true):step (iK (a::r))=some ⟨(qO a).length,some a,false⟩:=by
 have hs:=Ix a ha;have brkcase:∀ (c:UInt8) (X:Bs),c=32\/c=10->step (qO a++c::X)=some ⟨(qO a).length,some a,false⟩:=λc X hc=>YE hs (aCo.more (aG _) c X hc)
 rw[wM]
 by_cases hsm:xY a=true
 ·have e:oH a r=[10]:=by unfold oH;cases r<;>exact aF hsm
  rw[e];exact brkcase 10 _ (.inr rfl)
 ·cases r with
  | nil=>
   have e:oH a []=[]:=by unfold oH;exact aC hsm
   rw[e]
   simpa[iK]using hs
  | cons b r=>
   simp only[pH,bA]at hr
   by_cases ht:xL a b=true
   ·have e:oH a (b::r)=[]:=by rw[DW,aC hsm,aF ht]
    rw[e,dI,wM];have hst:=Ww ha hr.1 ht;have pb:=Ud hr.1;refine YE hst ⟨by simp,by simp,.inr ?_⟩;simp only
    rw[Ac (aG _),Ac (aG _),vZ,dI,dI];refine⟨NI pb,?_⟩;rw[NI pb];intro h46 hdg;rw[<- fE,Ac (aG _),vZ,dI]at hdg ⊢
    rcases cY 1 (qO b).length with h'|h'
    ·rwa[BI (n:=(qO b).length) (l:=qO b) aI h']at hdg
    ·exfalso
     have e1:(qO b).length=1:=by omega
     obtain⟨d1,d2,d3⟩:=aEd hr.1 h46 e1;rw[d2]at hdg;have hdg:gI (hd (oH b r++iK r))=true:=hdg
     cases r with
     | nil=>
      have e:oH b []=[]:=by unfold oH;rw[d3];rfl
      rw[e]at hdg;exact absurd (show gI (-1)=true from hdg) aD
     | cons c r=>
      simp only[pH,bA]at hr
      rw[DW,d3]at hdg;simp only[FY,if_false]at hdg
      by_cases htc:xL b c=true
      ·rw[aF htc,dI]at hdg;rw[wM,NI (Ud hr.2.1),aDX hr.1 hr.2.1 d1 d2 htc]at hdg
       cases hdg
      ·rw[aC htc]at hdg;exact absurd hdg (by rw[show hd ([32]++iK (c::r))=32 from rfl];decide)
   ·have e:oH a (b::r)=[32]:=by rw[DW,aC hsm,aC ht]
    rw[e];exact brkcase 32 _ (.inl rfl)
def agX: ∀ (l:List (Int×ByteArray)),l.all XB=true->(parse (iK l)).2=[]/\∀ i,(Bl i (parse (iK l)).1).map kt=l:=by
 intro l
 induction l with
 | nil=>intro _;rw[show iK []=[]from rfl,auE];exact⟨rfl,λi=>rfl⟩
 | cons a r ih=>
  intro h;simp only[pH,bA]at h
  have hi:=ih h.2;have hs:=alF a r h.1 h.2;rw[Ct hs];simp only
  have hd1:(iK (a::r)).drop (qO a).length=oH a r++iK r:=by
   rw[wM,Ac (aG _),vZ,dI]
  rw[hd1];have haf:oH a r=[]\/∃ c,oH a r=[c]/\(c=32\/c=10):=by
   unfold oH
   cases r with
   | nil=>
    simp only
    split
    ·exact .inr ⟨10,rfl,.inr rfl⟩
    ·exact .inl rfl
   | cons b r=>
    simp only
    split
    ·exact .inr ⟨10,rfl,.inr rfl⟩
    ·split
     ·exact .inl rfl
     ·exact .inr ⟨32,rfl,.inl rfl⟩
  rcases haf with e|⟨c,e,hc⟩
  ·rw[e,dI];refine⟨hi.1,λi=>?_⟩;rw[Jg (x:=a) rfl,hi.2]
  ·rw[e];have hs2:step ([c]++iK r)=some ⟨1,none,false⟩:=by
    unfold step;rw[aF]
    rcases hc with rfl|rfl
    ·exact .inl rfl
    ·exact .inr rfl
   rw[Ct hs2];simp only
   rw[show ([c]++iK r).drop 1=iK r from rfl];refine⟨hi.1,λi=>?_⟩;rw[Jg (x:=a) rfl];simp only[Bl]
   rw[hi.2]
def ZM(l:List (Int×ByteArray))(h:(gX l).2=0):(fX (gX l).1).err=0/\(fX (gX l).1).at_=0/\(fX (gX l).1).toks.map kt=l:=by
 unfold gX at h ⊢
 split at h
 ·exact mW
 ·rename_i h1
  rw[aC h1]
  split at h
  ·exact mW
  ·rename_i h2
   rw[aC h2]
   split at h
   ·exact mW
   ·rename_i h3
    rw[aC h3];have hp:=agX l (by simpa using h2);have hn:LY (parse (iK l)).1=l.length:=by
     rw[<- aoA _ 0,<- bN (f:=kt),hp.2]
    have:=aDa ⟨(iK l).toArray⟩ (by simpa using hp.1) (by show (iK l).toArray.size<=_;simp;omega) (by show LY (parse (iK l)).1<=5000;omega);rw[this];exact⟨rfl,rfl,by simpa using hp.2 0⟩
end Lx
end
