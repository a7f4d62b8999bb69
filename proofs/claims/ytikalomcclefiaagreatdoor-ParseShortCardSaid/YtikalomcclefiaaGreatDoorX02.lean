/- Part 02. -/
import Derived.Test.YtikalomcclefiaaGreatDoorX01
import Derived.Test.YtikalomcclefiaaGreatDoorV50
set_option linter.all false
set_option maxHeartbeats 0
set_option maxRecDepth 100000
namespace Go.Proofs.YtikalomcclefiaaGreatDoor
section
open Go.RowKit Lx Px
def Tryz.Xo: Go.Shelf.Ren:=⟨λ|41=>21|n=>n,λ|22=>25|23=>47|4=>4|n=>n,λ|n=>n⟩
def Tryz.Zv: Go.Proofs.SlLaysE0.n41 Tryz.prog Tryz.Xo:={
 mixed:=by kernel_rfl
 f41:=⟨Tryz.f21.name,by decide,Tryz.func21.trans (congrArg some aQ)⟩
 t4:=Tryz.underlying4
 a4:=Tryz.isAgg4
 z4:=Tryz.sizeOf4
 v4:=Tryz.zeroValue4
 t22:=Tryz.underlying25
 a22:=Tryz.isAgg25
 z22:=Tryz.sizeOf25
 v22:=Tryz.zeroValue25 }
def Kw(ts:List T3):(tK ts).length=ts.length*3:=by
 induction ts with
 | nil=>rfl
 | cons t ts ih=>unfold tK at *; rw[List.flatMap_cons,aO,ih];simp[Bh];omega
def amY(ts:List T3):∀ u∈tK ts,u.oneCell'=true:=by
 intro u hu;unfold tK at hu;rw[List.mem_flatMap]at hu;obtain⟨t,_,hu⟩:=hu
 simp[Bh]at hu
 rcases hu with rfl|rfl|rfl<;>rfl
def atQ(ts:List T3)(m:Nat)(u:Value)(h:(tK ts)[m]?=some u):∃ j i,j<ts.length/\m=j*3+i/\(Bh ts[j]!)[i]?=some u:=by
 have hm:m<ts.length*3:=by rw[<- Kw];exact(lS.1 h).1
 refine⟨m / 3,m % 3,by omega,by omega,?_⟩;have hj:m / 3<ts.length:=by omega
 have hi:m % 3<3:=by omega
 have ht:(Bh ts[m / 3]!)[m % 3]?=some ((Bh ts[m / 3]!)[m % 3]'(by simp[Bh];omega)):=dQ _;have:=Lq ts (m / 3) hj (m % 3) _ ht;rw[show m / 3*3+m % 3=m from by omega,h]at this;rw[this];exact ht
def awG(v:Value)(ts:List T3)(w:World)(h:fJ w v ts)(hn:ts.length<=1000000):AAA 21 #[v] w λe w'=>∃ v',e=.returned v'/\w'.ownsRow w.heap.size 47 3 v' ts.length (tK ts)/\iY w w':=by
 obtain⟨ao,cap,rfl,h⟩:=h
 by_cases h0:ts=[]
 ·subst h0
  cases ao with
  | none=>
   refine(AnyE.slices_Clone_nil Tryz.Zv 0 cap w).mono ?_;rintro e w' ⟨rfl,rfl⟩;exact⟨_,rfl,tN _ _ _ _,bH _ _⟩
  | some a=>
   clear h;obtain⟨i0,hi0,hz0,hz1,hz2⟩:=nU aCF;have n1:=aP w (.cells #[] 47);have own1:(w.alloc (.cells #[] 47)).ownsRow w.heap.size 47 3 (.slice (some (AAF w.heap.size 0)) 0 0) 0 []:=
    ⟨rfl,.inr ⟨w.heap.size,0,#[],rfl,aG _,n1,aG _,by unfold maxLen;omega,rfl,rfl⟩⟩
   have b1:=aJ w (.cells #[] 47);have hp3:0<3:=by decide
   have q22:∀ (w:World) (a:iD) (n c n' c':Nat),(binOp .eql 25 (.slice a n c) (.slice none n' c')).run Tryz.prog w=.ok (.bool a.isNone) w:=λw a n c n' c'=>Lib.run_eql_slice_nil w _ _ a n c n' c' aAL
   have hno:∀ u∈([]:List Value),u.oneCell'=true:=λu hu=>by cases hu
   have hne:∀ (j:Nat) (u:Value),([]:List Value)[j]?=some u->(w.alloc (.cells #[] 47)).cell? (a.add j)=some u:=λj u hu=>by simp at hu
   go_in;go_wp2_with (at_builtin;refine GB _ rfl _ _ 25 rfl w.heap.size 47 i0 (.agg #[iq 0,.string ⟨#[]⟩,iq 0]) 3 32 aAL hi0 hz0 hz1 hz2 rfl hp3 _ _ _ rfl own1 a 0 cap [] rfl rfl hne hno ?dd3 ?dd4 ?dd5 ?_)
   case dd3=>decide
   case dd4=>decide
   case dd5=>simp
   intro v' w' own2 hg _;go_wp2_with fail;go_ret;exact⟨v',rfl,own2,b1.grown hg aI (λk hk=>by cases hk;exact aG _)⟩
 ·obtain⟨b,off,rfl,hlt,hc⟩:=h h0;obtain⟨i0,hi0,hz0,hz1,hz2⟩:=nU aCF
  refine(AnyE.slices_Clone Tryz.Zv i0 _ 3 32 hi0 hz0 hz1 hz2 rfl aD Tryz.sizeOf47 b off ts.length cap (tK ts) w (Kw ts) tJ aB
   (λm u hm=>by
    obtain⟨j,i,hj,rfl,hu⟩:=atQ ts m u hm
    rw[<- gJ];exact hc j hj i u hu) (amY ts)).mono ?_
  rintro e w' ⟨v',rfl,hown,_,hb⟩;exact⟨v',rfl,hown,hb⟩
def Aj{P:Program}{mty kt et:TypeId}(hm:P.underlying mty=some (.map kt et))(hk:P.underlying kt=some .string)(w:World)(es:Array MapEntry)(clock:Nat)(s:dL)(val:Value)(hf:Instr.findNow .string (.string s) es.toList 0=some none):(Instr.mapUpdate mty (.map (some w.heap.size)) (.string s) val).run P (w.alloc (.map es clock))=.ok () (w.alloc (.map (es.push { key:=.string s,val:=val,born:=clock }) (clock+1))):=by
 have hb:(w.alloc (.map es clock)).heap[w.heap.size]?=some (.map es clock):=aP w _;have hc:(Instr.checkKey false 10000 kt (.string s)).run P (w.alloc (.map es clock))=.ok () (w.alloc (.map es clock)):=Gu (k:=.string s) hk wZ false 9999
 simp[Instr.mapUpdate,vH hm,vX hb,hc,vO hk hf,MapKept.run_setObj_map _ hb,Result.andThen]
 have ha:∀ o o':Obj,(w.heap.push o).setIfInBounds w.heap.size o'=w.heap.push o':=λo o'=>by
  apply Array.ext_getElem?
  intro i;rw[Array.getElem?_setIfInBounds,Array.getElem?_push,Array.getElem?_push,Array.size_push]
  by_cases h:i=w.heap.size
  ·subst h;simp
  ·rw[aC λe=>h e.symm,aC h,aC h]
 show (World.mk _ _ _ _ _)=World.mk _ _ _ _ _
 exact congrArg (λx=>(World.mk x w.tape w.drawn w.os w.output)) (ha _ _)
def shL: List (ByteArray×ByteArray):=[(vY,VQ),(Db,akB),(FF,anX),(iC,amG),(Cw,akX),(Cq,Vk),(Cv,ajI),(vU,We),(tM,akT),(CW,alQ)]
def shE: List (ByteArray×ByteArray)->Nat->List MapEntry
 | [],_=>[]
 | q::r,n=>{ key:=.string q.1,val:=.string q.2,born:=n }::shE r (n+1)
def TN: List (ByteArray×ByteArray)->ByteArray->ByteArray
 | [],_=>e0
 | q::r,s=>if q.1=s then q.2 else TN r s
def aEt: ∀ (l:List (ByteArray×ByteArray)) (n:Nat) (x:MapEntry),x∈shE l n->MapKept.IsKey .string x.key:=by
 intro l
 induction l with
 | nil=>intro n x h;cases h
 | cons q r ih=>
  intro n x h
  rcases bO.1 h with rfl|h
  ·simp[MapKept.IsKey]
  ·exact ih _ x h
def aIN(s:dL):∀ (l:List (ByteArray×ByteArray)) (n:Nat),(∀ x,x∈shE l n->x.key≠.string s)->TN l s=e0:=by
 intro l
 induction l with
 | nil=>intro n _;rfl
 | cons q r ih=>
  intro n h;unfold TN;rw[aC λe=>h _ (.head _) (by rw[e])];exact ih _ λx hx=>h x (.tail _ hx)
def aEN: ∀ (l:List (ByteArray×ByteArray)) (n:Nat) (x:MapEntry),x∈shE l n->∃ q,q∈l/\x.key=.string q.1:=by
 intro l
 induction l with
 | nil=>intro n x h;cases h
 | cons q r ih=>
  intro n x h
  rcases bO.1 h with rfl|h
  ·exact⟨q,.head _,rfl⟩
  ·obtain⟨q',h1,h2⟩:=ih _ x h;exact⟨q',.tail _ h1,h2⟩
def aGs(s:dL):∀ (l:List (ByteArray×ByteArray)),l.Pairwise (λp q=>p.1≠q.1)->∀ (n j:Nat) (e:MapEntry),(shE l n)[j]?=some e->e.key=.string s->e.val=.string (TN l s):=by
 intro l
 induction l with
 | nil=>intro _ n j e h;cases j<;>cases h
 | cons q r ih=>
  intro hp n j e h he;have hp:=sB.1 hp;unfold TN
  cases j with
  | zero=>cases h;rw[aF (Value.string.inj he)]
  | succ j=>
   have h':(shE r (n+1))[j]?=some e:=h;obtain⟨q',h1,h2⟩:=aEN _ _ _ (lN h');rw[aC λe'=>hp.1 q' h1 (e'.trans (Value.string.inj (he.symm.trans h2)))];exact ih hp.2 _ _ _ h' he
def aDq(s:dL):(Instr.findNow .string (.string s) (shE shL 0) 0=some none/\TN shL s=e0)\/∃ j,Instr.findNow .string (.string s) (shE shL 0) 0=some (some (j,.string (TN shL s))):=by
 rcases MapKept.findNow_spec (d:=.string) (k:=.string s) wZ (shE shL 0) 0 (aEt _ _)with ⟨h1,h2⟩|⟨j,e,h1,h2,h3⟩
 ·exact .inl ⟨h1,aIN s _ _ h2⟩
 ·exact .inr ⟨0+j,by rw[h1,aGs s shL aE 0 j e h2 h3]⟩
def aEa{P:Program}{mty kt et:TypeId}(hm:P.underlying mty=some (.map kt et))(hk:P.underlying kt=some .string)(he:∀ w,(zeroValue et).run P w=.ok (.string e0) w){w:World}{b:Nat}{es:Array MapEntry}{c:Nat}(hb:w.heap[b]?=some (.map es c))(hes:es.toList=shE shL 0)(s:dL):(Instr.lookup mty (.map (some b)) (.string s) false).run P w=.ok (.string (TN shL s)) w:=by
 have hc:∀ e,(Instr.checkKey e 10000 kt (.string s)).run P w=.ok () w:=λe=>Gu (k:=.string s) hk wZ e 9999
 rcases aDq s with ⟨h1,h2⟩|⟨j,h1⟩
 ·rw[<- hes]at h1
  simp[Instr.lookup,vH hm,vX hb,hc,vO hk h1,he,h2,Result.andThen]
 ·rw[<- hes]at h1
  simp[Instr.lookup,vH hm,vX hb,hc,vO hk h1,Result.andThen]
def shK(k:Int)(w:dL):ByteArray:=if k=15 then jL else if k=47 then uP else if k=36 then rL else if k=22 then qR else if k=50 then TN shL w else e0
def aGA(k a:Int)(w:dL):kwL k a w=if shK k w=e0 then []else [(a,shK k w)]:=by
 unfold kwL shK
 by_cases h1:k=15
 ·rw[aF h1,aF h1,aC aE]
 rw[aC h1,aC h1]
 by_cases h2:k=47
 ·rw[aF h2,aF h2,aC aE]
 rw[aC h2,aC h2]
 by_cases h3:k=36
 ·rw[aF h3,aF h3,aC aE]
 rw[aC h3,aC h3]
 by_cases h4:k=22
 ·rw[aF h4,aF h4,aC aE]
 rw[aC h4,aC h4]
 by_cases h5:k=50
 ·rw[aF h5];have hx:(TN shL w=e0/\mJ w=w)\/(TN shL w=mJ w/\mJ w≠w/\mJ w≠e0):=by
   by_cases c1:w=vY
   ·subst c1;exact .inr aE
   by_cases c2:w=Db
   ·subst c2;exact .inr aE
   by_cases c3:w=FF
   ·subst c3;exact .inr aE
   by_cases c4:w=iC
   ·subst c4;exact .inr aE
   by_cases c5:w=Cw
   ·subst c5;exact .inr aE
   by_cases c6:w=Cq
   ·subst c6;exact .inr aE
   by_cases c7:w=Cv
   ·subst c7;exact .inr aE
   by_cases c8:w=vU
   ·subst c8;exact .inr aE
   by_cases c9:w=tM
   ·subst c9;exact .inr aE
   by_cases c10:w=CW
   ·subst c10;exact .inr aE
   refine .inl ⟨?_,?_⟩
   ·unfold shL;simp only[TN];rw[aC (qT c1),aC (qT c2),aC (qT c3),aC (qT c4),aC (qT c5),aC (qT c6),aC (qT c7),aC (qT c8),aC (qT c9),aC (qT c10)]
   ·unfold mJ;rw[aC c1,aC c2,aC c3,aC c4,aC c5,aC c6,aC c7,aC c8,aC c9,aC c10]
  rcases hx with ⟨h1,h2⟩|⟨h1,h2,h3⟩
  ·rw[h1,aF rfl,aC λg=>g.2 h2]
  ·rw[h1,aC h3,aF ⟨h5,h2⟩]
 ·rw[aC h5,aC λg=>h5 g.1,aF rfl]
def Kp(w:List Int):List (Int×ByteArray)->Nat->List T3->List T3
 | [],_,l=>l
 | a::r,n,l=>Kp w r (n+1) (if chW w (n+1)then l.set a.1.toNat ⟨(l.getD a.1.toNat default).kind,a.2,(l.getD a.1.toNat default).at_⟩else l)
def aHf(w:List Int):∀ (A B:List (Int×ByteArray)) (n:Nat) (l:List T3),Kp w (A++B) n l=Kp w B (n+A.length) (Kp w A n l):=by
 intro A
 induction A with
 | nil=>intro B n l;rfl
 | cons a r ih=>
  intro B n l;rw[kE]
  show Kp w (r++B) (n+1) _=Kp w B (n+(a::r).length) (Kp w r (n+1) _)
  rw[ih,show n+1+r.length=n+(a::r).length by rw[aV];omega]
def Uf(w:List Int):∀ (A:List (Int×ByteArray)) (n:Nat) (l:List T3),(Kp w A n l).length=l.length:=by
 intro A
 induction A with
 | nil=>intro n l;rfl
 | cons a r ih=>intro n l;unfold Kp;rw[ih];split<;>simp
def TB(w:World)(R:Nat)(l:List T3):Prop:=∃ cs,w.heap[R]?=some (.cells cs 47 (0,0))/\∀ j,j<l.length->∀ i u,(Bh (l.getD j default))[i]?=some u->cs[j*3+i]?=some u
def TB.other{w w':World}{R:Nat}{l:List T3}(h:TB w R l)(e:w'.heap[R]?=w.heap[R]?):TB w' R l:=by
 obtain⟨cs,h1,h2⟩:=h;exact⟨cs,e.trans h1,h2⟩
theorem TB.set{w:World}{R:Nat}{l:List T3}(h:TB w R l)(p:Nat)(hp:p<l.length)(s:dL):TB (w.setCell (AAF R (p*3+1)) (.string s)) R (l.set p ⟨(l.getD p default).kind,s,(l.getD p default).at_⟩):=by
 obtain⟨cs,h1,h2⟩:=h;refine⟨cs.setIfInBounds (p*3+1) (.string s),?_,λj hj i u hu=>?_⟩
 ·simp[World.setCell,pK,h1]
 ·rw[List.length_set]at hj;rw[dH,zG]at hu
  by_cases e:p=j
  ·subst e;rw[aF rfl,aF hp]at hu
   match i,hu with
   | 0,hu=>rw[Ln aB];exact h2 p hp 0 u hu
   | 1,hu=>
    have:=h2 p hp 1 _ rfl;rw[Array.getElem?_setIfInBounds_self_of_lt (aX.1 this).1];exact hu
   | 2,hu=>rw[Ln aB];exact h2 p hp 2 u hu
  ·rw[aC e,<- dH]at hu;have hi:i<3:=(lS.1 hu).1;rw[Ln aB];exact h2 j hj i u hu
def aiG(w:World)(k n a:Int)(s:dL)(ao:iD)(m c:Nat):AAA 53 #[tg k n a s ao m c] w λe w'=>e=.returned (.string (shK k s))/\iY w w':=by
 have hum:Tryz.prog.underlying 136=some (.map 9 9):=by kernel_rfl
 have hus:Tryz.prog.underlying 9=some .string:=by kernel_rfl
 have hmm:=@run_makeMap Tryz.prog;have b1:=aJ w (.cells (tg k n a s ao m c) 24);have t1:=TV.new w k n a s (.slice ao m c);have HE:=aN (λx (h:x=shK k s)=>show (Ending.returned (Value.string x))=.returned (.string (shK k s))by rw[h]);go_in;go_upto_region 1 with fail;generalize World.alloc w _=w2 at t1 b1 ⊢;have:=AAD t1
 by_cases h1:k=15
 ·have d1:decide (k=15)=true:=eQ h1;go_wp2_with fail;go_ret;exact⟨HE.out _ (by unfold shK;rw[aF h1];rfl),b1⟩
 have d1:decide (k=15)=false:=bX h1
 by_cases h2:k=47
 ·have d2:decide (k=47)=true:=eQ h2;go_wp2_with fail;go_ret;exact⟨HE.out _ (by unfold shK;rw[aC h1,aF h2];rfl),b1⟩
 have d2:decide (k=47)=false:=bX h2
 by_cases h3:k=36
 ·have d3:decide (k=36)=true:=eQ h3;go_wp2_with fail;go_ret;exact⟨HE.out _ (by unfold shK;rw[aC h1,aC h2,aF h3];rfl),b1⟩
 have d3:decide (k=36)=false:=bX h3
 by_cases h4:k=22
 ·have d4:decide (k=22)=true:=eQ h4;go_wp2_with fail;go_ret;exact⟨HE.out _ (by unfold shK;rw[aC h1,aC h2,aC h3,aF h4];rfl),b1⟩
 have d4:decide (k=22)=false:=bX h4
 by_cases h5:k=50
 ·have d5:decide (k=50)=true:=eQ h5;have b3:=aJ w2 (.map #[{ key:=.string ⟨#[67,72,65,82,65,67,84,69,82]⟩,val:=.string ⟨#[67,72,65,82]⟩,born:=0 },{ key:=.string ⟨#[68,69,67,73,77,65,76]⟩,val:=.string ⟨#[68,69,67]⟩,born:=1 },{ key:=.string ⟨#[66,73,78,65,82,89]⟩,val:=.string ⟨#[66,73,78]⟩,born:=2 },{ key:=.string ⟨#[80,73,67,84,85,82,69]⟩,val:=.string ⟨#[80,73,67]⟩,born:=3 },{ key:=.string ⟨#[80,79,73,78,84,69,82]⟩,val:=.string ⟨#[80,84,82]⟩,born:=4 },{ key:=.string ⟨#[73,78,73,84,73,65,76]⟩,val:=.string ⟨#[73,78,73,84]⟩,born:=5 },{ key:=.string ⟨#[86,65,82,89,73,78,71]⟩,val:=.string ⟨#[86,65,82]⟩,born:=6 },{ key:=.string ⟨#[65,85,84,79,77,65,84,73,67]⟩,val:=.string ⟨#[65,85,84,79]⟩,born:=7 },{ key:=.string ⟨#[67,79,78,84,82,79,76,76,69,68]⟩,val:=.string ⟨#[67,84,76]⟩,born:=8 },{ key:=.string ⟨#[68,69,70,73,78,69,68]⟩,val:=.string ⟨#[68,69,70]⟩,born:=9 }] 10);have t3:=t1.below b3;have b2:=b1.trans (b3.mono b1.size);clear b3;have p0:(Instr.mapUpdate 136 (.map (some w2.heap.size)) (.string ⟨#[67,72,65,82,65,67,84,69,82]⟩) (.string ⟨#[67,72,65,82]⟩)).run Tryz.prog (w2.alloc (.map #[] 0))=.ok () (w2.alloc (.map #[{ key:=.string ⟨#[67,72,65,82,65,67,84,69,82]⟩,val:=.string ⟨#[67,72,65,82]⟩,born:=0 }] 1)):=Aj hum hus w2 _ _ _ _ mX;have p1:(Instr.mapUpdate 136 (.map (some w2.heap.size)) (.string ⟨#[68,69,67,73,77,65,76]⟩) (.string ⟨#[68,69,67]⟩)).run Tryz.prog (w2.alloc (.map #[{ key:=.string ⟨#[67,72,65,82,65,67,84,69,82]⟩,val:=.string ⟨#[67,72,65,82]⟩,born:=0 }] 1))=.ok () (w2.alloc (.map #[{ key:=.string ⟨#[67,72,65,82,65,67,84,69,82]⟩,val:=.string ⟨#[67,72,65,82]⟩,born:=0 },{ key:=.string ⟨#[68,69,67,73,77,65,76]⟩,val:=.string ⟨#[68,69,67]⟩,born:=1 }] 2)):=Aj hum hus w2 _ _ _ _ mX;have p2:(Instr.mapUpdate 136 (.map (some w2.heap.size)) (.string ⟨#[66,73,78,65,82,89]⟩) (.string ⟨#[66,73,78]⟩)).run Tryz.prog (w2.alloc (.map #[{ key:=.string ⟨#[67,72,65,82,65,67,84,69,82]⟩,val:=.string ⟨#[67,72,65,82]⟩,born:=0 },{ key:=.string ⟨#[68,69,67,73,77,65,76]⟩,val:=.string ⟨#[68,69,67]⟩,born:=1 }] 2))=.ok () (w2.alloc (.map #[{ key:=.string ⟨#[67,72,65,82,65,67,84,69,82]⟩,val:=.string ⟨#[67,72,65,82]⟩,born:=0 },{ key:=.string ⟨#[68,69,67,73,77,65,76]⟩,val:=.string ⟨#[68,69,67]⟩,born:=1 },{ key:=.string ⟨#[66,73,78,65,82,89]⟩,val:=.string ⟨#[66,73,78]⟩,born:=2 }] 3)):=Aj hum hus w2 _ _ _ _ mX;have p3:(Instr.mapUpdate 136 (.map (some w2.heap.size)) (.string ⟨#[80,73,67,84,85,82,69]⟩) (.string ⟨#[80,73,67]⟩)).run Tryz.prog (w2.alloc (.map #[{ key:=.string ⟨#[67,72,65,82,65,67,84,69,82]⟩,val:=.string ⟨#[67,72,65,82]⟩,born:=0 },{ key:=.string ⟨#[68,69,67,73,77,65,76]⟩,val:=.string ⟨#[68,69,67]⟩,born:=1 },{ key:=.string ⟨#[66,73,78,65,82,89]⟩,val:=.string ⟨#[66,73,78]⟩,born:=2 }] 3))=.ok () (w2.alloc (.map #[{ key:=.string ⟨#[67,72,65,82,65,67,84,69,82]⟩,val:=.string ⟨#[67,72,65,82]⟩,born:=0 },{ key:=.string ⟨#[68,69,67,73,77,65,76]⟩,val:=.string ⟨#[68,69,67]⟩,born:=1 },{ key:=.string ⟨#[66,73,78,65,82,89]⟩,val:=.string ⟨#[66,73,78]⟩,born:=2 },{ key:=.string ⟨#[80,73,67,84,85,82,69]⟩,val:=.string ⟨#[80,73,67]⟩,born:=3 }] 4)):=Aj hum hus w2 _ _ _ _ mX;have p4:(Instr.mapUpdate 136 (.map (some w2.heap.size)) (.string ⟨#[80,79,73,78,84,69,82]⟩) (.string ⟨#[80,84,82]⟩)).run Tryz.prog (w2.alloc (.map #[{ key:=.string ⟨#[67,72,65,82,65,67,84,69,82]⟩,val:=.string ⟨#[67,72,65,82]⟩,born:=0 },{ key:=.string ⟨#[68,69,67,73,77,65,76]⟩,val:=.string ⟨#[68,69,67]⟩,born:=1 },{ key:=.string ⟨#[66,73,78,65,82,89]⟩,val:=.string ⟨#[66,73,78]⟩,born:=2 },{ key:=.string ⟨#[80,73,67,84,85,82,69]⟩,val:=.string ⟨#[80,73,67]⟩,born:=3 }] 4))=.ok () (w2.alloc (.map #[{ key:=.string ⟨#[67,72,65,82,65,67,84,69,82]⟩,val:=.string ⟨#[67,72,65,82]⟩,born:=0 },{ key:=.string ⟨#[68,69,67,73,77,65,76]⟩,val:=.string ⟨#[68,69,67]⟩,born:=1 },{ key:=.string ⟨#[66,73,78,65,82,89]⟩,val:=.string ⟨#[66,73,78]⟩,born:=2 },{ key:=.string ⟨#[80,73,67,84,85,82,69]⟩,val:=.string ⟨#[80,73,67]⟩,born:=3 },{ key:=.string ⟨#[80,79,73,78,84,69,82]⟩,val:=.string ⟨#[80,84,82]⟩,born:=4 }] 5)):=Aj hum hus w2 _ _ _ _ mX;have p5:(Instr.mapUpdate 136 (.map (some w2.heap.size)) (.string ⟨#[73,78,73,84,73,65,76]⟩) (.string ⟨#[73,78,73,84]⟩)).run Tryz.prog (w2.alloc (.map #[{ key:=.string ⟨#[67,72,65,82,65,67,84,69,82]⟩,val:=.string ⟨#[67,72,65,82]⟩,born:=0 },{ key:=.string ⟨#[68,69,67,73,77,65,76]⟩,val:=.string ⟨#[68,69,67]⟩,born:=1 },{ key:=.string ⟨#[66,73,78,65,82,89]⟩,val:=.string ⟨#[66,73,78]⟩,born:=2 },{ key:=.string ⟨#[80,73,67,84,85,82,69]⟩,val:=.string ⟨#[80,73,67]⟩,born:=3 },{ key:=.string ⟨#[80,79,73,78,84,69,82]⟩,val:=.string ⟨#[80,84,82]⟩,born:=4 }] 5))=.ok () (w2.alloc (.map #[{ key:=.string ⟨#[67,72,65,82,65,67,84,69,82]⟩,val:=.string ⟨#[67,72,65,82]⟩,born:=0 },{ key:=.string ⟨#[68,69,67,73,77,65,76]⟩,val:=.string ⟨#[68,69,67]⟩,born:=1 },{ key:=.string ⟨#[66,73,78,65,82,89]⟩,val:=.string ⟨#[66,73,78]⟩,born:=2 },{ key:=.string ⟨#[80,73,67,84,85,82,69]⟩,val:=.string ⟨#[80,73,67]⟩,born:=3 },{ key:=.string ⟨#[80,79,73,78,84,69,82]⟩,val:=.string ⟨#[80,84,82]⟩,born:=4 },{ key:=.string ⟨#[73,78,73,84,73,65,76]⟩,val:=.string ⟨#[73,78,73,84]⟩,born:=5 }] 6)):=Aj hum hus w2 _ _ _ _ mX;have p6:(Instr.mapUpdate 136 (.map (some w2.heap.size)) (.string ⟨#[86,65,82,89,73,78,71]⟩) (.string ⟨#[86,65,82]⟩)).run Tryz.prog (w2.alloc (.map #[{ key:=.string ⟨#[67,72,65,82,65,67,84,69,82]⟩,val:=.string ⟨#[67,72,65,82]⟩,born:=0 },{ key:=.string ⟨#[68,69,67,73,77,65,76]⟩,val:=.string ⟨#[68,69,67]⟩,born:=1 },{ key:=.string ⟨#[66,73,78,65,82,89]⟩,val:=.string ⟨#[66,73,78]⟩,born:=2 },{ key:=.string ⟨#[80,73,67,84,85,82,69]⟩,val:=.string ⟨#[80,73,67]⟩,born:=3 },{ key:=.string ⟨#[80,79,73,78,84,69,82]⟩,val:=.string ⟨#[80,84,82]⟩,born:=4 },{ key:=.string ⟨#[73,78,73,84,73,65,76]⟩,val:=.string ⟨#[73,78,73,84]⟩,born:=5 }] 6))=.ok () (w2.alloc (.map #[{ key:=.string ⟨#[67,72,65,82,65,67,84,69,82]⟩,val:=.string ⟨#[67,72,65,82]⟩,born:=0 },{ key:=.string ⟨#[68,69,67,73,77,65,76]⟩,val:=.string ⟨#[68,69,67]⟩,born:=1 },{ key:=.string ⟨#[66,73,78,65,82,89]⟩,val:=.string ⟨#[66,73,78]⟩,born:=2 },{ key:=.string ⟨#[80,73,67,84,85,82,69]⟩,val:=.string ⟨#[80,73,67]⟩,born:=3 },{ key:=.string ⟨#[80,79,73,78,84,69,82]⟩,val:=.string ⟨#[80,84,82]⟩,born:=4 },{ key:=.string ⟨#[73,78,73,84,73,65,76]⟩,val:=.string ⟨#[73,78,73,84]⟩,born:=5 },{ key:=.string ⟨#[86,65,82,89,73,78,71]⟩,val:=.string ⟨#[86,65,82]⟩,born:=6 }] 7)):=Aj hum hus w2 _ _ _ _ mX;have p7:(Instr.mapUpdate 136 (.map (some w2.heap.size)) (.string ⟨#[65,85,84,79,77,65,84,73,67]⟩) (.string ⟨#[65,85,84,79]⟩)).run Tryz.prog (w2.alloc (.map #[{ key:=.string ⟨#[67,72,65,82,65,67,84,69,82]⟩,val:=.string ⟨#[67,72,65,82]⟩,born:=0 },{ key:=.string ⟨#[68,69,67,73,77,65,76]⟩,val:=.string ⟨#[68,69,67]⟩,born:=1 },{ key:=.string ⟨#[66,73,78,65,82,89]⟩,val:=.string ⟨#[66,73,78]⟩,born:=2 },{ key:=.string ⟨#[80,73,67,84,85,82,69]⟩,val:=.string ⟨#[80,73,67]⟩,born:=3 },{ key:=.string ⟨#[80,79,73,78,84,69,82]⟩,val:=.string ⟨#[80,84,82]⟩,born:=4 },{ key:=.string ⟨#[73,78,73,84,73,65,76]⟩,val:=.string ⟨#[73,78,73,84]⟩,born:=5 },{ key:=.string ⟨#[86,65,82,89,73,78,71]⟩,val:=.string ⟨#[86,65,82]⟩,born:=6 }] 7))=.ok () (w2.alloc (.map #[{ key:=.string ⟨#[67,72,65,82,65,67,84,69,82]⟩,val:=.string ⟨#[67,72,65,82]⟩,born:=0 },{ key:=.string ⟨#[68,69,67,73,77,65,76]⟩,val:=.string ⟨#[68,69,67]⟩,born:=1 },{ key:=.string ⟨#[66,73,78,65,82,89]⟩,val:=.string ⟨#[66,73,78]⟩,born:=2 },{ key:=.string ⟨#[80,73,67,84,85,82,69]⟩,val:=.string ⟨#[80,73,67]⟩,born:=3 },{ key:=.string ⟨#[80,79,73,78,84,69,82]⟩,val:=.string ⟨#[80,84,82]⟩,born:=4 },{ key:=.string ⟨#[73,78,73,84,73,65,76]⟩,val:=.string ⟨#[73,78,73,84]⟩,born:=5 },{ key:=.string ⟨#[86,65,82,89,73,78,71]⟩,val:=.string ⟨#[86,65,82]⟩,born:=6 },{ key:=.string ⟨#[65,85,84,79,77,65,84,73,67]⟩,val:=.string ⟨#[65,85,84,79]⟩,born:=7 }] 8)):=Aj hum hus w2 _ _ _ _ mX;have p8:(Instr.mapUpdate 136 (.map (some w2.heap.size)) (.string ⟨#[67,79,78,84,82,79,76,76,69,68]⟩) (.string ⟨#[67,84,76]⟩)).run Tryz.prog (w2.alloc (.map #[{ key:=.string ⟨#[67,72,65,82,65,67,84,69,82]⟩,val:=.string ⟨#[67,72,65,82]⟩,born:=0 },{ key:=.string ⟨#[68,69,67,73,77,65,76]⟩,val:=.string ⟨#[68,69,67]⟩,born:=1 },{ key:=.string ⟨#[66,73,78,65,82,89]⟩,val:=.string ⟨#[66,73,78]⟩,born:=2 },{ key:=.string ⟨#[80,73,67,84,85,82,69]⟩,val:=.string ⟨#[80,73,67]⟩,born:=3 },{ key:=.string ⟨#[80,79,73,78,84,69,82]⟩,val:=.string ⟨#[80,84,82]⟩,born:=4 },{ key:=.string ⟨#[73,78,73,84,73,65,76]⟩,val:=.string ⟨#[73,78,73,84]⟩,born:=5 },{ key:=.string ⟨#[86,65,82,89,73,78,71]⟩,val:=.string ⟨#[86,65,82]⟩,born:=6 },{ key:=.string ⟨#[65,85,84,79,77,65,84,73,67]⟩,val:=.string ⟨#[65,85,84,79]⟩,born:=7 }] 8))=.ok () (w2.alloc (.map #[{ key:=.string ⟨#[67,72,65,82,65,67,84,69,82]⟩,val:=.string ⟨#[67,72,65,82]⟩,born:=0 },{ key:=.string ⟨#[68,69,67,73,77,65,76]⟩,val:=.string ⟨#[68,69,67]⟩,born:=1 },{ key:=.string ⟨#[66,73,78,65,82,89]⟩,val:=.string ⟨#[66,73,78]⟩,born:=2 },{ key:=.string ⟨#[80,73,67,84,85,82,69]⟩,val:=.string ⟨#[80,73,67]⟩,born:=3 },{ key:=.string ⟨#[80,79,73,78,84,69,82]⟩,val:=.string ⟨#[80,84,82]⟩,born:=4 },{ key:=.string ⟨#[73,78,73,84,73,65,76]⟩,val:=.string ⟨#[73,78,73,84]⟩,born:=5 },{ key:=.string ⟨#[86,65,82,89,73,78,71]⟩,val:=.string ⟨#[86,65,82]⟩,born:=6 },{ key:=.string ⟨#[65,85,84,79,77,65,84,73,67]⟩,val:=.string ⟨#[65,85,84,79]⟩,born:=7 },{ key:=.string ⟨#[67,79,78,84,82,79,76,76,69,68]⟩,val:=.string ⟨#[67,84,76]⟩,born:=8 }] 9)):=Aj hum hus w2 _ _ _ _ mX;have p9:(Instr.mapUpdate 136 (.map (some w2.heap.size)) (.string ⟨#[68,69,70,73,78,69,68]⟩) (.string ⟨#[68,69,70]⟩)).run Tryz.prog (w2.alloc (.map #[{ key:=.string ⟨#[67,72,65,82,65,67,84,69,82]⟩,val:=.string ⟨#[67,72,65,82]⟩,born:=0 },{ key:=.string ⟨#[68,69,67,73,77,65,76]⟩,val:=.string ⟨#[68,69,67]⟩,born:=1 },{ key:=.string ⟨#[66,73,78,65,82,89]⟩,val:=.string ⟨#[66,73,78]⟩,born:=2 },{ key:=.string ⟨#[80,73,67,84,85,82,69]⟩,val:=.string ⟨#[80,73,67]⟩,born:=3 },{ key:=.string ⟨#[80,79,73,78,84,69,82]⟩,val:=.string ⟨#[80,84,82]⟩,born:=4 },{ key:=.string ⟨#[73,78,73,84,73,65,76]⟩,val:=.string ⟨#[73,78,73,84]⟩,born:=5 },{ key:=.string ⟨#[86,65,82,89,73,78,71]⟩,val:=.string ⟨#[86,65,82]⟩,born:=6 },{ key:=.string ⟨#[65,85,84,79,77,65,84,73,67]⟩,val:=.string ⟨#[65,85,84,79]⟩,born:=7 },{ key:=.string ⟨#[67,79,78,84,82,79,76,76,69,68]⟩,val:=.string ⟨#[67,84,76]⟩,born:=8 }] 9))=.ok () (w2.alloc (.map #[{ key:=.string ⟨#[67,72,65,82,65,67,84,69,82]⟩,val:=.string ⟨#[67,72,65,82]⟩,born:=0 },{ key:=.string ⟨#[68,69,67,73,77,65,76]⟩,val:=.string ⟨#[68,69,67]⟩,born:=1 },{ key:=.string ⟨#[66,73,78,65,82,89]⟩,val:=.string ⟨#[66,73,78]⟩,born:=2 },{ key:=.string ⟨#[80,73,67,84,85,82,69]⟩,val:=.string ⟨#[80,73,67]⟩,born:=3 },{ key:=.string ⟨#[80,79,73,78,84,69,82]⟩,val:=.string ⟨#[80,84,82]⟩,born:=4 },{ key:=.string ⟨#[73,78,73,84,73,65,76]⟩,val:=.string ⟨#[73,78,73,84]⟩,born:=5 },{ key:=.string ⟨#[86,65,82,89,73,78,71]⟩,val:=.string ⟨#[86,65,82]⟩,born:=6 },{ key:=.string ⟨#[65,85,84,79,77,65,84,73,67]⟩,val:=.string ⟨#[65,85,84,79]⟩,born:=7 },{ key:=.string ⟨#[67,79,78,84,82,79,76,76,69,68]⟩,val:=.string ⟨#[67,84,76]⟩,born:=8 },{ key:=.string ⟨#[68,69,70,73,78,69,68]⟩,val:=.string ⟨#[68,69,70]⟩,born:=9 }] 10)):=Aj hum hus w2 _ _ _ _ mX;have pL:=aEa (P:=Tryz.prog) hum hus (λ_=>rfl) (aP w2 (.map #[{ key:=.string ⟨#[67,72,65,82,65,67,84,69,82]⟩,val:=.string ⟨#[67,72,65,82]⟩,born:=0 },{ key:=.string ⟨#[68,69,67,73,77,65,76]⟩,val:=.string ⟨#[68,69,67]⟩,born:=1 },{ key:=.string ⟨#[66,73,78,65,82,89]⟩,val:=.string ⟨#[66,73,78]⟩,born:=2 },{ key:=.string ⟨#[80,73,67,84,85,82,69]⟩,val:=.string ⟨#[80,73,67]⟩,born:=3 },{ key:=.string ⟨#[80,79,73,78,84,69,82]⟩,val:=.string ⟨#[80,84,82]⟩,born:=4 },{ key:=.string ⟨#[73,78,73,84,73,65,76]⟩,val:=.string ⟨#[73,78,73,84]⟩,born:=5 },{ key:=.string ⟨#[86,65,82,89,73,78,71]⟩,val:=.string ⟨#[86,65,82]⟩,born:=6 },{ key:=.string ⟨#[65,85,84,79,77,65,84,73,67]⟩,val:=.string ⟨#[65,85,84,79]⟩,born:=7 },{ key:=.string ⟨#[67,79,78,84,82,79,76,76,69,68]⟩,val:=.string ⟨#[67,84,76]⟩,born:=8 },{ key:=.string ⟨#[68,69,70,73,78,69,68]⟩,val:=.string ⟨#[68,69,70]⟩,born:=9 }] 10)) rfl s;have:=AAD t3;go_upto_region 11 with fail;go_wp2_with fail;go_ret;exact⟨HE.out _ (by unfold shK;rw[aC h1,aC h2,aC h3,aC h4,aF h5]),b2⟩
 ·have d5:decide (k=50)=false:=bX h5;go_wp2_with fail;go_ret;exact⟨HE.out _ (by unfold shK;rw[aC h1,aC h2,aC h3,aC h4,aC h5];rfl),b1⟩
theorem TB.cell{w:World}{R:Nat}{l:List T3}(h:TB w R l)(p:Nat)(hp:p<l.length):w.cell? (AAF R (p*3))=some (.int .i64 (l.getD p default).kind):=by
 obtain⟨cs,h1,h2⟩:=h;exact aK w _ _ _ _ _ h1 |>.trans (h2 p hp 0 _ rfl)
def TB.aJy{w:World}{R:Nat}{l:List T3}(h:TB w R l)(p:Nat)(hp:p<l.length):w.cell? (AAF R (p*3+1))=some (.string (l.getD p default).text):=by
 obtain⟨cs,h1,h2⟩:=h;exact aK w _ _ _ _ _ h1 |>.trans (h2 p hp 1 _ rfl)
theorem TB.frozen{w:World}{R:Nat}{l:List T3}(h:TB w R l)(p:Nat):w.frozen? (AAF R p)=false:=by
 obtain⟨cs,h1,_⟩:=h;exact aY h1 p
def aBk: ∀ {l:List T} {x:T},x∈l->∀ a,a∈uK x->a∈jJ l:=by
 intro l
 induction l with
 | nil=>intro x h;cases h
 | cons y r ih=>
  intro x h a ha;rw[bP]
  rcases bO.1 h with rfl|h
  ·exact CQ _ ha
  ·exact GA _ (ih h a ha)
def aGd(l:List T)(q:Nat):(jJ (l.take q)).length<=(jJ l).length:=by
 have h:=congrArg (λx=>(jJ x).length) (Lr q l);simp only[Ai,aO]at h
 omega
def aCw(w:List Int)(p:Nat):∀ (A:List (Int×ByteArray)) (n:Nat) (l:List T3),((Kp w A n l).getD p default).kind=(l.getD p default).kind:=by
 intro A
 induction A with
 | nil=>intro n l;rfl
 | cons a r ih=>
  intro n l;unfold Kp;rw[ih]
  split
  ·simp only[dH,zG]
   by_cases e:a.1.toNat=p
   ·rw[aF e,e]
    by_cases h:p<l.length
    ·rw[aF h];rfl
    ·rw[aC h,tB (Nat.not_lt.1 h)]
   ·rw[aC e]
  ·rfl
def ShQ(wB:World)(C R:Nat)(n:Nat)(l:List T3)(e:Ending)(w':World):Prop:=e=.returned (.bool true)/\iY wB w'/\w'.heap[C]?=some (cI n)/\TB w' R l
def Xl(wB:World)(C R:Nat)(hCb:wB.heap.size<=C)(hRb:wB.heap.size<=R)(hne:C≠R)(is:List Int)(ai:iD)(ci:Nat)(hI:Ei wB (.slice ai is.length ci) is)(hil:is.length<=9223372036854775807)(cap:Nat):∀ d (t:T),depth t<=d->nodes t<=8300->∀ (w:World) (n:Nat) (l:List T3),iY wB w->w.heap[C]?=some (cI n)->TB w R l->R<w.heap.size->n+(uK t).length<=1000000->(∀ a,a∈uK t->∃ p:Nat,a.1=p/\p<l.length/\(l.getD p default).kind=1)->∀ (k n' a:Int) (s:dL) (ao:iD) (m c:Nat),Tr wB t (vT k n' a s ao m c)->AAA 22 #[tg k n' a s ao m c,.slice (some (AAF R 0)) l.length cap,.slice ai is.length ci,pq C] w (ShQ wB C R (n+(uK t).length) (Kp is (uK t) n l)):=by
 obtain⟨ao1,c1,e,hI,_⟩:=hI;simp only[dZ,fD]at e
 obtain⟨rfl,rfl⟩:=e;have HI:=aN hI;clear hI;intro d
 induction d using Nat.strongRecOn with
 | _ d ih=>
  intro t hd hnd w n l low hC hT hRw hn hA k n' a s ao m c ht;have hnds:bV t.l<=8300:=by
   have e1:nodes t=1+bV t.l:=by obtain⟨k,n,a,w,l⟩:=t;rw[nodes];rfl
   omega
  have H:=aN (λ(x:T) (hx:x∈t.l)=>ih (depth x) (by have:=Px.sD hx;omega) x (aG _) (aZ (CK hx) hnds));have hlen:t.l.length<=8300:=aZ (lU _) hnds;clear ih hd hnd hnds;have lC:=nK hC;have b1:=aJ w (.cells (tg k n' a s ao m c) 24);have t1:=TV.new w k n' a s (.slice ao m c);obtain⟨e1,e2,e3,e4,rfl⟩:=ht.split;have hkt:uK t=kwL k a s++jJ t.l:=by rw[e1,e3,e4];obtain⟨k0,n0,a0,w0,l0⟩:=t;exact Ek k0 n0 a0 w0 l0
  clear e1 e2 e3 e4;rw[hkt]at hn hA ⊢;have HK:=aN (aGA k a s);generalize kwL k a s=K0 at HK hn hA ⊢;clear hkt;have HA:=aN hA;clear hA;have hsh:=aiG;go_in;go_upto_region 1 with fail;generalize World.alloc w _=w2 at t1 b1 ⊢;have hcall:=hsh w2 k n' a s ao t.l.length c;clear hsh;have:=AAD t1;go_upto_block 1 with fail;refine hcall.mono ?_;rintro e w3 ⟨rfl,b3⟩;clear hcall;have t3:=t1.below b3;have B3:=b1.trans (b3.mono b1.size);have hC3:=(B3.block _ lC).trans hC;have hT3:=hT.other (B3.block _ hRw);have low3:=low.trans (B3.mono low.size);have hR3:R<w3.heap.size:=gH hRw B3.size;have hC3l:=nK hC3;have wL:w.heap.size≠C:=λe=>by omega
  have wR:w.heap.size≠R:=λe=>by omega
  clear t1 b1 b3 hC hT low B3;generalize shK k s=S0 at HK ⊢;have c0:=vC hC3;have f0:=EZ hC3
  by_cases h0:S0=e0
  case' pos=>
   obtain rfl:K0=[]:=by rw[HK.out,aF h0]
   have hs2:S0.toList.isEmpty=true:=by rw[h0];decide +kernel
   clear h0 HK;obtain⟨N,rfl⟩:∃ N,N=n:=⟨_,rfl⟩
   obtain⟨L1,hL1⟩:∃ L1,L1=l:=⟨_,rfl⟩
   have HL5:=aN (show L1.length=l.length by rw[hL1]);have HG:=aN (λe w' (h:ShQ wB C R (N+(jJ t.l).length) (Kp is (jJ t.l) N L1) e w')=>show ShQ wB C R (N+([]++jJ t.l).length) (Kp is ([]++jJ t.l) N l) e w' by rw[<- hL1];exact h);have hN:N+(jJ t.l).length<=1000000:=hn;have HV:=aN (show ∀ a,a∈jJ t.l->∃ p:Nat,a.1=p/\p<L1.length/\(L1.getD p default).kind=1 by rw[hL1];exact HA.out);rw[<- hL1]at hT3;clear hL1;have hC5:=hC3;have hT5:=hT3;have low5:=low3;have hR5:=hR3;clear HA hn hC3 hT3 low3 hR3 c0 f0 hC3l;have:=AAD t3;clear t3;go_wp2_with fail
  case' neg=>
   obtain rfl:K0=[(a,S0)]:=by rw[HK.out,aC h0]
   have hs2:S0.toList.isEmpty=false:=by
    rw[sH];obtain⟨⟨x⟩⟩:=S0
    cases x with
    | nil=>exact absurd rfl h0
    | cons _ _=>rfl
   clear HK h0;have hn1:n+1<=1000000:=by simp at hn;omega
   have x1:IntKind.i64.wrap ((n:Int)+1)=(n:Int)+1:=iV _ aB;obtain⟨p,rfl,hp,hpk⟩:=HA.out _ (.head _);have hC4:=VG hC3 ((n:Int)+1);have t4:TV (w3.setCell (AAF C 0) (iq ((n:Int)+1))) _ _ _ _ _ _:=(dJ w3 (AAF C 0) (iq ((n:Int)+1)) _ (show w.heap.size≠C from wL)).trans t3;have hT4:=hT3.other (w':=w3.setCell (AAF C 0) (iq ((n:Int)+1))) (dJ w3 (AAF C 0) (iq ((n:Int)+1)) _ (show R≠C from λe=>hne e.symm));have low4:iY wB (w3.setCell (AAF C 0) (iq ((n:Int)+1))):=low3.setCell (p:=(AAF C 0)) hCb (iq ((n:Int)+1));have hR4:R<(w3.setCell (AAF C 0) (iq ((n:Int)+1))).heap.size:=gH hR3 AN;go_upto_region 4 with fail;generalize World.setCell w3 _ _=w4 at hC4 t4 hT4 low4 hR4 ⊢;clear c0 f0 t3 hC3 hT3 low3 hR3 hC3l;have c0:=vC hC4;have x2:¬ (p:Int)<0:=by omega
   have x3:¬ (l.length:Int)<=(p:Int):=by omega
   have r0:=hT4.cell p hp;rw[hpk]at r0;have r1:=hT4.aJy p hp;have r2:=hT4.frozen (p*3+1);have HV0:=aN (show ∀ a,a∈jJ t.l->∃ p:Nat,a.1=p/\p<l.length/\(l.getD p default).kind=1 from λa ha=>HA.out a (.tail _ ha));clear HA;have e1:((n+1:Nat):Int)=(n:Int)+1:=by omega
   rw[<- e1]at hC4;have E1:=aN e1;clear e1;obtain⟨N,hNe⟩:∃ N,N=n+1:=⟨_,rfl⟩
   have hN:N+(jJ t.l).length<=1000000:=by simp at hn;omega
   have HL:=aN (show n+([((p:Int),S0)]++jJ t.l).length=N+(jJ t.l).length by simp;omega)
   have HS:=aN (show Kp is ([((p:Int),S0)]++jJ t.l) n l=Kp is (jJ t.l) N (if chW is N then l.set p ⟨(l.getD p default).kind,S0,(l.getD p default).at_⟩else l)by
    rw[hNe];show Kp is (((p:Int),S0)::jJ t.l) n l=_;rw[Kp,CG])
   rw[<- hNe]at hC4;have HNE:=aN hNe;clear hn hNe;have hg5:=(dJ w4 (AAF R (p*3+1)) (.string S0) _ (show w.heap.size≠R from wR)).trans t4;have g5:TV (w4.setCell (AAF R (p*3+1)) (.string S0)) _ _ _ _ _ _:=hg5;have g6:=(dJ w4 (AAF R (p*3+1)) (.string S0) C hne).trans hC4;have g7:=hT4.set p hp S0;have g8:iY wB (w4.setCell (AAF R (p*3+1)) (.string S0)):=low4.setCell (p:=(AAF R (p*3+1))) hRb (.string S0);have g9:R<(w4.setCell (AAF R (p*3+1)) (.string S0)).heap.size:=gH hR4 AN;have hLs:(l.set p ⟨(l.getD p default).kind,S0,(l.getD p default).at_⟩).length=l.length:=List.length_set
   have HVs := aN (show ∀ a, a ∈ jJ t.l -> ∃ q : Nat, a.1 = q /\ q < (l.set p ⟨(l.getD p default).kind, S0, (l.getD p default).at_⟩).length /\ ((l.set p ⟨(l.getD p default).kind, S0, (l.getD p default).at_⟩).getD q default).kind = 1 from λa ha => by
     obtain ⟨q, h1, h2, h3⟩ := HV0.out a ha
     refine ⟨q, h1, by rw [hLs]; exact h2, ?_⟩
     simp only [dH, zG] at h3 ⊢
     by_cases e : p = q
     · subst e; rw [aF rfl, aF h2]; exact h3
     · rw [aC e]; exact h3)
   clear hg5
   by_cases hz:is=[]
   case' pos=>
    obtain⟨L1,hL1⟩:∃ L1,L1=l.set p ⟨(l.getD p default).kind,S0,(l.getD p default).at_⟩:=⟨_,rfl⟩
    have HG:=aN (λe w' (h:ShQ wB C R (N+(jJ t.l).length) (Kp is (jJ t.l) N L1) e w')=>show ShQ wB C R (n+([((p:Int),S0)]++jJ t.l).length) (Kp is ([((p:Int),S0)]++jJ t.l) n l) e w' by
     rw[HL.out,HS.out,aF (by unfold chW;rw[eQ hz];rfl),<- hL1];exact h)
    rw[<- hL1]at g7 hLs HVs;clear HS HL hL1 HV0;have z1:((is.length:Int)==0)=true:=by rw[hz];rfl
    clear hz;have:=AAD t4;go_upto_region 8 with fail;generalize World.setCell w4 _ _=w5 at g5 g6 g7 g8 g9 ⊢;clear hC4 t4 hT4 low4 hR4 c0 r0 r1 r2 x1 x2 x3;have HL5:=aN hLs;have HV:=HVs;have hC5:=g6;have hT5:=g7;have low5:=g8;have hR5:=g9;have:=AAD g5;clear g5 g6 g7 g8 g9 hLs HVs;go_wp2_with fail
   case' neg=>
    obtain⟨b,off,rfl,hb,hcell⟩:=HI.out hz;have hl0:0<is.length:=pE.2 hz;have hr:((n:Int)+1).tmod (is.length:Int)=(((n+1) % is.length:Nat):Int):=by
     rw[IntWalk.rem_in _ _ aB];exact(Int.natCast_emod (n+1) is.length).symm
    have hrl:=Nat.mod_lt (n+1) hl0;have r3:=(low4.cell (p:=(AAF b (off+(n+1) % is.length))) hb).trans (hcell _ hrl);clear hcell;have CHW:=aN (show chW is N=decide ((is[(n+1) % is.length]'hrl).tmod 2≠0)by rw[HNE.out];unfold chW;rw[bX hz,Bool.false_or,dH,dQ hrl];rfl);generalize is[(n+1) % is.length]'hrl=z at r3 CHW;generalize (n+1) % is.length=r at hr hrl r3;have z1:((is.length:Int)==0)=false:=dR.2 aB
    by_cases hm:z.tmod 2=0
    case' pos=>
     have hm2:(z.tmod 2 != 0)=false:=by rw[hm];rfl
     obtain⟨L1,hL1⟩:∃ L1,L1=l:=⟨_,rfl⟩
     have HG:=aN (λe w' (h:ShQ wB C R (N+(jJ t.l).length) (Kp is (jJ t.l) N L1) e w')=>show ShQ wB C R (n+([((p:Int),S0)]++jJ t.l).length) (Kp is ([((p:Int),S0)]++jJ t.l) n l) e w' by
      rw[HL.out,HS.out,aC (by rw[CHW.out,hm];decide),<- hL1];exact h)
     have HL5:=aN (show L1.length=l.length by rw[hL1]);rw[<- hL1]at HV0 hT4;clear hL1;have HV:=HV0;have hC5:=hC4;have hT5:=hT4;have low5:=low4;have hR5:=hR4;clear g5 g6 g7 g8 g9 hLs HVs HS HL HV0 hC4 hT4 low4 hR4 CHW hm;have:=AAD t4;clear t4;go_wp2_with fail
    case' neg=>
     have hm2:(z.tmod 2 != 0)=true:=bne_iff_ne.2 hm;obtain⟨L1,hL1⟩:∃ L1,L1=l.set p ⟨(l.getD p default).kind,S0,(l.getD p default).at_⟩:=⟨_,rfl⟩
     have HG:=aN (λe w' (h:ShQ wB C R (N+(jJ t.l).length) (Kp is (jJ t.l) N L1) e w')=>show ShQ wB C R (n+([((p:Int),S0)]++jJ t.l).length) (Kp is ([((p:Int),S0)]++jJ t.l) n l) e w' by
      rw[HL.out,HS.out,aF (by rw[CHW.out];exact eQ hm),<- hL1];exact h)
     rw[<- hL1]at g7 hLs HVs;clear HS HL hL1 HV0 CHW hm;have:=AAD t4;go_upto_region 8 with fail;generalize World.setCell w4 _ _=w5 at g5 g6 g7 g8 g9 ⊢;clear hC4 t4 hT4 low4 hR4 c0 r0 r1 r2 r3 x1 x2 x3;have HL5:=aN hLs;have HV:=HVs;have hC5:=g6;have hT5:=g7;have low5:=g8;have hR5:=g9;have:=AAD g5;clear g5 g6 g7 g8 g9 hLs HVs;go_wp2_with fail
  all_goals
   have HN:=aN hN;have HT:=aN ht;clear hN ht
   go_loopg [65] t.l.length (λg tt wr=>∃ q:Nat,tt=.int .i64 q/\q<=t.l.length/\g=t.l.length - q/\iY wB wr/\wr.heap[C]?=some (cI (N+(jJ (t.l.take q)).length:Nat))/\TB wr R (Kp is (jJ (t.l.take q)) N L1)/\R<wr.heap.size)
   case atStart=>exact⟨0,rfl,aS _,rfl,low5,by rw[Co,dG];exact hC5,by rw[Co,dG];exact hT5,hR5⟩
   case round=>
    obtain⟨q,rfl,hq,hg,lowr,hCr,hTr0,hRr⟩:=hrel;have HTR:=aN hTr0;have HG2:=aN hg;clear hg hTr0 hC5 hT5 low5 hR5
    by_cases hlt:q<t.l.length
    ·obtain⟨ao1,c1',vs1,e,hTs,hrow⟩:=mH.tree (rv:=[]) lowr HT.out;obtain⟨b',off',rfl,_,hcell⟩:=hrow kF;simp only[dZ,fD]at e
     obtain⟨rfl,rfl⟩:=e;obtain⟨k1,n1,a1,s1,o1,m1,c1,hTr,d0,d1,d2,d3,d4⟩:=Tr.elem hTs hcell q hlt;have hS:=H.out _ (eJ hlt);have tk:=jY hlt;have hmem:=eJ hlt;have htd:=aGd t.l (q+1);generalize t.l[q]'hlt=y at hTr hS tk hmem;have hk1:jJ (t.l.take (q+1))=jJ (t.l.take q)++uK y:=by rw[tk,Ai,bP,dG,bD]
     have hk2:(jJ (t.l.take (q+1))).length=(jJ (t.l.take q)).length+(uK y).length:=by rw[hk1,aO]
     have b2:=aJ wr (.cells (tg k1 n1 a1 s1 o1 m1 c1) 24);have t2:=TV.new wr k1 n1 a1 s1 (.slice o1 m1 c1);have x5:(q:Int)<(t.l.length:Int):=by omega
     have HK1:=aN hk1;have HK2:=aN hk2;go_upto_region 11 with fail;generalize World.alloc wr _=w6 at b2 t2 ⊢;have hC6:=(b2.block _ (nK hCr)).trans hCr;have hT6:=HTR.out.other (b2.block _ hRr);have hcall:=hS w6 (N+(jJ (t.l.take q)).length) (Kp is (jJ (t.l.take q)) N L1) (lowr.trans (b2.mono lowr.size)) hC6 hT6 (gH hRr b2.size)
      (by have:=HN.out;rw[HK2.out]at htd;omega)
      (λa ha=>by
       obtain⟨p',h1,h2,h3⟩:=HV.out a (aBk hmem a ha)
       exact⟨p',h1,by rw[Uf];exact h2,by rw[aCw];exact h3⟩)
      k1 n1 a1 s1 o1 m1 c1 hTr
     rw[Uf,HL5.out]at hcall;clear hS hCr hC6 hT6 tk hk1 hk2 htd d0 d1 d2 d3 d4 hcell b2 lowr;have:=AAD t2;clear t2;go_upto_block 11 with fail;refine hcall.mono ?_;rintro e w7 ⟨rfl,low7,hC7,hT7⟩;have HC7:=aN hC7;have HT7:=aN hT7;have HR7:=aN (show R<w7.heap.size by obtain⟨cs,h1,_⟩:=hT7;exact nK h1);clear hcall hC7 hT7;go_wp2_with fail
     go_roundg (t.l.length - (q+1))
     case measure=>rw[HG2.out];exact Nat.sub_lt_sub_left hlt (pC q)
     case rel=>exact⟨q+1,by go_num,hlt,rfl,low7,by rw[HC7.out,HK2.out,gJ],by rw[HK1.out,aHf];exact HT7.out,HR7.out⟩
    ·have x5:¬ (q:Int)<(t.l.length:Int):=by omega
     have htk:t.l.take q=t.l:=nQ aB;have HF:=aN (HG.out _ _ ⟨rfl,lowr,by rw[hCr,htk],by have:=HTR.out;rw[htk]at this;exact this⟩);clear htk HTR hCr lowr;go_wp2_with fail;go_ret;exact HF.out
def aGr(wB:World):∀ d (t:T),depth t<=d->nodes t<=1000000->∀ (w:World),iY wB w->∀ (k n a:Int) (s:dL) (ao:iD) (m c:Nat) (ao':iD) (c':Nat),Tr wB t (vT k n a s ao m c)->Tr wB t (vT k n a s ao' m c')->
 AAA 23 #[tg k n a s ao m c,tg k n a s ao' m c'] w λe w'=>e=.returned (.bool true)/\iY w w':=by
 intro d
 induction d using Nat.strongRecOn with
 | _ d ih=>
  intro t hd hN w low k n a s ao m c ao' c' ht hu;have e1:nodes t=1+bV t.l:=by obtain⟨k,n,a,w,l⟩:=t;rw[nodes];rfl
  have e4:=lU t.l;have HH:=aN (λ(x:T) (hx:x∈t.l)=>ih (depth x) (by have:=Px.sD hx;omega) x (aG _) (by have:=CK hx;omega));have hml:=ht.split.2.2.2.2;have hNN:m<=1000000:=by omega
  have M1:=aN hml;have HT:=aN ht;have HU:=aN hu;clear ih e1 e4 ht hu hml;have b1:=aJ w (.cells (tg k n a s ao m c) 24);have t1:=TV.new w k n a s (.slice ao m c);generalize hw1:w.alloc (.cells (tg k n a s ao m c) 24)=w1 at b1 t1;have b2:=aJ w1 (.cells (tg k n a s ao' m c') 24);have t2:=TV.new w1 k n a s (.slice ao' m c');have t1':=TV.below t1 b2;have hz:w1.heap.size=w.heap.size+1:=by rw[<- hw1];simp
  rw[hz]at t2;clear hz;subst hw1;go_in;go_upto_region 1 with fail;generalize World.alloc (World.alloc w _) _=w2 at b2 t2 t1' ⊢;have low1:=low.trans (b1.mono low.size);have low2:=low1.trans (b2.mono low1.size);have hB2:=b1.trans (b2.mono b1.size);have T1:=aN t1';have T2:=aN t2;clear t1 b1 b2 low1;have:=AAD t1';have:=AAD t2;go_wp2_with fail;clear t1' t2
  go_loopg [5] m (λg tt wr=>∃ q:Nat,tt=.int .i64 q/\q<=m/\g=m - q/\iY w2 wr)
  case atStart=>exact⟨0,rfl,aS _,rfl,bH _ _⟩
  case round=>
   obtain⟨q,rfl,hq,hg,hB⟩:=hrel;have HG:=aN hg;clear hg;have lowr:=low2.trans (hB.mono low2.size);have hBr:=hB2.trans (hB.mono hB2.size);have r1:=T1.out.below hB;have r2:=T2.out.below hB;have:=AAD r1;have:=AAD r2
   by_cases hln:q<m
   ·have hlt:q<t.l.length:=by rw[<- M1.out];exact hln
    obtain⟨ao1,c1',vs1,e,hTs,hrow⟩:=mH.tree (rv:=[]) lowr HT.out;obtain⟨b,off,rfl,_,hcell⟩:=hrow kF;simp only[dZ]at e
    obtain⟨rfl,hzz,rfl⟩:=e;clear hzz;obtain⟨k1,n1,a1,s1,o1,m1,c1,hTr,d0,d1,d2,d3,d4⟩:=Tr.elem hTs hcell q hlt;obtain⟨ao3,c3,vs3,e,hTs3,hrow3⟩:=mH.tree (rv:=[]) lowr HU.out;obtain⟨b',off',rfl,_,hcell3⟩:=hrow3 kF;simp only[dZ]at e
    obtain⟨rfl,hzz,rfl⟩:=e;clear hzz;obtain⟨k3,n3,a3,s3,o3,m3,c3,hTr3,e0,e1,e2,e3,e4⟩:=Tr.elem hTs3 hcell3 q hlt;have hC:=HH.out _ (eJ hlt);obtain⟨f1,f2,f4,f3,f5⟩:=hTr.split;obtain⟨g1,g2,g4,g3,g5⟩:=hTr3.split;obtain rfl:k3=k1:=g1.trans f1.symm;obtain rfl:n3=n1:=g2.trans f2.symm;obtain rfl:a3=a1:=g4.trans f4.symm;obtain rfl:s3=s1:=g3.trans f3.symm;obtain rfl:m3=m1:=g5.trans f5.symm;clear f1 f2 f3 f4 f5 g1 g2 g3 g4 g5 hcell hcell3 hTs hTs3 hrow hrow3;have x1:(q:Int)<(m:Int):=by omega
    have hCC:=hC wr.drew lowr.drew k3 n3 a3 s3 o1 m3 c1 o3 c3 hTr hTr3;clear hC;go_upto_region 6 with fail
    go_still_tail 10,aQ
    change wpList _ _ _ _ _ wr.drew;go_wp2_with (go_at_call 23;refine hCC.mono ?_;rintro e w4 ⟨rfl,b4⟩)
    go_roundg (m - (q+1))
    case measure=>rw[HG.out];omega
    case rel=>exact⟨q+1,by go_num,hln,rfl,hB.drew.trans (b4.mono hB.drew.size)⟩
   ·have x1:¬ (q:Int)<(m:Int):=by omega
    go_wp2_with fail;go_ret;exact⟨rfl,hBr⟩
def aHO(l:List T3)(p:Nat)(t:T3):lk (l.set p t)=(lk l).set p t.tk:=List.map_set ..
def aHK(w:List Int):∀ (A:List (Int×ByteArray)) (n:Nat) (l:List T3) (l':List Tk),shG w A n (lk l)=some l'->lk (Kp w A n l)=l':=by
 intro A
 induction A with
 | nil=>intro n l l' h;unfold shG at h;cases h;rfl
 | cons a r ih=>
  intro n l l' h;unfold shG at h;unfold Kp
  by_cases hc:chW w (n+1)=true
  ·rw[aF hc]at h ⊢
   split at h
   ·cases h
   ·next hk=>
    have hk1:(tok (lk l) a.1.toNat).kind=1:=Classical.byContradiction λg=>hk (.inr (.inr g))
    have e:(l.getD a.1.toNat default).kind=1:=by
     unfold Px.tok lk at hk1
     rcases cY a.1.toNat l.length with hp|hp
     ·rw[dH,lV,dQ hp]at hk1;rw[dH,dQ hp];exact hk1
     ·rw[dH,tB tT]at hk1;exact absurd hk1 aD
    refine ih (n+1) _ l' ?_;rw[aHO,e];exact h
  ·rw[aC hc]at h ⊢;exact ih (n+1) _ l' h
def aEQ(L:List Tk)(p:Nat)(hp:p<L.length):((K3 L).getD p default).kind=(tok L p).kind:=by
 unfold K3 Px.tok;rw[dH,dH,lV,dQ hp];rfl
def ahQ{x:T}{L:List Tk}(hx:jM fC L=(x,0,0))(hTx:Tx L)(w:List Int):(∀ a,a∈uK x->∃ p:Nat,a.1=p/\p<(K3 L).length/\((K3 L).getD p default).kind=1)/\jM fC (lk (Kp w (uK x) 0 (K3 L)))=(x,0,0)/\(∀ u,u∈Kp w (uK x) 0 (K3 L)->u.text.size<=2147483647)/\(uK x).length<=4000/\0<L.length:=by
 obtain⟨h5,hg,t',hall,hsm,h3⟩:=CU.1 (show (jM fC L).2.2=0 by rw[hx]);obtain rfl:x=t':=(Prod.mk.inj (hx.symm.trans h3)).1;obtain⟨j,hr,hj⟩:=Ec hall;have hw:=aBs L (K:=NO) hTx aD;have hj2:j<=L.length:=(AV (K:=NO) L 0 x j hr).2;obtain⟨l',hG,hlen,hr'⟩:=axZ hr hj2 w;have hlk:lk (Kp w (uK x) 0 (K3 L))=l':=aHK w (uK x) 0 (K3 L) l' (by rw[Wz];exact hG);have hin:=aBh hr hj2;have hok:∀ y,y∈l'->eP y.kind y.text=true/\y.text.size<=NO:=aGg w (uK x) 0 L l' (λa ha=>⟨(ZG x a ha).1,aZ (ZG x a ha).2 aD⟩) (λy hy=>⟨hg y hy,hTx y hy⟩) hG;refine⟨λa ha=>?_,?_,λu hu=>?_,?_,?_⟩
 ·obtain⟨p,h1,h2,h4⟩:=hin a ha;exact⟨p,h1,by rw[Eh];exact h2,by rw[aEQ L p h2];exact h4⟩
 ·rw[hlk];refine UW aB (λy hy=>(hok y hy).1) ?_ hsm;unfold uN;rw[hr']
  show (if j<l'.length then _ else _)=_
  rw[aC aB]
 ·have:(u.tk:Tk)∈l':=by rw[<- hlk];exact iL.2 ⟨u,hu,rfl⟩
  exact(hok _ this).2
 ·have:=aoM x;have:=(BX.1 hsm).1;omega
 ·rcases Nat.eq_zero_or_pos L.length with h|h
  ·have:L=[]:=kU h;subst this;have h9:(jM fC []).2.2=0:=congrArg (λr=>r.2.2) hx;exact absurd h9 aE
  ·exact h
def aIB{w:World}{B:Nat}{v:Value}{l:List T3}(h:w.ownsRow B 47 3 v l.length (tK l))(h0:0<l.length):∃ g cap,v=.slice (some (AAF g 0)) l.length cap/\B<=g/\g<w.heap.size/\TB w g l:=by
 rcases h.2 with ⟨_,h1⟩|⟨g,cap,cur,rfl,hB,hg,hle,hmx,hsz,htk⟩
 ·omega
 ·refine⟨g,cap,rfl,hB,(aX.1 hg).1,cur,hg,λj hj i u hu=>?_⟩;have h3:(Bh l[j]!)[i]?=some u:=by
   rw[tC,<- dH];exact hu
  have h1:=Lq l j hj i u h3;rw[<- htk]at h1;have hi:i<3:=by
   exact RV
  rw[CO,aF aB]at h1;rw[<- Cy];exact h1
def TB.row{w:World}{R:Nat}{l:List T3}(h:TB w R l)(cap:Nat):fJ w (.slice (some (AAF R 0)) l.length cap) l:=by
 obtain⟨cs,h1,h2⟩:=h;refine⟨_,cap,rfl,λ_=>⟨R,0,rfl,(aX.1 h1).1,λj hj i u hu=>?_⟩⟩;rw[dT];refine(aK w R _ _ _ _ h1).trans (h2 j hj i u ?_);rw[dH,<- tC];exact hu
def TW(w:World)(hTab:fQ w)(hml:ML w)(t:T)(hEt:XJ t)(kT nT zT:Int)(yT:dL)(oT:iD)(mT lT:Nat)(hT:Tr w t (vT kT nT zT yT oT mT lT))(is:List Int)(vI:Value)(hI:Ei w vI is)(hil:is.length<=9223372036854775807):AAA 4 #[tg kT nT zT yT oT mT lT,vI] w λe w'=>e=.returned (.bool true)/\iY w w':=by
 obtain⟨ai,ci,rfl,hci⟩:=hI.form;have S0:LS w w [] [] [(t,vT kT nT zT yT oT mT lT)]:=LS.WN (by intro p hp;rw[cO.1 hp];exact hT);have S1:=S0.At (tg kT nT zT yT oT mT lT) (tg kT nT zT yT oT mT lT) rfl _ rfl;clear S0 hT;have hsn:=IN _ (hTab.below S1.low) (hml.below S1.low);go_in;go_upto_region 1 with fail;generalize World.alloc w _=w1 at S1 hsn ⊢;go_upto_region 3 with (go_at_call 8;refine hsn.mono ?_;rintro e w2 ⟨rfl,b2⟩);have S2:=S1.below b2;clear hsn b2 S1;have F0:=AAD (S2.facts 0 rfl);have hR:=vG (dO.one (S2.tree (t,vT kT nT zT yT oT mT lT) (.head _))) (tg kT nT zT yT oT mT lT) rfl 1 rfl;have cM:=kV (w2.alloc (.cells (tg kT nT zT yT oT mT lT) 24)) _ [t] hR aI;have SR:=S2.below (aJ w2 (.cells (tg kT nT zT yT oT mT lT) 24));clear hR;go_upto_block 3 with fail;generalize World.alloc w2 (.cells (tg kT nT zT yT oT mT lT) 24)=wR at SR cM ⊢;refine cM.mono ?_;rintro e w3 ⟨bb,rfl,hb,b3⟩;have S3:=SR.below b3;clear cM b3 SR S2 F0
 cases bb with
 | false=>
  go_wp2_with fail;go_ret;exact⟨rfl,S3.low⟩
 | true=>
  have hCt:=hb.1 rfl t aI;clear hb;obtain⟨okt,wdt⟩:=Tb hCt aD hEt;have F0:=AAD (S3.facts 0 rfl);have cC:=nV w3 (hTab.below S3.low) t okt wdt kT nT zT yT oT mT lT (S3.tree (t,vT kT nT zT yT oT mT lT) (.head _));unfold Ed at cC
  cases hc:De t with
  | false=>
   rw[hc]at cC;go_wp2_with (go_at_call 11;refine cC.mono ?_;rintro e w4 ⟨rfl,b4⟩);go_ret;exact⟨rfl,(S3.below b4).low⟩
  | true=>
   rw[hc]at cC;have hnd:nodes t<=1000000:=by have:=hCt.1;omega
   cases hp:qF t with
   | false=>
    go_wp2_with (first|(go_at_call 11;refine cC.mono ?_;rintro e w4 ⟨rfl,b4⟩;have S4:=S3.below b4;have G0:=AAD (S4.facts 0 rfl))|(go_at_call 15;refine(EO w4 t hnd kT nT zT yT oT mT lT (S4.tree (t,vT kT nT zT yT oT mT lT) (.head _))).mono ?_;rw[hp];rintro e w5 ⟨rfl,b5⟩));go_ret;exact⟨rfl,(S4.below b5).low⟩
   | true=>
    go_upto_region 5 with (first|(go_at_call 11;refine cC.mono ?_;rintro e w4 ⟨rfl,b4⟩;have S4:=S3.below b4;have G0:=AAD (S4.facts 0 rfl))|(go_at_call 15;refine(EO w4 t hnd kT nT zT yT oT mT lT (S4.tree (t,vT kT nT zT yT oT mT lT) (.head _))).mono ?_;rw[hp];rintro e w5 ⟨rfl,b5⟩));have S5:=S4.below b5;clear cC b4 b5 S3 S4 F0 G0;have F0:=AAD (S5.facts 0 rfl);have cP:=Lw w5 (hTab.below S5.low) t okt wdt kT nT zT yT oT mT lT (S5.tree (t,vT kT nT zT yT oT mT lT) (.head _));rw[FZ hc]at cP
    by_cases h5:5000<(Eu t).length
    ·rw[aF h5]at cP;clear h5;go_wp2_with (go_at_call 20;refine cP.mono ?_;rintro e w6 ⟨b6,v6,rfl,_⟩);go_ret;exact⟨rfl,(S5.below b6).low⟩
    ·rw[aC h5]at cP;have hlen:(Eu t).length<=5000:=by omega
     clear h5;go_upto_region 8 with (go_at_call 20;refine cP.mono ?_;rintro e w6 ⟨b6,v6,rfl,ho6⟩);have S6:=S5.below b6;have hT6:fJ w6 v6 (K3 (Eu t)):=VC ho6;have hTx:∀ u,u∈K3 (Eu t)->u.text.size<=140737488351232:=λu hu=>aZ (Vz (NC false wdt) u hu) aD
     have hl9:(K3 (Eu t)).length<=9223372036854775807:=by rw[Eh];omega
     have hl6:(K3 (Eu t)).length<=1000000:=by rw[Eh];omega
     obtain⟨x,hx,hxs⟩:=VO hc hp hlen;obtain⟨hkA,hx2,hsz2,hkl,hL0⟩:=ahQ hx (NC false wdt) is;have hL1:0<(K3 (Eu t)).length:=by rw[Eh];exact hL0
     obtain⟨hCx,_⟩:=Hy hxs hCt hEt;have cE:=Dc (K3 (Eu t)) hTx v6 w6 hT6 hl9;rw[Wz,hx]at cE;clear cP b6 F0 ho6 S5 hx hxs hTx hL0 hlen hl9;generalize K3 (Eu t)=L at hT6 hl6 hkA hx2 hsz2 hL1;have HKA:=aN hkA;have HX2:=aN hx2;clear hkA hx2;go_upto_region 9 with (go_at_call 19;refine cE.mono ?_;rintro e w7 ⟨b7,k7,n7,z7,y7,o7,m7,l7,rfl,T7⟩);have S7:=S6.DM b7 T7;have S8:=S7.At (tg k7 n7 z7 y7 o7 m7 l7) (tg k7 n7 z7 y7 o7 m7 l7) rfl _ rfl;have hT8:=(hT6.below b7 (aG _)).below (aJ w7 (.cells (tg k7 n7 z7 y7 o7 m7 l7) 24)) (aG _);generalize World.alloc w7 (.cells (tg k7 n7 z7 y7 o7 m7 l7) 24)=w8 at S8 hT8 ⊢;generalize w7.heap.size=B7 at S8 ⊢;clear cE b7 T7 S6 S7 hT6;have F0:=AAD (S8.facts 0 rfl);have hR:=vG (dO.one (S8.tree (x,vT k7 n7 z7 y7 o7 m7 l7) (.head _))) (tg k7 n7 z7 y7 o7 m7 l7) rfl 1 rfl;have cM:=kV (w8.alloc (.cells (tg k7 n7 z7 y7 o7 m7 l7) 24)) _ [x] hR aI;have bR:=aJ w8 (.cells (tg k7 n7 z7 y7 o7 m7 l7) 24);have SR:=S8.below bR;have hM:∀ u,u∈[x]->CF u 4100 1:=by simp[hCx]
     clear hR;go_upto_region 11 with (go_at_call 9;refine cM.mono ?_;rintro e w9 ⟨bb,rfl,hb,b9⟩;obtain rfl:bb=true:=hb.2 hM;clear hb);have S9:=SR.below b9;have hT9:=(hT8.below bR (aG _)).below b9 (aG _);clear cM bR SR hT8 b9 S8 F0;have cL:=awG v6 L w9 hT9 hl6;go_upto_region 12 with (go_at_call 21;refine cL.mono ?_;rintro e w10 ⟨v10,rfl,ho10,b10⟩);obtain⟨R,cR,rfl,hRB,hRl,hTB⟩:=aIB ho10 hL1;have hC11:(w10.alloc (.cells #[iq 0] 3)).heap[w10.heap.size]?=some (cI ((0:Nat):Int)):=aP w10 (.cells #[iq 0] 3);have b11:=aJ w10 (.cells #[iq 0] 3);have hTB11:=hTB.other (b11.block _ hRl);have hCb:w9.heap.size<=w10.heap.size:=b10.size;have B11:=b10.trans (b11.mono b10.size);have hR11:=gH hRl b11.size;have hne:w10.heap.size≠R:=Nat.ne_of_gt hRl;go_upto_region 13 with fail;generalize World.alloc w10 _=w11 at hC11 hTB11 B11 hR11 ⊢;generalize w10.heap.size=C at hC11 hCb hne ⊢;clear cL hT9 ho10 b10 b11 hRl hTB;have S11:=S9.below B11;have F0:=AAD (S11.facts 0 rfl);have cS:=Xl w9 C R hCb hRB hne is ai ci (hI.below S9.low) hil cR _ x (aG _) (by have:=hCx.1;omega) w11 0 L B11 hC11 hTB11 hR11 aB HKA.out k7 n7 z7 y7 o7 m7 l7 (S9.tree (x,vT k7 n7 z7 y7 o7 m7 l7) (.head _));clear hC11 hTB11 B11 hR11 hCb hne hRB S11;go_upto_region 15 with (go_at_call 22;refine cS.mono ?_;rintro e w12 ⟨rfl,b12,_,hTB12⟩);have S12:=S9.below b12;clear cS S9 F0 b12;have hT12:fJ w12 (.slice (some (AAF R 0)) L.length cR) (Kp is (uK x) 0 L):=by
      have:=hTB12.row cR
      rwa[Uf]at this
     have cE2:=Dc (Kp is (uK x) 0 L) (λu hu=>aZ (hsz2 u hu) aD) _ w12 hT12 (by rw[Uf];omega);rw[HX2.out]at cE2;clear hTB12 hT12 hsz2 HX2 HKA hkl;go_upto_region 16 with (go_at_call 19;refine cE2.mono ?_;rintro e w13 ⟨b13,k13,n13,z13,y13,o13,m13,l13,rfl,T13⟩);have S13:=S12.DM b13 T13;obtain⟨f1,f2,f3,f4,f5⟩:=(S13.tree (x,vT k7 n7 z7 y7 o7 m7 l7) (.tail _ (.head _))).split;obtain⟨g1,g2,g3,g4,g5⟩:=(S13.tree (x,vT k13 n13 z13 y13 o13 m13 l13) (.head _)).split;obtain rfl:k13=k7:=g1.trans f1.symm;obtain rfl:n13=n7:=g2.trans f2.symm;obtain rfl:z13=z7:=g3.trans f3.symm;obtain rfl:y13=y7:=g4.trans f4.symm;obtain rfl:m13=m7:=g5.trans f5.symm;clear f1 f2 f3 f4 f5 g1 g2 g3 g4 g5;have S14:=S13.At (tg k13 n13 z13 y13 o13 m13 l13) (tg k13 n13 z13 y13 o13 m13 l13) rfl _ rfl;generalize World.alloc w13 (.cells (tg k13 n13 z13 y13 o13 m13 l13) 24)=w14 at S14 ⊢;generalize w13.heap.size=B13 at S14 ⊢;clear cE2 b13 T13 S12 S13;have F0:=AAD (S14.facts 0 rfl);have F1:=AAD (S14.facts 1 rfl);have hR:=vG (dO.one (S14.tree (x,vT k13 n13 z13 y13 o13 m13 l13) (.head _))) (tg k13 n13 z13 y13 o13 m13 l13) rfl 1 rfl;have cM:=kV (w14.alloc (.cells (tg k13 n13 z13 y13 o13 m13 l13) 24)) _ [x] hR aI;have SR:=S14.below (aJ w14 (.cells (tg k13 n13 z13 y13 o13 m13 l13) 24));clear hR;go_wp2_with (first|(go_at_call 9;refine cM.mono ?_;rintro e w15 ⟨bb,rfl,hb,b15⟩;obtain rfl:bb=true:=hb.2 hM;clear hb;have S15:=SR.below b15;have G0:=AAD (S15.facts 0 rfl);have G1:=AAD (S15.facts 1 rfl))|(go_at_call 23;refine(aGr w15 _ x (aG _) (by have:=hCx.1;omega) w15 (bH _ _) k13 n13 z13 y13 o7 m13 l7 o13 l13 (S15.tree (x,vT k13 n13 z13 y13 o7 m13 l7) (.tail _ (.head _))) (S15.tree (x,vT k13 n13 z13 y13 o13 m13 l13) (.head _))).mono ?_;rintro e w16 ⟨rfl,b16⟩));go_ret;exact⟨rfl,(S15.below b16).low⟩
end
