/- Part 02. -/
import Derived.Test.YtikalomcclefiaaGreatDoorV01
import Derived.Test.YtikalomcclefiaaGreatDoorRows
set_option linter.all false
set_option maxHeartbeats 0
set_option maxRecDepth 100000
namespace Go.Proofs.YtikalomcclefiaaGreatDoor
section
open Go.RowKit Lx
def eI{a b:Bool}(h:a=b):Ending.returned (.bool a)=.returned (.bool b):=by rw[h]
def UC{k:IntKind}{a b:Int}(h:a=b):Ending.returned (.int k a)=.returned (.int k b):=by rw[h]
def agQ(n:Nat)(h:n<256):wrap32 (n:Int)=n:=by simp[wrap32];omega
def lW(c:Int)(w:World):AAA 110 #[.int .i32 c] w λe w'=>e=.returned (.bool (gI c))/\w'=w:=by
 go_in
 go_wp2
 all_goals (go_ret;exact⟨eI (by unfold gI;rw[nS];simp<;>omega),rfl⟩)
def KU(c:Int)(w:World):AAA 127 #[.int .i32 c] w λe w'=>e=.returned (.bool (acM c))/\w'=w:=by
 go_in
 go_wp2
 all_goals (go_ret;exact⟨eI (by unfold acM;rw[nS];simp<;>omega),rfl⟩)
def iA(s:AAE)(i:Int)(w:World):AAA 93 #[.string s,.int .i64 i] w λe w'=>e=.returned (.int .i32 (fR s i))/\w'=w:=by
 go_in
 go_wp2
 ·have hx:i<0\/(s.size:Int)<=i:=by assumption
  go_ret;exact⟨UC (by rw[Du s i hx]),rfl⟩
 ·have hx:0<=i/\i<(s.size:Int):=by assumption
  have hlt:=(s[i.toNat]' aB).toNat_lt;go_ret;exact⟨UC (by rw[Hp s i hx.1 aB,agQ _ hlt]),rfl⟩
 ·have hx:i<0:=by assumption
  go_ret;exact⟨UC (by rw[Du s i (.inl hx)]),rfl⟩
def nF{P:Program}{f:FuncId}{args:Array Value}{w:World}{a n:Nat}{v:Value}(h:Calls P f args (w.drewN (a+n)) λe w'=>e=.returned v/\w'=w.drewN (a+n)):Calls P f args (w.drewN (a+n)) λe w''=>e=.returned v/\∃ m,w''=w.drewN (a+m):=
 h.mono λ_ _ ⟨he,hm⟩=>⟨he,n,hm⟩
def aFe: ∀ n:Fin 256,128<=n.val->Lib.indexByte [35,64] n.val.toUInt8 = -1:=by decide +kernel
def aFS: ∀ n:Fin 128,decide (0<=Lib.indexByte (⟨#[95,36,35,64]⟩:ByteArray).data.toList ((n.val:Int)).toNat.toUInt8)=aEK (n.val:Int):=by decide +kernel
def XH(w:World):AAA 144 #[.string ⟨#[95,36,35,64]⟩,.int .i32 (-1)] w λe w'=>e=.returned (.int .i64 (-1))/\w'=w:=by
 go_in;go_wp2_with fail;have h:Lib.validRune (-1)=false:=by decide
 have hv:=Tryz.utf8_ValidRune (-1) w;rw[h]at hv;refine hv.mono ?_;rintro e w' ⟨rfl,rfl⟩;clear hv h
 go_wp2
 go_ret;exact⟨rfl,rfl⟩
section
variable(c:Int)(h0:128<=c)(h1:c<=255)
include c h0 h1
theorem aEF:∃ x y:UInt8,128<=y.toNat/\Utf8.encode c=⟨#[x,y]⟩:=by
 refine⟨UInt8.ofNat (192+c.toNat / 64),UInt8.ofNat (128+c.toNat % 64),?_,?_⟩
 ·rw[UInt8.toNat_ofNat'];omega
 ·have hv:Utf8.valid c=true:=by unfold Utf8.valid;simp;omega
  unfold Utf8.encode;simp only[hv,if_true]
  rw[aC aB,aF aB]
theorem ZC(w:World):AAA 157 #[.int .i32 c] w λe w'=>e=.returned (.bool true)/\w'=w:=by
 have h:Lib.validRune c=true:=by unfold Lib.validRune;simp;omega
 have:=Tryz.utf8_ValidRune c w;rw[h]at this;exact this
theorem abD(w:World):AAA 144 #[.string ⟨#[95,36,35,64]⟩,.int .i32 c] w λe w'=>e=.returned (.int .i64 (-1))/\∃ n,w'=w.drewN n:=by
 have hv:¬ c=65533:=by omega
 go_in;go_wp2_with fail;refine(ZC c h0 h1 w).mono ?_;rintro e w' ⟨rfl,hw⟩;rw[hw];clear hw;obtain⟨x,y,hy,henc⟩:=aEF c h0 h1;go_wp2_with fail
 go_step3
 go_wp2_with fail;clear henc;refine wp_loop_rounds 1 ?_;rw[rounds_succ];go_wp2_with fail
 go_step3
 have hy2:((36:Int) != (y.toNat:Int))=true:=by rw[bne_iff_ne];omega
 have g1:((⟨#[95,36,35,64]⟩:ByteArray)[1]' aD)=36:=rfl;have g2:((⟨#[x,y]⟩:ByteArray)[1]'(by simp[ByteArray.size]))=y:=rfl;have hib:Lib.indexByte [35,64] y = -1:=by
  have:=aFe ⟨y.toNat,y.toNat_lt⟩ hy
  simpa using this
 go_wp2_with fail
 go_quiet (fail)
 go_wp2_with fail
 go_quiet ((go_at_call 156;exact nF (Tryz.strings_IndexByte _ _ _)))
 go_wp2_with fail;rw[FP]
 go_wp2
 rw[FP]
 go_wp2
 go_ret;exact⟨rfl,_,rfl⟩
end
section
variable(c:Int)(h0 : -1<=c)(h1:c<=255)(w:World)
include c h0 h1 w
theorem adJ:AAA 128 #[.string ⟨#[95,36,35,64]⟩,.int .i32 c] w λe w'=>e=.returned (.bool (aEK c))/\∃ n,w'=w.drewN n:=by
 rcases Int.lt_or_le c 0 with hn|hn
 ·obtain rfl:c = -1:=by omega
  go_in;go_wp2_with fail;refine(XH w).mono ?_;rintro e w' ⟨rfl,rfl⟩
  go_wp2
  go_ret;exact⟨rfl,0,rfl⟩
 ·rcases Int.lt_or_le c 128 with hc|hc
  ·refine(Tryz.strings_ContainsRune_ascii ⟨#[95,36,35,64]⟩ c w hn hc).mono ?_;rintro e w' ⟨rfl,rfl⟩;refine⟨eI ?_,0,rfl⟩;obtain⟨n,rfl⟩:=Gv hn;exact aFS ⟨n,by omega⟩
  ·go_in;go_wp2_with fail;refine(abD c hc h1 w).mono ?_;rintro e w' ⟨rfl,n,rfl⟩
   go_wp2
   go_ret;refine⟨eI ?_,n,rfl⟩;unfold aEK;symm;simp;omega
theorem AP:AAA 94 #[.int .i32 c] w λe w'=>e=.returned (.bool (kK c))/\∃ n,w'=w.drewN n:=by
 by_cases ha:acM c=true
 ·go_in;go_wp2_with (go_at_call 127;refine(KU _ _).mono ?_;rintro e w' ⟨rfl,rfl⟩)
  all_goals (go_ret;exact⟨eI Ht,0,rfl⟩)
 ·by_cases hd:gI c=true
  ·go_in;go_wp2_with (first|(go_at_call 127;refine(KU _ _).mono ?_;rintro e w' ⟨rfl,rfl⟩)|(go_at_call 110;refine(lW _ _).mono ?_;rintro e w' ⟨rfl,rfl⟩))
   all_goals (go_ret;exact⟨eI Ht,0,rfl⟩)
  ·have ha':acM c=false:=by simpa using ha
   have hd':gI c=false:=by simpa using hd
   go_in;go_wp2_with (first|(go_at_call 127;refine(KU _ _).mono ?_;rintro e w' ⟨rfl,rfl⟩)|(go_at_call 110;refine(lW _ _).mono ?_;rintro e w' ⟨rfl,rfl⟩)|(go_at_call 128;refine(adJ _ h0 h1 _).mono ?_;rintro e w' ⟨rfl,n,rfl⟩))
   all_goals (go_ret;exact⟨eI Ht,_,rfl⟩)
theorem vQ:AAA 92 #[.int .i32 c] w λe w'=>e=.returned (.bool (AF c))/\∃ n,w'=w.drewN n:=by
 go_in;go_wp2_with (first|(go_at_call 94;refine(AP _ h0 h1 _).mono ?_;rintro e w' ⟨rfl,n,rfl⟩)|(go_at_call 110;refine(lW _ _).mono ?_;rintro e w' ⟨rfl,rfl⟩))
 all_goals (go_ret;exact⟨eI (by unfold AF;simp[*]),_,rfl⟩)
end
def fU(w:World)(b:Nat)(ks:List ByteArray):Prop:=
 ∃ es clk,w.heap[b]?=some (.map es clk)/\es.toList.map (λe=>(e.key,e.val))=ks.map (λs=>(Value.string s,Value.bool true))
def Wb(k s:AAE):(k==s)=decide (k=s):=by
 rw[nS]
 show (k.data==s.data)=true↔_
 simp[ByteArray.ext_iff]
def LV(k:AAE):∀ (es:List MapEntry) (ks:List ByteArray) (i:Nat),es.map (λe=>(e.key,e.val))=ks.map (λs=>(Value.string s,Value.bool true))->k∉ks->Instr.findNow .string (.string k) es i=some none:=by
 intro es
 induction es with
 | nil=>intro ks i _ _;rfl
 | cons e es ih=>
  intro ks i h hk
  match ks,h with
  | s::ks,h=>
   simp only[dC,fL,pB]at h
   simp only[bO,not_or]at hk
   unfold Instr.findNow;rw[h.1.1];have:(k==s)=false:=by rw[Wb];simpa using hk.1
   simp only[Instr.sameNow,this]
   exact ih ks _ h.2 hk.2
def abY(k:AAE):∀ (es:List MapEntry) (ks:List ByteArray) (i:Nat),es.map (λe=>(e.key,e.val))=ks.map (λs=>(Value.string s,Value.bool true))->k∈ks->∃ j,Instr.findNow .string (.string k) es i=some (some (j,.bool true)):=by
 intro es
 induction es with
 | nil=>intro ks i h hk;match ks,h with | [],_=>cases hk
 | cons e es ih=>
  intro ks i h hk
  match ks,h with
  | s::ks,h=>
   simp only[dC,fL,pB]at h
   unfold Instr.findNow;rw[h.1.1,h.1.2]
   by_cases he:k=s
   ·have:(k==s)=true:=by rw[Wb];simpa using he
    simp only[Instr.sameNow,this]
    exact⟨i,rfl⟩
   ·have:(k==s)=false:=by rw[Wb];simpa using he
    simp only[Instr.sameNow,this]
    exact ih ks _ h.2 (by simpa[he]using hk)
def fU.lt{w:World}{b:Nat}{ks:List ByteArray}(h:fU w b ks):b<w.heap.size:=by
 obtain⟨es,clk,hb,_⟩:=h;exact(aX.1 hb).1
def fU.below{w w':World}{b:Nat}{ks:List ByteArray}(h:fU w b ks){B:Nat}(hb:Below B w w')(hB:b<B):fU w' b ks:=by
 obtain⟨es,clk,h1,h2⟩:=h;exact⟨es,clk,(hb.block b hB).trans h1,h2⟩
def Lb{P:Program}(w:World){ops:Array Oper}{rest:List Oper}{o:Oper}{a:Act}{Q:Exit->Act->World->Prop}(hg:o.guard=none)(m x v:Operand)(t:TypeId)(hop:o.op=Op.insert t m x v)(k e:TypeId)(ht:P.underlying t=some (.map k e))(hk:P.underlying k=some .string)(b:Nat)(ks:List ByteArray)(hm:a.eval m=.map (some b))(hmap:fU w b ks)(key:AAE)(hx:a.eval x=.string key)(hv:a.eval v=.bool true)(hnew:key∉ks)(hK:∀ w',fU w' b (ks++[key])->w.grownBy w' (some b)->wpList P ops Q rest (a.put o.dst undef) w'):wpList P ops Q (o::rest) a w:=by
 refine wpList_plain hg λK' hK'=>?_;obtain⟨es,clk,hb,hes⟩:=hmap;have hf:=LV key es.toList ks 0 hes hnew;have hrun:(Instr.mapUpdate t (.map (some b)) (.string key) (.bool true)).run P w=.ok () { w with heap:=w.heap.setIfInBounds b (.map (es.push { key:=.string key,val:=.bool true,born:=clk }) (clk+1)) }:=by
  exact SE
 have hlt:b<w.heap.size:=(aX.1 hb).1;have hres:=hK { w with heap:=w.heap.setIfInBounds b (.map (es.push { key:=.string key,val:=.bool true,born:=clk }) (clk+1)) }
  ⟨es.push { key:=.string key,val:=.bool true,born:=clk },clk+1,by simp[hlt],by simp[hes]⟩
  ⟨rfl, rfl, rfl, by simp, λj _ hne => by
    have : b ≠ j := λh => hne (by rw [h])
    simp [this]⟩
 exact RO
def Wc(w0 w:World)(b:Nat)(ks:List ByteArray):Prop:=fU w b ks/\Below b w0 w
def Ku{P:Program}(w0 w:World){ops:Array Oper}{rest:List Oper}{o:Oper}{a:Act}{Q:Exit->Act->World->Prop}(hg:o.guard=none)(m x v:Operand)(t:TypeId)(hop:o.op=Op.insert t m x v)(k e:TypeId)(ht:P.underlying t=some (.map k e))(hk:P.underlying k=some .string)(b:Nat)(ks:List ByteArray)(hm:a.eval m=.map (some b))(hmap:Wc w0 w b ks)(key:AAE)(hx:a.eval x=.string key)(hv:a.eval v=.bool true)(hnew:eH key ks=false)(hK:∀ w',Wc w0 w' b (ks++[key])->wpList P ops Q rest (a.put o.dst undef) w'):wpList P ops Q (o::rest) a w:=
 Lb w hg m x v t hop k e ht hk b ks hm hmap.1 key hx hv (λh=>by rw[(eX key ks).2 h]at hnew;cases hnew) λw' h g=>
  hK w' ⟨h,hmap.2.grown g (iH hmap.1.lt) (λj hj=>by cases hj;exact aG _)⟩
def Ba{P:Program}(w:World)(t k e:TypeId)(ht:P.underlying t=some (.map k e))(hk:P.underlying k=some .string)(hz:∀ W,(zeroValue e).run P W=.ok (.bool false) W)(b:Nat)(ks:List ByteArray)(hmap:fU w b ks)(key:AAE):(Instr.lookup t (.map (some b)) (.string key) false).run P w=.ok (.bool (eH key ks)) w:=by
 obtain⟨es,clk,hb,hes⟩:=hmap;have hc:(Instr.checkKey es.isEmpty 10000 k (.string key)).run P w=.ok () w:=Gu (k:=.string key) hk wZ es.isEmpty 9999
 by_cases hin:key∈ks
 ·obtain⟨j,hf⟩:=abY key es.toList ks 0 hes hin
  simp[Instr.lookup,vH ht,vX hb,hc,vO hk hf,Result.andThen,(eX key ks).2 hin]
 ·have hf:=LV key es.toList ks 0 hes hin;have hin':eH key ks=false:=by rw[Fq];exact λh=>hin ((eX key ks).1 h)
  simp[Instr.lookup,vH ht,vX hb,hc,vO hk hf,Result.andThen,hin',hz]
def aGt: Tryz.prog.underlying 108=some (.map 9 4):=by kernel_rfl
def acX: Tryz.prog.underlying 9=some .string:=by kernel_rfl
def aAo(W:World):(zeroValue 4).run Tryz.prog W=.ok (.bool false) W:=by kernel_rfl
def aiC(w:World):fU (w.alloc (.map #[] 0)) w.heap.size []:=⟨#[],0,aP w _,rfl⟩
def Yv(w:World):AAA 72 #[] w λe w'=>e=.returned (.map (some w.heap.size))/\fU w' w.heap.size bF/\Below w.heap.size w w':=by
 have hmm:=@run_makeMap Tryz.prog;have h0:Wc w (w.alloc (.map #[] 0)) w.heap.size []:=⟨aiC w,(bH _ _).alloc (aG _) _⟩
 go_in;go_wp2_with (refine Ku w _ rfl _ _ _ _ rfl _ _ aGt acX w.heap.size _ rfl iS _ rfl rfl rfl ?_;clear h0;intro w' h0);go_ret;exact⟨rfl,h0.1,h0.2⟩
def aDS(c:Int)(w:World):AAA 70 #[.int .u8 c] w λe w'=>e=.returned (.bool (FI c))/\w'=w:=by
 go_in
 go_wp2
 all_goals (go_ret;exact⟨eI (by unfold FI;simp[*]),rfl⟩)
def Oi(c:Int)(w:World):AAA 71 #[.int .u8 c] w λe w'=>e=.returned (.bool (jI c))/\w'=w:=by
 go_in
 go_wp2
 all_goals (go_ret;exact⟨eI (by unfold jI;rw[nS];simp<;>omega),rfl⟩)
def adV(s:AAE)(h:s.size=0):xE s=false:=by unfold xE;simp[h]
def amO(s:AAE)(h:31<s.size):xE s=false:=by
 have:¬ s.size<=31:=by omega
 unfold xE;simp[this]
def avJ(s:AAE)(h:AF (fR s 0)=false):xE s=false:=by unfold xE;simp[h]
def ajP(s:AAE)(h:allI kK s=false):xE s=false:=by unfold xE;simp[h]
def asW(s:AAE)(h0:1<=s.size)(h1:s.size<=31)(h2:AF (fR s 0)=true)(h3:allI kK s=true):xE s=true:=by unfold xE;simp[*]
def LG(s:AAE)(w:World):AAA 60 #[.string s] w λe w'=>e=.returned (.bool (xE s))/\∃ n,w'=w.drewN n:=by
 have r0:=pV s 0
 by_cases h0:s.size=0
 ·have e1:s.toList=[]:=(toList_nil s).2 h0;have hf:=aM (adV s h0);clear h0;exact OT
 ·have e1:s.toList.isEmpty=false:=by rw[List.isEmpty_eq_false_iff];exact λh=>h0 ((toList_nil s).1 h)
  have e2:¬ s.toList=[]:=λh=>h0 ((toList_nil s).1 h)
  by_cases h1:31<s.size
  ·have e3:decide (31<(s.size:Int))=true:=by simp;omega
   have hf:=aM (amO s h1);exact OT
  ·have e3:decide (31<(s.size:Int))=false:=by simp;omega
   have hs:s.size<=31:=by omega
   by_cases h2:AF (fR s 0)=true
   ·go_in;go_wp2_with (first|(go_at_call 93;refine(iA _ _ _).mono ?_;rintro e w' ⟨rfl,hw⟩;rw[hw];clear hw)|(go_at_call 92;refine(vQ _ r0.1 r0.2 _).mono ?_;rintro e w' ⟨rfl,n,rfl⟩))
    go_loopw [19] (λi wr=>∃ k:Nat,k<=s.size/\i=.int .i64 k/\(s.data.toList.take k).all (λc=>kK (c.toNat:Int))=true/\∃ n,wr=w.drewN n) (λi _=>s.size - (intOf i).toNat)
    case atStart=>exact⟨0,aS _,rfl,rfl,_,rfl⟩
    case round=>
     obtain⟨k,hk,rfl,hall,m,rfl⟩:=hrel;have ra:=pV s k
     by_cases hlt:k<s.size
     ·have hat:=Hp s k aB (by simpa using hlt);have HA:=aM hat;have HALL:=aM hall;clear hat hall;go_wp2_with (first|(go_at_call 93;refine(iA _ _ _).mono ?_;rintro e w' ⟨rfl,hw⟩;rw[hw];clear hw)|(go_at_call 94;refine(AP _ ra.1 ra.2 _).mono ?_;rintro e w' ⟨rfl,n,rfl⟩))
      ·have hp:(!kK (fR s (k:Int)))=true:=by assumption
       have hp':kK (fR s (k:Int))=false:=by simpa using hp
       go_ret;exact⟨eI (ajP s (Lt kK s k hlt (by rw[<- hp',HA.out];rfl))).symm,_,rfl⟩
      ·have hp:(!kK (fR s (k:Int)))=false:=by assumption
       have hp':kK (fR s (k:Int))=true:=by simpa using hp
       go_roundw
       case rel=>exact⟨k+1,by omega,by go_num,Eg kK s k hlt HALL.out (by rw[<- hp',HA.out];rfl),_,rfl⟩
       case measure=>simp[intOf];omega
     ·have hfin:=NJ kK s k aB hall;have hf:=aM (asW s aB hs h2 hfin);clear hall hfin
      go_wp2
      go_ret;exact⟨eI hf.out.symm,_,rfl⟩
   ·have h2':AF (fR s 0)=false:=by simpa using h2
    have hf:=aM (avJ s h2');go_in;go_wp2_with (first|(go_at_call 93;refine(iA _ _ _).mono ?_;rintro e w' ⟨rfl,hw⟩;rw[hw];clear hw)|(go_at_call 92;refine(vQ _ r0.1 r0.2 _).mono ?_;rintro e w' ⟨rfl,n,rfl⟩));go_ret;exact⟨eI hf.out.symm,_,rfl⟩
def Vm(s:AAE)(k:Nat)(h:k<s.size):fR s (k:Int)=((s[k]'h).toNat:Int):=by
 rw[Hp s k aB qA];rfl
def Lk(c:UInt8)(l:Bs)(d b:Nat)(pt:Bool):uO (c::l) d b pt =
 if gI (c.toNat:Int)then uO l (d+1) (if pt then b+1 else b) pt else if (c.toNat:Int)=46/\pt=false/\gI (hd l)=true then uO l d b true else none:=rfl
def acY(s:AAE)(k d b:Nat)(pt:Bool)(h:k<s.size)(h1:gI (fR s k)=true):uO (s.data.toList.drop k) d b pt=uO (s.data.toList.drop (k+1)) (d+1) (if pt then b+1 else b) pt:=by
 rw[drop_cons s k h,Lk,aF (by rw[<- Vm s k h];exact h1)]
def ahL(s:AAE)(k d b:Nat)(h:k<s.size)(h1:gI (fR s k)=false)(he:fR s k=46)(hn:gI (fR s (k+1))=true):uO (s.data.toList.drop k) d b false=uO (s.data.toList.drop (k+1)) d b true:=by
 have e:(k:Int)+1=((k+1:Nat):Int):=by omega
 rw[e,kP s (k+1)]at hn;rw[drop_cons s k h,Lk,<- Vm s k h,aC AG,aF ⟨he,rfl,hn⟩]
def axG(s:AAE)(k d b:Nat)(pt:Bool)(h:k<s.size)(h1:gI (fR s k)=false)(hn:¬ (fR s k=46/\pt=false/\gI (fR s (k+1))=true)):uO (s.data.toList.drop k) d b pt=none:=by
 have e:(k:Int)+1=((k+1:Nat):Int):=by omega
 rw[e,kP s (k+1)]at hn;rw[drop_cons s k h,Lk,<- Vm s k h,aC AG,aC hn]
def arW(s:AAE)(h:uO s.data.toList 0 0 false=none):Ns s=(0,0,false):=by unfold Ns;rw[h]
def axS(s:AAE)(d b:Nat)(h:uO s.data.toList 0 0 false=some (d,b)):Ns s=(d,b,decide (1<=d)&&decide (d<=9)):=by unfold Ns;rw[h]
def ajG(r:Nat×Nat×Bool):Value:=.tuple #[.int .i64 r.1,.int .i64 r.2.1,.bool r.2.2]
def azJ{d b:Nat}{x y:Bool}(h:x=y):Ending.returned (.tuple #[.int .i64 d,.int .i64 b,.bool x])=.returned (ajG (d,b,y)):=by rw[h];rfl
section
variable(s:AAE)(hs:s.size<=140737488351232)(w:World)
include s hs w
theorem akF:AAA 68 #[.string s] w λe w'=>e=.returned (ajG (Ns s))/\w'=w:=by
 go_in
 go_wp2
 go_loop [5,6,7,12] (λd b pt i=>∃ k d' b':Nat,∃ p:Bool,k<=s.size/\d'<=k/\b'<=k/\i=.int .i64 k/\d=.int .i64 d'/\b=.int .i64 b'/\pt=.bool p/\uO s.data.toList 0 0 false=uO (s.data.toList.drop k) d' b' p) (λ_ _ _ i=>s.size - (intOf i).toNat)
 case atStart=>exact⟨0,0,0,false,aS _,aG _,aG _,rfl,rfl,rfl,rfl,rfl⟩
 case round=>
  obtain⟨k,d',b',p,hk,hd',hb',rfl,rfl,rfl,rfl,hgo⟩:=hrel;have HGO:=aM hgo;clear hgo
  by_cases hlt:k<s.size
  ·by_cases hd:gI (fR s (k:Int))=true
   ·have hstep:=aM (acY s k d' b' p hlt hd)
    cases p
    ·go_wp2_with (first|(go_at_call 93;refine(iA _ _ _).mono ?_;rintro e w' ⟨rfl,rfl⟩)|(go_at_call 110;refine(lW _ _).mono ?_;rintro e w' ⟨rfl,rfl⟩))
     go_round
     case rel=>exact⟨k+1,d'+1,b',false,by omega,by omega,by omega,by go_num,by go_num,rfl,rfl,by rw[HGO.out,hstep.out];rfl⟩
     case measure=>simp[intOf];omega
    ·go_wp2_with (first|(go_at_call 93;refine(iA _ _ _).mono ?_;rintro e w' ⟨rfl,rfl⟩)|(go_at_call 110;refine(lW _ _).mono ?_;rintro e w' ⟨rfl,rfl⟩))
     go_round
     case rel=>exact⟨k+1,d'+1,b'+1,true,by omega,by omega,by omega,by go_num,by go_num,by go_num,rfl,by rw[HGO.out,hstep.out];rfl⟩
     case measure=>simp[intOf];omega
   ·have hd0:gI (fR s (k:Int))=false:=by simpa using hd
    clear hd
    by_cases hpt:fR s (k:Int)=46/\p=false/\gI (fR s ((k:Int)+1))=true
    ·obtain⟨he,rfl,hn⟩:=hpt;have hstep:=aM (ahL s k d' b' hlt hd0 he hn);have hq:(fR s (k:Int)==46)=true:=by rw[he];rfl
     clear he;go_wp2_with (first|(go_at_call 93;refine(iA _ _ _).mono ?_;rintro e w' ⟨rfl,rfl⟩)|(go_at_call 110;refine(lW _ _).mono ?_;rintro e w' ⟨rfl,rfl⟩))
     go_round
     case rel=>exact⟨k+1,d',b',true,by omega,by omega,by omega,by go_num,rfl,rfl,rfl,by rw[HGO.out,hstep.out]⟩
     case measure=>simp[intOf];omega
    ·have hnone:=aM (arW s (by rw[HGO.out,axG s k d' b' p hlt hd0 hpt]));go_wp2_with (first|(go_at_call 93;refine(iA _ _ _).mono ?_;rintro e w' ⟨rfl,rfl⟩)|(go_at_call 110;refine(lW _ _).mono ?_;rintro e w' ⟨rfl,rfl⟩))
     all_goals first
      | (exfalso; exact hpt ⟨by assumption, by have hp : ¬ p = true := by assumption
                                               simpa using hp, by assumption⟩)
      | (go_ret3;exact⟨by rw[hnone.out];rfl,rfl⟩)
  ·have hgo:=HGO.out;rw[iF (by have:s.data.toList.length=s.size:=rfl;omega)]at hgo;have hfin:=aM (axS s d' b' (by rw[hgo];rfl));clear hgo
   go_wp2
   all_goals (go_ret3;refine⟨?_,rfl⟩;rw[hfin.out];exact azJ (by rw[nS];simp<;>omega))
theorem aEH:AAA 69 #[.string s,.func (.func 70) #[] #[]] w λe w'=>e=.returned (.bool (allI FI s))/\w'=w:=by
 go_in
 go_wp2
 go_loop [8] (λi=>∃ k:Nat,k<=s.size/\i=.int .i64 k/\(s.data.toList.take k).all (λc=>FI (c.toNat:Int))=true) (λi=>s.size - (intOf i).toNat)
 case atStart=>exact⟨0,aS _,rfl,rfl⟩
 case round=>
  obtain⟨k,hk,rfl,hall⟩:=hrel;have HALL:=aM hall;clear hall
  by_cases hlt:k<s.size
  ·go_wp2_with (go_at_call 70;refine(aDS _ _).mono ?_;rintro e w' ⟨rfl,rfl⟩)
   ·have hp:(!FI (s[k].toNat:Int))=true:=by assumption
    go_ret;exact⟨eI (Lt FI s k hlt tT).symm,rfl⟩
   ·have hp:(!FI (s[k].toNat:Int))=false:=by assumption
    go_round
    case rel=>exact⟨k+1,by omega,by go_num,Eg FI s k hlt HALL.out tT⟩
    case measure=>simp[intOf];omega
  ·have hfin:=aM (NJ FI s k aB HALL.out)
   go_wp2
   go_ret;exact⟨eI hfin.out.symm,rfl⟩
theorem axM:AAA 69 #[.string s,.func (.func 71) #[] #[]] w λe w'=>e=.returned (.bool (allI jI s))/\w'=w:=by
 go_in
 go_wp2
 go_loop [8] (λi=>∃ k:Nat,k<=s.size/\i=.int .i64 k/\(s.data.toList.take k).all (λc=>jI (c.toNat:Int))=true) (λi=>s.size - (intOf i).toNat)
 case atStart=>exact⟨0,aS _,rfl,rfl⟩
 case round=>
  obtain⟨k,hk,rfl,hall⟩:=hrel;have HALL:=aM hall;clear hall
  by_cases hlt:k<s.size
  ·go_wp2_with (go_at_call 71;refine(Oi _ _).mono ?_;rintro e w' ⟨rfl,rfl⟩)
   ·have hp:(!jI (s[k].toNat:Int))=true:=by assumption
    go_ret;exact⟨eI (Lt jI s k hlt tT).symm,rfl⟩
   ·have hp:(!jI (s[k].toNat:Int))=false:=by assumption
    go_round
    case rel=>exact⟨k+1,by omega,by go_num,Eg jI s k hlt HALL.out tT⟩
    case measure=>simp[intOf];omega
  ·have hfin:=aM (NJ jI s k aB HALL.out)
   go_wp2
   go_ret;exact⟨eI hfin.out.symm,rfl⟩
end
def Ze: Tryz.prog.underlying 117=some (.slice 5):=by kernel_rfl
def aDT: Tryz.prog.underlying 5=some (.int .u8):=by kernel_rfl
def aFi(c:UInt8)(h:¬ (97<=(c.toNat:Int)/\(c.toNat:Int)<=122)):upC c=c:=by
 unfold upC;rw[aC aB]
def aGj(c:UInt8)(h1:97<=(c.toNat:Int))(h2:(c.toNat:Int)<=122):((upC c).toNat:Int)=(c.toNat:Int) - 97+65:=by
 unfold upC;rw[aF aB,UInt8.toNat_ofNat'];omega
def aaI{α:Type}(l:List α)(i:Nat)(d:α)(h:i<l.length):l.getD i d=l[i]:=by
 rw[dH,dQ h];rfl
def NG(s:AAE)(k:Nat)(h:k<s.size):s.data.toList.getD k 0=s.data[k]'(by exact h):=by
 have h':k<s.data.toList.length:=h;rw[aaI _ _ _ h'];simp
def XS(s:AAE)(hs:s.size<=140737488351232)(w:World):AAA 61 #[.string s] w λe w'=>e=.returned (.string (upS s))/\Below w.heap.size w w':=by
 obtain⟨c1,w1,hrun,hcell,hfr,hbel⟩:∃ c1 w1,(convert 9 117 (.string s)).run Tryz.prog w=.ok (.slice (some (AAF w.heap.size 0)) s.size c1) w1/\(∀ j,j<s.size->w1.cell? (w.heap.size,j)=some (.int .u8 (s.data.toList.getD j 0).toNat))/\
  (∀ j,j<s.size->w1.frozen? (w.heap.size,j)=false)/\Below w.heap.size w w1:=by
  refine⟨_,_,Lib.run_convert_string_bytes w _ _ _ s acX Ze aDT,λj hj=>Lib.bytesWorld_cell w _ s j hj,λj hj=>?_,?_⟩
  ·have hsz:s.size<=(Lib.bytesCells w 5 s).size:=by simp[Lib.bytesCells]
   simp[World.frozen?,Lib.bytesWorld_at_new];omega
  ·exact⟨rfl,rfl,rfl,by rw[Lib.bytesWorld_size];omega,λk hk=>Lib.bytesWorld_at_old w _ s k hk⟩
 go_in;go_wp2_with fail;clear hrun
 go_loopw [10] (λi wr=>∃ k:Nat,k<=s.size/\i=.int .i64 k/\(∀ j,j<s.size->wr.cell? (w.heap.size,j)=some (.int .u8 (if j<k then(upC (s.data.toList.getD j 0)).toNat else(s.data.toList.getD j 0).toNat:Nat)))/\(∀ j,j<s.size->wr.frozen? (w.heap.size,j)=false)/\Below w.heap.size w wr) (λi _=>s.size - (intOf i).toNat)
 case atStart=>exact⟨0,aS _,rfl,λj hj=>by rw[hcell j hj];simp,hfr,hbel⟩
 case round=>
  obtain⟨k,hk,rfl,hc,hf,hb⟩:=hrel
  by_cases hlt:k<s.size
  ·have hck:=hc k hlt;rw[aC aB]at hck;have hfk:=hf k hlt;have HC:=aM hc;have HF:=aM hf;clear hc hf hcell hfr;go_wp2_with fail
   ·have h1:97<=((s.data[k]'hlt).toNat:Int):=by assumption
    have h2:((s.data[k]'hlt).toNat:Int)<=122:=by assumption
    have hu:=aGj _ h1 h2;have hg:=NG s k hlt
    go_roundw
    case rel=>
     refine⟨k+1,by omega,by go_num,λj hj=>?_,λj hj=>?_,hb.setCell (p:=(w.heap.size,k)) (aG _) _⟩
     ·by_cases hjk:j=k
      ·subst hjk;rw[aF aB,hg];rw[vM _ _ _ hck,<- hu]
      ·rw[World.cell?_setCell_other _ _ _ _ (by intro e;injection e with _ e2;exact hjk e2.symm),HC.out j hj]
       by_cases hjk2:j<k
       ·rw[aF hjk2,aF aB]
       ·rw[aC hjk2,aC aB]
     ·rw[World.frozen?_setCell];exact HF.out j hj
    case measure=>simp[intOf];omega
   all_goals
    have hlow:upC (s.data[k]'hlt)=s.data[k]'hlt:=aFi _ aB;have hg:=NG s k hlt
    go_roundw
    case rel=>
     refine⟨k+1,by omega,by go_num,λj hj=>?_,HF.out,hb⟩;rw[HC.out j hj]
     by_cases hjk:j=k
     ·subst hjk;rw[aC (Gi _),aF (pC _),hg,hlow]
     ·by_cases hjk2:j<k
      ·rw[aF hjk2,aF aB]
      ·rw[aC hjk2,aC aB]
    case measure=>simp[intOf];omega
  ·obtain rfl:k=s.size:=by omega
   have hconv:=run_convert_bytes_arg (P:=Tryz.prog) wr 117 5 Ze aDT w.heap.size 0 s.size c1 (s.data.toList.map λc=>((upC c).toNat:Int)) aI (λi hi=>by
    have h1:=hc i hi
    rw[aF hi]at h1
    rw[dT,h1]
    have h2:=NG s i hi
    rw[h2,aaI _ i 0 (by simp;exact hi)]
    simp) 9 acX
   have hup:strOfNums (s.data.toList.map λc=>((upC c).toNat:Int))=upS s:=by
    unfold strOfNums upS
    simp
   rw[hup]at hconv;clear hc hf hup hcell hfr;go_wp2_with fail;go_ret;exact⟨rfl,hb⟩
def beq_toList(a b:AAE):(a.toList==b.toList)=decide (a=b):=by
 rw[toList_data,toList_data,nS,kW,KS];exact⟨λh=>by obtain⟨⟨x⟩⟩:=a;obtain⟨⟨y⟩⟩:=b;simpa using h,λh=>by rw[h]⟩
def LF(s:AAE):oI s=(xE s&&decide (upS s=s)):=rfl
def Wm(s:AAE)(hs:s.size<=140737488351232)(w:World):AAA 28 #[.string s] w λe w'=>e=.returned (.bool (oI s))/\Below w.heap.size w w':=by
 by_cases hn:xE s=true
 ·go_in;go_wp2_with fail;refine(LG s w).mono ?_;rintro e w' ⟨rfl,n,rfl⟩;go_wp2_with fail;refine(XS s hs _).mono ?_;rintro e w' ⟨rfl,hb⟩
  go_wp2
  go_ret;exact⟨eI (by rw[LF,hn,beq_toList];rfl),(below_drewN (bH _ _) _).trans hb⟩
 ·have hn':xE s=false:=by simpa using hn
  go_in;go_wp2_with fail;refine(LG s w).mono ?_;rintro e w' ⟨rfl,n,rfl⟩
  go_wp2
  go_ret;exact⟨eI (by rw[LF,hn'];rfl),below_drewN (bH _ _) _⟩
def aJ(w:World)(o:Obj):Below w.heap.size w (w.alloc o):=(bH _ _).alloc (aG _) _
def eU(w w':World)(o:Obj)(h:Below (w.alloc o).heap.size (w.alloc o) w'):Below w.heap.size w w':=
 (aJ w o).trans (h.mono aI)
def aBf(w:World)(cs:Array Value)(T:TypeId)(j:Nat):(w.alloc (.cells cs T)).cell? (w.heap.size,j)=cs[j]?:=
 aK _ _ _ cs T (0,0) (aP w _)
def axK{w w':World}{p:Addr}{u:Value}(hb:Below w.drew.heap.size w.drew w')(hp:p.block<w.heap.size)(h:w.cell? p=some u):w'.cell? p=some u:=
 (hb.cell (p:=p) hp).trans h
def afF(s:AAE)(hs:s.size<=140737488351232)(w:World) :
 AAA 68 #[.string s] w λe w'=>e=.returned (.tuple #[.int .i64 (Ns s).1,.int .i64 (Ns s).2.1,.bool (Ns s).2.2])/\w'=w:=akF s hs w
def EP(k:Int)(t:AAE)(a:Int)(hs:t.size<=140737488351232)(w:World):AAA 44 #[.agg #[.int .i64 k,.string t,.int .i64 a]] w λe w'=>e=.returned (.int .i64 (GG (eP k t)))/\Below w.heap.size w w':=by
 by_cases h1:k=1
 ·subst h1;go_in;go_wp2_with (go_at_call 28;refine(Wm _ hs _).mono ?_;rintro e w' ⟨rfl,hb⟩)
  all_goals
   go_ret;exact⟨by unfold eP;simp_all [GG],eU _ _ _ (by simpa using hb)⟩
 by_cases h2:k=2
 ·subst h2;go_in;go_wp2_with (go_at_call 68;refine(afF _ hs _).mono ?_;rintro e w' ⟨rfl,rfl⟩)
  all_goals
   go_ret;exact⟨by unfold eP;simp_all [GG],aJ _ _⟩
 by_cases h3:k=3
 ·subst h3;exact QE
 by_cases h4:k=4
 ·subst h4;go_in;go_wp2_with (go_at_call 69;refine(axM _ hs _).mono ?_;rintro e w' ⟨rfl,rfl⟩)
  all_goals
   go_ret;exact⟨by unfold eP;simp_all [GG]<;>omega,aJ _ _⟩
 by_cases h5:k=5
 ·subst h5;exact QE
 by_cases h6:k=6
 ·subst h6;go_in;go_wp2_with fail;have b1:=aJ w (.cells #[.int .i64 6,.string t,.int .i64 a] 47);have c1:=aBf w #[.int .i64 6,.string t,.int .i64 a] 47 1;have z1:w.heap.size<(w.alloc (.cells #[.int .i64 6,.string t,.int .i64 a] 47)).heap.size:=by simp
  generalize w.alloc (.cells #[.int .i64 6,.string t,.int .i64 a] 47)=w1 at b1 c1 z1 ⊢;have c2:w1.cell? (AAF w.heap.size 1)=some (.string t):=c1;clear c1
  go_region_with (first|(go_at_call 72;refine(Yv _).mono ?_;rintro e w' ⟨rfl,hm,hb⟩;have hcell:=axK hb z1 c2;have hl:(Instr.lookup 108 (.map (some w1.heap.size)) (.string t) false).run Tryz.prog w'=.ok (.bool (eH t bF)) w':=Ba w' _ _ _ aGt acX aAo _ _ hm t))
  all_goals
   have bb:Below w.heap.size w w':=b1.drew.trans (hb.mono (iH z1));clear hb hm hl hcell
   go_wp2
  all_goals
   go_ret;exact⟨by unfold eP;simp_all [GG],bb⟩
 ·have e1:(k==1)=false:=by simpa using h1
  have e2:(k==2)=false:=by simpa using h2
  have e3:(k==3)=false:=by simpa using h3
  have e4:(k==4)=false:=by simpa using h4
  have e5:(k==5)=false:=by simpa using h5
  have e6:(k==6)=false:=by simpa using h6
  have hf:GG (eP k t)=50:=by unfold eP;simp[*];rfl
  have HF:=aM hf;clear hf h1 h2 h3 h4 h5 h6;go_in
  go_wp2
  go_ret;exact⟨UC HF.out.symm,aJ _ _⟩
end
