/- ParseWhole, part 2: what it stands on. -/
import Derived.Test.YtfdlmcgcckkkdaaGreatDoorRows
import Derived.Test.YtfdlmcgcckkkdaaGreatDoorV01
import Derived.WalkKit
import Derived.WalkSpells
import Derived.WalkLawsBesides
import Derived.Lib.Hide
import Derived.Deep.QuietTactic
import Derived.BigQuiet
import Derived.Carry
import Derived.Lib.ConvBytes
import Derived.Deep.RegionWith
set_option linter.all false
set_option maxHeartbeats 40000000
set_option maxRecDepth 100000
namespace Go.Proofs.YtfdlmcgcckkkdaaGreatDoor
section
open Go.RowKit Lx
theorem aR{a b:Bool}(h:a=b):Ending.returned (.bool a)=.returned (.bool b):=by rw[h]
theorem AV{k:IntKind}{a b:Int}(h:a=b):Ending.returned (.int k a)=.returned (.int k b):=by rw[h]
theorem CY(n:Nat)(h:n<256):wrap32 (n:Int)=n:=by simp[wrap32];omega
theorem dE(c:Int)(w:World):Calls Tryz.prog 102 #[.int .i32 c] w fun e w'=>e=.returned (.bool (iP c))∧w'=w:=by
 go_enter Tryz.func102,Tryz.ntmps102
 go_wp2
 all_goals (go_ret;exact⟨aR (by unfold iP;rw[Bool.eq_iff_iff];simp<;>omega),rfl⟩)
theorem sP(c:Int)(w:World):Calls Tryz.prog 139 #[.int .i32 c] w fun e w'=>e=.returned (.bool (GR c))∧w'=w:=by
 go_enter Tryz.func139,Tryz.ntmps139
 go_wp2
 all_goals (go_ret;exact⟨aR (by unfold GR;rw[Bool.eq_iff_iff];simp<;>omega),rfl⟩)
theorem bU(s:ByteArray)(i:Int)(w:World):Calls Tryz.prog 101 #[.string s,.int .i64 i] w fun e w'=>e=.returned (.int .i32 (atI s i))∧w'=w:=by
 go_enter Tryz.func101,Tryz.ntmps101
 go_wp2
 ·have hx:i<0∨(s.size:Int)≤i:=by assumption
  go_ret;exact⟨AV (by rw[lP s i hx]),rfl⟩
 ·have hx:0≤i∧i<(s.size:Int):=by assumption
  have hlt:=(s[i.toNat]'(by omega)).toNat_lt;go_ret;exact⟨AV (by rw[uB s i hx.1 (by omega),CY _ hlt]),rfl⟩
 ·have hx:i<0:=by assumption
  go_ret;exact⟨AV (by rw[lP s i (.inl hx)]),rfl⟩
theorem dA{P:Program}{f:FuncId}{args:Array Value}{w:World}{a n:Nat}{v:Value}(h:Calls P f args (w.drewN (a+n)) fun e w'=>e=.returned v∧w'=w.drewN (a+n)):Calls P f args (w.drewN (a+n)) fun e w''=>e=.returned v∧∃ m,w''=w.drewN (a+m):=
 h.mono fun _ _ ⟨he,hm⟩=>⟨he,n,hm⟩
theorem MX: ∀ n:Fin 256,128≤n.val→Lib.indexByte [35,64] n.val.toUInt8 = -1:=by decide +kernel
theorem Ns: ∀ n:Fin 128,decide (0≤Lib.indexByte (⟨#[95,36,35,64]⟩:ByteArray).data.toList ((n.val:Int)).toNat.toUInt8)=PU (n.val:Int):=by decide +kernel
theorem Ak(w:World):Calls Tryz.prog 156 #[.string ⟨#[95,36,35,64]⟩,.int .i32 (-1)] w fun e w'=>e=.returned (.int .i64 (-1))∧w'=w:=by
 go_enter Tryz.func156,Tryz.ntmps156;go_wp2_with fail;have h:Lib.validRune (-1)=false:=by decide
 have hv:=Tryz.utf8_ValidRune (-1) w;rw[h]at hv;refine hv.mono ?_;rintro e w' ⟨rfl,rfl⟩;clear hv h
 go_wp2
 go_ret;exact⟨rfl,rfl⟩
theorem Nh(c:Int)(h0:128≤c)(h1:c≤255):∃ x y:UInt8,128≤y.toNat∧Utf8.encode c=⟨#[x,y]⟩:=by
 refine⟨UInt8.ofNat (192+c.toNat / 64),UInt8.ofNat (128+c.toNat % 64),?_,?_⟩
 ·rw[UInt8.toNat_ofNat'];omega
 ·have hv:Utf8.valid c=true:=by unfold Utf8.valid;simp;omega
  unfold Utf8.encode;simp only[hv,if_true]
  rw[if_neg (by omega),if_pos (by omega)]
theorem Cq(c:Int)(h0:128≤c)(h1:c≤255)(w:World):Calls Tryz.prog 169 #[.int .i32 c] w fun e w'=>e=.returned (.bool true)∧w'=w:=by
 have h:Lib.validRune c=true:=by unfold Lib.validRune;simp;omega
 have:=Tryz.utf8_ValidRune c w;rw[h]at this;exact this
theorem Cn(c:Int)(h0:128≤c)(h1:c≤255)(w:World):Calls Tryz.prog 156 #[.string ⟨#[95,36,35,64]⟩,.int .i32 c] w fun e w'=>e=.returned (.int .i64 (-1))∧∃ n,w'=w.drewN n:=by
 have hv:¬ c=65533:=by omega
 go_enter Tryz.func156,Tryz.ntmps156;go_wp2_with fail;refine(Cq c h0 h1 w).mono ?_;rintro e w' ⟨rfl,hw⟩;rw[hw];clear hw;obtain⟨x,y,hy,henc⟩:=Nh c h0 h1;go_wp2_with fail
 go_step3
 go_wp2_with fail;clear henc;refine wp_loop_rounds 1 ?_;rw[rounds_succ];go_wp2_with fail
 go_step3
 have hy2:((36:Int) != (y.toNat:Int))=true:=by rw[bne_iff_ne];omega
 have g1:((⟨#[95,36,35,64]⟩:ByteArray)[1]'(by decide))=36:=rfl;have g2:((⟨#[x,y]⟩:ByteArray)[1]'(by simp[ByteArray.size]))=y:=rfl;have hib:Lib.indexByte [35,64] y = -1:=by
  have:=MX ⟨y.toNat,y.toNat_lt⟩ hy
  simpa using this
 go_wp2_with fail
 go_quiet (fail)
 go_wp2_with fail
 go_quiet ((go_at_call 168;exact dA (Tryz.strings_IndexByte _ _ _)))
 go_wp2_with fail;rw[Exit.noGoto_ret]
 go_wp2
 rw[Exit.noGoto_ret]
 go_wp2
 go_ret;exact⟨rfl,_,rfl⟩
theorem Dj(c:Int)(h0 : -1≤c)(h1:c≤255)(w:World):Calls Tryz.prog 140 #[.string ⟨#[95,36,35,64]⟩,.int .i32 c] w fun e w'=>e=.returned (.bool (PU c))∧∃ n,w'=w.drewN n:=by
 rcases Int.lt_or_le c 0 with hn|hn
 ·obtain rfl:c = -1:=by omega
  go_enter Tryz.func140,Tryz.ntmps140;go_wp2_with fail;refine(Ak w).mono ?_;rintro e w' ⟨rfl,rfl⟩
  go_wp2
  go_ret;exact⟨rfl,0,rfl⟩
 ·rcases Int.lt_or_le c 128 with hc|hc
  ·refine(Tryz.strings_ContainsRune_ascii ⟨#[95,36,35,64]⟩ c w hn hc).mono ?_;rintro e w' ⟨rfl,rfl⟩;refine⟨aR ?_,0,rfl⟩;obtain⟨n,rfl⟩:=Int.eq_ofNat_of_zero_le hn;exact Ns ⟨n,by omega⟩
  ·go_enter Tryz.func140,Tryz.ntmps140;go_wp2_with fail;refine(Cn c hc h1 w).mono ?_;rintro e w' ⟨rfl,n,rfl⟩
   go_wp2
   go_ret;refine⟨aR ?_,n,rfl⟩;unfold PU;symm;simp;omega
theorem kG(c:Int)(h0 : -1≤c)(h1:c≤255)(w:World):Calls Tryz.prog 105 #[.int .i32 c] w fun e w'=>e=.returned (.bool (fW c))∧∃ n,w'=w.drewN n:=by
 by_cases ha:GR c=true
 ·go_enter Tryz.func105,Tryz.ntmps105;go_wp2_with (go_at_call 139;refine(sP _ _).mono ?_;rintro e w' ⟨rfl,rfl⟩)
  all_goals (go_ret;exact⟨aR (by unfold fW;simp[*]),0,rfl⟩)
 ·by_cases hd:iP c=true
  ·go_enter Tryz.func105,Tryz.ntmps105;go_wp2_with (first|(go_at_call 139;refine(sP _ _).mono ?_;rintro e w' ⟨rfl,rfl⟩)|(go_at_call 102;refine(dE _ _).mono ?_;rintro e w' ⟨rfl,rfl⟩))
   all_goals (go_ret;exact⟨aR (by unfold fW;simp[*]),0,rfl⟩)
  ·have ha':GR c=false:=by simpa using ha
   have hd':iP c=false:=by simpa using hd
   go_enter Tryz.func105,Tryz.ntmps105;go_wp2_with (first|(go_at_call 139;refine(sP _ _).mono ?_;rintro e w' ⟨rfl,rfl⟩)|(go_at_call 102;refine(dE _ _).mono ?_;rintro e w' ⟨rfl,rfl⟩)|(go_at_call 140;refine(Dj _ h0 h1 _).mono ?_;rintro e w' ⟨rfl,n,rfl⟩))
   all_goals (go_ret;exact⟨aR (by unfold fW;simp[*]),_,rfl⟩)
theorem iJ(c:Int)(h0 : -1≤c)(h1:c≤255)(w:World):Calls Tryz.prog 104 #[.int .i32 c] w fun e w'=>e=.returned (.bool (xX c))∧∃ n,w'=w.drewN n:=by
 go_enter Tryz.func104,Tryz.ntmps104;go_wp2_with (first|(go_at_call 105;refine(kG _ h0 h1 _).mono ?_;rintro e w' ⟨rfl,n,rfl⟩)|(go_at_call 102;refine(dE _ _).mono ?_;rintro e w' ⟨rfl,rfl⟩))
 all_goals (go_ret;exact⟨aR (by unfold xX;simp[*]),_,rfl⟩)
def bG(w:World)(b:Nat)(ks:List ByteArray):Prop:=
 ∃ es clk,w.heap[b]?=some (.map es clk)∧es.toList.map (fun e=>(e.key,e.val))=ks.map (fun s=>(Value.string s,Value.bool true))
theorem Bl(k s:ByteArray):(k==s)=decide (k=s):=by
 rw[Bool.eq_iff_iff]
 show (k.data==s.data)=true↔_
 simp[ByteArray.ext_iff]
theorem tQ(k:ByteArray):∀ (es:List MapEntry) (ks:List ByteArray) (i:Nat),es.map (fun e=>(e.key,e.val))=ks.map (fun s=>(Value.string s,Value.bool true))→k∉ks→Instr.findNow .string (.string k) es i=some none:=by
 intro es
 induction es with
 | nil=>intro ks i _ _;rfl
 | cons e es ih=>
  intro ks i h hk
  match ks,h with
  | s::ks,h=>
   simp only[List.map_cons,List.cons.injEq,Prod.mk.injEq]at h
   simp only[List.mem_cons,not_or]at hk
   unfold Instr.findNow;rw[h.1.1];have:(k==s)=false:=by rw[Bl];simpa using hk.1
   simp only[Instr.sameNow,this]
   exact ih ks _ h.2 hk.2
theorem Co(k:ByteArray):∀ (es:List MapEntry) (ks:List ByteArray) (i:Nat),es.map (fun e=>(e.key,e.val))=ks.map (fun s=>(Value.string s,Value.bool true))→k∈ks→∃ j,Instr.findNow .string (.string k) es i=some (some (j,.bool true)):=by
 intro es
 induction es with
 | nil=>intro ks i h hk;match ks,h with | [],_=>cases hk
 | cons e es ih=>
  intro ks i h hk
  match ks,h with
  | s::ks,h=>
   simp only[List.map_cons,List.cons.injEq,Prod.mk.injEq]at h
   unfold Instr.findNow;rw[h.1.1,h.1.2]
   by_cases he:k=s
   ·have:(k==s)=true:=by rw[Bl];simpa using he
    simp only[Instr.sameNow,this]
    exact⟨i,rfl⟩
   ·have:(k==s)=false:=by rw[Bl];simpa using he
    simp only[Instr.sameNow,this]
    exact ih ks _ h.2 (by simpa[he]using hk)
theorem bG.lt{w:World}{b:Nat}{ks:List ByteArray}(h:bG w b ks):b<w.heap.size:=by
 obtain⟨es,clk,hb,_⟩:=h;exact(Array.getElem?_eq_some_iff.1 hb).1
theorem bG.below{w w':World}{b:Nat}{ks:List ByteArray}(h:bG w b ks){B:Nat}(hb:Below B w w')(hB:b<B):bG w' b ks:=by
 obtain⟨es,clk,h1,h2⟩:=h;exact⟨es,clk,(hb.block b hB).trans h1,h2⟩
theorem rL{P:Program}(w:World){ops:Array Oper}{rest:List Oper}{o:Oper}{a:Act}{Q:Exit→Act→World→Prop}(hg:o.guard=none)(m x v:Operand)(t:TypeId)(hop:o.op=Op.insert t m x v)(k e:TypeId)(ht:P.underlying t=some (.map k e))(hk:P.underlying k=some .string)(b:Nat)(ks:List ByteArray)(hm:a.eval m=.map (some b))(hmap:bG w b ks)(key:ByteArray)(hx:a.eval x=.string key)(hv:a.eval v=.bool true)(hnew:key∉ks)(hK:∀ w',bG w' b (ks++[key])→w.grownBy w' (some b)→wpList P ops Q rest (a.put o.dst undef) w'):wpList P ops Q (o::rest) a w:=by
 refine wpList_plain hg fun K' hK'=>?_;obtain⟨es,clk,hb,hes⟩:=hmap;have hf:=tQ key es.toList ks 0 hes hnew;have hrun:(Instr.mapUpdate t (.map (some b)) (.string key) (.bool true)).run P w=.ok () { w with heap:=w.heap.setIfInBounds b (.map (es.push { key:=.string key,val:=.bool true,born:=clk }) (clk+1)) }:=by
  have hc:(Instr.checkKey false 10000 k (.string key)).run P w=.ok () w:=MapKept.run_checkKey (k:=.string key) hk (by simp[MapKept.IsKey]) false 9999
  simp[Instr.mapUpdate,run_underlying ht,MapKept.run_getObj_map hb,hc,MapKept.run_findKey hk hf,MapKept.run_setObj_map _ hb,Result.andThen]
 have hlt:b<w.heap.size:=(Array.getElem?_eq_some_iff.1 hb).1;have hres:=hK { w with heap:=w.heap.setIfInBounds b (.map (es.push { key:=.string key,val:=.bool true,born:=clk }) (clk+1)) }
  ⟨es.push { key:=.string key,val:=.bool true,born:=clk },clk+1,by simp[hlt],by simp[hes]⟩
  ⟨rfl, rfl, rfl, by simp, fun j _ hne => by
    have : b ≠ j := fun h => hne (by rw [h])
    simp [this]⟩
 unfold Oper.wp
 simp[execOp,hop,hm,hx,hv,hrun,Result.andThen]
 exact hK' _ _ hres
def AB(w0 w:World)(b:Nat)(ks:List ByteArray):Prop:=bG w b ks∧Below b w0 w
theorem pP{P:Program}(w0 w:World){ops:Array Oper}{rest:List Oper}{o:Oper}{a:Act}{Q:Exit→Act→World→Prop}(hg:o.guard=none)(m x v:Operand)(t:TypeId)(hop:o.op=Op.insert t m x v)(k e:TypeId)(ht:P.underlying t=some (.map k e))(hk:P.underlying k=some .string)(b:Nat)(ks:List ByteArray)(hm:a.eval m=.map (some b))(hmap:AB w0 w b ks)(key:ByteArray)(hx:a.eval x=.string key)(hv:a.eval v=.bool true)(hnew:mV key ks=false)(hK:∀ w',AB w0 w' b (ks++[key])→wpList P ops Q rest (a.put o.dst undef) w'):wpList P ops Q (o::rest) a w:=
 rL w hg m x v t hop k e ht hk b ks hm hmap.1 key hx hv (fun h=>by rw[(uR key ks).2 h]at hnew;cases hnew) fun w' h g=>
  hK w' ⟨h,hmap.2.grown g (Nat.le_of_lt hmap.1.lt) (fun j hj=>by cases hj;exact Nat.le_refl _)⟩
theorem jR{P:Program}(w:World)(t k e:TypeId)(ht:P.underlying t=some (.map k e))(hk:P.underlying k=some .string)(hz:∀ W,(zeroValue e).run P W=.ok (.bool false) W)(b:Nat)(ks:List ByteArray)(hmap:bG w b ks)(key:ByteArray):(Instr.lookup t (.map (some b)) (.string key) false).run P w=.ok (.bool (mV key ks)) w:=by
 obtain⟨es,clk,hb,hes⟩:=hmap;have hc:(Instr.checkKey es.isEmpty 10000 k (.string key)).run P w=.ok () w:=MapKept.run_checkKey (k:=.string key) hk (by simp[MapKept.IsKey]) es.isEmpty 9999
 by_cases hin:key∈ks
 ·obtain⟨j,hf⟩:=Co key es.toList ks 0 hes hin
  simp[Instr.lookup,run_underlying ht,MapKept.run_getObj_map hb,hc,MapKept.run_findKey hk hf,Result.andThen,(uR key ks).2 hin]
 ·have hf:=tQ key es.toList ks 0 hes hin;have hin':mV key ks=false:=by rw[Bool.eq_false_iff];exact fun h=>hin ((uR key ks).1 h)
  simp[Instr.lookup,run_underlying ht,MapKept.run_getObj_map hb,hc,MapKept.run_findKey hk hf,Result.andThen,hin',hz]
theorem Qg: Tryz.prog.underlying 99=some (.map 9 4):=by kernel_rfl
theorem Mo: Tryz.prog.underlying 9=some .string:=by kernel_rfl
theorem Od(W:World):(zeroValue 4).run Tryz.prog W=.ok (.bool false) W:=by kernel_rfl
theorem CL(w:World):bG (w.alloc (.map #[] 0)) w.heap.size []:=⟨#[],0,heap_alloc_new w _,rfl⟩
theorem Bv(w:World):Calls Tryz.prog 64 #[] w fun e w'=>e=.returned (.map (some w.heap.size))∧bG w' w.heap.size aI∧Below w.heap.size w w':=by
 have hmm:=@run_makeMap Tryz.prog;have h0:AB w (w.alloc (.map #[] 0)) w.heap.size []:=⟨CL w,(Below.refl _ _).alloc (Nat.le_refl _) _⟩
 go_enter Tryz.func64,Tryz.ntmps64;go_wp2_with (refine pP w _ rfl _ _ _ _ rfl _ _ Qg Mo w.heap.size _ rfl (by assumption) _ rfl rfl rfl ?_;clear h0;intro w' h0);go_ret;exact⟨rfl,h0.1,h0.2⟩
theorem NW(c:Int)(w:World):Calls Tryz.prog 62 #[.int .u8 c] w fun e w'=>e=.returned (.bool (JD c))∧w'=w:=by
 go_enter Tryz.func62,Tryz.ntmps62
 go_wp2
 all_goals (go_ret;exact⟨aR (by unfold JD;simp[*]),rfl⟩)
theorem vW(c:Int)(w:World):Calls Tryz.prog 63 #[.int .u8 c] w fun e w'=>e=.returned (.bool (dZ c))∧w'=w:=by
 go_enter Tryz.func63,Tryz.ntmps63
 go_wp2
 all_goals (go_ret;exact⟨aR (by unfold dZ;rw[Bool.eq_iff_iff];simp<;>omega),rfl⟩)
theorem DN(s:ByteArray)(h:s.size=0):qC s=false:=by unfold qC;simp[h]
theorem Gu(s:ByteArray)(h:31<s.size):qC s=false:=by
 have:¬ s.size≤31:=by omega
 unfold qC;simp[this]
theorem Il(s:ByteArray)(h:xX (atI s 0)=false):qC s=false:=by unfold qC;simp[h]
theorem Gc(s:ByteArray)(h:allI fW s=false):qC s=false:=by unfold qC;simp[h]
theorem IQ(s:ByteArray)(h0:1≤s.size)(h1:s.size≤31)(h2:xX (atI s 0)=true)(h3:allI fW s=true):qC s=true:=by unfold qC;simp[*]
theorem yQ(s:ByteArray)(w:World):Calls Tryz.prog 72 #[.string s] w fun e w'=>e=.returned (.bool (qC s))∧∃ n,w'=w.drewN n:=by
 have r0:=eV s 0
 by_cases h0:s.size=0
 ·have e1:s.toList=[]:=(toList_nil s).2 h0;have hf:=Lib.hid (DN s h0);clear h0;go_enter Tryz.func72,Tryz.ntmps72
  go_wp2
  go_ret;exact⟨aR hf.out.symm,0,rfl⟩
 ·have e1:s.toList.isEmpty=false:=by rw[List.isEmpty_eq_false_iff];exact fun h=>h0 ((toList_nil s).1 h)
  have e2:¬ s.toList=[]:=fun h=>h0 ((toList_nil s).1 h)
  by_cases h1:31<s.size
  ·have e3:decide (31<(s.size:Int))=true:=by simp;omega
   have hf:=Lib.hid (Gu s h1);go_enter Tryz.func72,Tryz.ntmps72
   go_wp2
   go_ret;exact⟨aR hf.out.symm,0,rfl⟩
  ·have e3:decide (31<(s.size:Int))=false:=by simp;omega
   have hs:s.size≤31:=by omega
   by_cases h2:xX (atI s 0)=true
   ·go_enter Tryz.func72,Tryz.ntmps72;go_wp2_with (first|(go_at_call 101;refine(bU _ _ _).mono ?_;rintro e w' ⟨rfl,hw⟩;rw[hw];clear hw)|(go_at_call 104;refine(iJ _ r0.1 r0.2 _).mono ?_;rintro e w' ⟨rfl,n,rfl⟩))
    go_loopw [19] (fun i wr=>∃ k:Nat,k≤s.size∧i=.int .i64 k∧(s.data.toList.take k).all (fun c=>fW (c.toNat:Int))=true∧∃ n,wr=w.drewN n) (fun i _=>s.size - (intOf i).toNat)
    case atStart=>exact⟨0,Nat.zero_le _,rfl,rfl,_,rfl⟩
    case round=>
     obtain⟨k,hk,rfl,hall,m,rfl⟩:=hrel;have ra:=eV s k
     by_cases hlt:k<s.size
     ·have hat:=uB s k (by omega) (by simpa using hlt);have HA:=Lib.hid hat;have HALL:=Lib.hid hall;clear hat hall;go_wp2_with (first|(go_at_call 101;refine(bU _ _ _).mono ?_;rintro e w' ⟨rfl,hw⟩;rw[hw];clear hw)|(go_at_call 105;refine(kG _ ra.1 ra.2 _).mono ?_;rintro e w' ⟨rfl,n,rfl⟩))
      ·have hp:(!fW (atI s (k:Int)))=true:=by assumption
       have hp':fW (atI s (k:Int))=false:=by simpa using hp
       go_ret;exact⟨aR (Gc s (sK fW s k hlt (by rw[← hp',HA.out];rfl))).symm,_,rfl⟩
      ·have hp:(!fW (atI s (k:Int)))=false:=by assumption
       have hp':fW (atI s (k:Int))=true:=by simpa using hp
       go_roundw
       case rel=>exact⟨k+1,by omega,by go_num,lW fW s k hlt HALL.out (by rw[← hp',HA.out];rfl),_,rfl⟩
       case measure=>simp[intOf];omega
     ·have hfin:=uW fW s k (by omega) hall;have hf:=Lib.hid (IQ s (by omega) hs h2 hfin);clear hall hfin
      go_wp2
      go_ret;exact⟨aR hf.out.symm,_,rfl⟩
   ·have h2':xX (atI s 0)=false:=by simpa using h2
    have hf:=Lib.hid (Il s h2');go_enter Tryz.func72,Tryz.ntmps72;go_wp2_with (first|(go_at_call 101;refine(bU _ _ _).mono ?_;rintro e w' ⟨rfl,hw⟩;rw[hw];clear hw)|(go_at_call 104;refine(iJ _ r0.1 r0.2 _).mono ?_;rintro e w' ⟨rfl,n,rfl⟩));go_ret;exact⟨aR hf.out.symm,_,rfl⟩
theorem AR(s:ByteArray)(k:Nat)(h:k<s.size):atI s (k:Int)=((s[k]'h).toNat:Int):=by
 rw[uB s k (by omega) (by simpa using h)];rfl
theorem sW(c:UInt8)(l:Bs)(d b:Nat)(pt:Bool):mN (c::l) d b pt =
 if iP (c.toNat:Int)then mN l (d+1) (if pt then b+1 else b) pt else if (c.toNat:Int)=46∧pt=false∧iP (hd l)=true then mN l d b true else none:=rfl
theorem Dn(s:ByteArray)(k d b:Nat)(pt:Bool)(h:k<s.size)(h1:iP (atI s k)=true):mN (s.data.toList.drop k) d b pt=mN (s.data.toList.drop (k+1)) (d+1) (if pt then b+1 else b) pt:=by
 rw[drop_cons s k h,sW,if_pos (by rw[← AR s k h];exact h1)]
theorem Cv(s:ByteArray)(k d b:Nat)(h:k<s.size)(h1:iP (atI s k)=false)(he:atI s k=46)(hn:iP (atI s (k+1))=true):mN (s.data.toList.drop k) d b false=mN (s.data.toList.drop (k+1)) d b true:=by
 have e:(k:Int)+1=((k+1:Nat):Int):=by omega
 rw[e,dO s (k+1)]at hn;rw[drop_cons s k h,sW,← AR s k h,if_neg (by rw[h1];decide),if_pos ⟨he,rfl,hn⟩]
theorem IM(s:ByteArray)(k d b:Nat)(pt:Bool)(h:k<s.size)(h1:iP (atI s k)=false)(hn:¬ (atI s k=46∧pt=false∧iP (atI s (k+1))=true)):mN (s.data.toList.drop k) d b pt=none:=by
 have e:(k:Int)+1=((k+1:Nat):Int):=by omega
 rw[e,dO s (k+1)]at hn;rw[drop_cons s k h,sW,← AR s k h,if_neg (by rw[h1];decide),if_neg hn]
theorem IB(s:ByteArray)(h:mN s.data.toList 0 0 false=none):Kg s=(0,0,false):=by unfold Kg;rw[h]
theorem Ij(s:ByteArray)(d b:Nat)(h:mN s.data.toList 0 0 false=some (d,b)):Kg s=(d,b,decide (1≤d)&&decide (d≤9)):=by unfold Kg;rw[h]
def NH(r:Nat×Nat×Bool):Value:=.tuple #[.int .i64 r.1,.int .i64 r.2.1,.bool r.2.2]
theorem KV{d b:Nat}{x y:Bool}(h:x=y):Ending.returned (.tuple #[.int .i64 d,.int .i64 b,.bool x])=.returned (NH (d,b,y)):=by rw[h];rfl
theorem Gs(s:ByteArray)(hs:s.size≤140737488351232)(w:World):Calls Tryz.prog 60 #[.string s] w fun e w'=>e=.returned (NH (Kg s))∧w'=w:=by
 go_enter Tryz.func60,Tryz.ntmps60
 go_wp2
 go_loop [5,6,7,12] (fun d b pt i=>∃ k d' b':Nat,∃ p:Bool,k≤s.size∧d'≤k∧b'≤k∧i=.int .i64 k∧d=.int .i64 d'∧b=.int .i64 b'∧pt=.bool p∧mN s.data.toList 0 0 false=mN (s.data.toList.drop k) d' b' p) (fun _ _ _ i=>s.size - (intOf i).toNat)
 case atStart=>exact⟨0,0,0,false,Nat.zero_le _,Nat.le_refl _,Nat.le_refl _,rfl,rfl,rfl,rfl,rfl⟩
 case round=>
  obtain⟨k,d',b',p,hk,hd',hb',rfl,rfl,rfl,rfl,hgo⟩:=hrel;have HGO:=Lib.hid hgo;clear hgo
  by_cases hlt:k<s.size
  ·by_cases hd:iP (atI s (k:Int))=true
   ·have hstep:=Lib.hid (Dn s k d' b' p hlt hd)
    cases p
    ·go_wp2_with (first|(go_at_call 101;refine(bU _ _ _).mono ?_;rintro e w' ⟨rfl,rfl⟩)|(go_at_call 102;refine(dE _ _).mono ?_;rintro e w' ⟨rfl,rfl⟩))
     go_round
     case rel=>exact⟨k+1,d'+1,b',false,by omega,by omega,by omega,by go_num,by go_num,rfl,rfl,by rw[HGO.out,hstep.out];rfl⟩
     case measure=>simp[intOf];omega
    ·go_wp2_with (first|(go_at_call 101;refine(bU _ _ _).mono ?_;rintro e w' ⟨rfl,rfl⟩)|(go_at_call 102;refine(dE _ _).mono ?_;rintro e w' ⟨rfl,rfl⟩))
     go_round
     case rel=>exact⟨k+1,d'+1,b'+1,true,by omega,by omega,by omega,by go_num,by go_num,by go_num,rfl,by rw[HGO.out,hstep.out];rfl⟩
     case measure=>simp[intOf];omega
   ·have hd0:iP (atI s (k:Int))=false:=by simpa using hd
    clear hd
    by_cases hpt:atI s (k:Int)=46∧p=false∧iP (atI s ((k:Int)+1))=true
    ·obtain⟨he,rfl,hn⟩:=hpt;have hstep:=Lib.hid (Cv s k d' b' hlt hd0 he hn);have hq:(atI s (k:Int)==46)=true:=by rw[he];rfl
     clear he;go_wp2_with (first|(go_at_call 101;refine(bU _ _ _).mono ?_;rintro e w' ⟨rfl,rfl⟩)|(go_at_call 102;refine(dE _ _).mono ?_;rintro e w' ⟨rfl,rfl⟩))
     go_round
     case rel=>exact⟨k+1,d',b',true,by omega,by omega,by omega,by go_num,rfl,rfl,rfl,by rw[HGO.out,hstep.out]⟩
     case measure=>simp[intOf];omega
    ·have hnone:=Lib.hid (IB s (by rw[HGO.out,IM s k d' b' p hlt hd0 hpt]));go_wp2_with (first|(go_at_call 101;refine(bU _ _ _).mono ?_;rintro e w' ⟨rfl,rfl⟩)|(go_at_call 102;refine(dE _ _).mono ?_;rintro e w' ⟨rfl,rfl⟩))
     all_goals first
      | (exfalso; exact hpt ⟨by assumption, by have hp : ¬ p = true := by assumption
                                               simpa using hp, by assumption⟩)
      | (go_ret3;exact⟨by rw[hnone.out];rfl,rfl⟩)
  ·have hgo:=HGO.out;rw[List.drop_of_length_le (by have:s.data.toList.length=s.size:=rfl;omega)]at hgo;have hfin:=Lib.hid (Ij s d' b' (by rw[hgo];rfl));clear hgo
   go_wp2
   all_goals (go_ret3;refine⟨?_,rfl⟩;rw[hfin.out];exact KV (by rw[Bool.eq_iff_iff];simp<;>omega))
theorem Js(s:ByteArray)(hs:s.size≤140737488351232)(w:World):Calls Tryz.prog 61 #[.string s,.func (.func 62) #[] #[]] w fun e w'=>e=.returned (.bool (allI JD s))∧w'=w:=by
 go_enter Tryz.func61,Tryz.ntmps61
 go_wp2
 go_loop [8] (fun i=>∃ k:Nat,k≤s.size∧i=.int .i64 k∧(s.data.toList.take k).all (fun c=>JD (c.toNat:Int))=true) (fun i=>s.size - (intOf i).toNat)
 case atStart=>exact⟨0,Nat.zero_le _,rfl,rfl⟩
 case round=>
  obtain⟨k,hk,rfl,hall⟩:=hrel;have HALL:=Lib.hid hall;clear hall
  by_cases hlt:k<s.size
  ·go_wp2_with (go_at_call 62;refine(NW _ _).mono ?_;rintro e w' ⟨rfl,rfl⟩)
   ·have hp:(!JD (s[k].toNat:Int))=true:=by assumption
    go_ret;exact⟨aR (sK JD s k hlt (by simpa using hp)).symm,rfl⟩
   ·have hp:(!JD (s[k].toNat:Int))=false:=by assumption
    go_round
    case rel=>exact⟨k+1,by omega,by go_num,lW JD s k hlt HALL.out (by simpa using hp)⟩
    case measure=>simp[intOf];omega
  ·have hfin:=Lib.hid (uW JD s k (by omega) HALL.out)
   go_wp2
   go_ret;exact⟨aR hfin.out.symm,rfl⟩
theorem JM(s:ByteArray)(hs:s.size≤140737488351232)(w:World):Calls Tryz.prog 61 #[.string s,.func (.func 63) #[] #[]] w fun e w'=>e=.returned (.bool (allI dZ s))∧w'=w:=by
 go_enter Tryz.func61,Tryz.ntmps61
 go_wp2
 go_loop [8] (fun i=>∃ k:Nat,k≤s.size∧i=.int .i64 k∧(s.data.toList.take k).all (fun c=>dZ (c.toNat:Int))=true) (fun i=>s.size - (intOf i).toNat)
 case atStart=>exact⟨0,Nat.zero_le _,rfl,rfl⟩
 case round=>
  obtain⟨k,hk,rfl,hall⟩:=hrel;have HALL:=Lib.hid hall;clear hall
  by_cases hlt:k<s.size
  ·go_wp2_with (go_at_call 63;refine(vW _ _).mono ?_;rintro e w' ⟨rfl,rfl⟩)
   ·have hp:(!dZ (s[k].toNat:Int))=true:=by assumption
    go_ret;exact⟨aR (sK dZ s k hlt (by simpa using hp)).symm,rfl⟩
   ·have hp:(!dZ (s[k].toNat:Int))=false:=by assumption
    go_round
    case rel=>exact⟨k+1,by omega,by go_num,lW dZ s k hlt HALL.out (by simpa using hp)⟩
    case measure=>simp[intOf];omega
  ·have hfin:=Lib.hid (uW dZ s k (by omega) HALL.out)
   go_wp2
   go_ret;exact⟨aR hfin.out.symm,rfl⟩
theorem FT: Tryz.prog.underlying 124=some (.slice 5):=by kernel_rfl
theorem PY: Tryz.prog.underlying 5=some (.int .u8):=by kernel_rfl
theorem NO(c:UInt8)(h:¬ (97≤(c.toNat:Int)∧(c.toNat:Int)≤122)):upC c=c:=by
 unfold upC;rw[if_neg (by omega)]
theorem Oz(c:UInt8)(h1:97≤(c.toNat:Int))(h2:(c.toNat:Int)≤122):((upC c).toNat:Int)=(c.toNat:Int) - 97+65:=by
 unfold upC;rw[if_pos (by omega),UInt8.toNat_ofNat'];omega
theorem Dm{α:Type}(l:List α)(i:Nat)(d:α)(h:i<l.length):l.getD i d=l[i]:=by
 rw[List.getD_eq_getElem?_getD,List.getElem?_eq_getElem h];rfl
theorem vR(s:ByteArray)(k:Nat)(h:k<s.size):s.data.toList.getD k 0=s.data[k]'(by exact h):=by
 have h':k<s.data.toList.length:=h;rw[Dm _ _ _ h'];simp
theorem BX (s : ByteArray) (hs : s.size ≤ 140737488351232) (w : World) : Calls Tryz.prog 73 #[.string s] w fun e w' => e = .returned (.string (upS s)) ∧ Below w.heap.size w w' := by
  obtain ⟨c1, w1, hrun, hcell, hfr, hbel⟩ : ∃ c1 w1, (convert 9 124 (.string s)).run Tryz.prog w = .ok (.slice (some ⟨w.heap.size, 0, none⟩) s.size c1) w1 ∧ (∀ j, j < s.size → w1.cell? ⟨w.heap.size, j, none⟩ = some (.int .u8 (s.data.toList.getD j 0).toNat)) ∧
      (∀ j, j < s.size → w1.frozen? ⟨w.heap.size, j, none⟩ = false) ∧ Below w.heap.size w w1 := by
    refine ⟨_, _, Lib.run_convert_string_bytes w _ _ _ s Mo FT PY, fun j hj => Lib.bytesWorld_cell w _ s j hj, fun j hj => ?_, ?_⟩
    · have hsz : s.size ≤ (Lib.bytesCells w 5 s).size := by simp [Lib.bytesCells]
      simp [World.frozen?, Lib.bytesWorld_at_new]; omega
    · exact ⟨rfl, rfl, rfl, by rw [Lib.bytesWorld_size]; omega, fun k hk => Lib.bytesWorld_at_old w _ s k hk⟩
  go_enter Tryz.func73, Tryz.ntmps73
  go_wp2_with fail
  clear hrun
  go_loopw [10] (fun i wr => ∃ k : Nat, k ≤ s.size ∧ i = .int .i64 k ∧ (∀ j, j < s.size → wr.cell? ⟨w.heap.size, j, none⟩ = some (.int .u8 (if j < k then (upC (s.data.toList.getD j 0)).toNat else (s.data.toList.getD j 0).toNat : Nat))) ∧ (∀ j, j < s.size → wr.frozen? ⟨w.heap.size, j, none⟩ = false) ∧ Below w.heap.size w wr) (fun i _ => s.size - (intOf i).toNat)
  case atStart => exact ⟨0, Nat.zero_le _, rfl, fun j hj => by rw [hcell j hj]; simp, hfr, hbel⟩
  case round =>
    obtain ⟨k, hk, rfl, hc, hf, hb⟩ := hrel
    by_cases hlt : k < s.size
    · have hck := hc k hlt
      rw [if_neg (by omega)] at hck
      have hfk := hf k hlt
      have HC := Lib.hid hc
      have HF := Lib.hid hf
      clear hc hf hcell hfr
      go_wp2_with fail
      · have h1 : 97 ≤ ((s.data[k]'hlt).toNat : Int) := by assumption
        have h2 : ((s.data[k]'hlt).toNat : Int) ≤ 122 := by assumption
        have hu := Oz _ h1 h2
        have hg := vR s k hlt
        go_roundw
        case rel =>
          refine ⟨k + 1, by omega, by go_num, fun j hj => ?_, fun j hj => ?_, hb.setCell (p := ⟨w.heap.size, k, none⟩) (Nat.le_refl _) _⟩
          · by_cases hjk : j = k
            · subst hjk
              rw [if_pos (by omega), hg]
              rw [World.cell?_setCell_same _ _ _ hck, ← hu]
            · rw [World.cell?_setCell_other _ _ _ _ (by intro e; injection e with _ e2; exact hjk e2.symm), HC.out j hj]
              by_cases hjk2 : j < k
              · rw [if_pos hjk2, if_pos (by omega)]
              · rw [if_neg hjk2, if_neg (by omega)]
          · rw [World.frozen?_setCell]; exact HF.out j hj
        case measure => simp [intOf]; omega
      all_goals
        have hlow : upC (s.data[k]'hlt) = s.data[k]'hlt := NO _ (by omega)
        have hg := vR s k hlt
        go_roundw
        case rel =>
          refine ⟨k + 1, by omega, by go_num, fun j hj => ?_, HF.out, hb⟩
          rw [HC.out j hj]
          by_cases hjk : j = k
          · subst hjk
            rw [if_neg (Nat.lt_irrefl _), if_pos (Nat.lt_succ_self _), hg, hlow]
          · by_cases hjk2 : j < k
            · rw [if_pos hjk2, if_pos (by omega)]
            · rw [if_neg hjk2, if_neg (by omega)]
        case measure => simp [intOf]; omega
    · obtain rfl : k = s.size := by omega
      have hconv := run_convert_bytes_arg (P := Tryz.prog) wr 124 5 FT PY w.heap.size 0 s.size c1 (s.data.toList.map fun c => ((upC c).toNat : Int)) (by simp) (fun i hi => by
        have h1 := hc i hi
        rw [if_pos hi] at h1
        rw [Nat.zero_add, h1]
        have h2 := vR s i hi
        rw [h2, Dm _ i 0 (by simp; exact hi)]
        simp) 9 Mo
      have hup : strOfNums (s.data.toList.map fun c => ((upC c).toNat : Int)) = upS s := by
        unfold strOfNums upS
        simp
      rw [hup] at hconv
      clear hc hf hup hcell hfr
      go_wp2_with fail
      go_ret
      exact ⟨rfl, hb⟩
theorem beq_toList(a b:ByteArray):(a.toList==b.toList)=decide (a=b):=by
 rw[toList_data,toList_data,Bool.eq_iff_iff,beq_iff_eq,decide_eq_true_iff];exact⟨fun h=>by obtain⟨⟨x⟩⟩:=a;obtain⟨⟨y⟩⟩:=b;simpa using h,fun h=>by rw[h]⟩
theorem yP(s:ByteArray):CP s=(qC s&&decide (upS s=s)):=rfl
theorem ET(s:ByteArray)(hs:s.size≤140737488351232)(w:World):Calls Tryz.prog 32 #[.string s] w fun e w'=>e=.returned (.bool (CP s))∧Below w.heap.size w w':=by
 by_cases hn:qC s=true
 ·go_enter Tryz.func32,Tryz.ntmps32;go_wp2_with fail;refine(yQ s w).mono ?_;rintro e w' ⟨rfl,n,rfl⟩;go_wp2_with fail;refine(BX s hs _).mono ?_;rintro e w' ⟨rfl,hb⟩
  go_wp2
  go_ret;exact⟨aR (by rw[yP,hn,beq_toList];rfl),(below_drewN (Below.refl _ _) _).trans hb⟩
 ·have hn':qC s=false:=by simpa using hn
  go_enter Tryz.func32,Tryz.ntmps32;go_wp2_with fail;refine(yQ s w).mono ?_;rintro e w' ⟨rfl,n,rfl⟩
  go_wp2
  go_ret;exact⟨aR (by rw[yP,hn'];rfl),below_drewN (Below.refl _ _) _⟩
theorem aC(w:World)(o:Obj):Below w.heap.size w (w.alloc o):=(Below.refl _ _).alloc (Nat.le_refl _) _
theorem aT(w w':World)(o:Obj)(h:Below (w.alloc o).heap.size (w.alloc o) w'):Below w.heap.size w w':=
 (aC w o).trans (h.mono (by simp))
theorem Ld(w:World)(cs:Array Value)(T:TypeId)(j:Nat):(w.alloc (.cells cs T)).cell? ⟨w.heap.size,j,none⟩=cs[j]?:=
 cell_of_row _ _ _ cs T (0,0) (heap_alloc_new w _)
theorem Jg{w w':World}{p:Addr}{u:Value}(hb:Below w.drew.heap.size w.drew w')(hp:p.block<w.heap.size)(h:w.cell? p=some u):w'.cell? p=some u:=
 (hb.cell (p:=p) hp).trans h
theorem Dz(s:ByteArray)(hs:s.size≤140737488351232)(w:World) :
 Calls Tryz.prog 60 #[.string s] w fun e w'=>e=.returned (.tuple #[.int .i64 (Kg s).1,.int .i64 (Kg s).2.1,.bool (Kg s).2.2])∧w'=w:=Gs s hs w
theorem nG(k:Int)(t:ByteArray)(a:Int)(hs:t.size≤140737488351232)(w:World):Calls Tryz.prog 23 #[.agg #[.int .i64 k,.string t,.int .i64 a]] w fun e w'=>e=.returned (.int .i64 (qB (bX k t)))∧Below w.heap.size w w':=by
 by_cases h1:k=1
 ·subst h1;go_enter Tryz.func23,Tryz.ntmps23;go_wp2_with (go_at_call 32;refine(ET _ hs _).mono ?_;rintro e w' ⟨rfl,hb⟩)
  all_goals
   go_ret;exact⟨by unfold bX;simp_all [qB],aT _ _ _ (by simpa using hb)⟩
 by_cases h2:k=2
 ·subst h2;go_enter Tryz.func23,Tryz.ntmps23;go_wp2_with (go_at_call 60;refine(Dz _ hs _).mono ?_;rintro e w' ⟨rfl,rfl⟩)
  all_goals
   go_ret;exact⟨by unfold bX;simp_all [qB],aC _ _⟩
 by_cases h3:k=3
 ·subst h3;go_enter Tryz.func23,Tryz.ntmps23;go_wp2_with (go_at_call 61;refine(Js _ hs _).mono ?_;rintro e w' ⟨rfl,rfl⟩)
  all_goals
   go_ret;exact⟨by unfold bX;simp_all [qB]<;>omega,aC _ _⟩
 by_cases h4:k=4
 ·subst h4;go_enter Tryz.func23,Tryz.ntmps23;go_wp2_with (go_at_call 61;refine(JM _ hs _).mono ?_;rintro e w' ⟨rfl,rfl⟩)
  all_goals
   go_ret;exact⟨by unfold bX;simp_all [qB]<;>omega,aC _ _⟩
 by_cases h5:k=5
 ·subst h5;go_enter Tryz.func23,Tryz.ntmps23;go_wp2_with (go_at_call 61;refine(Js _ hs _).mono ?_;rintro e w' ⟨rfl,rfl⟩)
  all_goals
   go_ret;exact⟨by unfold bX;simp_all [qB]<;>omega,aC _ _⟩
 by_cases h6:k=6
 ·subst h6;go_enter Tryz.func23,Tryz.ntmps23;go_wp2_with fail;have b1:=aC w (.cells #[.int .i64 6,.string t,.int .i64 a] 43);have c1:=Ld w #[.int .i64 6,.string t,.int .i64 a] 43 1;have z1:w.heap.size<(w.alloc (.cells #[.int .i64 6,.string t,.int .i64 a] 43)).heap.size:=by simp
  generalize w.alloc (.cells #[.int .i64 6,.string t,.int .i64 a] 43)=w1 at b1 c1 z1 ⊢;have c2:w1.cell? ⟨w.heap.size,1,none⟩=some (.string t):=c1;clear c1
  go_region_with (first|(go_at_call 64;refine(Bv _).mono ?_;rintro e w' ⟨rfl,hm,hb⟩;have hcell:=Jg hb z1 c2;have hl:(Instr.lookup 99 (.map (some w1.heap.size)) (.string t) false).run Tryz.prog w'=.ok (.bool (mV t aI)) w':=jR w' _ _ _ Qg Mo Od _ _ hm t))
  all_goals
   have bb:Below w.heap.size w w':=b1.drew.trans (hb.mono (Nat.le_of_lt z1));clear hb hm hl hcell
   go_wp2
  all_goals
   go_ret;exact⟨by unfold bX;simp_all [qB],bb⟩
 ·have e1:(k==1)=false:=by simpa using h1
  have e2:(k==2)=false:=by simpa using h2
  have e3:(k==3)=false:=by simpa using h3
  have e4:(k==4)=false:=by simpa using h4
  have e5:(k==5)=false:=by simpa using h5
  have e6:(k==6)=false:=by simpa using h6
  have hf:qB (bX k t)=50:=by unfold bX;simp[*];rfl
  have HF:=Lib.hid hf;clear hf h1 h2 h3 h4 h5 h6;go_enter Tryz.func23,Tryz.ntmps23
  go_wp2
  go_ret;exact⟨AV HF.out.symm,aC _ _⟩
end
end Go.Proofs.YtfdlmcgcckkkdaaGreatDoor
