/- ParseWhole, part 41: what it stands on. -/
import Derived.Test.YtfdlmcgcckkkdaaGreatDoorV36
import Derived.Test.YtfdlmcgcckkkdaaGreatDoorV40
import Derived.Test.YtfdlmcgcckkkdaaGreatDoorV37
set_option linter.all false
set_option maxHeartbeats 40000000
set_option maxRecDepth 100000
namespace Go.Proofs.YtfdlmcgcckkkdaaGreatDoor
section
open Go.RowKit Lx Px
def RL(pb:Nat)(L:List T3)(s:ByteArray)(a:Nat)(lab:ByteArray)(i:Nat)(r:Option (R T)):Prop:=match r with
 | none=>cY s kwM=none
 | some r=>∃ K,cY s kwM=some (.func (.func K) #[] #[])∧(∀ args w,(callFunc K args).run Tryz.prog w=.ok (.enter K args) w)∧
  ∀ w,PS w pb L i→Calls Tryz.prog K #[pq pb,.int .i64 a,.string lab] w (aD pb L w r)
theorem rR: ∀ args w,(callFunc 179 args).run Tryz.prog w=.ok (.enter 179 args) w:=
 enters_of Tryz.func179 (by decide) rfl
theorem GV: ∀ args w,(callFunc 180 args).run Tryz.prog w=.ok (.enter 180 args) w:=
 enters_of Tryz.func180 (by decide) rfl
theorem ON: ∀ args w,(callFunc 181 args).run Tryz.prog w=.ok (.enter 181 args) w:=
 enters_of Tryz.func181 (by decide) rfl
theorem FW: ∀ args w,(callFunc 182 args).run Tryz.prog w=.ok (.enter 182 args) w:=
 enters_of Tryz.func182 (by decide) rfl
theorem FM: ∀ args w,(callFunc 183 args).run Tryz.prog w=.ok (.enter 183 args) w:=
 enters_of Tryz.func183 (by decide) rfl
theorem KU: ∀ args w,(callFunc 184 args).run Tryz.prog w=.ok (.enter 184 args) w:=
 enters_of Tryz.func184 (by decide) rfl
theorem LX: ∀ args w,(callFunc 185 args).run Tryz.prog w=.ok (.enter 185 args) w:=
 enters_of Tryz.func185 (by decide) rfl
theorem LI: ∀ args w,(callFunc 186 args).run Tryz.prog w=.ok (.enter 186 args) w:=
 enters_of Tryz.func186 (by decide) rfl
theorem Ma: ∀ args w,(callFunc 187 args).run Tryz.prog w=.ok (.enter 187 args) w:=
 enters_of Tryz.func187 (by decide) rfl
theorem IN: ∀ args w,(callFunc 188 args).run Tryz.prog w=.ok (.enter 188 args) w:=
 enters_of Tryz.func188 (by decide) rfl
theorem DF: ∀ args w,(callFunc 189 args).run Tryz.prog w=.ok (.enter 189 args) w:=
 enters_of Tryz.func189 (by decide) rfl
theorem Lv: ∀ args w,(callFunc 190 args).run Tryz.prog w=.ok (.enter 190 args) w:=
 enters_of Tryz.func190 (by decide) rfl
theorem Pm: ∀ args w,(callFunc 191 args).run Tryz.prog w=.ok (.enter 191 args) w:=
 enters_of Tryz.func191 (by decide) rfl
theorem GN: ∀ args w,(callFunc 192 args).run Tryz.prog w=.ok (.enter 192 args) w:=
 enters_of Tryz.func192 (by decide) rfl
theorem GG: ∀ args w,(callFunc 193 args).run Tryz.prog w=.ok (.enter 193 args) w:=
 enters_of Tryz.func193 (by decide) rfl
theorem tM: ∀ args w,(callFunc 194 args).run Tryz.prog w=.ok (.enter 194 args) w:=
 enters_of Tryz.func194 (by decide) rfl
theorem Kt: ∀ args w,(callFunc 195 args).run Tryz.prog w=.ok (.enter 195 args) w:=
 enters_of Tryz.func195 (by decide) rfl
theorem NA: ∀ args w,(callFunc 196 args).run Tryz.prog w=.ok (.enter 196 args) w:=
 enters_of Tryz.func196 (by decide) rfl
theorem Oe: ∀ args w,(callFunc 197 args).run Tryz.prog w=.ok (.enter 197 args) w:=
 enters_of Tryz.func197 (by decide) rfl
theorem LO: ∀ args w,(callFunc 198 args).run Tryz.prog w=.ok (.enter 198 args) w:=
 enters_of Tryz.func198 (by decide) rfl
theorem JO: ∀ args w,(callFunc 199 args).run Tryz.prog w=.ok (.enter 199 args) w:=
 enters_of Tryz.func199 (by decide) rfl
theorem DG: ∀ args w,(callFunc 200 args).run Tryz.prog w=.ok (.enter 200 args) w:=
 enters_of Tryz.func200 (by decide) rfl
theorem Fz: ∀ args w,(callFunc 201 args).run Tryz.prog w=.ok (.enter 201 args) w:=
 enters_of Tryz.func201 (by decide) rfl
theorem vK: ∀ args w,(callFunc 202 args).run Tryz.prog w=.ok (.enter 202 args) w:=
 enters_of Tryz.func202 (by decide) rfl
theorem Ps(pb:Nat)(L:List T3)(hX:iC L)(lo:Nat)(stmt inner:Nat→R T)(hS:Reads 53 pb L lo stmt)(hI:Reads 220 pb L lo inner)(upS:∀ i,Up (i+1) (stmt i))(upI:∀ i,Up (i+1) (inner i))(s:ByteArray)(a:Nat)(lab:ByteArray)(i:Nat)(hi:lo≤i):RL pb L s a lab i (gW (lk L) stmt inner s a lab i):=by
 unfold gW
 by_cases h1:s=aE∨s=pT
 ·rw[if_pos h1];rcases h1 with rfl|rfl
  ·exact⟨179,by kernel_rfl,rR,fun w h=>qP pb L hX lo stmt hS upS a lab i hi w h⟩
  ·exact⟨179,by kernel_rfl,rR,fun w h=>qP pb L hX lo stmt hS upS a lab i hi w h⟩
 rw[if_neg h1]
 by_cases h2:s=qM
 ·rw[if_pos h2];subst h2;exact⟨180,by kernel_rfl,GV,fun w h=>Hd pb L lo stmt hS upS a lab i hi w h⟩
 rw[if_neg h2]
 by_cases h3:s=wDO
 ·rw[if_pos h3];subst h3;exact⟨181,by kernel_rfl,ON,fun w h=>OW pb L lo stmt hS upS a lab i hi w h⟩
 rw[if_neg h3]
 by_cases h4:s=fY
 ·rw[if_pos h4];subst h4;exact⟨182,by kernel_rfl,FW,fun w h=>Gt pb L lo inner hI upI a lab i hi w h⟩
 rw[if_neg h4]
 by_cases h5:s=wIF
 ·rw[if_pos h5];subst h5;exact⟨183,by kernel_rfl,FM,fun w h=>Ga pb L lo inner hI upI a lab i hi w h⟩
 rw[if_neg h5]
 by_cases h6:s=Al
 ·rw[if_pos h6];subst h6;exact⟨184,by kernel_rfl,KU,fun w h=>LD pb L a lab i w h⟩
 rw[if_neg h6]
 by_cases h7:s=fZ
 ·rw[if_pos h7];subst h7;exact⟨185,by kernel_rfl,LX,fun w h=>LR pb L a lab i w h⟩
 rw[if_neg h7]
 by_cases h8:s=wGO
 ·rw[if_pos h8];subst h8;exact⟨186,by kernel_rfl,LI,fun w h=>Ll pb L a lab i w h⟩
 rw[if_neg h8]
 by_cases h9:s=Ou
 ·rw[if_pos h9];subst h9;exact⟨187,by kernel_rfl,Ma,fun w h=>Em pb L a lab i w h⟩
 rw[if_neg h9]
 by_cases h10:s=mS
 ·rw[if_pos h10];subst h10;exact⟨188,by kernel_rfl,IN,fun w h=>JB pb L a lab i w h⟩
 rw[if_neg h10]
 by_cases h11:s=gG
 ·rw[if_pos h11];subst h11;exact⟨189,by kernel_rfl,DF,fun w h=>Cu pb L a lab i w h⟩
 rw[if_neg h11]
 by_cases h12:s=AW
 ·rw[if_pos h12];subst h12;exact⟨190,by kernel_rfl,Lv,fun w h=>Lb pb L a lab i w h⟩
 rw[if_neg h12]
 by_cases h13:s=wON
 ·rw[if_pos h13];subst h13;exact⟨191,by kernel_rfl,Pm,fun w h=>OU pb L lo inner hI upI a lab i hi w h⟩
 rw[if_neg h13]
 by_cases h14:s=mK
 ·rw[if_pos h14];subst h14;exact⟨192,by kernel_rfl,GN,fun w h=>GL pb L a lab i w h⟩
 rw[if_neg h14]
 by_cases h15:s=lQ
 ·rw[if_pos h15];subst h15;exact⟨193,by kernel_rfl,GG,fun w h=>Gw pb L a lab i w h⟩
 rw[if_neg h15]
 by_cases h16:s=iB∨s=BB
 ·rw[if_pos h16];rcases h16 with rfl|rfl
  ·exact⟨194,by kernel_rfl,tM,fun w h=>tV pb L a lab i w h⟩
  ·exact⟨194,by kernel_rfl,tM,fun w h=>tV pb L a lab i w h⟩
 rw[if_neg h16]
 by_cases h17:s=Ab
 ·rw[if_pos h17];subst h17;exact⟨195,by kernel_rfl,Kt,fun w h=>La pb L a lab i w h⟩
 rw[if_neg h17]
 by_cases h18:s=Hw
 ·rw[if_pos h18];subst h18;exact⟨196,by kernel_rfl,NA,fun w h=>Nx pb L hX a lab i w h⟩
 rw[if_neg h18]
 by_cases h19:s=JZ
 ·rw[if_pos h19];subst h19;exact⟨197,by kernel_rfl,Oe,fun w h=>NI pb L hX a lab i w h⟩
 rw[if_neg h19]
 by_cases h20:s=Ai
 ·rw[if_pos h20];subst h20;exact⟨198,by kernel_rfl,LO,fun w h=>Lw pb L a lab i w h⟩
 rw[if_neg h20]
 by_cases h21:s=sB
 ·rw[if_pos h21];subst h21;exact⟨199,by kernel_rfl,JO,fun w h=>JP pb L a lab i w h⟩
 rw[if_neg h21]
 by_cases h22:s=jD
 ·rw[if_pos h22];subst h22;exact⟨200,by kernel_rfl,DG,fun w h=>CU pb L a lab i w h⟩
 rw[if_neg h22]
 by_cases h23:s=mM
 ·rw[if_pos h23];subst h23;exact⟨201,by kernel_rfl,Fz,fun w h=>Gf pb L a lab i w h⟩
 rw[if_neg h23]
 by_cases h24:s=fI∨s=Ki
 ·rw[if_pos h24];rcases h24 with rfl|rfl
  ·exact⟨202,by kernel_rfl,vK,fun w h=>xC pb L hX a lab i w h⟩
  ·exact⟨202,by kernel_rfl,vK,fun w h=>xC pb L hX a lab i w h⟩
 rw[if_neg h24]
 show cY s kwM=none
 unfold kwM;unfold cY;rw[if_neg (fun e=>h1 (.inl e))];unfold cY;rw[if_neg (fun e=>h1 (.inr e))];unfold cY;rw[if_neg h2];unfold cY;rw[if_neg h3];unfold cY;rw[if_neg h4];unfold cY;rw[if_neg h5];unfold cY;rw[if_neg h6];unfold cY;rw[if_neg h7];unfold cY;rw[if_neg h8];unfold cY;rw[if_neg h9];unfold cY;rw[if_neg h10];unfold cY;rw[if_neg h11];unfold cY;rw[if_neg h12];unfold cY;rw[if_neg h13];unfold cY;rw[if_neg h14];unfold cY;rw[if_neg h15];unfold cY;rw[if_neg (fun e=>h16 (.inl e))];unfold cY;rw[if_neg (fun e=>h16 (.inr e))];unfold cY;rw[if_neg h17];unfold cY;rw[if_neg h18];unfold cY;rw[if_neg h19];unfold cY;rw[if_neg h20];unfold cY;rw[if_neg h21];unfold cY;rw[if_neg h22];unfold cY;rw[if_neg h23];unfold cY;rw[if_neg (fun e=>h24 (.inl e))];unfold cY;rw[if_neg (fun e=>h24 (.inr e))];rfl
end
section
open Go.RowKit Lx Px
structure SVT (pb:Nat) (L:List T3) (w0 w:World) (j:Nat) (rv:List (Nat×List Value)) (ts:List (T×List Value)) (b:Nat) (us:Array Value):Prop where
 s:SV pb L w0 w j rv ts
 n:w.heap[b]?=some (.cells us 43 (0,0))
theorem SVT.drew{pb:Nat}{L:List T3}{w0 w:World}{j:Nat}{rv ts}{b:Nat}{us:Array Value}(S:SVT pb L w0 w j rv ts b us):SVT pb L w0 w.drew j rv ts b us:=⟨S.s.drew,S.n⟩
theorem SVT.below{pb:Nat}{L:List T3}{w0 w w':World}{j:Nat}{rv ts}{b:Nat}{us:Array Value}(S:SVT pb L w0 w j rv ts b us)(h:Below w.heap.size w w'):SVT pb L w0 w' j rv ts b us:=
 ⟨S.s.below h,(h.block b (Array.getElem?_eq_some_iff.1 S.n).1).trans S.n⟩
theorem SVT.uC{pb:Nat}{L:List T3}{w0 w:World}{j:Nat}{rv ts}{b:Nat}{us:Array Value}(S:SVT pb L w0 w j rv ts b us)(ss:List ByteArray)(hl:ss.length≤1000)(cs:Array Value)(hc:cs=(ss.map Value.string).toArray)(n:Nat)(hn:n=ss.length)(r:Bool)(hb:wrd (lk L) j ss=r):Calls Tryz.prog 155 #[pq pb,.slice (some ⟨w.heap.size,0,none⟩) n n] (w.alloc (.cells cs 9)) fun e w'=>e=.returned (.bool r)∧SVT pb L w0 w' j rv ts b us:=by
 have S':=S.below (aC w (.cells cs 9));refine(oP pb L j _ ss hl _ S'.s.ps (bJ.FH w ss cs hc n hn)).mono ?_;rintro e w' ⟨rfl,h⟩;exact⟨by rw[hb],S'.below h⟩
section
variable (L:List Tk) (stmt inner:Nat→R T) (inr:Bool) (label:ByteArray) (i:Nat)
theorem Fo(h:sgn L i [aS]=true):iT L stmt inner inr label i=.ok (node 31 i [],i+1):=by unfold iT;rw[if_pos h]
theorem Ce(h:sgn L i [aS]=false)(ha:(dU L i&&!pH L i)=true):iT L stmt inner inr label i=aB (Cr L i) fun r j=>aB (aM L j sEQ) fun _ j1=>aB (bM L j1) fun x j2=>aB (aM L j2 aS) fun _ j3=>.ok (node 24 i [r,x],j3):=by
 unfold iT;rw[if_neg (by rw[h];decide),if_pos ha]
def Ri: Prop:=isName L i=false∨(inr=true∧(wrd L i [aE,pT]=true∨wrd L i [fI,Ki]=true))∨(wrd L i [aE,pT]=true∧label.size=0)
theorem sC(h:sgn L i [aS]=false)(ha:(dU L i&&!pH L i)=false)(hb:Ri L inr label i):iT L stmt inner inr label i=.error i:=by
 unfold iT;rw[if_neg (by rw[h];decide),if_neg (by rw[ha];decide)];exact if_pos hb
theorem Gy(h:sgn L i [aS]=false)(ha:(dU L i&&!pH L i)=false)(hd:gW L stmt inner (tok L i).text i label (i+1)=none):iT L stmt inner inr label i=.error i:=by
 unfold iT;rw[if_neg (by rw[h];decide),if_neg (by rw[ha];decide)];simp only
 split
 ·rfl
 ·rw[hd]
theorem sJ(h:sgn L i [aS]=false)(ha:(dU L i&&!pH L i)=false)(hb:¬ Ri L inr label i)(r:R T)(hd:gW L stmt inner (tok L i).text i label (i+1)=some r):iT L stmt inner inr label i=r:=by
 unfold iT;rw[if_neg (by rw[h];decide),if_neg (by rw[ha];decide)];simp only
 rw[if_neg (show ¬ (isName L i=false∨(inr=true∧(wrd L i [aE,pT]=true∨wrd L i [fI,Ki]=true))∨(wrd L i [aE,pT]=true∧label.size=0))from hb),hd]
end
theorem Iv{s:ByteArray}(h:s.size=0):s=⟨#[]⟩:=by
 obtain⟨⟨d⟩⟩:=s;have:d.length=0:=h;rw[List.length_eq_zero_iff]at this;rw[this]
theorem KF(W:World):Sem.run Tryz.prog (binOp BinOp.eql 186 .nilFunc .nilFunc) W=.ok (.bool true) W:=by kernel_rfl
theorem Jb(K:FuncId)(W:World):Sem.run Tryz.prog (binOp BinOp.eql 186 (.func (.func K) #[] #[]) .nilFunc) W=.ok (.bool false) W:=by kernel_rfl
theorem Hi(pb:Nat)(L:List T3)(hX:iC L)(lo:Nat)(stmt inner:Nat→R T)(hS:Reads 53 pb L lo stmt)(hI:Reads 220 pb L lo inner)(upS:∀ i,Up (i+1) (stmt i))(upI:∀ i,Up (i+1) (inner i))(inr:Bool)(label:ByteArray)(i:Nat)(hi:lo≤i+1)(w:World)(h:PS w pb L i):Calls Tryz.prog 149 #[pq pb,.bool inr,label] w (aD pb L w (iT (lk L) stmt inner inr label i)):=by
 have hbd:=h.bd;have hf0:=pG;have hf1:=Mp;have hE0:=KF;have hE1:=Jb;have hnot:∀ (x:Bool) (w:World),(Op.unary .not (.bool x)).run Tryz.prog w=.ok (.bool (!x)) w:=fun _ _=>rfl
 cases hs:sgn (lk L) i [aS] with
 | true=>
  have HU:=hdq (Fo (lk L) stmt inner inr label i hs);go_enter Tryz.func149,Tryz.ntmps149;go_upto_region 1 with fail;have S1:=SV.new h;generalize World.alloc w _=w1 at S1 ⊢;obtain⟨c1,_⟩:=S1.ps.cells;go_upto_region 2 with fail;clear c1;have hC:=S1.AM aS hs;clear hs;go_upto_region 3 with (go_at_call 135;refine hC.mono ?_;rintro e w2 ⟨rfl,S2⟩);have S3:=S2.leaf 31 0 i e0;go_upto_block 3 with fail;refine m2q (S3.dI 31 i) fun w4 S4=>?_;have:=TV.facts (S4.facts 0 rfl);go_wp2_with fail;have S5:=S4.bN 0 rfl (.int .i64 31) (.int .i64 0) i (.string ⟨#[]⟩) (.slice none 0 0);refine rtv (S5.facts 0 rfl) Tryz.results149 ?_;exact S5.res (.head _) (by simp[HU.out,aB]<;>rfl) rfl
 | false=>
  have HS:=hdq hs;have hC:∀ {w1:World} {rv ts},SV pb L w w1 i rv ts→_:=fun S=>S.Af aS hs
  clear hs;generalize hc:(dU (lk L) i&&!pH (lk L) i)=c;have HC:=hdq hc;clear hc;go_enter Tryz.func149,Tryz.ntmps149;go_upto_region 1 with fail;have S1:=SV.new h;generalize World.alloc w _=w1 at S1 ⊢;obtain⟨c1,_⟩:=S1.ps.cells;go_upto_region 2 with fail;clear c1;have hC:=hC S1;go_upto_region 4 with (go_at_call 135;refine hC.mono ?_;rintro e w2 ⟨rfl,S2⟩);clear hC S1;go_cut [27] (fun v27 wx=>v27=.bool c∧SV pb L w wx i [(w.heap.size,zs5)] [])
  case first=>
   have hA:=mP pb L i w2 S2.ps
   cases ha:dU (lk L) i with
   | false=>
    rw[ha]at hA;have hcc:=HC.out;rw[ha]at hcc;simp only[Bool.false_and]at hcc
    subst hcc;clear ha;go_wp2_with (go_at_call 147;refine(S2.aQ (E:=fun e=>e=_) hA).mono ?_;rintro e w3 ⟨rfl,S3⟩);go_meet
    case rel=>exact⟨rfl,S3⟩
   | true=>
    rw[ha]at hA;have hcc:=HC.out;rw[ha]at hcc;simp only[Bool.true_and]at hcc
    subst hcc;clear ha;go_wp2_with (first|(go_at_call 147;refine(S2.aQ (E:=fun e=>e=_) hA).mono ?_;rintro e w3 ⟨rfl,S3⟩)|(go_at_call 162;refine(S3.aQ (E:=fun e=>e=_) (Fs pb L i w3 S3.ps)).mono ?_;rintro e w4 ⟨rfl,S4⟩));go_meet
    case rel=>exact⟨rfl,S4⟩
  case rest=>
   obtain⟨rfl,S3⟩:=hcut;clear S2
   cases c with
   | true=>
    have HU:=hdq (Ce (lk L) stmt inner inr label i HS.out HC.out);go_upto_block 5 with fail;refine(S3.aN (qO pb L i wc (Nat.zero_le _) S3.ps)).mono ?_;rintro e w4 (⟨x,hr,rfl,hg⟩|⟨t4,j4,k4,n4,a4,s4,o4,m4,c4,hr,rfl,S4⟩)
    ·unfold pan;go_wp2_with fail;exact⟨rfl,aD.err x (by simp[HU.out,aB,hr]) hg⟩
    have H4:=hdq hr;clear hr;go_upto_region 6 with fail;have S5:=S4.yV (tg k4 n4 a4 s4 o4 m4 c4);generalize World.alloc w4 _=w5 at S5 ⊢;generalize w4.heap.size=B5 at S5 ⊢;go_upto_block 6 with fail;refine(S5.dR sEQ).mono ?_;rintro e w6 (⟨x,hr,rfl,hg⟩|⟨j6,hr,rfl,S6⟩)
    ·unfold pan;go_wp2_with fail;exact⟨rfl,aD.err x (by simp[HU.out,aB,H4.out,hr]) hg⟩
    have H6:=hdq hr;clear hr;go_upto_block 7 with fail;refine(S6.aN (aV pb L j6 w6 (Nat.zero_le _) S6.ps)).mono ?_;rintro e w7 (⟨x,hr,rfl,hg⟩|⟨t7,j7,k7,n7,a7,s7,o7,m7,c7,hr,rfl,S7⟩)
    ·unfold pan;go_wp2_with fail;exact⟨rfl,aD.err x (by simp[HU.out,aB,H4.out,H6.out,hr]) hg⟩
    have H7:=hdq hr;clear hr;go_upto_region 8 with fail;have S8:=S7.yV (tg k7 n7 a7 s7 o7 m7 c7);generalize World.alloc w7 _=w8 at S8 ⊢;generalize w7.heap.size=B8 at S8 ⊢;go_upto_block 8 with fail;refine(S8.dR aS).mono ?_;rintro e w9 (⟨x,hr,rfl,hg⟩|⟨j9,hr,rfl,S9⟩)
    ·unfold pan;go_wp2_with fail;exact⟨rfl,aD.err x (by simp[HU.out,aB,H4.out,H6.out,H7.out,hr]) hg⟩
    have H9:=hdq hr;clear hr;have:=TV.facts (S9.facts 0 rfl);have:=TV.facts (S9.facts 1 rfl);have S10:=S9.lit (aW.two (S9.tr (t4,vT k4 n4 a4 s4 o4 m4 c4) (.tail _ (.head _))) (S9.tr (t7,vT k7 n7 a7 s7 o7 m7 c7) (.head _))) #[.int .i64 k4,.int .i64 n4,.int .i64 a4,.string s4,.slice o4 m4 c4,.int .i64 k7,.int .i64 n7,.int .i64 a7,.string s7,.slice o7 m7 c7] rfl 24 0 i e0 2 2 rfl;go_upto_block 9 with fail;refine m2q (S10.dI 24 i) fun w11 S11=>?_;have:=TV.facts (S11.facts 2 rfl);go_wp2_with fail;have S12:=S11.bN 2 rfl (.int .i64 24) (.int .i64 0) i (.string ⟨#[]⟩) (.slice (some ⟨w9.heap.size,0,none⟩) 2 2);refine rtv (S12.facts 2 rfl) Tryz.results149 ?_;exact S12.res (.head _) (by simp[HU.out,aB,H4.out,H6.out,H7.out,H9.out]<;>rfl) rfl
   | false=>
    have hT:=aX pb L i 0 (by decide) wc S3.ps;generalize hkk:(tok (lk L) i).kind=tk;generalize htt:(tok (lk L) i).text=tx;rw[show (tok (L.map T3.tk) (i+0)).kind=tk from hkk,show (tok (L.map T3.tk) (i+0)).text=tx from htt]at hT;have HK:=hdq hkk;have HT:=hdq htt;clear hkk htt;go_upto_region 11 with (go_at_call 125;refine(S3.aQ (E:=fun e=>∃ p:Int,e=_) hT).mono ?_;rintro e w5 ⟨⟨p,rfl⟩,S5⟩);have S6:SVT pb L w _ i _ _ w5.heap.size #[.int .i64 tk,.string tx,.int .i64 p]:=⟨S5.below (aC w5 (.cells #[.int .i64 tk,.string tx,.int .i64 p] 43)),heap_alloc_new w5 _⟩
    generalize World.alloc w5 _=w6 at S6 ⊢;generalize w5.heap.size=BT at S6 ⊢;clear S5 S3 hT;go_cut [11] (fun v11 wx=>v11=(cY tx kwM).getD .nilFunc∧SVT pb L w wx i [(w.heap.size,zs5)] [] BT #[.int .i64 tk,.string tx,.int .i64 p])
    case first=>
     refine wp_region_any (by kernel_rfl) ?_;change wpAny _ _ _ _ _ _ _ (World.drew _);have S7:=S6.drew;generalize World.drew w6=w7 at S7 ⊢;have k1:w7.cell? ⟨BT,1,none⟩=some (.string tx):=cell_of_row w7 BT 1 _ _ _ S7.n;refine tkA 1 ?_;refine rdA [0,2] ?_;refine cnA (fun Kx RZ=>?_) ?_
     ·go_simp;refine(tW _).mono ?_;rintro e w8 ⟨rfl,hv8,hb8⟩;have S8:=S7.below hb8;have k2:w8.cell? ⟨BT,1,none⟩=some (.string tx):=cell_of_row w8 BT 1 _ _ _ S8.n;have hL:=BS w8 w7.heap.size hv8 tx;refine RZ _ _ ?_;clear RZ Kx;refine dG 2 fun Kx RZ=>?_;go_simp;refine RZ _ _ ?_;clear RZ Kx;refine dG 3 fun Kx RZ=>?_;go_simp;refine RZ _ _ ?_;clear RZ Kx;refine tkA 4 ?_;refine fX ?_
      go_wp2
      go_meet
      case rel=>exact⟨rfl,S8⟩
     refine cnA (fun Kx RZ=>?_) AllReady.nil;go_simp;refine RZ _ _ ?_;clear RZ Kx;refine dG 0 fun Kx RZ=>?_;go_simp;refine(tW _).mono ?_;rintro e w8 ⟨rfl,hv8,hb8⟩;have S8:=S7.below hb8;have k2:w8.cell? ⟨BT,1,none⟩=some (.string tx):=cell_of_row w8 BT 1 _ _ _ S8.n;have hL:=BS w8 w7.heap.size hv8 tx;refine RZ _ _ ?_;clear RZ Kx;refine dG 3 fun Kx RZ=>?_;go_simp;refine RZ _ _ ?_;clear RZ Kx;refine tkA 4 ?_;refine fX ?_
     go_wp2
     go_meet
     case rel=>exact⟨rfl,S8⟩
    case rest=>
     obtain⟨rfl,S7⟩:=hcut;clear S6;have hkw:=Ps pb L hX lo stmt inner hS hI upS upI tx i label (i+1) hi;generalize hpr:wrd (lk L) i [aE,pT]=pr;have hC:=S7.uC [aE,pT] (by simp) #[.string ⟨#[80,82,79,67,69,68,85,82,69]⟩,.string ⟨#[80,82,79,67]⟩] rfl 2 rfl pr hpr;have HP:=hdq hpr;clear hpr;go_upto_region 13 with (go_at_call 155;refine hC.mono ?_;rintro e w8 ⟨rfl,S8⟩);clear hC S7;have k0:w8.cell? ⟨BT,0,none⟩=some (.int .i64 tk):=cell_of_row w8 BT 0 _ _ _ S8.n;have S8s:=S8.s
     by_cases hk:tk=1
     ·subst hk;have HN:isName (lk L) i=true:=by unfold isName;rw[HK.out];rfl
      cases hd:gW (lk L) stmt inner tx i label (i+1) with
      | none=>
       rw[hd]at hkw;have hkw:cY tx kwM=none:=hkw;have HU:=hdq (Gy (lk L) stmt inner inr label i HS.out HC.out (by rw[HT.out];exact hd));rw[hkw];clear hkw hd;go_upto_block 14 with fail;refine S8s.sX.mono ?_;rintro e wf ⟨rfl,hg⟩;unfold pan;go_wp2_with fail;exact⟨rfl,aD.err _ (by simp[HU.out,aB]) hg⟩
      | some r=>
       rw[hd]at hkw;obtain⟨K,hkv,hK,hcall⟩:=hkw;have HD:=hdq (show gW (lk L) stmt inner (tok (lk L) i).text i label (i+1)=some r by rw[HT.out];exact hd);rw[hkv];clear hkv hd
       cases inr with
       | true=>
        cases pr with
        | true=>
         have HU:=hdq (sC (lk L) stmt inner true label i HS.out HC.out (.inr (.inl ⟨rfl,.inl HP.out⟩)));go_upto_block 14 with fail;refine S8s.sX.mono ?_;rintro e wf ⟨rfl,hg⟩;unfold pan;go_wp2_with fail;exact⟨rfl,aD.err _ (by simp[HU.out,aB]) hg⟩
        | false=>
         generalize hdd:wrd (lk L) i [fI,Ki]=dd;have hC:=S8.s.uC [fI,Ki] (by simp) #[.string ⟨#[68,69,67,76,65,82,69]⟩,.string ⟨#[68,67,76]⟩] rfl 2 rfl dd hdd
         cases dd with
         | true=>
          have HU:=hdq (sC (lk L) stmt inner true label i HS.out HC.out (.inr (.inl ⟨rfl,.inr hdd⟩)));clear hdd;go_upto_region 14 with (go_at_call 155;refine hC.mono ?_;rintro e w9 ⟨rfl,S9⟩);go_upto_block 14 with fail;refine S9.sX.mono ?_;rintro e wf ⟨rfl,hg⟩;unfold pan;go_wp2_with fail;exact⟨rfl,aD.err _ (by simp[HU.out,aB]) hg⟩
         | false=>
          have HU := hdq (sJ (lk L) stmt inner true label i HS.out HC.out (by
            rintro (h | ⟨_, h | h⟩ | ⟨h, _⟩)
            · rw [HN] at h; cases h
            · rw [HP.out] at h; cases h
            · rw [hdd] at h; cases h
            · rw [HP.out] at h; cases h) r HD.out)
          have hlt:=pK (L:=L) (i:=i) (by rw[HK.out];decide);clear hdd;go_upto_region 15 with (go_at_call 155;refine hC.mono ?_;rintro e w9 ⟨rfl,S9⟩);obtain⟨c1,f1⟩:=S9.ps.cells;go_upto_region 16 with fail;have S10:=S9.go (i+1) (by omega) (.int .i64 ((i:Int)+1)) rfl;generalize World.setCell w9 _ _=w10 at S10 ⊢;clear c1 f1;go_upto_block 16 with fail;refine(S10.aN (hcall w10 S10.ps)).mono ?_;rintro e w11 (⟨x,hr,rfl,hg⟩|⟨t11,j11,k11,n11,a11,s11,o11,m11,c11,hr,rfl,S11⟩)
          ·unfold pan;go_wp2_with fail;exact⟨rfl,aD.err x (by simp[HU.out,aB,hr]) hg⟩
          have H11:=hdq hr;clear hr;have:=TV.facts (S11.facts 0 rfl);go_wp2_with fail;have S12:=S11.bN 0 rfl k11 n11 a11 s11 (.slice o11 m11 c11);refine rtv (S12.facts 0 rfl) Tryz.results149 ?_;exact S12.res (.head _) (by simp[HU.out,aB,H11.out]<;>rfl) rfl
       | false=>
        cases pr with
        | true=>
         by_cases hl:label=⟨#[]⟩
         ·subst hl;have HU:=hdq (sC (lk L) stmt inner false ⟨#[]⟩ i HS.out HC.out (.inr (.inr ⟨HP.out,rfl⟩)));go_upto_block 14 with fail;refine S8s.sX.mono ?_;rintro e wf ⟨rfl,hg⟩;unfold pan;go_wp2_with fail;exact⟨rfl,aD.err _ (by simp[HU.out,aB]) hg⟩
         ·have hs1:(label.toList == [])=false:=beq_eq_false_iff_ne.2 fun e=>hl (by rw[← kK,e,ByteArray.toList_eq])
          have hs2:decide (label=⟨#[]⟩)=false:=decide_eq_false hl
          have HU := hdq (sJ (lk L) stmt inner false label i HS.out HC.out (by
            rintro (h | ⟨h, _⟩ | ⟨_, h⟩)
            · rw [HN] at h; cases h
            · cases h
            · exact hl (Iv h)) r HD.out)
          have hlt:=pK (L:=L) (i:=i) (by rw[HK.out];decide);clear hl;go_upto_region 15 with fail;obtain⟨c1,f1⟩:=S8.s.ps.cells;go_upto_region 16 with fail;have S10:=S8.s.go (i+1) (by omega) (.int .i64 ((i:Int)+1)) rfl;generalize World.setCell w8 _ _=w10 at S10 ⊢;clear c1 f1;go_upto_block 16 with fail;refine(S10.aN (hcall w10 S10.ps)).mono ?_;rintro e w11 (⟨x,hr,rfl,hg⟩|⟨t11,j11,k11,n11,a11,s11,o11,m11,c11,hr,rfl,S11⟩)
          ·unfold pan;go_wp2_with fail;exact⟨rfl,aD.err x (by simp[HU.out,aB,hr]) hg⟩
          have H11:=hdq hr;clear hr;have:=TV.facts (S11.facts 0 rfl);go_wp2_with fail;have S12:=S11.bN 0 rfl k11 n11 a11 s11 (.slice o11 m11 c11);refine rtv (S12.facts 0 rfl) Tryz.results149 ?_;exact S12.res (.head _) (by simp[HU.out,aB,H11.out]<;>rfl) rfl
        | false=>
         have HU := hdq (sJ (lk L) stmt inner false label i HS.out HC.out (by
           rintro (h | ⟨h, _⟩ | ⟨h, _⟩)
           · rw [HN] at h; cases h
           · cases h
           · rw [HP.out] at h; cases h) r HD.out)
         have hlt:=pK (L:=L) (i:=i) (by rw[HK.out];decide);go_upto_region 15 with fail;obtain⟨c1,f1⟩:=S8.s.ps.cells;go_upto_region 16 with fail;have S10:=S8.s.go (i+1) (by omega) (.int .i64 ((i:Int)+1)) rfl;generalize World.setCell w8 _ _=w10 at S10 ⊢;clear c1 f1;go_upto_block 16 with fail;refine(S10.aN (hcall w10 S10.ps)).mono ?_;rintro e w11 (⟨x,hr,rfl,hg⟩|⟨t11,j11,k11,n11,a11,s11,o11,m11,c11,hr,rfl,S11⟩)
         ·unfold pan;go_wp2_with fail;exact⟨rfl,aD.err x (by simp[HU.out,aB,hr]) hg⟩
         have H11:=hdq hr;clear hr;have:=TV.facts (S11.facts 0 rfl);go_wp2_with fail;have S12:=S11.bN 0 rfl k11 n11 a11 s11 (.slice o11 m11 c11);refine rtv (S12.facts 0 rfl) Tryz.results149 ?_;exact S12.res (.head _) (by simp[HU.out,aB,H11.out]<;>rfl) rfl
     ·have HU:=hdq (sC (lk L) stmt inner inr label i HS.out HC.out (.inl (by unfold isName;rw[HK.out];simpa using hk)));clear hkw;go_upto_block 14 with fail;refine S8s.sX.mono ?_;rintro e wf ⟨rfl,hg⟩;unfold pan;go_wp2_with fail;exact⟨rfl,aD.err _ (by simp[HU.out,aB]) hg⟩
end
end Go.Proofs.YtfdlmcgcckkkdaaGreatDoor
