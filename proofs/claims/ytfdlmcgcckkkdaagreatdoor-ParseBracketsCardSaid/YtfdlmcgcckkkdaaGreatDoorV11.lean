/- ParseWhole, part 11: what it stands on. -/
import Derived.Test.YtfdlmcgcckkkdaaGreatDoorV10
set_option linter.all false
set_option maxHeartbeats 40000000
set_option maxRecDepth 100000
namespace Go.Proofs.YtfdlmcgcckkkdaaGreatDoor
section
namespace Px
open Lx
inductive So where
 | expr|part|arg|fmt|attr|val|bound|item|cond|when_|other
 | st (inr:Bool)|lb (inr lab:Bool)|pl (inr lab:Bool)
def nOK(w:ByteArray):Prop:=bX 1 w=true
def cOK(n:Int)(w:ByteArray):Prop:=(n=2∨n=3∨n=4∨n=5)∧bX n w=true
def isRef(t:T):Prop:=t.kind=2∨t.kind=4
def isNone(t:T):Prop:=∃ a,t=.mk 10 0 a e0 []
def isWord(t:T):Prop:=∃ a w,t=.mk 11 0 a w []∧nOK w
def MR(t:T):Prop:=∃ n a w,t=.mk 1 n a w []∧cOK n w
def OH(t:T):Prop:=∃ a w,t=.mk 1 4 a w []∧cOK 4 w
def xY: T→Bool
 | .mk k _ _ _ [x]=>if k=14∨k=13 then xY x else false
 | .mk k _ _ _ [_,y]=>if k=23 then true else if k=13∨k=32 then xY y else false
 | .mk k _ _ _ [_,_,z]=>if k=23∨k=13 then xY z else false
 | .mk k _ _ _ [_,_,_,z]=>if k=13 then xY z else false
 | .mk k _ _ _ [_,_,_,_,z]=>if k=13 then xY z else false
 | _=>false
inductive V:So→T→Prop
 | const (n a:Int) (w:ByteArray) (h:cOK n w):V .expr (.mk 1 n a w [])
 | ref (a:Int) (ps:List T) (h1:1≤ps.length) (h8:ps.length≤8) (h:∀ p,p∈ps→V .part p):V .expr (.mk 2 0 a e0 ps)
 | ptr (a:Int) (x y:T) (hx:V .expr x) (hr:isRef x) (hy:V .expr y) (h2:y.kind=2):V .expr (.mk 4 0 a e0 [x,y])
 | un (a:Int) (w:ByteArray) (x:T) (hw:w=dN∨w=bP∨w=kJ) (hx:V .expr x):V .expr (.mk 5 0 a w [x])
 | bin (a:Int) (w:ByteArray) (x y:T) (hw:0≤level w) (hx:V .expr x) (hy:V .expr y):V .expr (.mk 6 0 a w [x,y])
 | part0 (a:Int) (w:ByteArray) (h:nOK w):V .part (.mk 3 0 a w [])
 | part1 (a:Int) (w:ByteArray) (l:List T) (h:nOK w) (h16:l.length≤16) (hl:∀ x,x∈l→V .arg x):V .part (.mk 3 1 a w l)
 | arg (x:T) (h:V .expr x):V .arg x
 | star (a:Int):V .arg (.mk 7 0 a e0 [])
 | fmtN (n a:Int) (l:List T) (h1:1≤n) (h2:n≤100) (hne:l≠[]) (hl:∀ x,x∈l→V .fmt x):V .fmt (.mk 42 n a e0 l)
 | fmtP (a:Int) (c:T) (h:OH c):V .fmt (.mk 41 0 a wP [c])
 | fmt (a:Int) (w:ByteArray) (l:List T) (hw:w≠wP) (h:nOK w) (h2:l.length≤2) (hl:∀ x,x∈l→MR x):V .fmt (.mk 41 0 a w l)
 | attrP (a:Int) (c:T) (h:OH c):V .attr (.mk 50 0 a dF [c])
 | attrL (a:Int) (x:T) (h:V .expr x) (h2:x.kind=2):V .attr (.mk 50 0 a pZ [x])
 | attr0 (a:Int) (w:ByteArray) (h:nOK w) (h1:w≠dF) (h2:w≠pZ) (h3:Ay w=w):V .attr (.mk 50 0 a w [])
 | attr1 (a:Int) (w:ByteArray) (l:List T) (h:nOK w) (h1:w≠dF) (h2:w≠pZ) (h3:Ay w=w) (h60:l.length≤60) (hl:∀ x,x∈l→V .val x):V .attr (.mk 50 1 a w l)
 | val (x:T) (h:V .arg x):V .val x
 | valR (n a:Int) (c:T) (h1:1≤n) (h2:n≤1000) (hc:MR c∨∃ a' w c',c=.mk 5 0 a' w [c']∧(w=dN∨w=bP∨w=kJ)∧MR c'):V .val (.mk 42 n a e0 [c])
 | bound2 (a:Int) (x y:T) (hx:V .expr x) (hy:V .expr y):V .bound (.mk 49 0 a e0 [x,y])
 | bound1 (a:Int) (x y:T) (hx:isNone x) (hy:V .expr y):V .bound (.mk 49 0 a e0 [x,y])
 | item (n a:Int) (x bs:T) (aSq:List T) (h0:0≤n) (h99:n≤99) (hx:isWord x∨∃ a' its,x=.mk 40 0 a' e0 its∧its≠[])
  (hxs:x.kind=40→x.l.length≤30) (hi:x.kind=40→∀ y,y∈x.l→V .item y)
  (hb:∃ a' l,bs=.mk 40 0 a' e0 l) (hbs:bs.l.length≤3) (hbv:∀ y,y∈bs.l→V .bound y) (has:aSq.length≤12) (hav:∀ y,y∈aSq→V .attr y):V .item (.mk 48 n a e0 (x::bs::aSq))
 | cond0 (a:Int) (w:ByteArray) (h:nOK w):V .cond (.mk 12 0 a w [])
 | cond1 (a:Int) (w:ByteArray) (x:T) (h:nOK w) (hx:isWord x):V .cond (.mk 12 0 a w [x])
 | prefixed (inr:Bool) (a:Int) (ws:List T) (x:T) (h1:1≤ws.length) (h4:ws.length≤4) (hw:∀ y,y∈ws→isWord y) (hx:V (.lb inr false) x):V (.st inr) (.mk 13 0 a e0 (ws++[x]))
 | stmt (inr:Bool) (x:T) (hx:V (.lb inr false) x):V (.st inr) x
 | label (inr lab:Bool) (a:Int) (w:ByteArray) (x:T) (h:nOK w) (hx:V (.lb inr true) x):V (.lb inr lab) (.mk 14 0 a w [x])
 | plain (inr lab:Bool) (x:T) (hx:V (.pl inr lab) x):V (.lb inr lab) x
 | null (inr lab:Bool) (a:Int):V (.pl inr lab) (.mk 31 0 a e0 [])
 | assign (inr lab:Bool) (a:Int) (r x:T) (hr:V .expr r) (h:isRef r) (hx:V .expr x):V (.pl inr lab) (.mk 24 0 a e0 [r,x])
 | proc (n a a':Int) (ps:List T) (ret:T) (g:List T) (hn:n=0∨n=1∨n=2) (hp8:ps.length≤8) (hp:∀ y,y∈ps→isWord y) (hret:isNone ret∨∃ a' aSq,ret=.mk 40 0 a' e0 aSq∧aSq≠[])
  (hr4:ret.kind=40→ret.l.length≤4) (hrv:ret.kind=40→∀ y,y∈ret.l→V .attr y) (hg:∀ y,y∈g→V (.st false) y):V (.pl false true) (.mk 15 n a e0 (.mk 40 0 a' e0 ps::ret::g))
 | begin_ (inr lab:Bool) (a:Int) (g:List T) (hg:∀ y,y∈g→V (.st false) y):V (.pl inr lab) (.mk 16 0 a e0 g)
 | do_ (inr lab:Bool) (a:Int) (g:List T) (hg:∀ y,y∈g→V (.st false) y):V (.pl inr lab) (.mk 17 0 a e0 g)
 | while_ (inr lab:Bool) (a:Int) (x y:T) (g:List T) (hx:¬ isNone x→V .expr x) (hy:¬ isNone y→V .expr y) (hn:¬ (isNone x∧isNone y)) (hg:∀ y,y∈g→V (.st false) y):V (.pl inr lab) (.mk 18 0 a e0 (x::y::g))
 | loop (inr lab:Bool) (a:Int) (r x t b wh un:T) (g:List T) (hr:V .expr r) (h:isRef r) (hx:V .expr x) (ht:¬ isNone t→V .expr t) (hb:¬ isNone b→V .expr b) (hw:¬ isNone wh→V .expr wh) (hu:¬ isNone un→V .expr un)
  (hg:∀ y,y∈g→V (.st false) y):V (.pl inr lab) (.mk 19 0 a e0 (r::x::t::b::wh::un::g))
 | select (inr lab:Bool) (a:Int) (x:T) (ws os:List T) (hx:¬ isNone x→V .expr x) (hw:∀ y,y∈ws→V .when_ y) (ho1:os.length≤1) (ho:∀ y,y∈os→V .other y):V (.pl inr lab) (.mk 20 0 a e0 (x::(ws++os)))
 | when_ (a:Int) (xs:List T) (y:T) (h1:1≤xs.length) (h8:xs.length≤8) (hx:∀ z,z∈xs→V .expr z) (hy:V (.st true) y):V .when_ (.mk 21 0 a e0 (xs++[y]))
 | other (a:Int) (y:T) (hy:V (.st true) y):V .other (.mk 22 0 a e0 [y])
 | if2 (inr lab:Bool) (a:Int) (x y:T) (hx:V .expr x) (hy:V (.st true) y):V (.pl inr lab) (.mk 23 0 a e0 [x,y])
 | if3 (inr lab:Bool) (a:Int) (x y z:T) (hx:V .expr x) (hy:V (.st true) y) (hc:xY y=false) (hz:V (.st true) z):V (.pl inr lab) (.mk 23 0 a e0 [x,y,z])
 | call (inr lab:Bool) (a a':Int) (p:T) (hp:V .part p):V (.pl inr lab) (.mk 25 0 a e0 [.mk 2 0 a' e0 [p]])
 | ret0 (inr lab:Bool) (a:Int):V (.pl inr lab) (.mk 26 0 a e0 [])
 | ret1 (inr lab:Bool) (a:Int) (x:T) (hx:V .expr x):V (.pl inr lab) (.mk 26 0 a e0 [x])
 | goto_ (inr lab:Bool) (a:Int) (w:ByteArray) (h:nOK w):V (.pl inr lab) (.mk 27 0 a w [])
 | leave (inr lab:Bool) (k a:Int) (w:ByteArray) (hk:k=28∨k=29) (h:w=e0∨nOK w):V (.pl inr lab) (.mk k 0 a w [])
 | stop (inr lab:Bool) (a:Int):V (.pl inr lab) (.mk 30 0 a e0 [])
 | on1 (inr lab:Bool) (a:Int) (c x:T) (hc:V .cond c) (hx:V (.st true) x):V (.pl inr lab) (.mk 32 0 a e0 [c,x])
 | on0 (inr lab:Bool) (a a':Int) (c:T) (hc:V .cond c):V (.pl inr lab) (.mk 32 0 a e0 [c,.mk 33 0 a' e0 []])
 | revert (inr lab:Bool) (k a:Int) (c:T) (hk:k=34∨k=35) (hc:V .cond c):V (.pl inr lab) (.mk k 0 a e0 [c])
 | alloc (inr lab:Bool) (a:Int) (w:ByteArray) (x y:T) (h:nOK w) (hx:¬ isNone x→V .expr x) (hxr:¬ isNone x→isRef x) (hy:¬ isNone y→V .expr y) (hyr:¬ isNone y→isRef y):V (.pl inr lab) (.mk 36 0 a w [x,y])
 | free (inr lab:Bool) (a:Int) (r x:T) (hr:V .expr r) (h:isRef r) (hx:¬ isNone x→V .expr x) (hxr:¬ isNone x→isRef x):V (.pl inr lab) (.mk 37 0 a e0 [r,x])
 | stream0 (inr lab:Bool) (k n a:Int) (w:ByteArray) (x y:T) (hk:k=38∨k=39) (h0:0≤n) (h99:n≤99) (hw:w=e0∨nOK w) (hx:isNone x) (hy:isNone y):V (.pl inr lab) (.mk k n a w [x,y])
 | stream1 (inr lab:Bool) (k n a a':Int) (w:ByteArray) (l:List T) (y:T) (hk:k=38∨k=39) (h0:0≤n) (h99:n≤99) (hw:w=e0∨nOK w) (h1:1≤l.length) (h16:l.length≤16) (hl:∀ x,x∈l→V .expr x) (hr:k=38→∀ x,x∈l→isRef x) (hy:isNone y) :
  V (.pl inr lab) (.mk k n a w [.mk 40 0 a' e0 l,y])
 | stream2 (inr lab:Bool) (k n a a' a2:Int) (w:ByteArray) (l m:List T) (hk:k=38∨k=39) (h0:0≤n) (h99:n≤99) (hw:w=e0∨nOK w) (h1:1≤l.length) (h16:l.length≤16) (hl:∀ x,x∈l→V .expr x) (hr:k=38→∀ x,x∈l→isRef x)
  (h2:1≤m.length) (h32:m.length≤32) (hm:∀ x,x∈m→V .fmt x):V (.pl inr lab) (.mk k n a w [.mk 40 0 a' e0 l,.mk 40 0 a2 e0 m])
 | rd (inr lab:Bool) (k a:Int) (w:ByteArray) (r x:T) (hk:k=43∨k=44∨k=45) (h:nOK w) (hr:V .expr r) (hrr:isRef r) (hx:¬ isNone x→V .expr x) (h44:k=44→¬ isNone x):V (.pl inr lab) (.mk k 0 a w [r,x])
 | delete (inr lab:Bool) (a:Int) (w:ByteArray) (x:T) (h:nOK w) (hx:V .expr x):V (.pl inr lab) (.mk 46 0 a w [x])
 | declare (lab:Bool) (a:Int) (l:List T) (h1:1≤l.length) (h60:l.length≤60) (hl:∀ x,x∈l→V .item x):V (.pl false lab) (.mk 47 0 a e0 l)
def len(t:T):Nat:=(prO false t).length
end Px
end
section
namespace Px
open Lx
def Gd(ts:List Tk):Prop:=∀ x,x∈ts→bX x.kind x.text=true
theorem Gd.nil: Gd []:=fun _ h=>by cases h
theorem Gd.cons{x:Tk}{r:List Tk}(h:bX x.kind x.text=true)(hr:Gd r):Gd (x::r):=fun y hy=>by
 rcases List.mem_cons.1 hy with rfl|hy
 ·exact h
 ·exact hr y hy
end Px
end
section
namespace Px
open Lx
theorem Cd{x:T}:∀ {l:List T},x∈l→depth x≤fG l:=by
 intro l
 induction l with
 | nil=>intro h;cases h
 | cons y r ih=>
  intro h;unfold fG
  rcases List.mem_cons.1 h with rfl|h
  ·omega
  ·have:=ih h;omega
end Px
end
section
namespace Px
open Lx
def lH(t:T):Bool:=decide (nodes t≤4000)&&decide (depth t≤60)
def gdL(L:List Tk):Bool:=L.all fun x=>bX x.kind x.text
def okR(read:List Tk→Nat→R T)(L:List Tk)(t:T):Bool:=match Bb L (read L) with
 | .ok t'=>fU t' t
 | .error _=>false
def chk(t:T):Bool:=lH t&&(gdL (prT t)&&(okR bM (prT t) t||okR qJ (prT t) t))
theorem NJ(L:List Tk):gdL L=true↔Gd L:=by unfold gdL Gd;rw[List.all_eq_true]
theorem Om{L:List Tk}{read:Nat→R T}{t:T}(h:Bb L read=.ok t):∃ j,read 0=.ok (t,j)∧L.length≤j:=by
 unfold Bb at h
 cases hr:read 0 with
 | error a=>rw[hr]at h;cases h
 | ok p=>
  obtain⟨t',j⟩:=p;rw[hr]at h;simp only at h
  split at h
  ·cases h
  ·cases h;exact⟨j,rfl,by omega⟩
theorem qY{t:T}(h:chk t=true):lH t=true:=by unfold chk at h;rw[Bool.and_eq_true]at h;exact h.1
def jY: List Tk→Nat→Option Nat
 | [],_=>none
 | x::r,i=>if bX x.kind x.text=true then jY r (i+1)else some i
theorem At: ∀ (L:List Tk) (i:Nat),jY L i=none↔Gd L:=by
 intro L
 induction L with
 | nil=>intro i;exact⟨fun _=>Gd.nil,fun _=>rfl⟩
 | cons x r ih=>
  intro i;unfold jY
  split
  ·rename_i h
   rw[ih];exact⟨fun g=>Gd.cons h g,fun g y hy=>g y (List.mem_cons_of_mem _ hy)⟩
  ·rename_i h
   exact⟨fun g=>(by cases g),fun g=>absurd (g x (List.mem_cons_self ..)) h⟩
def gI: T:=.mk 0 0 0 e0 []
def jS(read:List Tk→Nat→R T)(L:List Tk):T×Int×Int:=
 if 5000<L.length then(gI,0,2)
 else match jY L 0 with
  | some i=>(gI,i,50)
  | none=>match Bb L (read L) with
   | .error a=>(gI,a,70)
   | .ok t=>if 4000<nodes t∨60<depth t then(gI,0,2)else(t,0,0)
def cL(t:T):List Tk×Int:=if chk t=true then(if 5000<(prT t).length then([],2)else(prT t,0))else([],71)
end Px
end
section
open Px
namespace Px
def gn(l:List T)(i:Nat):Nat:=((l[i]?).map nodes).getD 0
theorem iK(l:List T)(i:Nat):aH (l.drop i)=gn l i+aH (l.drop (i+1)):=by
 unfold gn
 by_cases h:i<l.length
 ·rw[List.drop_eq_getElem_cons h,List.getElem?_eq_getElem h,aH];rfl
 ·rw[List.drop_of_length_le (by omega),List.drop_of_length_le (by omega),List.getElem?_eq_none (by omega)];rfl
theorem yW: ∀ (l m:List T),aH (l++m)=aH l+aH m:=by
 intro l m
 induction l with
 | nil=>rw[List.nil_append,aH];omega
 | cons x r ih=>rw[List.cons_append,aH,aH,ih];omega
theorem jT(l:List T)(i:Nat):aH (l.take i)+aH (l.drop i)=aH l:=by
 rw[← yW,List.take_append_drop]
def Bd(b:Bool)(x:T):Prop:=(prO b x).length+1≤48*nodes x∧(prB b x).length+1≤48*nodes x∧(prS b x).length+1≤48*nodes x
theorem EX{b:Bool}{l:List T}(H:∀ x,x∈l→Bd b x)(i:Nat):(ct (l.map (prO b)) i).length≤48*gn l i+1:=by
 unfold ct gn;rw[List.getD_eq_getElem?_getD,List.getElem?_map]
 cases h:l[i]? with
 | none=>simp
 | some x=>have:=(H x (List.mem_of_getElem? h)).1;simp only[Option.map_some,Option.getD_some];omega
theorem Py{b:Bool}{l:List T}(H:∀ x,x∈l→Bd b x)(i:Nat):(cb (l.map (prB b)) i).length≤48*gn l i+2:=by
 unfold cb gn;rw[List.getD_eq_getElem?_getD,List.getElem?_map]
 cases h:l[i]? with
 | none=>simp
 | some x=>have:=(H x (List.mem_of_getElem? h)).2.1;simp only[Option.map_some,Option.getD_some];omega
theorem Qq{b:Bool}{l:List T}(H:∀ x,x∈l→Bd b x)(i:Nat):((l.map (prS b)).getD i []).length≤48*gn l i:=by
 unfold gn;rw[List.getD_eq_getElem?_getD,List.getElem?_map]
 cases h:l[i]? with
 | none=>simp
 | some x=>have:=(H x (List.mem_of_getElem? h)).2.2;simp only[Option.map_some,Option.getD_some];omega
theorem Dr{b:Bool}:∀ {l:List T},(∀ x,x∈l→Bd b x)→((l.map (prO b)).flatten).length≤48*aH l:=by
 intro l
 induction l with
 | nil=>intro _;simp
 | cons x r ih=>
  intro H;have h1:=(H x (.head _)).1;have h2:=ih fun y hy=>H y (.tail _ hy)
  rw[aH,List.map_cons,List.flatten_cons,List.length_append];omega
theorem sM{b:Bool}:∀ {l:List T},(∀ x,x∈l→Bd b x)→(aO (l.map (prO b))).length≤48*aH l:=by
 intro l
 induction l with
 | nil=>intro _;exact Nat.zero_le _
 | cons x r ih=>
  intro H;have h1:=(H x (.head _)).1;have h2:=ih fun y hy=>H y (.tail _ hy)
  rw[aH]
  cases r with
  | nil=>show (prO b x).length≤_;omega
  | cons z r=>
   show (prO b x++O mU::aO ((z::r).map (prO b))).length≤_
   rw[List.length_append,List.length_cons];omega
theorem Mc{b:Bool}:∀ {l:List T},(∀ x,x∈l→Bd b x)→(sG (l.map (prO b))).length≤48*aH l:=by
 intro l
 induction l with
 | nil=>intro _;exact Nat.zero_le _
 | cons x r ih=>
  intro H;have h1:=(H x (.head _)).1;have h2:=ih fun y hy=>H y (.tail _ hy)
  rw[aH]
  cases r with
  | nil=>show (prO b x).length≤_;omega
  | cons z r=>
   show (prO b x++O uM::sG ((z::r).map (prO b))).length≤_
   rw[List.length_append,List.length_cons];omega
theorem jW(w:ByteArray)(c:T)(p:List Tk):(opt w c p).length≤p.length+3:=by
 unfold opt;split<;>simp[cD,aO]
theorem Ew(w:ByteArray)(c:T)(p:List Tk):(qX w c p).length≤p.length+1:=by
 unfold qX;split<;>simp
theorem qF(c:T)(p:List Tk)(i:Int):(operand c p i).length≤p.length+2:=by
 unfold operand;split<;>simp[cD,aO]
theorem BU(a w:ByteArray):(eQ a w).length≤2:=by unfold eQ;split<;>simp
theorem pO(ps:List (List Tk)):(cD ps).length=(aO ps).length+2:=by simp[cD]
theorem nS(ps:List (List Tk)):(group ps).length=(ps.flatten).length+3:=by simp[group]
theorem Ep{P:Prop}[Decidable P]{A B:List Tk}{N:Nat}(h1:P→A.length≤N)(h2:¬ P→B.length≤N):(if P then A else B).length≤N:=by
 split
 ·exact h1 (by assumption)
 ·exact h2 (by assumption)
theorem MN{b:Bool}(a k n:Int)(w:ByteArray){l:List T}(H:∀ x,x∈l→Bd b x):(comb b a k n w l (l.map (prO b)) (l.map (prB b)) (l.map (prS b))).length+1≤48*(1+aH l):=by
 have c0:=EX H 0;have c1:=EX H 1;have c2:=EX H 2;have c3:=EX H 3;have c4:=EX H 4;have c5:=EX H 5;have d0:=Py H 0;have d1:=Py H 1;have e1:=Qq H 1;have n0:=iK l 0;have n1:=iK l 1;have n2:=iK l 2;have n3:=iK l 3;have n4:=iK l 4;have n5:=iK l 5;simp only[List.drop_zero,Nat.zero_add,Nat.reduceAdd]at n0 n1 n2 n3 n4 n5
 have fl:=Dr H;have cm:=sM H;have dt:=Mc H;have fd:∀ i,(((l.map (prO b)).drop i).flatten).length≤48*aH (l.drop i):=fun i=>by
  rw[← List.map_drop];exact Dr fun x hx=>H x (List.mem_of_mem_drop hx)
 have ctk:∀ i,(aO ((l.map (prO b)).take i)).length≤48*aH (l.take i):=fun i=>by
  rw[← List.map_take];exact sM fun x hx=>H x (List.mem_of_mem_take hx)
 have f1:=fd 1;have f2:=fd 2;have f6:=fd 6;have fm:=fd (l.length - 1);have tm:=ctk (l.length - 1);have tdm:=jT l (l.length - 1);clear H fd ctk;have s1:(simple b a k n w l (l.map (prO b)) (l.map (prB b))).length≤48*aH l+24:=by
  unfold simple
  repeat' (with_reducible refine Ep (fun _=>?_) (fun _=>?_))
  all_goals (try simp only[List.length_append,List.length_cons,List.length_nil,pO,uE])
  all_goals (repeat' split)
  all_goals (try simp only[List.length_append,List.length_cons,List.length_nil,pO,uE])
  all_goals (try have:=jW Jw (part l 0) (ct (l.map (prO b)) 0))
  all_goals (try have:=jW wIN (part l 1) (ct (l.map (prO b)) 1))
  all_goals (try have:=jW wW (part l 0) (ct (l.map (prO b)) 0))
  all_goals (try have:=jW pM (part l 1) (ct (l.map (prO b)) 1))
  all_goals (try have:=jW kP (part l 0) (ct (l.map (prO b)) 0))
  all_goals (try have:=jW hZ (part l 1) (ct (l.map (prO b)) 1))
  all_goals (try have:=jW pM (part l 0) (ct (l.map (prO b)) 0))
  all_goals (try have:=BU mS w)
  all_goals (try have:=BU gG w)
  all_goals (try omega)
 have s2:(gQ b a k n w l (l.map (prO b)) (l.map (prB b))).length≤48*aH l+40:=by
  have o1:=jW eM (part l 0) (ct (l.map (prO b)) 0);have o2:=jW eL (part l 1) (ct (l.map (prO b)) 1);have o3:=jW eM (part l 4) (ct (l.map (prO b)) 4);have o4:=jW eL (part l 5) (ct (l.map (prO b)) 5);have o5:=Ew wTO (part l 2) (ct (l.map (prO b)) 2);have o6:=Ew wBY (part l 3) (ct (l.map (prO b)) 3);unfold gQ
  repeat' (with_reducible refine Ep (fun _=>?_) (fun _=>?_))
  all_goals (repeat' split)
  all_goals (try simp only[List.length_append,List.length_cons,List.length_nil,pO,nS,aO])
  all_goals (try simp only[aO])
  all_goals (try omega)
 have s3:(eA b a k n w l (l.map (prO b)) (l.map (prB b)) (l.map (prS b))).length≤48*aH l+44:=by
  unfold Px.eA
  repeat' (with_reducible refine Ep (fun _=>?_) (fun _=>?_))
  all_goals (repeat' split)
  all_goals (try simp only[List.length_append,List.length_cons,List.length_nil,pO,nS])
  all_goals (try simp only[nS])
  all_goals (try omega)
 have p0:=qF (part l 0) (ct (l.map (prO b)) 0) 6;have p1:=qF (part l 0) (ct (l.map (prO b)) 0) (level w);have p2:=qF (part l 1) (ct (l.map (prO b)) 1) (level w+1)
 suffices h:(comb b a k n w l (l.map (prO b)) (l.map (prB b)) (l.map (prS b))).length≤48*aH l+46 by omega
 unfold comb
 repeat' (with_reducible refine Ep (fun _=>?_) (fun _=>?_))
 all_goals (try simp only[List.length_append,List.length_cons,List.length_nil,pO])
 all_goals (repeat' split)
 all_goals (try simp only[List.length_append,List.length_cons,List.length_nil,pO])
 all_goals (try omega)
theorem iQ{t x:T}(h:x∈t.l):depth x<depth t:=by
 obtain⟨k,n,a,w,l⟩:=t;have h1:=Cd (show x∈l from h);have e2:depth (T.mk k n a w l)=1+fG l:=by rw[depth]
 omega
theorem QD(b:Bool):∀ d (t:T),depth t≤d→Bd b t:=by
 intro d
 induction d using Nat.strongRecOn with
 | _ d ih=>
  intro t hd;have H:∀ x,x∈t.l→Bd b x:=fun x hx=>ih (depth x) (by have:=iQ hx;omega) x (Nat.le_refl _)
  obtain⟨k,n,a,w,l⟩:=t;have H':∀ x,x∈l→Bd b x:=H;have e:nodes (T.mk k n a w l)=1+aH l:=by rw[nodes]
  refine⟨by rw[MH,e];exact MN a k n w H',?_,?_⟩
  ·rw[Ml,pO,e];have:=sM H'
   show (aO (l.map (prO b))).length+2+1≤_
   omega
  ·rw[MI,e];have:=Dr H'
   show ((l.map (prO b)).flatten).length+1≤_
   omega
theorem MF(b:Bool)(t:T):(prO b t).length+1≤48*nodes t:=(QD b _ t (Nat.le_refl _)).1
end Px
namespace Px
def big: Nat:=2147483647
mutual
def wdT: T→Prop
 | .mk _ _ _ w l=>w.size≤big∧My l
def My: List T→Prop
 | []=>True
 | t::r=>wdT t∧My r
end
theorem EC: ∀ (l:List T),My l↔∀ x,x∈l→wdT x:=by
 intro l
 induction l with
 | nil=>exact⟨fun _ x h=>(nomatch h),fun _=>by unfold My;trivial⟩
 | cons y r ih=>
  unfold My;rw[ih];exact⟨fun h x hx=>by rcases List.mem_cons.1 hx with rfl|hx;exact h.1;exact h.2 x hx,fun h=>⟨h y (.head _),fun x hx=>h x (.tail _ hx)⟩⟩
def Tx(L:List Tk):Prop:=∀ x,x∈L→x.text.size≤big
theorem Tx.nil: Tx []:=fun _ h=>(nomatch h)
theorem Tx.cons{x:Tk}{L:List Tk}(h:x.text.size≤big)(H:Tx L):Tx (x::L):=fun y hy=>by
 rcases List.mem_cons.1 hy with rfl|hy
 ·exact h
 ·exact H y hy
theorem Tx.app{L M:List Tk}(h:Tx L)(g:Tx M):Tx (L++M):=fun y hy=>by
 rcases List.mem_append.1 hy with hy|hy
 ·exact h y hy
 ·exact g y hy
theorem Tx.ite{P:Prop}[Decidable P]{A B:List Tk}(h1:P→Tx A)(h2:¬ P→Tx B):Tx (if P then A else B):=by
 split
 ·exact h1 (by assumption)
 ·exact h2 (by assumption)
theorem Tx.flat{ps:List (List Tk)}(h:∀ p,p∈ps→Tx p):Tx ps.flatten:=fun y hy=>by
 obtain⟨p,hp,hy⟩:=List.mem_flatten.1 hy;exact h p hp y hy
theorem Tx.aO: ∀ {ps:List (List Tk)},(∀ p,p∈ps→Tx p)→Tx (aO ps):=by
 intro ps
 induction ps with
 | nil=>intro _;exact Tx.nil
 | cons x r ih=>
  intro h
  cases r with
  | nil=>exact h x (.head _)
  | cons z r=>exact(h x (.head _)).app (.cons (by decide) (ih fun p hp=>h p (.tail _ hp)))
theorem Tx.sG: ∀ {ps:List (List Tk)},(∀ p,p∈ps→Tx p)→Tx (sG ps):=by
 intro ps
 induction ps with
 | nil=>intro _;exact Tx.nil
 | cons x r ih=>
  intro h
  cases r with
  | nil=>exact h x (.head _)
  | cons z r=>exact(h x (.head _)).app (.cons (by decide) (ih fun p hp=>h p (.tail _ hp)))
theorem Tx.brk{ps:List (List Tk)}(h:∀ p,p∈ps→Tx p):Tx (cD ps):=.cons (by decide) (.app (.aO h) (.cons (by decide) .nil))
theorem Tx.group{ps:List (List Tk)}(h:∀ p,p∈ps→Tx p):Tx (group ps):=.cons (by decide) (.app (.flat h) (.cons (by decide) (.cons (by decide) .nil)))
theorem Tx.ct{ps:List (List Tk)}(h:∀ p,p∈ps→Tx p)(i:Nat):Tx (ct ps i):=by
 unfold Px.ct;rw[List.getD_eq_getElem?_getD]
 cases e:ps[i]? with
 | none=>exact .cons (by decide) .nil
 | some p=>exact h p (List.mem_of_getElem? e)
theorem Tx.cb{ps:List (List Tk)}(h:∀ p,p∈ps→Tx p)(i:Nat):Tx (cb ps i):=by
 unfold Px.cb;rw[List.getD_eq_getElem?_getD]
 cases e:ps[i]? with
 | none=>exact .cons (by decide) (.cons (by decide) .nil)
 | some p=>exact h p (List.mem_of_getElem? e)
theorem Tx.gt{ps:List (List Tk)}(h:∀ p,p∈ps→Tx p)(i:Nat):Tx (ps.getD i []):=by
 rw[List.getD_eq_getElem?_getD]
 cases e:ps[i]? with
 | none=>exact .nil
 | some p=>exact h p (List.mem_of_getElem? e)
theorem Tx.operand{p:List Tk}(h:Tx p)(c:T)(i:Int):Tx (operand c p i):=by
 unfold Px.operand;exact .ite (fun _=>.brk fun q hq=>by rw[List.mem_singleton.1 hq];exact h) (fun _=>h)
theorem Tx.opt{p:List Tk}(h:Tx p)(w:ByteArray)(hw:w.size≤big)(c:T):Tx (opt w c p):=by
 unfold Px.opt;exact .ite (fun _=>.nil) (fun _=>.cons hw (.brk fun q hq=>by rw[List.mem_singleton.1 hq];exact h))
theorem Tx.qX{p:List Tk}(h:Tx p)(w:ByteArray)(hw:w.size≤big)(c:T):Tx (qX w c p):=by
 unfold Px.qX;exact .ite (fun _=>.nil) (fun _=>.cons hw h)
theorem Tx.label{a w:ByteArray}(ha:a.size≤big)(hw:w.size≤big):Tx (eQ a w):=by
 unfold Px.eQ;exact .cons ha (.ite (fun _=>.nil) (fun _=>.cons hw .nil))
theorem Tx.file{a w:ByteArray}(ha:a.size≤big)(hw:w.size≤big):Tx (uE a w):=.cons ha (.cons (by decide) (.cons (by decide) (.cons hw (.cons (by decide) .nil))))
theorem Ei: ∀ f n acc,(Ie f n acc).length≤f+acc.length:=by
 intro f
 induction f with
 | zero=>intro n acc;unfold Ie;omega
 | succ f ih=>
  intro n acc;unfold Ie
  split
  ·rw[List.length_cons];omega
  ·have:=ih (n / 10) (UInt8.ofNat (48+n % 10)::acc);rw[List.length_cons]at this;omega
theorem Ii(n:Int):(FP n).size≤big:=by
 unfold FP Oq big
 split
 ·show (45::Ie 20 n.natAbs []).length≤_
  have:=Ei 20 n.natAbs [];rw[List.length_cons];simp only[List.length_nil]at this
  omega
 ·show (Ie 20 n.natAbs []).length≤_
  have:=Ei 20 n.natAbs [];simp only[List.length_nil]at this
  omega
theorem Jc(b:Bool)(a:Int){s t:ByteArray}(hs:s.size≤big)(ht:t.size≤big):(kw b a s t).size≤big:=by
 unfold kw;split
 ·exact ht
 ·exact hs
theorem Dx{s:ByteArray}(hs:s.size≤big):(yH s).size≤big:=by
 unfold yH
 repeat' split
 all_goals first|exact hs|decide
theorem EF{P:Prop}[Decidable P]{A B:ByteArray}(h:A.size≤big)(g:B.size≤big):(if P then A else B).size≤big:=by split<;>assumption
theorem Tx.num(n:Int){L:List Tk}(h:Tx L):Tx (Nm n::L):=.cons (Ii n) h
theorem Ob(b:Bool)(a k n:Int){w:ByteArray}(hw:w.size≤big){l:List T}{ps bs ss:List (List Tk)}(hp:∀ p,p∈ps→Tx p)(hb:∀ p,p∈bs→Tx p)(hs:∀ p,p∈ss→Tx p):Tx (comb b a k n w l ps bs ss):=by
 have hd:∀ i,∀ p,p∈ps.drop i→Tx p:=fun i p h=>hp p (List.mem_of_mem_drop h)
 have ht:∀ i,∀ p,p∈ps.take i→Tx p:=fun i p h=>hp p (List.mem_of_mem_take h)
 have h1:∀ {A:List Tk},Tx A→∀ p,p∈[A]→Tx p:=fun h p hp=>by rw[List.mem_singleton.1 hp];exact h
 unfold comb eA gQ simple
 repeat' first
  | with_reducible exact Tx.nil
  | with_reducible exact .ct hp _|with_reducible exact .cb hb _|with_reducible exact .gt hs _|with_reducible exact .brk hp|with_reducible exact .aO hp|with_reducible exact .sG hp|with_reducible exact .flat hp
  | with_reducible exact .group hp|with_reducible exact .group (hd _)|with_reducible exact .flat (hd _)|with_reducible exact .brk (ht _)|with_reducible exact .brk (h1 (.ct hp _))
  | with_reducible exact .operand (.ct hp _) _ _
  | with_reducible exact .opt (.ct hp _) _ (by decide) _|with_reducible exact .qX (.ct hp _) _ (by decide) _
  | with_reducible exact .label (by decide) hw|with_reducible exact .file (by decide) hw
  | with_reducible refine .ite (fun _=>?_) (fun _=>?_)
  | with_reducible refine .app ?_ ?_
  | with_reducible refine .num _ ?_
  | (refine Tx.cons ?_ ?_;· first|exact hw|exact Jc b a (by decide) (by decide)|exact EF (Jc b a hw (Dx hw)) hw|exact EF (by decide) (by decide)|decide)
theorem QX(b:Bool):∀ d (t:T),depth t≤d→wdT t→Tx (prO b t)∧Tx (prB b t)∧Tx (prS b t):=by
 intro d
 induction d using Nat.strongRecOn with
 | _ d ih=>
  intro t hd hw
  have H : ∀ x, x ∈ t.l → Tx (prO b x) ∧ Tx (prB b x) ∧ Tx (prS b x) := fun x hx => ih (depth x) (by have := iQ hx; omega) x (Nat.le_refl _) (by
    obtain ⟨k, n, a, w, l⟩ := t
    unfold wdT at hw
    exact (EC l).1 hw.2 x hx)
  obtain⟨k,n,a,w,l⟩:=t;unfold wdT at hw;have hp:∀ p,p∈Oo b l→Tx p:=fun p h=>by rw[uJ]at h;obtain⟨x,hx,rfl⟩:=List.mem_map.1 h;exact(H x hx).1
  have hb:∀ p,p∈PH b l→Tx p:=fun p h=>by rw[Ek]at h;obtain⟨x,hx,rfl⟩:=List.mem_map.1 h;exact(H x hx).2.1
  have hs:∀ p,p∈Pv b l→Tx p:=fun p h=>by rw[EI]at h;obtain⟨x,hx,rfl⟩:=List.mem_map.1 h;exact(H x hx).2.2
  refine⟨?_,?_,?_⟩
  ·unfold prO;exact Ob b a k n hw.1 hp hb hs
  ·unfold prB;exact .brk hp
  ·unfold prS;exact .flat hp
theorem MB(b:Bool){t:T}(h:wdT t):Tx (prO b t):=(QX b _ t (Nat.le_refl _) h).1
end Px
end
end Go.Proofs.YtfdlmcgcckkkdaaGreatDoor
