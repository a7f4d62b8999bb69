/- ParseWhole, part 10: what it stands on. -/
import Derived.Test.YtfdlmcgcckkkdaaGreatDoorV01
set_option linter.all false
set_option maxHeartbeats 40000000
set_option maxRecDepth 100000
namespace Go.Proofs.YtfdlmcgcckkkdaaGreatDoor
section
namespace Px
open Lx
structure Tk where
 kind:Int
 text:ByteArray
deriving DecidableEq,Inhabited
inductive T where
 | mk (kind n at_:Int) (word:ByteArray) (l:List T)
deriving Inhabited
def T.kind: T→Int | .mk k _ _ _ _=>k
def T.n: T→Int | .mk _ n _ _ _=>n
def T.at_: T→Int | .mk _ _ a _ _=>a
def T.word: T→ByteArray | .mk _ _ _ w _=>w
def T.l: T→List T | .mk _ _ _ _ l=>l
def e0: ByteArray:=⟨#[]⟩
def aE: ByteArray:=⟨#[80,82,79,67,69,68,85,82,69]⟩
def pT: ByteArray:=⟨#[80,82,79,67]⟩
def qM: ByteArray:=⟨#[66,69,71,73,78]⟩
def wDO: ByteArray:=⟨#[68,79]⟩
def fY: ByteArray:=⟨#[83,69,76,69,67,84]⟩
def wIF: ByteArray:=⟨#[73,70]⟩
def Al: ByteArray:=⟨#[67,65,76,76]⟩
def fZ: ByteArray:=⟨#[82,69,84,85,82,78]⟩
def wGO: ByteArray:=⟨#[71,79]⟩
def Ou: ByteArray:=⟨#[71,79,84,79]⟩
def mS: ByteArray:=⟨#[76,69,65,86,69]⟩
def gG: ByteArray:=⟨#[73,84,69,82,65,84,69]⟩
def AW: ByteArray:=⟨#[83,84,79,80]⟩
def wON: ByteArray:=⟨#[79,78]⟩
def mK: ByteArray:=⟨#[82,69,86,69,82,84]⟩
def lQ: ByteArray:=⟨#[83,73,71,78,65,76]⟩
def iB: ByteArray:=⟨#[65,76,76,79,67,65,84,69]⟩
def BB: ByteArray:=⟨#[65,76,76,79,67]⟩
def Ab: ByteArray:=⟨#[70,82,69,69]⟩
def Hw: ByteArray:=⟨#[71,69,84]⟩
def JZ: ByteArray:=⟨#[80,85,84]⟩
def Ai: ByteArray:=⟨#[82,69,65,68]⟩
def sB: ByteArray:=⟨#[87,82,73,84,69]⟩
def jD: ByteArray:=⟨#[82,69,87,82,73,84,69]⟩
def mM: ByteArray:=⟨#[68,69,76,69,84,69]⟩
def fI: ByteArray:=⟨#[68,69,67,76,65,82,69]⟩
def Ki: ByteArray:=⟨#[68,67,76]⟩
def bZ: ByteArray:=⟨#[79,80,84,73,79,78,83]⟩
def iV: ByteArray:=⟨#[77,65,73,78]⟩
def bB: ByteArray:=⟨#[82,69,67,85,82,83,73,86,69]⟩
def bI: ByteArray:=⟨#[82,69,84,85,82,78,83]⟩
def GP: ByteArray:=⟨#[69,78,68]⟩
def eM: ByteArray:=⟨#[87,72,73,76,69]⟩
def eL: ByteArray:=⟨#[85,78,84,73,76]⟩
def wTO: ByteArray:=⟨#[84,79]⟩
def wBY: ByteArray:=⟨#[66,89]⟩
def sR: ByteArray:=⟨#[87,72,69,78]⟩
def eZ: ByteArray:=⟨#[79,84,72,69,82,87,73,83,69]⟩
def yK: ByteArray:=⟨#[79,84,72,69,82]⟩
def kY: ByteArray:=⟨#[84,72,69,78]⟩
def sY: ByteArray:=⟨#[69,76,83,69]⟩
def jQ: ByteArray:=⟨#[83,89,83,84,69,77]⟩
def Jw: ByteArray:=⟨#[83,69,84]⟩
def wIN: ByteArray:=⟨#[73,78]⟩
def gZ: ByteArray:=⟨#[70,73,76,69]⟩
def xK: ByteArray:=⟨#[83,75,73,80]⟩
def xI: ByteArray:=⟨#[76,73,83,84]⟩
def rV: ByteArray:=⟨#[69,68,73,84]⟩
def wW: ByteArray:=⟨#[73,78,84,79]⟩
def pM: ByteArray:=⟨#[75,69,89]⟩
def kP: ByteArray:=⟨#[70,82,79,77]⟩
def hZ: ByteArray:=⟨#[75,69,89,70,82,79,77]⟩
def wP: ByteArray:=⟨#[80]⟩
def LV: ByteArray:=⟨#[67,72,65,82]⟩
def sT: ByteArray:=⟨#[67,72,65,82,65,67,84,69,82]⟩
def PT: ByteArray:=⟨#[68,69,67]⟩
def AH: ByteArray:=⟨#[68,69,67,73,77,65,76]⟩
def PX: ByteArray:=⟨#[66,73,78]⟩
def CR: ByteArray:=⟨#[66,73,78,65,82,89]⟩
def Qa: ByteArray:=⟨#[80,73,67]⟩
def dF: ByteArray:=⟨#[80,73,67,84,85,82,69]⟩
def Qe: ByteArray:=⟨#[80,84,82]⟩
def Ah: ByteArray:=⟨#[80,79,73,78,84,69,82]⟩
def Kv: ByteArray:=⟨#[73,78,73,84]⟩
def AN: ByteArray:=⟨#[73,78,73,84,73,65,76]⟩
def Qf: ByteArray:=⟨#[86,65,82]⟩
def Au: ByteArray:=⟨#[86,65,82,89,73,78,71]⟩
def KD: ByteArray:=⟨#[65,85,84,79]⟩
def sU: ByteArray:=⟨#[65,85,84,79,77,65,84,73,67]⟩
def PZ: ByteArray:=⟨#[67,84,76]⟩
def qD: ByteArray:=⟨#[67,79,78,84,82,79,76,76,69,68]⟩
def Qh: ByteArray:=⟨#[68,69,70]⟩
def AE: ByteArray:=⟨#[68,69,70,73,78,69,68]⟩
def pZ: ByteArray:=⟨#[76,73,75,69]⟩
def sLP: ByteArray:=⟨#[40]⟩
def sRP: ByteArray:=⟨#[41]⟩
def mU: ByteArray:=⟨#[44]⟩
def aS: ByteArray:=⟨#[59]⟩
def bY: ByteArray:=⟨#[58]⟩
def sEQ: ByteArray:=⟨#[61]⟩
def uM: ByteArray:=⟨#[46]⟩
def hJ: ByteArray:=⟨#[45,62]⟩
def uF: ByteArray:=⟨#[42]⟩
def dN: ByteArray:=⟨#[43]⟩
def bP: ByteArray:=⟨#[45]⟩
def kJ: ByteArray:=⟨#[94]⟩
def sOR: ByteArray:=⟨#[124]⟩
def RR: ByteArray:=⟨#[38]⟩
def sNE: ByteArray:=⟨#[94,61]⟩
def sLT: ByteArray:=⟨#[60]⟩
def sLE: ByteArray:=⟨#[60,61]⟩
def sGT: ByteArray:=⟨#[62]⟩
def sGE: ByteArray:=⟨#[62,61]⟩
def sNL: ByteArray:=⟨#[94,60]⟩
def sNG: ByteArray:=⟨#[94,62]⟩
def RE: ByteArray:=⟨#[124,124]⟩
def RM: ByteArray:=⟨#[47]⟩
abbrev R(α:Type):=Except Nat (α×Nat)
def aB{α β:Type}(r:R α)(f:α→Nat→R β):R β:=match r with
 | .ok (x,j)=>f x j
 | .error e=>.error e
def node(k:Int)(a:Nat)(l:List T):T:=.mk k 0 a e0 l
def none_: T:=.mk 10 0 0 e0 []
section
variable (L:List Tk)
def tok(i:Nat):Tk:=L.getD i ⟨0,e0⟩
def sgn(i:Nat)(ss:List ByteArray):Bool:=(tok L i).kind==6&&mV (tok L i).text ss
def wrd(i:Nat)(ss:List ByteArray):Bool:=(tok L i).kind==1&&mV (tok L i).text ss
def aM(i:Nat)(s:ByteArray):R Unit:=if sgn L i [s]then .ok ((),i+1)else .error i
def gU(i:Nat)(ss:List ByteArray):R Unit:=if wrd L i ss then .ok ((),i+1)else .error i
def isName(i:Nat):Bool:=(tok L i).kind==1
def fN(i:Nat):R ByteArray:=if isName L i then .ok ((tok L i).text,i+1)else .error i
def iX(i:Nat):R T:=aB (fN L i) fun s j=>.ok (.mk 11 0 i s [],j)
def NH(l:Bs):Nat:=l.foldl (fun n c=>n*10+(c.toNat - 48)) 0
def iU(t:Tk):Option Nat:=if t.kind=2∧(46:UInt8)∉t.text.data.toList then some (NH t.text.data.toList)else none
def fA(lo hi:Nat)(i:Nat):R Nat:=match iU (tok L i) with
 | some n=>if lo≤n∧n≤hi then .ok (n,i+1)else .error i
 | none=>.error i
def hY: Nat→Nat→Nat→Option Nat
 | 0,_,_=>none
 | f+1,i,deep=>
  if L.length≤i then none
  else
   let d1:=if sgn L i [sLP]then deep+1 else deep
   if sgn L i [sRP]then(if d1=1 then some (i+1)else hY f (i+1) (d1 - 1))else hY f (i+1) d1
def dQ: Nat→Nat→Option Nat
 | 0,_=>none
 | f+1,i=>
  if isName L i=false then none
  else match (if sgn L (i+1) [sLP]then hY L (L.length+1) (i+1) 0 else some (i+1)) with
   | none=>none
   | some j=>if sgn L j [uM]||sgn L j [hJ]then dQ f (j+1)else some j
def dU(i:Nat):Bool:=match dQ L (L.length+1) i with
 | none=>false
 | some j=>sgn L j [sEQ]
def labelled(i:Nat):Bool:=isName L i&&sgn L (i+1) [bY]
def keyword(i:Nat)(ss:List ByteArray):Bool:=wrd L i ss&&!dU L i&&!labelled L i
def gK(read:Nat→R T):Nat→List T→Nat→R (List T)
 | 0,acc,j=>.ok (acc,j)
 | n+1,acc,j=>if sgn L j [mU]then aB (read (j+1)) fun x j'=>gK read n (acc++[x]) j' else .ok (acc,j)
def eD(most:Nat)(read:Nat→R T)(i:Nat):R (List T):=aB (read i) fun x j=>gK L read (most - 1) [x] j
def gC(l:List T):T:=.mk 40 0 (match l with | []=>0|x::_=>x.at_) e0 l
def eO: Nat→List ByteArray
 | 0=>[sOR]
 | 1=>[RR]
 | 2=>[sEQ,sNE,sLT,sLE,sGT,sGE,sNL,sNG]
 | 3=>[RE]
 | 4=>[dN,bP]
 | _=>[uF,RM]
def nF(sub:Nat→R T)(ops:List ByteArray)(a:Nat):Nat→T→Nat→R T
 | 0,_,j=>.error j
 | f+1,x,j=>if sgn L j ops then aB (sub (j+1)) fun y j'=>nF sub ops a f (.mk 6 0 a (tok L j).text [x,y]) j' else .ok (x,j)
def tG(prim:Nat→R T):Nat→Nat→R T
 | 0,i=>prim i
 | k+1,i=>aB (tG prim k i) fun x j=>nF L (tG prim k) (eO (5 - k)) i (L.length+1) x j
def bQ(i:Nat):Bool:=(tok L i).kind==2||(tok L i).kind==3||(tok L i).kind==4||(tok L i).kind==5
def bH(i:Nat):R T:=if bQ L i then .ok (.mk 1 (tok L i).kind i (tok L i).text [],i+1)else .error i
def aP(expr:Nat→R T)(i:Nat):R T:=if sgn L i [uF]then .ok (node 7 i [],i+1)else expr i
def nY(expr:Nat→R T)(i:Nat):R T:=aB (fN L i) fun s j=>
 if sgn L j [sLP]then
  (if sgn L (j + 1) [sRP] then .ok (.mk 3 1 i s [], j + 2)
   else aB (eD L 16 (aP L expr) (j + 1)) fun l j' => aB (aM L j' sRP) fun _ j2 => .ok (.mk 3 1 i s l, j2))
 else .ok (.mk 3 0 i s [],j)
def fS(expr:Nat→R T):Nat→List T→Nat→R (List T)
 | 0,acc,j=>.ok (acc,j)
 | n+1,acc,j=>if sgn L j [uM]then aB (nY L expr (j+1)) fun x j'=>fS expr n (acc++[x]) j' else .ok (acc,j)
def iN(expr:Nat→R T)(i:Nat):R T:=aB (nY L expr i) fun x j=>aB (fS L expr 7 [x] j) fun l j'=>.ok (node 2 i l,j')
def qG(expr:Nat→R T)(a:Nat):Nat→T→Nat→R T
 | 0,_,j=>.error j
 | f+1,x,j=>if sgn L j [hJ]then aB (iN L expr (j+1)) fun y j'=>qG expr a f (node 4 a [x,y]) j' else .ok (x,j)
def cU(expr:Nat→R T)(i:Nat):R T:=aB (iN L expr i) fun x j=>qG L expr i (L.length+1) x j
def eB: Nat→Nat→R T
 | 0,i=>.error i
 | f+1,i=>
  if sgn L i [dN,bP,kJ]then aB (eB f (i+1)) fun x j=>.ok (.mk 5 0 i (tok L i).text [x],j)
  else if sgn L i [sLP]then aB (tG L (eB f) 6 (i+1)) fun x j=>aB (aM L j sRP) fun _ j'=>.ok (x,j')
  else if bQ L i then bH L i
  else cU L (tG L (eB f) 6) i
def pC(f:Nat)(i:Nat):R T:=tG L (eB L f) 6 i
def bM(i:Nat):R T:=pC L (L.length+1) i
def Cr(i:Nat):R T:=cU L (bM L) i
def cQ(i:Nat):R T:=aB (aM L i sLP) fun _ j=>aB (bM L j) fun x j'=>aB (aM L j' sRP) fun _ j2=>.ok (x,j2)
def pH(i:Nat):Bool:=wrd L i [wIF]&&(match bM L (i+1)with | .ok (_,j)=>wrd L j [kY] | .error _=>false)
def fC(w:ByteArray)(i:Nat):R T:=if wrd L i [w]then cQ L (i+1)else .ok (none_,i)
def gB(w:ByteArray)(i:Nat):R T:=if wrd L i [w]then bM L (i+1)else .ok (none_,i)
def kL(w:ByteArray)(i:Nat):R T:=if wrd L i [w]then aB (aM L (i+1) sLP) fun _ j=>aB (Cr L j) fun r j'=>aB (aM L j' sRP) fun _ j2=>.ok (r,j2)else .ok (none_,i)
def dX(w:ByteArray)(i:Nat):R T:=if wrd L i [w]then kL L w i else .error i
def Cs(label:ByteArray)(i:Nat):R Unit:=aB (gU L i [GP]) fun _ j=>
 aM L (if label.size≠0∧wrd L j [label]=true then j+1 else j) aS
def fJ(stmt:Nat→R T)(label:ByteArray):Nat→List T→Nat→R (List T)
 | 0,_,i=>.error i
 | f+1,acc,i=>if keyword L i [GP]then aB (Cs L label i) fun _ j=>.ok (acc,j)else aB (stmt i) fun x j=>fJ stmt label f (acc++[x]) j
def fF(stmt:Nat→R T)(label:ByteArray)(i:Nat):R (List T):=fJ L stmt label (L.length+1) [] i
def pA(i:Nat):R ByteArray:=aB (gU L i [gZ]) fun _ j=>aB (aM L j sLP) fun _ j1=>aB (fN L j1) fun s j2=>aB (aM L j2 sRP) fun _ j3=>.ok (s,j3)
def aG(t:T)(i:Nat):R T:=aB (aM L i aS) fun _ j=>.ok (t,j)
def pD(arg:Bool)(i:Nat):R T:=aB (fN L i) fun s j=>
 if arg&&sgn L j [sLP]then aB (iX L (j+1)) fun x j'=>aB (aM L j' sRP) fun _ j2=>.ok (.mk 12 0 i s [x],j2)else .ok (.mk 12 0 i s [],j)
def gJ: Nat→Nat→R T
 | 0,i=>.error i
 | f+1,i=>
  if (tok L i).kind=2 then aB (fA L 1 100 i) fun n j=>aB (aM L j sLP) fun _ j1=>aB (eD L L.length (gJ f) j1) fun l j2=>aB (aM L j2 sRP) fun _ j3=>.ok (.mk 42 n i e0 l,j3)
  else aB (fN L i) fun s j=>
   if s=wP then(if (tok L j).kind=4 then aB (bH L j) fun x j'=>.ok (.mk 41 0 i s [x],j')else .error j)
   else if sgn L j [sLP]then aB (eD L 2 (bH L) (j+1)) fun l j'=>aB (aM L j' sRP) fun _ j2=>.ok (.mk 41 0 i s l,j2)
   else .ok (.mk 41 0 i s [],j)
def mY(i:Nat):R T:=gJ L (L.length+1) i
def bK(i:Nat):R T:=
 let sg:=sgn L (i+3) [dN,bP,kJ]
 match iU (tok L (i+1)) with
 | none=>aP L (bM L) i
 | some n=>
  if sgn L i [sLP]&&decide (1≤n)&&decide (n≤1000)&&sgn L (i+2) [sRP]&&bQ L (if sg then i+4 else i+3)then
   (if sg then aB (bH L (i + 4)) fun x j => .ok (.mk 42 n i e0 [.mk 5 0 (i + 3) (tok L (i + 3)).text [x]], j)
    else aB (bH L (i + 3)) fun x j => .ok (.mk 42 n i e0 [x], j))
  else aP L (bM L) i
def Ay(s:ByteArray):ByteArray:=
 if s=LV then sT else if s=PT then AH else if s=PX then CR else if s=Qa then dF else if s=Qe then Ah
 else if s=Kv then AN else if s=Qf then Au else if s=KD then sU else if s=PZ then qD else if s=Qh then AE else s
def bT(i:Nat):R T:=aB (fN L i) fun s0 j=>
 let s:=Ay s0
 if s=dF then(if (tok L j).kind=4 then aB (bH L j) fun x j'=>.ok (.mk 50 0 i s [x],j')else .error j)
 else if s=pZ then aB (iN L (bM L) j) fun x j'=>.ok (.mk 50 0 i s [x],j')
 else if sgn L j [sLP]then
  (if sgn L (j + 1) [sRP] then .ok (.mk 50 1 i s [], j + 2)
   else aB (eD L 60 (bK L) (j + 1)) fun l j' => aB (aM L j' sRP) fun _ j2 => .ok (.mk 50 1 i s l, j2))
 else .ok (.mk 50 0 i s [],j)
def fD: Nat→List T→Nat→R (List T)
 | 0,acc,j=>.ok (acc,j)
 | n+1,acc,j=>if isName L j then aB (bT L j) fun x j'=>fD n (acc++[x]) j' else .ok (acc,j)
def lG(most:Nat)(i:Nat):R (List T):=fD L most [] i
def qV(i:Nat):R T:=aB (bM L i) fun x j=>
 if sgn L j [bY]then aB (bM L (j+1)) fun y j'=>.ok (node 49 i [x,y],j')else .ok (node 49 i [none_,x],j)
def mI: Nat→Nat→R T
 | 0,i=>.error i
 | f+1,i=>
  aB (if (tok L i).kind=2 then aB (fA L 1 99 i) fun n j=>.ok ((n:Int),j)else .ok (0,i)) fun n j=>
  aB (if sgn L j [sLP]then aB (eD L 30 (mI f) (j+1)) fun l j'=>aB (aM L j' sRP) fun _ j2=>.ok (gC l,j2)else iX L j) fun what j1=>
  aB (if sgn L j1 [sLP]then aB (eD L 3 (qV L) (j1+1)) fun l j'=>aB (aM L j' sRP) fun _ j2=>.ok (gC l,j2)else .ok (node 40 0 [],j1)) fun bounds j2=>
  aB (lG L 12 j2) fun aSq j3=>.ok (.mk 48 n i e0 (what::bounds::aSq),j3)
def Gh(i:Nat):R T:=mI L (L.length+1) i
def fO(k:Int)(a:Nat)(item:Nat→R T)(i:Nat):R T:=
 aB (if wrd L i [gZ]then pA L i else .ok (e0,i)) fun w j=>
 aB (if wrd L j [xK]then aB (aM L (j+1) sLP) fun _ j1=>aB (fA L 1 99 j1) fun n j2=>aB (aM L j2 sRP) fun _ j3=>.ok ((n:Int),j3)else .ok (0,j)) fun n j1=>
 aB (if wrd L j1 [xI, rV] then
     aB (aM L (j1 + 1) sLP) fun _ k1 => aB (eD L 16 item k1) fun l k2 => aB (aM L k2 sRP) fun _ k3 =>
     (if wrd L j1 [rV] then aB (aM L k3 sLP) fun _ k4 => aB (eD L 32 (mY L) k4) fun m k5 => aB (aM L k5 sRP) fun _ k6 => .ok ((gC l, gC m), k6)
      else .ok ((gC l, none_), k3))
   else .ok ((none_, none_), j1)) fun lm j2 =>
 aG L (.mk k n a w [lm.1,lm.2]) j2
def fH(k:Int)(a:Nat)(i:Nat):R T:=if isName L i then aB (fN L i) fun s j=>aG L (.mk k 0 a s []) j else aG L (node k a []) i
def gV(inner:Nat→R T):Nat→List T→Nat→R (List T)
 | 0,_,i=>.error i
 | f+1,acc,i=>if wrd L i [sR]then aB (aM L (i+1) sLP) fun _ j=>aB (eD L 8 (bM L) j) fun l j1=>aB (aM L j1 sRP) fun _ j2=>aB (inner j2) fun x j3=>gV inner f (acc++[node 21 i (l++[x])]) j3
  else .ok (acc,i)
def eX(stmt:Nat→R T)(a:Nat)(label:ByteArray)(i:Nat):R T:=
 aB (if sgn L i [sLP]then aB (eD L 8 (iX L) (i+1)) fun l j=>aB (aM L j sRP) fun _ j'=>.ok (gC l,j')else .ok (node 40 0 [],i)) fun params j=>
 aB (if wrd L j [bZ] then aB (aM L (j + 1) sLP) fun _ j1 => aB (gU L j1 [iV]) fun _ j2 => aB (aM L j2 sRP) fun _ j3 => .ok ((1 : Int), j3)
   else if wrd L j [bB] then .ok (2, j + 1) else .ok (0, j)) fun n j1 =>
 aB (if wrd L j1 [bI] then aB (aM L (j1 + 1) sLP) fun _ k1 => aB (bT L k1) fun x k2 => aB (lG L 3 k2) fun xs k3 => aB (aM L k3 sRP) fun _ k4 => .ok (gC (x :: xs), k4)
   else .ok (none_, j1)) fun ret j2 =>
 aB (aM L j2 aS) fun _ j3=>aB (fF L stmt label j3) fun g j4=>.ok (.mk 15 n a e0 (params::ret::g),j4)
def doP(stmt:Nat→R T)(a:Nat)(label:ByteArray)(i:Nat):R T:=
 if sgn L i [aS]then aB (fF L stmt label (i+1)) fun g j=>.ok (node 17 a g,j)
 else if dU L i then
  aB (Cr L i) fun r j=>aB (aM L j sEQ) fun _ j1=>aB (bM L j1) fun x j2=>aB (gB L wTO j2) fun t j3=>aB (gB L wBY j3) fun b j4=>
  aB (fC L eM j4) fun wh j5=>aB (fC L eL j5) fun un j6=>aB (aM L j6 aS) fun _ j7=>aB (fF L stmt label j7) fun g j8=>.ok (node 19 a (r::x::t::b::wh::un::g),j8)
 else if wrd L i [eM,eL]then
  aB (fC L eM i) fun wh j=>aB (fC L eL j) fun un j1=>aB (aM L j1 aS) fun _ j2=>aB (fF L stmt label j2) fun g j3=>.ok (node 18 a (wh::un::g),j3)
 else .error i
def iA(inner:Nat→R T)(a:Nat)(label:ByteArray)(i:Nat):R T:=
 aB (if sgn L i [sLP]then cQ L i else .ok (none_,i)) fun x j=>aB (aM L j aS) fun _ j1=>
 aB (gV L inner (L.length+1) [x] j1) fun l j2=>
 aB (if wrd L j2 [eZ,yK]then aB (inner (j2+1)) fun y j3=>.ok (l++[node 22 j2 [y]],j3)else .ok (l,j2)) fun l2 j3=>
 aB (Cs L label j3) fun _ j4=>.ok (node 20 a l2,j4)
def qA(inner:Nat→R T)(a:Nat)(i:Nat):R T:=
 aB (bM L i) fun x j=>aB (gU L j [kY]) fun _ j1=>aB (inner j1) fun y j2=>
 if keyword L j2 [sY]then aB (inner (j2+1)) fun z j3=>.ok (node 23 a [x,y,z],j3)else .ok (node 23 a [x,y],j2)
def Dw(a:Nat)(i:Nat):R T:=aB (nY L (bM L) i) fun x j=>aG L (node 25 a [node 2 i [x]]) j
def Dg(a:Nat)(i:Nat):R T:=if sgn L i [sLP]then aB (cQ L i) fun x j=>aG L (node 26 a [x]) j else aG L (node 26 a []) i
def wQ(a:Nat)(i:Nat):R T:=aB (fN L i) fun s j=>aG L (.mk 27 0 a s []) j
def onP(inner:Nat→R T)(a:Nat)(i:Nat):R T:=
 let prefix_:=sgn L (i+1) [sLP]&&!(isName L (i+2)&&sgn L (i+3) [sRP]&&!sgn L (i+4) [bY])
 aB (pD L (!prefix_) i) fun c j=>
 if keyword L j [jQ]then aG L (node 32 a [c,node 33 j []]) (j+1)else aB (inner j) fun x j1=>.ok (node 32 a [c,x],j1)
def jP(a:Nat)(i:Nat):R T:=aB (fN L i) fun s j=>aB (kL L Jw j) fun x j1=>aB (kL L wIN j1) fun y j2=>aG L (.mk 36 0 a s [x,y]) j2
def DE(a:Nat)(i:Nat):R T:=aB (Cr L i) fun r j=>aB (kL L wIN j) fun x j1=>aG L (node 37 a [r,x]) j1
def DS(a:Nat)(i:Nat):R T:=aB (pA L i) fun s j=>aB (dX L wW j) fun r j1=>aB (fC L pM j1) fun x j2=>aG L (.mk 43 0 a s [r,x]) j2
def vQ(a:Nat)(i:Nat):R T:=aB (pA L i) fun s j=>aB (dX L kP j) fun r j1=>aB (gU L j1 [hZ]) fun _ j2=>aB (cQ L j2) fun x j3=>aG L (.mk 44 0 a s [r,x]) j3
def mJ(a:Nat)(i:Nat):R T:=aB (pA L i) fun s j=>aB (dX L kP j) fun r j1=>aB (fC L pM j1) fun x j2=>aG L (.mk 45 0 a s [r,x]) j2
def qH(a:Nat)(i:Nat):R T:=aB (pA L i) fun s j=>aB (gU L j [pM]) fun _ j1=>aB (cQ L j1) fun x j2=>aG L (.mk 46 0 a s [x]) j2
def mH(a:Nat)(i:Nat):R T:=aB (eD L 60 (Gh L) i) fun l j=>aG L (node 47 a l) j
def gW(stmt inner:Nat→R T)(w:ByteArray)(a:Nat)(label:ByteArray)(i:Nat):Option (R T):=
 if w=aE∨w=pT then some (eX L stmt a label i)
 else if w=qM then some (aB (aM L i aS) fun _ j=>aB (fF L stmt label j) fun g j1=>.ok (node 16 a g,j1))
 else if w=wDO then some (doP L stmt a label i)
 else if w=fY then some (iA L inner a label i)
 else if w=wIF then some (qA L inner a i)
 else if w=Al then some (Dw L a i)
 else if w=fZ then some (Dg L a i)
 else if w=wGO then some (aB (gU L i [wTO]) fun _ j=>wQ L a j)
 else if w=Ou then some (wQ L a i)
 else if w=mS then some (fH L 28 a i)
 else if w=gG then some (fH L 29 a i)
 else if w=AW then some (aG L (node 30 a []) i)
 else if w=wON then some (onP L inner a i)
 else if w=mK then some (aB (pD L true i) fun c j=>aG L (node 34 a [c]) j)
 else if w=lQ then some (aB (pD L true i) fun c j=>aG L (node 35 a [c]) j)
 else if w=iB∨w=BB then some (jP L a i)
 else if w=Ab then some (DE L a i)
 else if w=Hw then some (fO L 38 a (Cr L) i)
 else if w=JZ then some (fO L 39 a (bM L) i)
 else if w=Ai then some (DS L a i)
 else if w=sB then some (vQ L a i)
 else if w=jD then some (mJ L a i)
 else if w=mM then some (qH L a i)
 else if w=fI∨w=Ki then some (mH L a i)
 else none
def iT(stmt inner:Nat→R T)(inr:Bool)(label:ByteArray)(i:Nat):R T:=
 if sgn L i [aS]then .ok (node 31 i [],i+1)
 else if dU L i&&!pH L i then aB (Cr L i) fun r j=>aB (aM L j sEQ) fun _ j1=>aB (bM L j1) fun x j2=>aB (aM L j2 aS) fun _ j3=>.ok (node 24 i [r,x],j3)
 else
  let proc:=wrd L i [aE,pT]
  if isName L i=false∨(inr=true∧(proc=true∨wrd L i [fI,Ki]=true))∨(proc=true∧label.size=0)then .error i
  else match gW L stmt inner (tok L i).text i label (i+1) with
   | none=>.error i
   | some r=>r
def cH(lab:Bool→ByteArray→Nat→R T)(inr:Bool)(i:Nat):R T:=
 if sgn L i [sLP]then aB (eD L 4 (iX L) (i+1)) fun l j=>aB (aM L j sRP) fun _ j1=>aB (aM L j1 bY) fun _ j2=>aB (lab inr e0 j2) fun x j3=>.ok (node 13 i (l++[x]),j3)
 else lab inr e0 i
def qK: Nat→Bool→ByteArray→Nat→R T
 | 0,_,_,i=>.error i
 | f+1,inr,label,i=>
  if dU L i||!labelled L i then iT L (cH L (qK f) false) (cH L (qK f) true) inr label i
  else aB (qK f inr (tok L i).text (i+2)) fun x j=>.ok (.mk 14 0 i (tok L i).text [x],j)
def qJ(i:Nat):R T:=cH L (qK L (L.length+1)) false i
def gH(i:Nat):R T:=aB (fN L i) fun s j=>aB (aM L j bY) fun _ j1=>aB (gU L j1 [aE,pT]) fun _ j2=>aB (gU L j2 [bZ]) fun _ j3=>
 aB (aM L j3 sLP) fun _ j4=>aB (gU L j4 [iV]) fun _ j5=>aB (aM L j5 sRP) fun _ j6=>aB (aM L j6 aS) fun _ j7=>
 aB (fF L (qJ L) s j7) fun g j8=>.ok (.mk 14 0 i s [.mk 15 1 j1 e0 (node 40 0 []::none_::g)],j8)
def Bb(read:Nat→R T):Except Nat T:=match read 0 with
 | .ok (t,j)=>if j<L.length then .error j else .ok t
 | .error e=>.error e
end
end Px
end
section
namespace Px
open Lx
def O(s:ByteArray):Tk:=⟨6,s⟩
def W(s:ByteArray):Tk:=⟨1,s⟩
def kw(b:Bool)(a:Int)(long short:ByteArray):ByteArray:=if b=true∧a≠0 then short else long
def yH(s:ByteArray):ByteArray:=
 if s=sT then LV else if s=AH then PT else if s=CR then PX else if s=dF then Qa else if s=Ah then Qe
 else if s=AN then Kv else if s=Au then Qf else if s=sU then KD else if s=qD then PZ else if s=AE then Qh else s
def Ie: Nat→Nat→Bs→Bs
 | 0,_,acc=>acc
 | f+1,n,acc=>if n<10 then UInt8.ofNat (48+n)::acc else Ie f (n / 10) (UInt8.ofNat (48+n % 10)::acc)
def Oq(n:Nat):ByteArray:=⟨(Ie 20 n []).toArray⟩
def FP(n:Int):ByteArray:=if n<0 then⟨(45::Ie 20 n.natAbs []).toArray⟩else Oq n.natAbs
def Nm(n:Int):Tk:=⟨2,FP n⟩
def vX(w:ByteArray):Nat→Int
 | 0 => -1
 | k+1=>if mV w (eO (5 - k))then((5 - k:Nat):Int)else vX w k
def level(w:ByteArray):Int:=vX w 6
def aO: List (List Tk)→List Tk
 | []=>[]
 | [x]=>x
 | x::r=>x++O mU::aO r
def sG: List (List Tk)→List Tk
 | []=>[]
 | [x]=>x
 | x::r=>x++O uM::sG r
def cD(ps:List (List Tk)):List Tk:=O sLP::(aO ps++[O sRP])
def part(l:List T)(i:Nat):T:=l.getD i none_
def ct(ps:List (List Tk))(i:Nat):List Tk:=ps.getD i [O aS]
def cb(bs:List (List Tk))(i:Nat):List Tk:=bs.getD i [O sLP,O sRP]
def operand(c:T)(p:List Tk)(least:Int):List Tk:=if c.kind=6∧level c.word<least then cD [p]else p
def opt(w:ByteArray)(c:T)(p:List Tk):List Tk:=if c.kind=10 then []else W w::cD [p]
def qX(w:ByteArray)(c:T)(p:List Tk):List Tk:=if c.kind=10 then []else W w::p
def group(ps:List (List Tk)):List Tk:=O aS::(ps.flatten++[W GP,O aS])
def isConst(c:T):Bool:=decide (c.kind=1)||(decide (c.kind=5)&&decide ((part c.l 0).kind=1))
def uE(a w:ByteArray):List Tk:=[W a,W gZ,O sLP,W w,O sRP]
def eQ(a w:ByteArray):List Tk:=W a::(if w.size=0 then []else [W w])
def simple(b:Bool)(a k n:Int)(w:ByteArray)(l:List T)(ps bs:List (List Tk)):List Tk:=
 if k=24 then ct ps 0++O sEQ::ct ps 1
 else if k=25 then W Al::ct ps 0
 else if k=26 then W fZ::(if l=[]then []else cD ps)
 else if k=27 then [W wGO,W wTO,W w]
 else if k=28 then eQ mS w
 else if k=29 then eQ gG w
 else if k=30 then [W AW]
 else if k=34 then W mK::ps.flatten
 else if k=35 then W lQ::ps.flatten
 else if k=36 then W (kw b a iB BB)::W w::(opt Jw (part l 0) (ct ps 0)++opt wIN (part l 1) (ct ps 1))
 else if k=37 then W Ab::(ct ps 0++opt wIN (part l 1) (ct ps 1))
 else if k=38∨k=39 then
  W (if k = 38 then Hw else JZ) :: ((if w.size = 0 then [] else [W gZ, O sLP, W w, O sRP]) ++ ((if n = 0 then [] else [W xK, O sLP, Nm n, O sRP]) ++
    (if (part l 1).kind ≠ 10 then W rV :: (cb bs 0 ++ cb bs 1) else if (part l 0).kind ≠ 10 then W xI :: cb bs 0 else [])))
 else if k=43 then uE Ai w++(opt wW (part l 0) (ct ps 0)++opt pM (part l 1) (ct ps 1))
 else if k=44 then uE sB w++(opt kP (part l 0) (ct ps 0)++opt hZ (part l 1) (ct ps 1))
 else if k=45 then uE jD w++(opt kP (part l 0) (ct ps 0)++opt pM (part l 1) (ct ps 1))
 else if k=46 then uE mM w++opt pM (part l 0) (ct ps 0)
 else if k=47 then W (kw b a fI Ki)::aO ps
 else []
def gQ(b:Bool)(a k n:Int)(w:ByteArray)(l:List T)(ps bs:List (List Tk)):List Tk:=
 if k=18 then W wDO::(opt eM (part l 0) (ct ps 0)++(opt eL (part l 1) (ct ps 1)++group (ps.drop 2)))
 else if k=19 then W wDO::(ct ps 0++O sEQ::(ct ps 1++(qX wTO (part l 2) (ct ps 2)++(qX wBY (part l 3) (ct ps 3)++(opt eM (part l 4) (ct ps 4)++(opt eL (part l 5) (ct ps 5)++group (ps.drop 6)))))))
 else if k=20 then W fY::((if (part l 0).kind=10 then []else cD [ct ps 0])++group (ps.drop 1))
 else if k=21 then W sR::(cD (ps.take (l.length - 1))++(ps.drop (l.length - 1)).flatten)
 else if k=22 then W (kw b a eZ yK)::ps.flatten
 else if k=23 then W wIF::(ct ps 0++W kY::(ct ps 1++(if 2<l.length then W sY::(ps.drop 2).flatten else [])))
 else if k=32 then W wON::(ct ps 0++(ps.drop 1).flatten)
 else if k=33 then [W jQ,O aS]
 else if k=31 then [O aS]
 else simple b a k n w l ps bs++[O aS]
def eA(b:Bool)(a k n:Int)(w:ByteArray)(l:List T)(ps bs ss:List (List Tk)):List Tk:=
 if k=13 then cD (ps.take (l.length - 1))++O bY::(ps.drop (l.length - 1)).flatten
 else if k=14 then W w::O bY::ps.flatten
 else if k = 15 then W (kw b a aE pT) :: ((if (part l 0).l = [] then [] else cb bs 0) ++
   ((if n = 1 then [W bZ, O sLP, W iV, O sRP] else if n = 2 then [W bB] else []) ++
   ((if (part l 1).kind = 10 then [] else W bI :: O sLP :: (ss.getD 1 [] ++ [O sRP])) ++ group (ps.drop 2))))
 else if k=16 then W qM::group ps
 else if k=17 then W wDO::group ps
 else gQ b a k n w l ps bs
def comb(b:Bool)(a k n:Int)(w:ByteArray)(l:List T)(ps bs ss:List (List Tk)):List Tk:=
 if k=1 then [⟨n,w⟩]
 else if k=2 then sG ps
 else if k=3∨k=50∨k=41 then W (if k=50 then kw b a w (yH w)else w)::(if (n=1∧k≠41)∨(k=41∧w≠wP∧l≠[])then cD ps else aO ps)
 else if k=4 then ct ps 0++O hJ::ct ps 1
 else if k=5 then O w::operand (part l 0) (ct ps 0) 6
 else if k=6 then operand (part l 0) (ct ps 0) (level w)++O w::operand (part l 1) (ct ps 1) (level w+1)
 else if k=7 then [O uF]
 else if k=11 then [W w]
 else if k=12 then W w::(if l=[]then []else cD ps)
 else if k=42 then(if isConst (part l 0)then O sLP::Nm n::O sRP::aO ps else Nm n::cD ps)
 else if k=49 then(if (part l 0).kind=10 then []else ct ps 0++[O bY])++ct ps 1
 else if k=48 then(if n=0 then []else [Nm n])++((if (part l 0).kind=40 then cb bs 0 else ct ps 0)++((if (part l 1).l=[]then []else cb bs 1)++(ps.drop 2).flatten))
 else eA b a k n w l ps bs ss
mutual
def prO(b:Bool):T→List Tk
 | .mk k n a w l=>comb b a k n w l (Oo b l) (PH b l) (Pv b l)
def Oo(b:Bool):List T→List (List Tk)
 | []=>[]
 | t::r=>prO b t::Oo b r
def prB(b:Bool):T→List Tk
 | .mk _ _ _ _ l=>cD (Oo b l)
def PH(b:Bool):List T→List (List Tk)
 | []=>[]
 | t::r=>prB b t::PH b r
def prS(b:Bool):T→List Tk
 | .mk _ _ _ _ l=>(Oo b l).flatten
def Pv(b:Bool):List T→List (List Tk)
 | []=>[]
 | t::r=>prS b t::Pv b r
end
def prT(t:T):List Tk:=prO false t
mutual
def depth: T→Nat
 | .mk _ _ _ _ l=>1+fG l
def fG: List T→Nat
 | []=>0
 | t::r=>max (depth t) (fG r)
end
mutual
def nodes: T→Nat
 | .mk _ _ _ _ l=>1+aH l
def aH: List T→Nat
 | []=>0
 | t::r=>nodes t+aH r
end
mutual
def fU: T→T→Bool
 | .mk k n _ w l,.mk k' n' _ w' l'=>decide (k=k')&&decide (n=n')&&decide (w=w')&&eG l l'
def eG: List T→List T→Bool
 | [],[]=>true
 | t::r,t'::r'=>fU t t'&&eG r r'
 | _,_=>false
end
theorem uJ(b:Bool):∀ (l:List T),Oo b l=l.map (prO b):=by
 intro l
 induction l with
 | nil=>rfl
 | cons t r ih=>unfold Oo;rw[ih];rfl
theorem Ek(b:Bool):∀ (l:List T),PH b l=l.map (prB b):=by
 intro l
 induction l with
 | nil=>rfl
 | cons t r ih=>unfold PH;rw[ih];rfl
theorem EI(b:Bool):∀ (l:List T),Pv b l=l.map (prS b):=by
 intro l
 induction l with
 | nil=>rfl
 | cons t r ih=>unfold Pv;rw[ih];rfl
theorem MH(b:Bool)(k n a:Int)(w:ByteArray)(l:List T):prO b (.mk k n a w l)=comb b a k n w l (l.map (prO b)) (l.map (prB b)) (l.map (prS b)):=by
 unfold prO;rw[uJ,Ek,EI]
theorem Ml(b:Bool)(t:T):prB b t=cD (t.l.map (prO b)):=by
 obtain⟨k,n,a,w,l⟩:=t;unfold prB;rw[uJ];rfl
theorem MI(b:Bool)(t:T):prS b t=(t.l.map (prO b)).flatten:=by
 obtain⟨k,n,a,w,l⟩:=t;unfold prS;rw[uJ];rfl
example:prT (.mk 6 0 0 dN [.mk 1 2 0 ⟨#[49]⟩ [],.mk 6 0 0 uF [.mk 1 2 0 ⟨#[50]⟩ [],.mk 6 0 0 dN [.mk 1 2 0 ⟨#[50]⟩ [],.mk 1 2 0 ⟨#[50]⟩ []]]])=[⟨2,⟨#[49]⟩⟩,O dN,⟨2,⟨#[50]⟩⟩,O uF,O sLP,⟨2,⟨#[50]⟩⟩,O dN,⟨2,⟨#[50]⟩⟩,O sRP]:=by decide +kernel
end Px
end
end Go.Proofs.YtfdlmcgcckkkdaaGreatDoor
