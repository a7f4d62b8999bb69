/- Part 10. -/
import Derived.Test.YtikalomcclefiaaGreatDoorV01
set_option linter.all false
set_option maxHeartbeats 0
set_option maxRecDepth 100000
namespace Go.Proofs.YtikalomcclefiaaGreatDoor
section
namespace Px
open Lx
structure Tk where
 kind:Int
 text:ByteArray
deriving DecidableEq,Inhabited
inductive T where
 | mk (kind n at_:Int) (word:AAE) (l:List T)
deriving Inhabited
def T.kind: T->Int | .mk k _ _ _ _=>k
def T.n: T->Int | .mk _ n _ _ _=>n
def T.at_: T->Int | .mk _ _ a _ _=>a
def T.word: T->ByteArray | .mk _ _ _ w _=>w
def T.l: T->List T | .mk _ _ _ _ l=>l
def e0: ByteArray:=⟨#[]⟩
def bB: ByteArray:=⟨#[80,82,79,67,69,68,85,82,69]⟩
def jL: ByteArray:=⟨#[80,82,79,67]⟩
def Bg: ByteArray:=⟨#[66,69,71,73,78]⟩
def LJ: ByteArray:=⟨#[68,79]⟩
def qB: ByteArray:=⟨#[83,69,76,69,67,84]⟩
def Nq: ByteArray:=⟨#[73,70]⟩
def Ch: ByteArray:=⟨#[67,65,76,76]⟩
def lM: ByteArray:=⟨#[82,69,84,85,82,78]⟩
def wGO: ByteArray:=⟨#[71,79]⟩
def aeU: ByteArray:=⟨#[71,79,84,79]⟩
def pM: ByteArray:=⟨#[76,69,65,86,69]⟩
def jO: ByteArray:=⟨#[73,84,69,82,65,84,69]⟩
def DN: ByteArray:=⟨#[83,84,79,80]⟩
def wON: ByteArray:=⟨#[79,78]⟩
def rD: ByteArray:=⟨#[82,69,86,69,82,84]⟩
def rC: ByteArray:=⟨#[83,73,71,78,65,76]⟩
def iR: ByteArray:=⟨#[65,76,76,79,67,65,84,69]⟩
def rL: ByteArray:=⟨#[65,76,76,79,67]⟩
def CA: ByteArray:=⟨#[70,82,69,69]⟩
def FA: ByteArray:=⟨#[71,69,84]⟩
def FC: ByteArray:=⟨#[80,85,84]⟩
def Bj: ByteArray:=⟨#[82,69,65,68]⟩
def uM: ByteArray:=⟨#[87,82,73,84,69]⟩
def nZ: ByteArray:=⟨#[82,69,87,82,73,84,69]⟩
def sC: ByteArray:=⟨#[68,69,76,69,84,69]⟩
def fK: ByteArray:=⟨#[68,69,67,76,65,82,69]⟩
def uP: ByteArray:=⟨#[68,67,76]⟩
def gB: ByteArray:=⟨#[79,80,84,73,79,78,83]⟩
def pO: ByteArray:=⟨#[77,65,73,78]⟩
def gE: ByteArray:=⟨#[82,69,67,85,82,83,73,86,69]⟩
def gP: ByteArray:=⟨#[82,69,84,85,82,78,83]⟩
def sO: ByteArray:=⟨#[69,78,68]⟩
def gF: ByteArray:=⟨#[87,72,73,76,69]⟩
def gA: ByteArray:=⟨#[85,78,84,73,76]⟩
def Fj: ByteArray:=⟨#[84,79]⟩
def Xd: ByteArray:=⟨#[66,89]⟩
def xP: ByteArray:=⟨#[87,72,69,78]⟩
def gV: ByteArray:=⟨#[79,84,72,69,82,87,73,83,69]⟩
def qR: ByteArray:=⟨#[79,84,72,69,82]⟩
def pI: ByteArray:=⟨#[84,72,69,78]⟩
def qK: ByteArray:=⟨#[69,76,83,69]⟩
def pN: ByteArray:=⟨#[83,89,83,84,69,77]⟩
def GN: ByteArray:=⟨#[83,69,84]⟩
def JJ: ByteArray:=⟨#[73,78]⟩
def gR: ByteArray:=⟨#[70,73,76,69]⟩
def sV: ByteArray:=⟨#[83,75,73,80]⟩
def wQ: ByteArray:=⟨#[76,73,83,84]⟩
def rX: ByteArray:=⟨#[69,68,73,84]⟩
def yV: ByteArray:=⟨#[73,78,84,79]⟩
def oW: ByteArray:=⟨#[75,69,89]⟩
def oE: ByteArray:=⟨#[70,82,79,77]⟩
def nJ: ByteArray:=⟨#[75,69,89,70,82,79,77]⟩
def wP: ByteArray:=⟨#[80]⟩
def VQ: ByteArray:=⟨#[67,72,65,82]⟩
def vY: ByteArray:=⟨#[67,72,65,82,65,67,84,69,82]⟩
def akB: ByteArray:=⟨#[68,69,67]⟩
def Db: ByteArray:=⟨#[68,69,67,73,77,65,76]⟩
def anX: ByteArray:=⟨#[66,73,78]⟩
def FF: ByteArray:=⟨#[66,73,78,65,82,89]⟩
def amG: ByteArray:=⟨#[80,73,67]⟩
def iC: ByteArray:=⟨#[80,73,67,84,85,82,69]⟩
def akX: ByteArray:=⟨#[80,84,82]⟩
def Cw: ByteArray:=⟨#[80,79,73,78,84,69,82]⟩
def Vk: ByteArray:=⟨#[73,78,73,84]⟩
def Cq: ByteArray:=⟨#[73,78,73,84,73,65,76]⟩
def ajI: ByteArray:=⟨#[86,65,82]⟩
def Cv: ByteArray:=⟨#[86,65,82,89,73,78,71]⟩
def We: ByteArray:=⟨#[65,85,84,79]⟩
def vU: ByteArray:=⟨#[65,85,84,79,77,65,84,73,67]⟩
def akT: ByteArray:=⟨#[67,84,76]⟩
def tM: ByteArray:=⟨#[67,79,78,84,82,79,76,76,69,68]⟩
def alQ: ByteArray:=⟨#[68,69,70]⟩
def CW: ByteArray:=⟨#[68,69,70,73,78,69,68]⟩
def uH: ByteArray:=⟨#[76,73,75,69]⟩
def cJ: ByteArray:=⟨#[40]⟩
def dA: ByteArray:=⟨#[41]⟩
def jS: ByteArray:=⟨#[44]⟩
def aT: ByteArray:=⟨#[59]⟩
def cU: ByteArray:=⟨#[58]⟩
def tV: ByteArray:=⟨#[61]⟩
def lI: ByteArray:=⟨#[46]⟩
def fT: ByteArray:=⟨#[45,62]⟩
def Cn: ByteArray:=⟨#[42]⟩
def jR: ByteArray:=⟨#[43]⟩
def gG: ByteArray:=⟨#[45]⟩
def rA: ByteArray:=⟨#[94]⟩
def sOR: ByteArray:=⟨#[124]⟩
def aLN: ByteArray:=⟨#[38]⟩
def sNE: ByteArray:=⟨#[94,61]⟩
def sLT: ByteArray:=⟨#[60]⟩
def sLE: ByteArray:=⟨#[60,61]⟩
def sGT: ByteArray:=⟨#[62]⟩
def sGE: ByteArray:=⟨#[62,61]⟩
def sNL: ByteArray:=⟨#[94,60]⟩
def sNG: ByteArray:=⟨#[94,62]⟩
def aLn: ByteArray:=⟨#[124,124]⟩
def aKH: ByteArray:=⟨#[47]⟩
abbrev R(α:Type):=Except Nat (α×Nat)
def aH{α β:Type}(r:R α)(f:α->Nat->R β):R β:=match r with
 | .ok (x,j)=>f x j
 | .error e=>.error e
def node(k:Int)(a:Nat)(l:List T):T:=.mk k 0 a e0 l
def none_: T:=.mk 10 0 0 e0 []
section
variable (L:List Tk)
def tok(i:Nat):Tk:=L.getD i ⟨0,e0⟩
def cD(i:Nat)(ss:List ByteArray):Bool:=(tok L i).kind==6&&eH (tok L i).text ss
def iT(i:Nat)(ss:List ByteArray):Bool:=(tok L i).kind==1&&eH (tok L i).text ss
def aW(i:Nat)(s:AAE):R Unit:=if cD L i [s]then .ok ((),i+1)else .error i
def fV(i:Nat)(ss:List ByteArray):R Unit:=if iT L i ss then .ok ((),i+1)else .error i
def isName(i:Nat):Bool:=(tok L i).kind==1
def iN(i:Nat):R ByteArray:=if isName L i then .ok ((tok L i).text,i+1)else .error i
def mI(i:Nat):R T:=aH (iN L i) λs j=>.ok (.mk 11 0 i s [],j)
def ajG(l:Bs):Nat:=l.foldl (λn c=>n*10+(c.toNat - 48)) 0
def nH(t:Tk):Option Nat:=if t.kind=2/\(46:UInt8)∉t.text.data.toList then some (ajG t.text.data.toList)else none
def gO(lo hi:Nat)(i:Nat):R Nat:=match nH (tok L i) with
 | some n=>if lo<=n/\n<=hi then .ok (n,i+1)else .error i
 | none=>.error i
def jF: Nat->Nat->Nat->Option Nat
 | 0,_,_=>none
 | f+1,i,deep=>
  if L.length<=i then none
  else
   let d1:=if cD L i [cJ]then deep+1 else deep
   if cD L i [dA]then(if d1=1 then some (i+1)else jF f (i+1) (d1 - 1))else jF f (i+1) d1
def gW: Nat->Nat->Option Nat
 | 0,_=>none
 | f+1,i=>
  if isName L i=false then none
  else match (if cD L (i+1) [cJ]then jF L (L.length+1) (i+1) 0 else some (i+1)) with
   | none=>none
   | some j=>if cD L j [lI]||cD L j [fT]then gW f (j+1)else some j
def eF(i:Nat):Bool:=match gW L (L.length+1) i with
 | none=>false
 | some j=>cD L j [tV]
def labelled(i:Nat):Bool:=isName L i&&cD L (i+1) [cU]
def keyword(i:Nat)(ss:List ByteArray):Bool:=iT L i ss&&!eF L i&&!labelled L i
def iP(read:Nat->R T):Nat->List T->Nat->R (List T)
 | 0,acc,j=>.ok (acc,j)
 | n+1,acc,j=>if cD L j [jS]then aH (read (j+1)) λx j'=>iP read n (acc++[x]) j' else .ok (acc,j)
def eR(most:Nat)(read:Nat->R T)(i:Nat):R (List T):=aH (read i) λx j=>iP L read (most - 1) [x] j
def gQ(l:List T):T:=.mk 40 0 (match l with | []=>0|x::_=>x.at_) e0 l
def hY: Nat->List ByteArray
 | 0=>[sOR]
 | 1=>[aLN]
 | 2=>[tV,sNE,sLT,sLE,sGT,sGE,sNL,sNG]
 | 3=>[aLn]
 | 4=>[jR,gG]
 | _=>[Cn,aKH]
def binGo(sub:Nat->R T)(ops:List ByteArray)(a:Nat):Nat->T->Nat->R T
 | 0,_,j=>.error j
 | f+1,x,j=>if cD L j ops then aH (sub (j+1)) λy j'=>binGo sub ops a f (.mk 6 0 a (tok L j).text [x,y]) j' else .ok (x,j)
def sY(prim:Nat->R T):Nat->Nat->R T
 | 0,i=>prim i
 | k+1,i=>aH (sY prim k i) λx j=>binGo L (sY prim k) (hY (5 - k)) i (L.length+1) x j
def dP(i:Nat):Bool:=(tok L i).kind==2||(tok L i).kind==3||(tok L i).kind==4||(tok L i).kind==5
def cQ(i:Nat):R T:=if dP L i then .ok (.mk 1 (tok L i).kind i (tok L i).text [],i+1)else .error i
def cV(expr:Nat->R T)(i:Nat):R T:=if cD L i [Cn]then .ok (node 7 i [],i+1)else expr i
def qY(expr:Nat->R T)(i:Nat):R T:=aH (iN L i) λs j=>
 if cD L j [cJ]then
  (if cD L (j+1) [dA]then .ok (.mk 3 1 i s [],j+2)
   else aH (eR L 16 (cV L expr) (j+1)) λl j'=>aH (aW L j' dA) λ_ j2=>.ok (.mk 3 1 i s l,j2))
 else .ok (.mk 3 0 i s [],j)
def iM(expr:Nat->R T):Nat->List T->Nat->R (List T)
 | 0,acc,j=>.ok (acc,j)
 | n+1,acc,j=>if cD L j [lI]then aH (qY L expr (j+1)) λx j'=>iM expr n (acc++[x]) j' else .ok (acc,j)
def mG(expr:Nat->R T)(i:Nat):R T:=aH (qY L expr i) λx j=>aH (iM L expr 7 [x] j) λl j'=>.ok (node 2 i l,j')
def pZ(expr:Nat->R T)(a:Nat):Nat->T->Nat->R T
 | 0,_,j=>.error j
 | f+1,x,j=>if cD L j [fT]then aH (mG L expr (j+1)) λy j'=>pZ expr a f (node 4 a [x,y]) j' else .ok (x,j)
def eO(expr:Nat->R T)(i:Nat):R T:=aH (mG L expr i) λx j=>pZ L expr i (L.length+1) x j
def fN: Nat->Nat->R T
 | 0,i=>.error i
 | f+1,i=>
  if cD L i [jR,gG,rA]then aH (fN f (i+1)) λx j=>.ok (.mk 5 0 i (tok L i).text [x],j)
  else if cD L i [cJ]then aH (sY L (fN f) 6 (i+1)) λx j=>aH (aW L j dA) λ_ j'=>.ok (x,j')
  else if dP L i then cQ L i
  else eO L (sY L (fN f) 6) i
def mY(f:Nat)(i:Nat):R T:=sY L (fN L f) 6 i
def dB(i:Nat):R T:=mY L (L.length+1) i
def yZ(i:Nat):R T:=eO L (dB L) i
def fB(i:Nat):R T:=aH (aW L i cJ) λ_ j=>aH (dB L j) λx j'=>aH (aW L j' dA) λ_ j2=>.ok (x,j2)
def pQ(i:Nat):Bool:=iT L i [Nq]&&(match dB L (i+1)with | .ok (_,j)=>iT L j [pI] | .error _=>false)
def gL(w:AAE)(i:Nat):R T:=if iT L i [w]then fB L (i+1)else .ok (none_,i)
def jK(w:AAE)(i:Nat):R T:=if iT L i [w]then dB L (i+1)else .ok (none_,i)
def nP(w:AAE)(i:Nat):R T:=if iT L i [w]then aH (aW L (i+1) cJ) λ_ j=>aH (yZ L j) λr j'=>aH (aW L j' dA) λ_ j2=>.ok (r,j2)else .ok (none_,i)
def fH(w:AAE)(i:Nat):R T:=if iT L i [w]then nP L w i else .error i
def BP(label:AAE)(i:Nat):R Unit:=aH (fV L i [sO]) λ_ j=>
 aW L (if label.size≠0/\iT L j [label]=true then j+1 else j) aT
def jE(stmt:Nat->R T)(label:AAE):Nat->List T->Nat->R (List T)
 | 0,_,i=>.error i
 | f+1,acc,i=>if keyword L i [sO]then aH (BP L label i) λ_ j=>.ok (acc,j)else aH (stmt i) λx j=>jE stmt label f (acc++[x]) j
def iO(stmt:Nat->R T)(label:AAE)(i:Nat):R (List T):=jE L stmt label (L.length+1) [] i
def rT(i:Nat):R ByteArray:=aH (fV L i [gR]) λ_ j=>aH (aW L j cJ) λ_ j1=>aH (iN L j1) λs j2=>aH (aW L j2 dA) λ_ j3=>.ok (s,j3)
def bK(t:T)(i:Nat):R T:=aH (aW L i aT) λ_ j=>.ok (t,j)
def qL(arg:Bool)(i:Nat):R T:=aH (iN L i) λs j=>
 if arg&&cD L j [cJ]then aH (mI L (j+1)) λx j'=>aH (aW L j' dA) λ_ j2=>.ok (.mk 12 0 i s [x],j2)else .ok (.mk 12 0 i s [],j)
def hJ: Nat->Nat->R T
 | 0,i=>.error i
 | f+1,i=>
  if (tok L i).kind=2 then aH (gO L 1 100 i) λn j=>aH (aW L j cJ) λ_ j1=>aH (eR L L.length (hJ f) j1) λl j2=>aH (aW L j2 dA) λ_ j3=>.ok (.mk 42 n i e0 l,j3)
  else aH (iN L i) λs j=>
   if s=wP then(if (tok L j).kind=4 then aH (cQ L j) λx j'=>.ok (.mk 41 0 i s [x],j')else .error j)
   else if cD L j [cJ]then aH (eR L 2 (cQ L) (j+1)) λl j'=>aH (aW L j' dA) λ_ j2=>.ok (.mk 41 0 i s l,j2)
   else .ok (.mk 41 0 i s [],j)
def uZ(i:Nat):R T:=hJ L (L.length+1) i
def eC(i:Nat):R T:=
 let sg:=cD L (i+3) [jR,gG,rA]
 match nH (tok L (i+1)) with
 | none=>cV L (dB L) i
 | some n=>
  if cD L i [cJ]&&decide (1<=n)&&decide (n<=1000)&&cD L (i+2) [dA]&&dP L (if sg then i+4 else i+3)then
   (if sg then aH (cQ L (i+4)) λx j=>.ok (.mk 42 n i e0 [.mk 5 0 (i+3) (tok L (i+3)).text [x]],j)
    else aH (cQ L (i+3)) λx j=>.ok (.mk 42 n i e0 [x],j))
  else cV L (dB L) i
def nG(s:AAE):ByteArray:=
 if s=VQ then vY else if s=akB then Db else if s=anX then FF else if s=amG then iC else if s=akX then Cw
 else if s=Vk then Cq else if s=ajI then Cv else if s=We then vU else if s=akT then tM else if s=alQ then CW else s
def dS(i:Nat):R T:=aH (iN L i) λs0 j=>
 let s:=nG s0
 if s=iC then(if (tok L j).kind=4 then aH (cQ L j) λx j'=>.ok (.mk 50 0 i s [x],j')else .error j)
 else if s=uH then aH (mG L (dB L) j) λx j'=>.ok (.mk 50 0 i s [x],j')
 else if cD L j [cJ]then
  (if cD L (j+1) [dA]then .ok (.mk 50 1 i s [],j+2)
   else aH (eR L 60 (eC L) (j+1)) λl j'=>aH (aW L j' dA) λ_ j2=>.ok (.mk 50 1 i s l,j2))
 else .ok (.mk 50 0 i s [],j)
def jC: Nat->List T->Nat->R (List T)
 | 0,acc,j=>.ok (acc,j)
 | n+1,acc,j=>if isName L j then aH (dS L j) λx j'=>jC n (acc++[x]) j' else .ok (acc,j)
def pR(most:Nat)(i:Nat):R (List T):=jC L most [] i
def pS(i:Nat):R T:=aH (dB L i) λx j=>
 if cD L j [cU]then aH (dB L (j+1)) λy j'=>.ok (node 49 i [x,y],j')else .ok (node 49 i [none_,x],j)
def mU: Nat->Nat->R T
 | 0,i=>.error i
 | f+1,i=>
  aH (if (tok L i).kind=2 then aH (gO L 1 99 i) λn j=>.ok ((n:Int),j)else .ok (0,i)) λn j=>
  aH (if cD L j [cJ]then aH (eR L 30 (mU f) (j+1)) λl j'=>aH (aW L j' dA) λ_ j2=>.ok (gQ l,j2)else mI L j) λwhat j1=>
  aH (if cD L j1 [cJ]then aH (eR L 3 (pS L) (j1+1)) λl j'=>aH (aW L j' dA) λ_ j2=>.ok (gQ l,j2)else .ok (node 40 0 [],j1)) λbounds j2=>
  aH (pR L 12 j2) λaSq j3=>.ok (.mk 48 n i e0 (what::bounds::aSq),j3)
def IQ(i:Nat):R T:=mU L (L.length+1) i
def jT(k:Int)(a:Nat)(item:Nat->R T)(i:Nat):R T:=
 aH (if iT L i [gR]then rT L i else .ok (e0,i)) λw j=>
 aH (if iT L j [sV]then aH (aW L (j+1) cJ) λ_ j1=>aH (gO L 1 99 j1) λn j2=>aH (aW L j2 dA) λ_ j3=>.ok ((n:Int),j3)else .ok (0,j)) λn j1=>
 aH (if iT L j1 [wQ,rX]then
   aH (aW L (j1+1) cJ) λ_ k1=>aH (eR L 16 item k1) λl k2=>aH (aW L k2 dA) λ_ k3=>
   (if iT L j1 [rX]then aH (aW L k3 cJ) λ_ k4=>aH (eR L 32 (uZ L) k4) λm k5=>aH (aW L k5 dA) λ_ k6=>.ok ((gQ l,gQ m),k6)
    else .ok ((gQ l,none_),k3))
  else .ok ((none_,none_),j1)) λlm j2=>
 bK L (.mk k n a w [lm.1,lm.2]) j2
def iQ(k:Int)(a:Nat)(i:Nat):R T:=if isName L i then aH (iN L i) λs j=>bK L (.mk k 0 a s []) j else bK L (node k a []) i
def jW(inner:Nat->R T):Nat->List T->Nat->R (List T)
 | 0,_,i=>.error i
 | f+1,acc,i=>if iT L i [xP]then aH (aW L (i+1) cJ) λ_ j=>aH (eR L 8 (dB L) j) λl j1=>aH (aW L j1 dA) λ_ j2=>aH (inner j2) λx j3=>jW inner f (acc++[node 21 i (l++[x])]) j3
  else .ok (acc,i)
def iE(stmt:Nat->R T)(a:Nat)(label:AAE)(i:Nat):R T:=
 aH (if cD L i [cJ]then aH (eR L 8 (mI L) (i+1)) λl j=>aH (aW L j dA) λ_ j'=>.ok (gQ l,j')else .ok (node 40 0 [],i)) λparams j=>
 aH (if iT L j [gB]then aH (aW L (j+1) cJ) λ_ j1=>aH (fV L j1 [pO]) λ_ j2=>aH (aW L j2 dA) λ_ j3=>.ok ((1:Int),j3)
  else if iT L j [gE]then .ok (2,j+1)else .ok (0,j)) λn j1=>
 aH (if iT L j1 [gP]then aH (aW L (j1+1) cJ) λ_ k1=>aH (dS L k1) λx k2=>aH (pR L 3 k2) λxs k3=>aH (aW L k3 dA) λ_ k4=>.ok (gQ (x::xs),k4)
  else .ok (none_,j1)) λret j2=>
 aH (aW L j2 aT) λ_ j3=>aH (iO L stmt label j3) λg j4=>.ok (.mk 15 n a e0 (params::ret::g),j4)
def doP(stmt:Nat->R T)(a:Nat)(label:AAE)(i:Nat):R T:=
 if cD L i [aT]then aH (iO L stmt label (i+1)) λg j=>.ok (node 17 a g,j)
 else if eF L i then
  aH (yZ L i) λr j=>aH (aW L j tV) λ_ j1=>aH (dB L j1) λx j2=>aH (jK L Fj j2) λt j3=>aH (jK L Xd j3) λb j4=>
  aH (gL L gF j4) λwh j5=>aH (gL L gA j5) λun j6=>aH (aW L j6 aT) λ_ j7=>aH (iO L stmt label j7) λg j8=>.ok (node 19 a (r::x::t::b::wh::un::g),j8)
 else if iT L i [gF,gA]then
  aH (gL L gF i) λwh j=>aH (gL L gA j) λun j1=>aH (aW L j1 aT) λ_ j2=>aH (iO L stmt label j2) λg j3=>.ok (node 18 a (wh::un::g),j3)
 else .error i
def lL(inner:Nat->R T)(a:Nat)(label:AAE)(i:Nat):R T:=
 aH (if cD L i [cJ]then fB L i else .ok (none_,i)) λx j=>aH (aW L j aT) λ_ j1=>
 aH (jW L inner (L.length+1) [x] j1) λl j2=>
 aH (if iT L j2 [gV,qR]then aH (inner (j2+1)) λy j3=>.ok (l++[node 22 j2 [y]],j3)else .ok (l,j2)) λl2 j3=>
 aH (BP L label j3) λ_ j4=>.ok (node 20 a l2,j4)
def qM(inner:Nat->R T)(a:Nat)(i:Nat):R T:=
 aH (dB L i) λx j=>aH (fV L j [pI]) λ_ j1=>aH (inner j1) λy j2=>
 if keyword L j2 [qK]then aH (inner (j2+1)) λz j3=>.ok (node 23 a [x,y,z],j3)else .ok (node 23 a [x,y],j2)
def GL(a:Nat)(i:Nat):R T:=aH (qY L (dB L) i) λx j=>bK L (node 25 a [node 2 i [x]]) j
def Dm(a:Nat)(i:Nat):R T:=if cD L i [cJ]then aH (fB L i) λx j=>bK L (node 26 a [x]) j else bK L (node 26 a []) i
def yS(a:Nat)(i:Nat):R T:=aH (iN L i) λs j=>bK L (.mk 27 0 a s []) j
def onP(inner:Nat->R T)(a:Nat)(i:Nat):R T:=
 let prefix_:=cD L (i+1) [cJ]&&!(isName L (i+2)&&cD L (i+3) [dA]&&!cD L (i+4) [cU])
 aH (qL L (!prefix_) i) λc j=>
 if keyword L j [pN]then bK L (node 32 a [c,node 33 j []]) (j+1)else aH (inner j) λx j1=>.ok (node 32 a [c,x],j1)
def pU(a:Nat)(i:Nat):R T:=aH (iN L i) λs j=>aH (nP L GN j) λx j1=>aH (nP L JJ j1) λy j2=>bK L (.mk 36 0 a s [x,y]) j2
def GD(a:Nat)(i:Nat):R T:=aH (yZ L i) λr j=>aH (nP L JJ j) λx j1=>bK L (node 37 a [r,x]) j1
def GF(a:Nat)(i:Nat):R T:=aH (rT L i) λs j=>aH (fH L yV j) λr j1=>aH (gL L oW j1) λx j2=>bK L (.mk 43 0 a s [r,x]) j2
def Ab(a:Nat)(i:Nat):R T:=aH (rT L i) λs j=>aH (fH L oE j) λr j1=>aH (fV L j1 [nJ]) λ_ j2=>aH (fB L j2) λx j3=>bK L (.mk 44 0 a s [r,x]) j3
def sK(a:Nat)(i:Nat):R T:=aH (rT L i) λs j=>aH (fH L oE j) λr j1=>aH (gL L oW j1) λx j2=>bK L (.mk 45 0 a s [r,x]) j2
def uB(a:Nat)(i:Nat):R T:=aH (rT L i) λs j=>aH (fV L j [oW]) λ_ j1=>aH (fB L j1) λx j2=>bK L (.mk 46 0 a s [x]) j2
def sM(a:Nat)(i:Nat):R T:=aH (eR L 60 (IQ L) i) λl j=>bK L (node 47 a l) j
def bL(stmt inner:Nat->R T)(w:AAE)(a:Nat)(label:AAE)(i:Nat):Option (R T):=
 if w=bB\/w=jL then some (iE L stmt a label i)
 else if w=Bg then some (aH (aW L i aT) λ_ j=>aH (iO L stmt label j) λg j1=>.ok (node 16 a g,j1))
 else if w=LJ then some (doP L stmt a label i)
 else if w=qB then some (lL L inner a label i)
 else if w=Nq then some (qM L inner a i)
 else if w=Ch then some (GL L a i)
 else if w=lM then some (Dm L a i)
 else if w=wGO then some (aH (fV L i [Fj]) λ_ j=>yS L a j)
 else if w=aeU then some (yS L a i)
 else if w=pM then some (iQ L 28 a i)
 else if w=jO then some (iQ L 29 a i)
 else if w=DN then some (bK L (node 30 a []) i)
 else if w=wON then some (onP L inner a i)
 else if w=rD then some (aH (qL L true i) λc j=>bK L (node 34 a [c]) j)
 else if w=rC then some (aH (qL L true i) λc j=>bK L (node 35 a [c]) j)
 else if w=iR\/w=rL then some (pU L a i)
 else if w=CA then some (GD L a i)
 else if w=FA then some (jT L 38 a (yZ L) i)
 else if w=FC then some (jT L 39 a (dB L) i)
 else if w=Bj then some (GF L a i)
 else if w=uM then some (Ab L a i)
 else if w=nZ then some (sK L a i)
 else if w=sC then some (uB L a i)
 else if w=fK\/w=uP then some (sM L a i)
 else none
def mS(stmt inner:Nat->R T)(inr:Bool)(label:AAE)(i:Nat):R T:=
 if cD L i [aT]then .ok (node 31 i [],i+1)
 else if eF L i&&!pQ L i then aH (yZ L i) λr j=>aH (aW L j tV) λ_ j1=>aH (dB L j1) λx j2=>aH (aW L j2 aT) λ_ j3=>.ok (node 24 i [r,x],j3)
 else
  let proc:=iT L i [bB,jL]
  if isName L i=false\/(inr=true/\(proc=true\/iT L i [fK,uP]=true))\/(proc=true/\label.size=0)then .error i
  else match bL L stmt inner (tok L i).text i label (i+1) with
   | none=>.error i
   | some r=>r
def cH(lab:Bool->ByteArray->Nat->R T)(inr:Bool)(i:Nat):R T:=
 if cD L i [cJ]then aH (eR L 4 (mI L) (i+1)) λl j=>aH (aW L j dA) λ_ j1=>aH (aW L j1 cU) λ_ j2=>aH (lab inr e0 j2) λx j3=>.ok (node 13 i (l++[x]),j3)
 else lab inr e0 i
def jG: Nat->Bool->ByteArray->Nat->R T
 | 0,_,_,i=>.error i
 | f+1,inr,label,i=>
  if eF L i||!labelled L i then mS L (cH L (jG f) false) (cH L (jG f) true) inr label i
  else aH (jG f inr (tok L i).text (i+2)) λx j=>.ok (.mk 14 0 i (tok L i).text [x],j)
def rW(i:Nat):R T:=cH L (jG L (L.length+1)) false i
def fC(i:Nat):R T:=aH (iN L i) λs j=>aH (aW L j cU) λ_ j1=>aH (fV L j1 [bB,jL]) λ_ j2=>aH (fV L j2 [gB]) λ_ j3=>
 aH (aW L j3 cJ) λ_ j4=>aH (fV L j4 [pO]) λ_ j5=>aH (aW L j5 dA) λ_ j6=>aH (aW L j6 aT) λ_ j7=>
 aH (iO L (rW L) s j7) λg j8=>.ok (.mk 14 0 i s [.mk 15 1 j1 e0 (node 40 0 []::none_::g)],j8)
def uN(read:Nat->R T):Except Nat T:=match read 0 with
 | .ok (t,j)=>if j<L.length then .error j else .ok t
 | .error e=>.error e
end
end Px
end
section
namespace Px
open Lx
def O(s:AAE):Tk:=⟨6,s⟩
def W(s:AAE):Tk:=⟨1,s⟩
def kw(b:Bool)(a:Int)(long short:AAE):ByteArray:=if b=true/\a≠0 then short else long
def mJ(s:AAE):ByteArray:=
 if s=vY then VQ else if s=Db then akB else if s=FF then anX else if s=iC then amG else if s=Cw then akX
 else if s=Cq then Vk else if s=Cv then ajI else if s=vU then We else if s=tM then akT else if s=CW then alQ else s
def UZ: Nat->Nat->Bs->Bs
 | 0,_,acc=>acc
 | f+1,n,acc=>if n<10 then UInt8.ofNat (48+n)::acc else UZ f (n / 10) (UInt8.ofNat (48+n % 10)::acc)
def azC(n:Nat):ByteArray:=⟨(UZ 20 n []).toArray⟩
def UU(n:Int):ByteArray:=if n<0 then⟨(45::UZ 20 n.natAbs []).toArray⟩else azC n.natAbs
def Nm(n:Int):Tk:=⟨2,UU n⟩
def wU(w:AAE):Nat->Int
 | 0 => -1
 | k+1=>if eH w (hY (5 - k))then((5 - k:Nat):Int)else wU w k
def level(w:AAE):Int:=wU w 6
def aR: List (List Tk)->List Tk
 | []=>[]
 | [x]=>x
 | x::r=>x++O jS::aR r
def jN: List (List Tk)->List Tk
 | []=>[]
 | [x]=>x
 | x::r=>x++O lI::jN r
def bI(ps:List (List Tk)):List Tk:=O cJ::(aR ps++[O dA])
def part(l:List T)(i:Nat):T:=l.getD i none_
def ct(ps:List (List Tk))(i:Nat):List Tk:=ps.getD i [O aT]
def cb(bs:List (List Tk))(i:Nat):List Tk:=bs.getD i [O cJ,O dA]
def operand(c:T)(p:List Tk)(least:Int):List Tk:=if c.kind=6/\level c.word<least then bI [p]else p
def opt(w:AAE)(c:T)(p:List Tk):List Tk:=if c.kind=10 then []else W w::bI [p]
def lK(w:AAE)(c:T)(p:List Tk):List Tk:=if c.kind=10 then []else W w::p
def group(ps:List (List Tk)):List Tk:=O aT::(ps.flatten++[W sO,O aT])
def isConst(c:T):Bool:=decide (c.kind=1)||(decide (c.kind=5)&&decide ((part c.l 0).kind=1))
def EV(a w:AAE):List Tk:=[W a,W gR,O cJ,W w,O dA]
def mR(a w:AAE):List Tk:=W a::(if w.size=0 then []else [W w])
def simple(b:Bool)(a k n:Int)(w:AAE)(l:List T)(ps bs:List (List Tk)):List Tk:=
 if k=24 then ct ps 0++O tV::ct ps 1
 else if k=25 then W Ch::ct ps 0
 else if k=26 then W lM::(if l=[]then []else bI ps)
 else if k=27 then [W wGO,W Fj,W w]
 else if k=28 then mR pM w
 else if k=29 then mR jO w
 else if k=30 then [W DN]
 else if k=34 then W rD::ps.flatten
 else if k=35 then W rC::ps.flatten
 else if k=36 then W (kw b a iR rL)::W w::(opt GN (part l 0) (ct ps 0)++opt JJ (part l 1) (ct ps 1))
 else if k=37 then W CA::(ct ps 0++opt JJ (part l 1) (ct ps 1))
 else if k=38\/k=39 then
  W (if k=38 then FA else FC)::((if w.size=0 then []else [W gR,O cJ,W w,O dA])++((if n=0 then []else [W sV,O cJ,Nm n,O dA]) ++
   (if (part l 1).kind≠10 then W rX::(cb bs 0++cb bs 1)else if (part l 0).kind≠10 then W wQ::cb bs 0 else [])))
 else if k=43 then EV Bj w++(opt yV (part l 0) (ct ps 0)++opt oW (part l 1) (ct ps 1))
 else if k=44 then EV uM w++(opt oE (part l 0) (ct ps 0)++opt nJ (part l 1) (ct ps 1))
 else if k=45 then EV nZ w++(opt oE (part l 0) (ct ps 0)++opt oW (part l 1) (ct ps 1))
 else if k=46 then EV sC w++opt oW (part l 0) (ct ps 0)
 else if k=47 then W (kw b a fK uP)::aR ps
 else []
def pT(b:Bool)(a k n:Int)(w:AAE)(l:List T)(ps bs:List (List Tk)):List Tk:=
 if k=18 then W LJ::(opt gF (part l 0) (ct ps 0)++(opt gA (part l 1) (ct ps 1)++group (ps.drop 2)))
 else if k=19 then W LJ::(ct ps 0++O tV::(ct ps 1++(lK Fj (part l 2) (ct ps 2)++(lK Xd (part l 3) (ct ps 3)++(opt gF (part l 4) (ct ps 4)++(opt gA (part l 5) (ct ps 5)++group (ps.drop 6)))))))
 else if k=20 then W qB::((if (part l 0).kind=10 then []else bI [ct ps 0])++group (ps.drop 1))
 else if k=21 then W xP::(bI (ps.take (l.length - 1))++(ps.drop (l.length - 1)).flatten)
 else if k=22 then W (kw b a gV qR)::ps.flatten
 else if k=23 then W Nq::(ct ps 0++W pI::(ct ps 1++(if 2<l.length then W qK::(ps.drop 2).flatten else [])))
 else if k=32 then W wON::(ct ps 0++(ps.drop 1).flatten)
 else if k=33 then [W pN,O aT]
 else if k=31 then [O aT]
 else simple b a k n w l ps bs++[O aT]
def lZ(b:Bool)(a k n:Int)(w:AAE)(l:List T)(ps bs ss:List (List Tk)):List Tk:=
 if k=13 then bI (ps.take (l.length - 1))++O cU::(ps.drop (l.length - 1)).flatten
 else if k=14 then W w::O cU::ps.flatten
 else if k=15 then W (kw b a bB jL)::((if (part l 0).l=[]then []else cb bs 0) ++
  ((if n=1 then [W gB,O cJ,W pO,O dA]else if n=2 then [W gE]else []) ++
  ((if (part l 1).kind=10 then []else W gP::O cJ::(ss.getD 1 []++[O dA]))++group (ps.drop 2))))
 else if k=16 then W Bg::group ps
 else if k=17 then W LJ::group ps
 else pT b a k n w l ps bs
def comb(b:Bool)(a k n:Int)(w:AAE)(l:List T)(ps bs ss:List (List Tk)):List Tk:=
 if k=1 then [⟨n,w⟩]
 else if k=2 then jN ps
 else if k=3\/k=50\/k=41 then W (if k=50 then kw b a w (mJ w)else w)::(if (n=1/\k≠41)\/(k=41/\w≠wP/\l≠[])then bI ps else aR ps)
 else if k=4 then ct ps 0++O fT::ct ps 1
 else if k=5 then O w::operand (part l 0) (ct ps 0) 6
 else if k=6 then operand (part l 0) (ct ps 0) (level w)++O w::operand (part l 1) (ct ps 1) (level w+1)
 else if k=7 then [O Cn]
 else if k=11 then [W w]
 else if k=12 then W w::(if l=[]then []else bI ps)
 else if k=42 then(if isConst (part l 0)then O cJ::Nm n::O dA::aR ps else Nm n::bI ps)
 else if k=49 then(if (part l 0).kind=10 then []else ct ps 0++[O cU])++ct ps 1
 else if k=48 then(if n=0 then []else [Nm n])++((if (part l 0).kind=40 then cb bs 0 else ct ps 0)++((if (part l 1).l=[]then []else cb bs 1)++(ps.drop 2).flatten))
 else lZ b a k n w l ps bs ss
mutual
def aL(b:Bool):T->List Tk
 | .mk k n a w l=>comb b a k n w l (anM b l) (aDk b l) (aCe b l)
def anM(b:Bool):List T->List (List Tk)
 | []=>[]
 | t::r=>aL b t::anM b r
def lY(b:Bool):T->List Tk
 | .mk _ _ _ _ l=>bI (anM b l)
def aDk(b:Bool):List T->List (List Tk)
 | []=>[]
 | t::r=>lY b t::aDk b r
def wI(b:Bool):T->List Tk
 | .mk _ _ _ _ l=>(anM b l).flatten
def aCe(b:Bool):List T->List (List Tk)
 | []=>[]
 | t::r=>wI b t::aCe b r
end
def Eu(t:T):List Tk:=aL false t
mutual
def depth: T->Nat
 | .mk _ _ _ _ l=>1+jX l
def jX: List T->Nat
 | []=>0
 | t::r=>max (depth t) (jX r)
end
mutual
def nodes: T->Nat
 | .mk _ _ _ _ l=>1+bV l
def bV: List T->Nat
 | []=>0
 | t::r=>nodes t+bV r
end
mutual
def dM: T->T->Bool
 | .mk k n _ w l,.mk k' n' _ w' l'=>decide (k=k')&&decide (n=n')&&decide (w=w')&&dK l l'
def dK: List T->List T->Bool
 | [],[]=>true
 | t::r,t'::r'=>dM t t'&&dK r r'
 | _,_=>false
end
def Ml(b:Bool):∀ (l:List T),anM b l=l.map (aL b):=by
 intro l
 induction l with
 | nil=>rfl
 | cons t r ih=>unfold anM;rw[ih];rfl
def ahP(b:Bool):∀ (l:List T),aDk b l=l.map (lY b):=by
 intro l
 induction l with
 | nil=>rfl
 | cons t r ih=>unfold aDk;rw[ih];rfl
def ahV(b:Bool):∀ (l:List T),aCe b l=l.map (wI b):=by
 intro l
 induction l with
 | nil=>rfl
 | cons t r ih=>unfold aCe;rw[ih];rfl
def eM(b:Bool)(k n a:Int)(w:AAE)(l:List T):aL b (.mk k n a w l)=comb b a k n w l (l.map (aL b)) (l.map (lY b)) (l.map (wI b)):=by
 unfold aL;rw[Ml,ahP,ahV]
def zX(b:Bool)(t:T):lY b t=bI (t.l.map (aL b)):=by
 obtain⟨k,n,a,w,l⟩:=t;unfold lY;rw[Ml];rfl
def KO(b:Bool)(t:T):wI b t=(t.l.map (aL b)).flatten:=by
 obtain⟨k,n,a,w,l⟩:=t;unfold wI;rw[Ml];rfl
example:Eu (.mk 6 0 0 jR [.mk 1 2 0 ⟨#[49]⟩ [],.mk 6 0 0 Cn [.mk 1 2 0 ⟨#[50]⟩ [],.mk 6 0 0 jR [.mk 1 2 0 ⟨#[50]⟩ [],.mk 1 2 0 ⟨#[50]⟩ []]]])=[⟨2,⟨#[49]⟩⟩,O jR,⟨2,⟨#[50]⟩⟩,O Cn,O cJ,⟨2,⟨#[50]⟩⟩,O jR,⟨2,⟨#[50]⟩⟩,O dA]:=by decide +kernel
end Px
end
section
namespace Px
open Lx
inductive So where
 | expr|part|arg|fmt|attr|val|bound|item|cond|when_|other
 | st (inr:Bool)|lb (inr lab:Bool)|pl (inr lab:Bool)
def Ci(w:AAE):Prop:=eP 1 w=true
def cOK(n:Int)(w:AAE):Prop:=(n=2\/n=3\/n=4\/n=5)/\eP n w=true
def isRef(t:T):Prop:=t.kind=2\/t.kind=4
def isNone(t:T):Prop:=∃ a,t=.mk 10 0 a e0 []
def isWord(t:T):Prop:=∃ a w,t=.mk 11 0 a w []/\Ci w
def IY(t:T):Prop:=∃ n a w,t=.mk 1 n a w []/\cOK n w
def VL(t:T):Prop:=∃ a w,t=.mk 1 4 a w []/\cOK 4 w
def eN: T->Bool
 | .mk k _ _ _ [x]=>if k=14\/k=13 then eN x else false
 | .mk k _ _ _ [_,y]=>if k=23 then true else if k=13\/k=32 then eN y else false
 | .mk k _ _ _ [_,_,z]=>if k=23\/k=13 then eN z else false
 | .mk k _ _ _ [_,_,_,z]=>if k=13 then eN z else false
 | .mk k _ _ _ [_,_,_,_,z]=>if k=13 then eN z else false
 | _=>false
inductive V:So->T->Prop
 | const (n a:Int) (w:AAE) (h:cOK n w):V .expr (.mk 1 n a w [])
 | ref (a:Int) (ps:List T) (h1:1<=ps.length) (h8:ps.length<=8) (h:∀ p,p∈ps->V .part p):V .expr (.mk 2 0 a e0 ps)
 | ptr (a:Int) (x y:T) (hx:V .expr x) (hr:isRef x) (hy:V .expr y) (h2:y.kind=2):V .expr (.mk 4 0 a e0 [x,y])
 | un (a:Int) (w:AAE) (x:T) (hw:w=jR\/w=gG\/w=rA) (hx:V .expr x):V .expr (.mk 5 0 a w [x])
 | bin (a:Int) (w:AAE) (x y:T) (hw:0<=level w) (hx:V .expr x) (hy:V .expr y):V .expr (.mk 6 0 a w [x,y])
 | part0 (a:Int) (w:AAE) (h:Ci w):V .part (.mk 3 0 a w [])
 | part1 (a:Int) (w:AAE) (l:List T) (h:Ci w) (h16:l.length<=16) (hl:∀ x,x∈l->V .arg x):V .part (.mk 3 1 a w l)
 | arg (x:T) (h:V .expr x):V .arg x
 | star (a:Int):V .arg (.mk 7 0 a e0 [])
 | fmtN (n a:Int) (l:List T) (h1:1<=n) (h2:n<=100) (hne:l≠[]) (hl:∀ x,x∈l->V .fmt x):V .fmt (.mk 42 n a e0 l)
 | fmtP (a:Int) (c:T) (h:VL c):V .fmt (.mk 41 0 a wP [c])
 | fmt (a:Int) (w:AAE) (l:List T) (hw:w≠wP) (h:Ci w) (h2:l.length<=2) (hl:∀ x,x∈l->IY x):V .fmt (.mk 41 0 a w l)
 | attrP (a:Int) (c:T) (h:VL c):V .attr (.mk 50 0 a iC [c])
 | attrL (a:Int) (x:T) (h:V .expr x) (h2:x.kind=2):V .attr (.mk 50 0 a uH [x])
 | attr0 (a:Int) (w:AAE) (h:Ci w) (h1:w≠iC) (h2:w≠uH) (h3:nG w=w):V .attr (.mk 50 0 a w [])
 | attr1 (a:Int) (w:AAE) (l:List T) (h:Ci w) (h1:w≠iC) (h2:w≠uH) (h3:nG w=w) (h60:l.length<=60) (hl:∀ x,x∈l->V .val x):V .attr (.mk 50 1 a w l)
 | val (x:T) (h:V .arg x):V .val x
 | valR (n a:Int) (c:T) (h1:1<=n) (h2:n<=1000) (hc:IY c\/∃ a' w c',c=.mk 5 0 a' w [c']/\(w=jR\/w=gG\/w=rA)/\IY c'):V .val (.mk 42 n a e0 [c])
 | bound2 (a:Int) (x y:T) (hx:V .expr x) (hy:V .expr y):V .bound (.mk 49 0 a e0 [x,y])
 | bound1 (a:Int) (x y:T) (hx:isNone x) (hy:V .expr y):V .bound (.mk 49 0 a e0 [x,y])
 | item (n a:Int) (x bs:T) (aSq:List T) (h0:0<=n) (h99:n<=99) (hx:isWord x\/∃ a' its,x=.mk 40 0 a' e0 its/\its≠[])
  (hxs:x.kind=40->x.l.length<=30) (hi:x.kind=40->∀ y,y∈x.l->V .item y)
  (hb:∃ a' l,bs=.mk 40 0 a' e0 l) (hbs:bs.l.length<=3) (hbv:∀ y,y∈bs.l->V .bound y) (has:aSq.length<=12) (hav:∀ y,y∈aSq->V .attr y):V .item (.mk 48 n a e0 (x::bs::aSq))
 | cond0 (a:Int) (w:AAE) (h:Ci w):V .cond (.mk 12 0 a w [])
 | cond1 (a:Int) (w:AAE) (x:T) (h:Ci w) (hx:isWord x):V .cond (.mk 12 0 a w [x])
 | prefixed (inr:Bool) (a:Int) (ws:List T) (x:T) (h1:1<=ws.length) (h4:ws.length<=4) (hw:∀ y,y∈ws->isWord y) (hx:V (.lb inr false) x):V (.st inr) (.mk 13 0 a e0 (ws++[x]))
 | stmt (inr:Bool) (x:T) (hx:V (.lb inr false) x):V (.st inr) x
 | label (inr lab:Bool) (a:Int) (w:AAE) (x:T) (h:Ci w) (hx:V (.lb inr true) x):V (.lb inr lab) (.mk 14 0 a w [x])
 | plain (inr lab:Bool) (x:T) (hx:V (.pl inr lab) x):V (.lb inr lab) x
 | null (inr lab:Bool) (a:Int):V (.pl inr lab) (.mk 31 0 a e0 [])
 | assign (inr lab:Bool) (a:Int) (r x:T) (hr:V .expr r) (h:isRef r) (hx:V .expr x):V (.pl inr lab) (.mk 24 0 a e0 [r,x])
 | proc (n a a':Int) (ps:List T) (ret:T) (g:List T) (hn:n=0\/n=1\/n=2) (hp8:ps.length<=8) (hp:∀ y,y∈ps->isWord y) (hret:isNone ret\/∃ a' aSq,ret=.mk 40 0 a' e0 aSq/\aSq≠[])
  (hr4:ret.kind=40->ret.l.length<=4) (hrv:ret.kind=40->∀ y,y∈ret.l->V .attr y) (hg:∀ y,y∈g->V (.st false) y):V (.pl false true) (.mk 15 n a e0 (.mk 40 0 a' e0 ps::ret::g))
 | begin_ (inr lab:Bool) (a:Int) (g:List T) (hg:∀ y,y∈g->V (.st false) y):V (.pl inr lab) (.mk 16 0 a e0 g)
 | do_ (inr lab:Bool) (a:Int) (g:List T) (hg:∀ y,y∈g->V (.st false) y):V (.pl inr lab) (.mk 17 0 a e0 g)
 | while_ (inr lab:Bool) (a:Int) (x y:T) (g:List T) (hx:¬ isNone x->V .expr x) (hy:¬ isNone y->V .expr y) (hn:¬ (isNone x/\isNone y)) (hg:∀ y,y∈g->V (.st false) y):V (.pl inr lab) (.mk 18 0 a e0 (x::y::g))
 | loop (inr lab:Bool) (a:Int) (r x t b wh un:T) (g:List T) (hr:V .expr r) (h:isRef r) (hx:V .expr x) (ht:¬ isNone t->V .expr t) (hb:¬ isNone b->V .expr b) (hw:¬ isNone wh->V .expr wh) (hu:¬ isNone un->V .expr un)
  (hg:∀ y,y∈g->V (.st false) y):V (.pl inr lab) (.mk 19 0 a e0 (r::x::t::b::wh::un::g))
 | select (inr lab:Bool) (a:Int) (x:T) (ws os:List T) (hx:¬ isNone x->V .expr x) (hw:∀ y,y∈ws->V .when_ y) (ho1:os.length<=1) (ho:∀ y,y∈os->V .other y):V (.pl inr lab) (.mk 20 0 a e0 (x::(ws++os)))
 | when_ (a:Int) (xs:List T) (y:T) (h1:1<=xs.length) (h8:xs.length<=8) (hx:∀ z,z∈xs->V .expr z) (hy:V (.st true) y):V .when_ (.mk 21 0 a e0 (xs++[y]))
 | other (a:Int) (y:T) (hy:V (.st true) y):V .other (.mk 22 0 a e0 [y])
 | if2 (inr lab:Bool) (a:Int) (x y:T) (hx:V .expr x) (hy:V (.st true) y):V (.pl inr lab) (.mk 23 0 a e0 [x,y])
 | if3 (inr lab:Bool) (a:Int) (x y z:T) (hx:V .expr x) (hy:V (.st true) y) (hc:eN y=false) (hz:V (.st true) z):V (.pl inr lab) (.mk 23 0 a e0 [x,y,z])
 | call (inr lab:Bool) (a a':Int) (p:T) (hp:V .part p):V (.pl inr lab) (.mk 25 0 a e0 [.mk 2 0 a' e0 [p]])
 | ret0 (inr lab:Bool) (a:Int):V (.pl inr lab) (.mk 26 0 a e0 [])
 | ret1 (inr lab:Bool) (a:Int) (x:T) (hx:V .expr x):V (.pl inr lab) (.mk 26 0 a e0 [x])
 | goto_ (inr lab:Bool) (a:Int) (w:AAE) (h:Ci w):V (.pl inr lab) (.mk 27 0 a w [])
 | leave (inr lab:Bool) (k a:Int) (w:AAE) (hk:k=28\/k=29) (h:w=e0\/Ci w):V (.pl inr lab) (.mk k 0 a w [])
 | stop (inr lab:Bool) (a:Int):V (.pl inr lab) (.mk 30 0 a e0 [])
 | on1 (inr lab:Bool) (a:Int) (c x:T) (hc:V .cond c) (hx:V (.st true) x):V (.pl inr lab) (.mk 32 0 a e0 [c,x])
 | on0 (inr lab:Bool) (a a':Int) (c:T) (hc:V .cond c):V (.pl inr lab) (.mk 32 0 a e0 [c,.mk 33 0 a' e0 []])
 | revert (inr lab:Bool) (k a:Int) (c:T) (hk:k=34\/k=35) (hc:V .cond c):V (.pl inr lab) (.mk k 0 a e0 [c])
 | alloc (inr lab:Bool) (a:Int) (w:AAE) (x y:T) (h:Ci w) (hx:¬ isNone x->V .expr x) (hxr:¬ isNone x->isRef x) (hy:¬ isNone y->V .expr y) (hyr:¬ isNone y->isRef y):V (.pl inr lab) (.mk 36 0 a w [x,y])
 | free (inr lab:Bool) (a:Int) (r x:T) (hr:V .expr r) (h:isRef r) (hx:¬ isNone x->V .expr x) (hxr:¬ isNone x->isRef x):V (.pl inr lab) (.mk 37 0 a e0 [r,x])
 | stream0 (inr lab:Bool) (k n a:Int) (w:AAE) (x y:T) (hk:k=38\/k=39) (h0:0<=n) (h99:n<=99) (hw:w=e0\/Ci w) (hx:isNone x) (hy:isNone y):V (.pl inr lab) (.mk k n a w [x,y])
 | stream1 (inr lab:Bool) (k n a a':Int) (w:AAE) (l:List T) (y:T) (hk:k=38\/k=39) (h0:0<=n) (h99:n<=99) (hw:w=e0\/Ci w) (h1:1<=l.length) (h16:l.length<=16) (hl:∀ x,x∈l->V .expr x) (hr:k=38->∀ x,x∈l->isRef x) (hy:isNone y) :
  V (.pl inr lab) (.mk k n a w [.mk 40 0 a' e0 l,y])
 | stream2 (inr lab:Bool) (k n a a' a2:Int) (w:AAE) (l m:List T) (hk:k=38\/k=39) (h0:0<=n) (h99:n<=99) (hw:w=e0\/Ci w) (h1:1<=l.length) (h16:l.length<=16) (hl:∀ x,x∈l->V .expr x) (hr:k=38->∀ x,x∈l->isRef x)
  (h2:1<=m.length) (h32:m.length<=32) (hm:∀ x,x∈m->V .fmt x):V (.pl inr lab) (.mk k n a w [.mk 40 0 a' e0 l,.mk 40 0 a2 e0 m])
 | rd (inr lab:Bool) (k a:Int) (w:AAE) (r x:T) (hk:k=43\/k=44\/k=45) (h:Ci w) (hr:V .expr r) (hrr:isRef r) (hx:¬ isNone x->V .expr x) (h44:k=44->¬ isNone x):V (.pl inr lab) (.mk k 0 a w [r,x])
 | delete (inr lab:Bool) (a:Int) (w:AAE) (x:T) (h:Ci w) (hx:V .expr x):V (.pl inr lab) (.mk 46 0 a w [x])
 | declare (lab:Bool) (a:Int) (l:List T) (h1:1<=l.length) (h60:l.length<=60) (hl:∀ x,x∈l->V .item x):V (.pl false lab) (.mk 47 0 a e0 l)
def cW(L:List Tk)(i:Nat)(ts:List Tk):Prop:=∃ post,L.drop i=ts++post
def cW.cons{L:List Tk}{i:Nat}{x:Tk}{ts:List Tk}(h:cW L i (x::ts)):tok L i=x/\cW L (i+1) ts/\i<L.length:=by
 obtain⟨post,h⟩:=h;have hi:i<L.length:=by
  rcases cY i L.length with h'|h'
  ·exact h'
  ·rw[iF h']at h;cases h
 rw[zF hi]at h;simp only[kE,fL]at h
 refine⟨?_,⟨post,h.2⟩,hi⟩;unfold tok;rw[dH,dQ hi,h.1];rfl
def cW.app{L:List Tk}{i:Nat}{xs ys:List Tk}(h:cW L i (xs++ys)):cW L i xs/\cW L (i+xs.length) ys:=by
 obtain⟨post,h⟩:=h;rw[bT]at h;refine⟨⟨ys++post,h⟩,⟨post,?_⟩⟩;rw[<- fE,h,List.drop_left]
def cW.one{L:List Tk}{i:Nat}{x:Tk}(h:cW L i [x]):tok L i=x/\i<L.length:=⟨h.cons.1,h.cons.2.2⟩
def cW.le{L:List Tk}{i:Nat}{ts:List Tk}(h:cW L i ts)(hi:i<=L.length):i+ts.length<=L.length:=by
 obtain⟨post,h⟩:=h;have:=congrArg List.length h;rw[zV,aO]at this;omega
section
variable{L:List Tk}{i:Nat}{k:Int}{s:AAE}(h:tok L i=⟨k,s⟩)(ss:List ByteArray)
include L i k s h ss
theorem Ms:cD L i ss=(k==6&&eH s ss):=by unfold cD;rw[h]
theorem Gb:iT L i ss=(k==1&&eH s ss):=by unfold iT;rw[h]
end
def eZ{L:List Tk}{i:Nat}{s:AAE}(h:tok L i=O s)(ss:List ByteArray):cD L i ss=eH s ss:=by rw[Ms h];rfl
def yG{L:List Tk}{i:Nat}{s:AAE}(h:tok L i=W s)(ss:List ByteArray):cD L i ss=false:=by rw[Ms h];rfl
def Pa(t:Tk):Bool:=!(t.kind==6&&eH t.text [cJ,lI,fT])
def qD: Nat->Tk->Bool
 | 0,t=>Pa t
 | k+1,t=>qD k t&&!(t.kind==6&&eH t.text (hY (5 - k)))
def aEI{k:Nat}{t:Tk}(h:qD k t=true):Pa t=true:=by
 induction k with
 | zero=>exact h
 | succ k ih=>unfold qD at h;simp only[bA]at h;exact ih h.1
def agZ{k m:Nat}(hm:m<=k){t:Tk}(h:qD k t=true):qD m t=true:=by
 induction k with
 | zero=>
  obtain rfl:m=0:=Nat.le_zero.1 hm;exact h
 | succ k ih=>
  rcases cY m (k+1)with h'|h'
  ·unfold qD at h;simp only[bA]at h;exact ih aB h.1
  ·obtain rfl:m=k+1:=by omega
   exact h
def adK{L:List Tk}{j k:Nat}(h:qD (k+1) (tok L j)=true):cD L j (hY (5 - k))=false:=by
 unfold qD at h;simp only[bA,Gx]at h
 exact h.2
def Zr{L:List Tk}{j:Nat}(h:Pa (tok L j)=true):cD L j [cJ]=false/\cD L j [lI]=false/\cD L j [fT]=false:=by
 unfold Pa at h;unfold cD
 cases hk:(tok L j).kind==6 with
 | false=>simp
 | true=>
  rw[hk]at h
  simp[eH]at h ⊢
  exact⟨λe=>h.1 e,λe=>h.2.1 e,λe=>h.2.2 e⟩
def Bk(L:Bool->List Tk)(f k i:Nat)(t':T)(j:Nat):Prop:=(∀ b,qD k (tok (L b) j)=true)->∀ b,sY (L b) (fN (L b) f) k i=.ok (t',j)
def Ak(L:Bool->List Tk)(f k i:Nat)(t':T)(j:Nat):Prop:=(∀ b,qD k (tok (L b) j)=true)->∀ b,∃ g,(L b).length+1<=g+j/\sY (L b) (fN (L b) f) (k+1) i=binGo (L b) (sY (L b) (fN (L b) f) k) (hY (5 - k)) i g t' j
section
variable{L:Bool->List Tk}
include L
theorem Bk.up{f k i j:Nat}{t':T}(h:Bk L f k i t' j):Bk L f (k+1) i t' j:=by
 intro hs b;have h1:=h (λb=>agZ (bU k) (hs b)) b;unfold sY;rw[h1];unfold aH;simp only
 unfold binGo;rw[aC (by rw[adK (hs b)];decide)]
theorem Bk.ups{f i j:Nat}{t':T}{k m:Nat}(hm:k<=m)(h:Bk L f k i t' j):Bk L f m i t' j:=by
 induction m with
 | zero=>
  obtain rfl:k=0:=Nat.le_zero.1 hm;exact h
 | succ m ih=>
  rcases cY k (m+1)with h'|h'
  ·exact(ih aB).up
  ·obtain rfl:k=m+1:=by omega
   exact h
theorem Bk.ab{f k i j:Nat}{t':T}(h:Bk L f k i t' j):Ak L f k i t' j:=by
 intro hs b;refine⟨(L b).length+1,by omega,?_⟩;have h1:=h hs b
 conv=>lhs;unfold sY
 rw[h1];rfl
theorem Ak.rd{f k i j:Nat}{t':T}(h:Ak L f k i t' j)(hj:∀ b,j<=(L b).length):Bk L f (k+1) i t' j:=by
 intro hs b;obtain⟨g,hg,h1⟩:=h (λb=>agZ (bU k) (hs b)) b;rw[h1];obtain⟨g',rfl⟩:∃ g',g=g'+1:=⟨g - 1,by have:=hj b;omega⟩
 unfold binGo;rw[aC (by rw[adK (hs b)];decide)]
end
def lvT(t:T):Nat:=if t.kind=6 then(level t.word).toNat else 6
def len(t:T):Nat:=(aL false t).length
end Px
end
section
namespace Px
open Lx
def Nz(w:AAE)(h:0<=level w):∃ m:Nat,m<=5/\level w=m/\eH w (hY m)=true/\qD (5 - m) (O w)=true:=by
 have hs:∀ m:Nat,m<=5->eH w (hY m)=true->qD (5 - m) (O w)=true:=by
  intro m hm hw;rw[eX]at hw;have hall:∀ m:Fin 6,((hY m.val).all λs=>qD (5 - m.val) (O s))=true:=by decide +kernel
  exact iJ.1 (hall ⟨m,by omega⟩) w hw
 unfold level at h ⊢;unfold wU at h ⊢
 split at h
 ·rename_i hm;rw[aF hm];exact⟨0,by decide,rfl,hm,hs 0 aD hm⟩
 ·rename_i hn;rw[aC hn]
  unfold wU at h ⊢
  split at h
  ·rename_i hm;rw[aF hm];exact⟨1,by decide,rfl,hm,hs 1 aD hm⟩
  ·rename_i hn;rw[aC hn]
   unfold wU at h ⊢
   split at h
   ·rename_i hm;rw[aF hm];exact⟨2,by decide,rfl,hm,hs 2 aD hm⟩
   ·rename_i hn;rw[aC hn]
    unfold wU at h ⊢
    split at h
    ·rename_i hm;rw[aF hm];exact⟨3,by decide,rfl,hm,hs 3 aD hm⟩
    ·rename_i hn;rw[aC hn]
     unfold wU at h ⊢
     split at h
     ·rename_i hm;rw[aF hm];exact⟨4,by decide,rfl,hm,hs 4 aD hm⟩
     ·rename_i hn;rw[aC hn]
      unfold wU at h ⊢
      split at h
      ·rename_i hm;rw[aF hm];exact⟨5,by decide,rfl,hm,hs 5 aD hm⟩
      ·unfold wU at h;exact mW
def xK{t' t:T}(h:dM t' t=true):t'.kind=t.kind/\t'.n=t.n/\t'.word=t.word/\dK t'.l t.l=true:=by
 obtain⟨k,n,a,w,l⟩:=t;obtain⟨k',n',a',w',l'⟩:=t';unfold dM at h
 simp at h
 exact⟨h.1.1.1,h.1.1.2,h.1.2,h.2⟩
def bY{k n a a':Int}{w:AAE}{l l':List T}(h:dK l' l=true):dM (.mk k n a' w l') (.mk k n a w l)=true:=by
 unfold dM;simp[h]
def bQ: dK [] []=true:=by unfold dK;rfl
def bG{t t':T}{r r':List T}(h:dM t' t=true)(hr:dK r' r=true):dK (t'::r') (t::r)=true:=by
 unfold dK;rw[h,hr];rfl
def WT: ∀ {l l' r r':List T},dK l' l=true->dK r' r=true->dK (l'++r') (l++r)=true:=by
 intro l
 induction l with
 | nil=>intro l' r r' h hr;cases l' with
  | nil=>exact hr
  | cons _ _=>exact oP
 | cons t l ih=>intro l' r r' h hr;cases l' with
  | nil=>exact oP
  | cons t' l'=>
   unfold dK at h;simp only[bA]at h
   exact bG h.1 (ih h.2 hr)
def acJ: ∀ {l l':List T},dK l' l=true->l'.length=l.length:=by
 intro l
 induction l with
 | nil=>intro l' h;cases l' with
  | nil=>rfl
  | cons _ _=>exact oP
 | cons t l ih=>intro l' h;cases l' with
  | nil=>exact oP
  | cons t' l'=>unfold dK at h;simp only[bA]at h;simp[ih h.2]
def Cz: ∀ (ps qs:List (List Tk)),ps.map List.length=qs.map List.length->(aR ps).length=(aR qs).length:=by
 intro ps
 induction ps with
 | nil=>intro qs h;cases qs with
  | nil=>rfl
  | cons _ _=>cases h
 | cons p ps ih=>intro qs h;cases qs with
  | nil=>cases h
  | cons q qs=>
   simp only[dC,fL]at h
   cases ps with
   | nil=>exact PH
   | cons p2 ps=>cases qs with
    | nil=>exact Tz
    | cons q2 qs=>
     show (p++O jS::aR (p2::ps)).length=(q++O jS::aR (q2::qs)).length
     exact To
def azM: ∀ (ps qs:List (List Tk)),ps.map List.length=qs.map List.length->(jN ps).length=(jN qs).length:=by
 intro ps
 induction ps with
 | nil=>intro qs h;cases qs with
  | nil=>rfl
  | cons _ _=>cases h
 | cons p ps ih=>intro qs h;cases qs with
  | nil=>cases h
  | cons q qs=>
   simp only[dC,fL]at h
   cases ps with
   | nil=>exact PH
   | cons p2 ps=>cases qs with
    | nil=>exact Tz
    | cons q2 qs=>
     show (p++O lI::jN (p2::ps)).length=(q++O lI::jN (q2::qs)).length
     exact To
section
variable(ps:List (List Tk))(i:Nat)
include ps i
theorem aBi:(ct ps i).length=(ps.map List.length).getD i 1:=by
 unfold ct;exact IP
theorem aCL:(cb ps i).length=(ps.map List.length).getD i 2:=by
 unfold cb;exact IP
theorem aBy:(ps.getD i []).length=(ps.map List.length).getD i 0:=by
 exact IP
end
section
variable(ps qs:List (List Tk))(h:ps.map List.length=qs.map List.length)
include ps qs h
theorem Km:(bI ps).length=(bI qs).length:=by
 unfold bI;simp only[aV,aO,Cz ps qs h]
theorem aIx(i:Nat):(ct ps i).length=(ct qs i).length:=by rw[aBi,aBi,h]
theorem aIk(i:Nat):(cb ps i).length=(cb qs i).length:=by rw[aCL,aCL,h]
theorem aIq(i:Nat):(ps.getD i []).length=(qs.getD i []).length:=by rw[aBy,aBy,h]
theorem Hf:ps.flatten.length=qs.flatten.length:=by rw[List.length_flatten,List.length_flatten,h]
theorem adT(i:Nat):(ps.drop i).map List.length=(qs.drop i).map List.length:=by rw[vF,vF,h]
theorem aBQ(i:Nat):(ps.take i).map List.length=(qs.take i).map List.length:=by rw[sE,sE,h]
end
def aaL(p q:List Tk)(h:p.length=q.length):[p].map List.length=[q].map List.length:=by simp[h]
def SU(c:T)(p q:List Tk)(h:p.length=q.length)(m:Int):(operand c p m).length=(operand c q m).length:=by
 unfold operand;split
 ·exact Km _ _ (aaL _ _ h)
 ·exact h
def aFb(w:AAE)(c:T)(p q:List Tk)(h:p.length=q.length):(opt w c p).length=(opt w c q).length:=by
 unfold opt;split
 ·rfl
 ·simp only[aV,Km _ _ (aaL _ _ h)]
def ayY(w:AAE)(c:T)(p q:List Tk)(h:p.length=q.length):(lK w c p).length=(lK w c q).length:=by
 unfold lK;split
 ·rfl
 ·simp only[aV,h]
def Yk(ps qs:List (List Tk))(h:ps.map List.length=qs.map List.length):(group ps).length=(group qs).length:=by
 unfold group;simp only[aV,aO,Hf _ _ h]
def aBD(b b':Bool)(a a' k n:Int)(w:AAE)(l:List T)(ps qs bs cs ss ds:List (List Tk))(h1:ps.map List.length=qs.map List.length)(h2:bs.map List.length=cs.map List.length)(h3:ss.map List.length=ds.map List.length):(comb b a k n w l ps bs ss).length=(comb b' a' k n w l qs cs ds).length:=by
 have c:=aIx ps qs h1;have d:=aIk bs cs h2;have e:=aIq ss ds h3;have f:=λi=>Hf _ _ (adT ps qs h1 i)
 have f0:=Hf _ _ h1;have g:=λi=>Yk _ _ (adT ps qs h1 i)
 have g0:=Yk _ _ h1;have br:=Km _ _ h1;have bt:=λi=>Km _ _ (aBQ ps qs h1 i)
 have co:=Cz _ _ h1;have dt:=azM _ _ h1;have o:=λi w'=>aFb w' (part l i) _ _ (c i)
 have po:=λi w'=>ayY w' (part l i) _ _ (c i)
 have od:=λi m=>SU (part l i) _ _ (c i) m
 have b1:=λi=>Km _ _ (aaL _ _ (c i))
 unfold comb lZ pT simple EV mR
 repeat' (first|rfl|(split<;>try rfl))
 all_goals simp only[aV,aO,dD,apply_ite List.length,c,d,e,f,f0,g,g0,br,bt,co,dt,o,po,od,b1]
def eV(b:Bool)(t:T):(aL b t).length=len t:=by
 have H:∀ m (t:T),depth t<=m->(aL b t).length=(aL false t).length/\(lY b t).length=(lY false t).length/\(wI b t).length=(wI false t).length:=by
  intro m
  induction m with
  | zero=>exact Ro
  | succ m ih=>
   intro t h;obtain⟨k,n,a,w,l⟩:=t;have hd:∀ x,x∈l->depth x<=m:=by
    unfold depth at h;have:jX l<=m:=by omega
    clear h
    induction l with
    | nil=>intro x hx;cases hx
    | cons y l ihl=>
     unfold jX at this;intro x hx
     rcases bO.1 hx with rfl|hx
     ·omega
     ·exact ihl aB x hx
   have e1:(l.map (aL b)).map List.length=(l.map (aL false)).map List.length:=by
    rw[vR,vR];exact Gp λx hx=>(ih x (hd x hx)).1
   have e2:(l.map (lY b)).map List.length=(l.map (lY false)).map List.length:=by
    rw[vR,vR];exact Gp λx hx=>(ih x (hd x hx)).2.1
   have e3:(l.map (wI b)).map List.length=(l.map (wI false)).map List.length:=by
    rw[vR,vR];exact Gp λx hx=>(ih x (hd x hx)).2.2
   refine⟨?_,?_,?_⟩
   ·rw[eM,eM];exact aBD _ _ _ _ _ _ _ _ _ _ _ _ _ _ e1 e2 e3
   ·rw[zX,zX];exact Km _ _ e1
   ·rw[KO,KO];exact Hf _ _ e1
 exact(H (depth t) t (aG _)).1
def Rd{ι:Type}(bi:ι->Bool)(L:ι->List Tk)(read:ι->Nat->R T)(S:Tk->Bool)(t:T):Prop:=∀ i,(∀ b,cW (L b) i (aL (bi b) t))->∃ t',dM t' t=true/\((∀ b,S (tok (L b) (i+len t))=true)->∀ b,read b i=.ok (t',i+len t))
section
variable{ι:Type}(bi:ι->Bool)(L:ι->List Tk)(read:ι->Nat->R T)(S:Tk->Bool)(hc:S (O jS)=true)
include ι bi L read S hc
theorem aGG:∀ (r:List T),(∀ x,x∈r->Rd bi L read S x)->∀ i,(r≠[]->∀ b,cW (L b) i (O jS::aR (r.map (aL (bi b)))))->∃ r',dK r' r=true/\∀ j,j=i+(if r=[]then 0 else 1+(aR (r.map (aL false))).length)->(∀ b,S (tok (L b) j)=true/\cD (L b) j [jS]=false)->∀ b acc n,r.length<=n->iP (L b) (read b) n acc i=.ok (acc++r',j):=by
 intro r
 induction r with
 | nil=>
  intro _ i _;refine⟨[],bQ,λj hj hS b acc n _=>?_⟩;rw[aF rfl,lE]at hj;subst hj
  cases n with
  | zero=>unfold iP;simp
  | succ n=>unfold iP;rw[aC (by rw[(hS b).2];decide)];simp
 | cons x r ih=>
  intro hr i hst;have hst:=hst aI;have hx:∀ b,cW (L b) (i+1) (aL (bi b) x):=by
   exact PO
  have hrest:r≠[]->∀ b,cW (L b) (i+1+len x) (O jS::aR (r.map (aL (bi b)))):=by
   exact SD
  obtain⟨x',hx1,hx2⟩:=hr x (eW ..) (i+1) hx;obtain⟨r',hr1,hr2⟩:=ih (λy hy=>hr y (jZ _ hy)) (i+1+len x) hrest;refine⟨x'::r',bG hx1 hr1,λj hj hS b acc n hn=>?_⟩;obtain⟨m,rfl⟩:∃ m,n=m+1:=⟨n - 1,by simp at hn;omega⟩
  have hlen:j=i+1+len x+(if r=[]then 0 else 1+(aR (r.map (aL false))).length):=by
   rw[hj,aC aI]
   cases r with
   | nil=>simp[aR,len];omega
   | cons y r=>rw[aC aI];show i+(1+(aL false x++O jS::aR ((y::r).map (aL false))).length)=_;rw[aO,aV];unfold len;omega
  have hSx:∀ b,S (tok (L b) (i+1+len x))=true:=by
   exact Pk
  unfold iP;rw[aF (by rw[eZ (hst b).cons.1];decide),hx2 hSx b];unfold aH;simp only
  rw[hr2 j hlen hS b (acc++[x']) m Dh]
  simp
theorem abG(l:List T)(hne:l≠[])(hl:∀ x,x∈l->Rd bi L read S x)(i:Nat)(hst:∀ b,cW (L b) i (aR (l.map (aL (bi b))))):∃ l',dK l' l=true/\((∀ b,S (tok (L b) (i+(aR (l.map (aL false))).length))=true/\cD (L b) (i+(aR (l.map (aL false))).length) [jS]=false)->∀ b most,l.length<=most->eR (L b) most (read b) i=.ok (l',i+(aR (l.map (aL false))).length)):=by
 cases l with
 | nil=>exact absurd rfl hne
 | cons x r=>
  have hx:∀ b,cW (L b) i (aL (bi b) x):=by
   exact Tn
  have hrest:r≠[]->∀ b,cW (L b) (i+len x) (O jS::aR (r.map (aL (bi b)))):=by
   exact Qm
  obtain⟨x',hx1,hx2⟩:=hl x (eW ..) i hx;obtain⟨r',hr1,hr2⟩:=aGG bi L read S hc r (λy hy=>hl y (jZ _ hy)) (i+len x) hrest;refine⟨x'::r',bG hx1 hr1,λhS b most hn=>?_⟩;have hlen:i+(aR ((x::r).map (aL false))).length=i+len x+(if r=[]then 0 else 1+(aR (r.map (aL false))).length):=by
   cases r with
   | nil=>simp[aR,len]
   | cons y r=>rw[aC aI];show i+(aL false x++O jS::aR ((y::r).map (aL false))).length=_;rw[aO,aV];unfold len;omega
  have hSx:∀ b,S (tok (L b) (i+len x))=true:=by
   exact Pk
  unfold eR;rw[hx2 hSx b];unfold aH;simp only
  rw[hr2 _ hlen hS b [x'] (most - 1) Dh];rfl
end
end Px
end
section
namespace Px
open Lx
def lR(b:Bool)(n a:Int)(w:AAE):aL b (.mk 1 n a w [])=[⟨n,w⟩]:=by rw[eM];rfl
def Ge(b:Bool)(n a:Int)(w:AAE)(l:List T):aL b (.mk 2 n a w l)=jN (l.map (aL b)):=by rw[eM];rfl
def xV(b:Bool)(a:Int)(w:AAE):aL b (.mk 3 0 a w [])=[W w]:=by rw[eM];simp[comb,aR]
def yP(b:Bool)(a:Int)(w:AAE)(l:List T):aL b (.mk 3 1 a w l)=W w::bI (l.map (aL b)):=by rw[eM];simp[comb]
section
variable(b:Bool)(n a:Int)(w:AAE)
include b n a w
theorem Ic(x y:T):aL b (.mk 4 n a w [x,y])=aL b x++O fT::aL b y:=by rw[eM];rfl
theorem Ij(x:T):aL b (.mk 5 n a w [x])=O w::operand x (aL b x) 6:=by rw[eM];rfl
theorem Gh(x y:T):aL b (.mk 6 n a w [x,y])=operand x (aL b x) (level w)++O w::operand y (aL b y) (level w+1):=by rw[eM];rfl
theorem BV(l:List T):aL b (.mk 7 n a w l)=[O Cn]:=by rw[eM];rfl
end
def xB(t:Tk):Bool:=!(t.kind==6&&eH t.text [cJ,lI])
def aoE{t:Tk}(h:Pa t=true):xB t=true:=by
 unfold Pa at h;unfold xB
 cases hk:t.kind==6 with
 | false=>rfl
 | true=>
  rw[hk]at h
  simp[eH]at h ⊢
  exact⟨λe=>h.1 e,λe=>h.2.1 e⟩
def EC{L:List Tk}{j:Nat}(h:xB (tok L j)=true):cD L j [cJ]=false/\cD L j [lI]=false:=by
 unfold xB at h;unfold cD
 cases hk:(tok L j).kind==6 with
 | false=>simp
 | true=>
  rw[hk]at h
  simp[eH]at h ⊢
  exact⟨λe=>h.1 e,λe=>h.2 e⟩
def CE(t:T):Prop:=∀ (L:Bool->List Tk) (i:Nat),(∀ b,cW (L b) i (aL b t))->∃ t',dM t' t=true/\
 (∀ f k,len t<=f->k<=6->6 - k<=lvT t->Bk L f k i t' (i+len t))/\
 (∀ f k,len t<=f->k<6->5 - k<=lvT t->Ak L f k i t' (i+len t))/\
 (isRef t->∀ f,len t<=f+1->(∀ b,xB (tok (L b) (i+len t))=true)->∀ b,∃ g,(L b).length+1<=g+(i+len t)/\eO (L b) (mY (L b) f) i=pZ (L b) (mY (L b) f) i g t' (i+len t))/\
 (t.kind=2->∀ f,len t<=f+1->(∀ b,xB (tok (L b) (i+len t))=true)->∀ b,mG (L b) (mY (L b) f) i=.ok (t',i+len t))
def aeV(t:T):Prop:=∀ (L:Bool->List Tk) (i:Nat),(∀ b,cW (L b) i (aL b t))->∃ t',dM t' t=true/\
 ∀ f,len t<=f+1->(∀ b,cD (L b) (i+len t) [cJ]=false)->∀ b,qY (L b) (mY (L b) f) i=.ok (t',i+len t)
def atF(t:T):Prop:=∀ (L:Bool->List Tk) (i:Nat),(∀ b,cW (L b) i (aL b t))->∃ t',dM t' t=true/\
 ∀ f,len t<=f->(∀ b,qD 6 (tok (L b) (i+len t))=true)->∀ b,cV (L b) (mY (L b) f) i=.ok (t',i+len t)
def yN(t:T):Prop:=∃ x:Tk,(∀ b,∃ r,aL b t=x::r)/\(x.kind=6->x.text=jR\/x.text=gG\/x.text=rA\/x.text=cJ)/\(isRef t\/t.kind=3->x.kind=1)
def Cm: So->T->Prop
 | .expr,t=>CE t/\yN t
 | .part,t=>aeV t/\yN t
 | .arg,t=>atF t
 | _,_=>True
def Qe{L:Bool->List Tk}{i:Nat}{t t':T}(hk:t.kind≠6)(h:∀ f,len t<=f->Bk L f 0 i t' (i+len t)):(∀ f k,len t<=f->k<=6->6 - k<=lvT t->Bk L f k i t' (i+len t))/\(∀ f k,len t<=f->k<6->5 - k<=lvT t->Ak L f k i t' (i+len t)):=
 ⟨λf k hf _ _=>(h f hf).ups (aS _),λf k hf _ _=>((h f hf).ups (aS _)).ab⟩
section
variable{L:Bool->List Tk}{i:Nat}
include L i
theorem afI{t t':T}(hst:∀ b,cW (L b) i (bI [aL b t]))(f:Nat)(h:Bk L f 6 (i+1) t' (i+1+len t)):Bk L (f+1) 0 i t' (i+1+len t+1):=by
 intro _ b;have h1:=(hst b).cons;have h2:=cW.app h1.2.1;rw[show aR [aL b t]=aL b t from rfl,eV]at h2;have h3:=h2.2.one;have hs:∀ b,qD 6 (tok (L b) (i+1+len t))=true:=by
  intro b;have h1:=(hst b).cons;have h2:=cW.app h1.2.1;rw[show aR [aL b t]=aL b t from rfl,eV]at h2;rw[h2.2.one.1];decide +kernel
 show fN (L b) (f+1) i=_
 unfold fN;rw[aC IM,aF IM,h hs b];unfold aH;simp only
 unfold aW;rw[aF (by rw[eZ h3.1];decide +kernel)]
theorem Zp{t:T}{m:Nat}(hm:m<=6)(hc:CE t)(hst:∀ b,cW (L b) i (operand t (aL b t) (m:Int))):∃ t',dM t' t=true/\∀ f,(operand t (aL false t) (m:Int)).length<=f->Bk L f (6 - m) i t' (i+(operand t (aL false t) (m:Int)).length):=by
 by_cases hb:t.kind=6/\level t.word<(m:Int)
 ·have e:∀ b,operand t (aL b t) (m:Int)=bI [aL b t]:=λb=>by unfold operand;rw[aF hb]
  have el:(bI [aL false t]).length=len t+2:=by simp[bI,aR,len]
  rw[e false,el];have hst':∀ b,cW (L b) i (bI [aL b t]):=λb=>by have:=hst b;rwa[e b]at this
  obtain⟨t',h1,h2,_⟩:=hc L (i+1) (λb=>by
   have h1:=(hst' b).cons.2.1
   exact(cW.app h1).1)
  refine⟨t',h1,λf hf=>?_⟩;obtain⟨f',rfl⟩:∃ f',f=f'+1:=⟨f - 1,by omega⟩
  have:=afI hst' f' (h2 f' 6 aB aB aB);rw[show i+1+len t+1=i+(len t+2)from by omega]at this;exact this.ups (aS _)
 ·have e:∀ b,operand t (aL b t) (m:Int)=aL b t:=λb=>by unfold operand;rw[aC hb]
  rw[e false];have hst':∀ b,cW (L b) i (aL b t):=λb=>by have:=hst b;rwa[e b]at this
  obtain⟨t',h1,h2,_⟩:=hc L i hst';refine⟨t',h1,λf hf=>?_⟩;have hlv:6 - (6 - m)<=lvT t:=by
   exact Rs
  exact h2 f (6 - m) hf aB hlv
theorem asB{t:T}{m:Nat}(hm:m<=5)(hc:CE t)(hst:∀ b,cW (L b) i (operand t (aL b t) (m:Int))):∃ t',dM t' t=true/\∀ f,(operand t (aL false t) (m:Int)).length<=f->Ak L f (5 - m) i t' (i+(operand t (aL false t) (m:Int)).length):=by
 by_cases hb:t.kind=6/\level t.word<(m:Int)
 ·have e:∀ b,operand t (aL b t) (m:Int)=bI [aL b t]:=λb=>by unfold operand;rw[aF hb]
  have el:(bI [aL false t]).length=len t+2:=by simp[bI,aR,len]
  rw[e false,el];have hst':∀ b,cW (L b) i (bI [aL b t]):=λb=>by have:=hst b;rwa[e b]at this
  obtain⟨t',h1,h2,_⟩:=hc L (i+1) (λb=>by
   have h1:=(hst' b).cons.2.1
   exact(cW.app h1).1)
  refine⟨t',h1,λf hf=>?_⟩;obtain⟨f',rfl⟩:∃ f',f=f'+1:=⟨f - 1,by omega⟩
  have:=afI hst' f' (h2 f' 6 aB aB aB);rw[show i+1+len t+1=i+(len t+2)from by omega]at this;exact(this.ups (aS _)).ab
 ·have e:∀ b,operand t (aL b t) (m:Int)=aL b t:=λb=>by unfold operand;rw[aC hb]
  rw[e false];have hst':∀ b,cW (L b) i (aL b t):=λb=>by have:=hst b;rwa[e b]at this
  obtain⟨t',h1,_,h3,_⟩:=hc L i hst';refine⟨t',h1,λf hf=>?_⟩;have hlv:5 - (5 - m)<=lvT t:=by
   exact Rs
  exact h3 f (5 - m) hf aB hlv
end
end Px
end
section
namespace Px
open Lx
def aFV(n a:Int)(w:AAE)(x y:T):len (.mk 6 n a w [x,y])=(operand x (aL false x) (level w)).length+1+(operand y (aL false y) (level w+1)).length:=by
 unfold len;rw[Gh,aO,aV];omega
def KH(b:Bool)(t:T)(m:Int):(operand t (aL b t) m).length=(operand t (aL false t) m).length:=SU t _ _ (by rw[eV];rfl) m
def aKi(a:Int)(w:AAE)(x y:T)(hw:0<=level w)(hx:CE x)(hy:CE y):CE (.mk 6 0 a w [x,y]):=by
 intro L i hst;obtain⟨m,hm,hlv,hmem,hstop⟩:=Nz w hw;have hst:∀ b,cW (L b) i (operand x (aL b x) (m:Int)++O w::operand y (aL b y) ((m+1:Nat):Int)):=λb=>by
  have:=hst b;rw[Gh,hlv]at this;exact this
 obtain⟨x',hx1,hx2⟩:=asB (m:=m) hm hx (λb=>(cW.app (hst b)).1);have hst2:∀ b,cW (L b) (i+(operand x (aL false x) (m:Int)).length) (O w::operand y (aL b y) ((m+1:Nat):Int)):=λb=>by
  have:=(cW.app (hst b)).2;rwa[KH]at this
 obtain⟨y',hy1,hy2⟩:=Zp (m:=m+1) aB hy (λb=>(hst2 b).cons.2.1);have hlen:len (.mk 6 0 a w [x,y])=(operand x (aL false x) (m:Int)).length+1+(operand y (aL false y) ((m+1:Nat):Int)).length:=by
  rw[aFV,hlv];rfl
 have hlvT:lvT (.mk 6 0 a w [x,y])=m:=by
  unfold lvT
  simp[T.kind,T.word,hlv]
 generalize hlx:(operand x (aL false x) (m:Int)).length=lx at hx2 hst2 hlen hy2;generalize hly:(operand y (aL false y) ((m+1:Nat):Int)).length=ly at hlen hy2;have hjl:∀ b,i+lx+1+ly<=(L b).length:=by
  intro b;have h1:=(hst2 b).cons;have:=h1.2.1.le aB;rw[KH,hly]at this;omega
 have hA:∀ f,len (.mk 6 0 a w [x,y])<=f->Ak L f (5 - m) i (.mk 6 0 i w [x',y']) (i+lx+1+ly):=by
  intro f hf hs b;rw[hlen]at hf;obtain⟨g,hg,h1⟩:=hx2 f aB (λb=>by rw[(hst2 b).cons.1];exact hstop) b;have hlt:=(hst2 b).cons.2.2;obtain⟨g',rfl⟩:∃ g',g=g'+1:=⟨g - 1,by omega⟩
  have h2:=hy2 f aB (by rw[show 6 - (m+1)=5 - m from by omega];exact hs) b;rw[show 6 - (m+1)=5 - m from by omega]at h2;refine⟨g',by omega,?_⟩;rw[h1]
  conv=>lhs;unfold binGo
  rw[aF (by rw[eZ (hst2 b).cons.1,show 5 - (5 - m)=m from by omega];exact hmem),h2];unfold aH;simp only
  rw[(hst2 b).cons.1];rfl
 refine⟨.mk 6 0 i w [x',y'],bY (bG hx1 (bG hy1 bQ)),?_,?_,?_,?_⟩
 ·intro f k hf hk6 hk;rw[hlvT]at hk;rw[hlen,<- gJ,<- gJ];exact((hA f hf).rd hjl).ups aB
 ·intro f k hf hk6 hk;rw[hlvT]at hk;rw[hlen,<- gJ,<- gJ]
  rcases cY (5 - m) k with h|h
  ·exact(((hA f hf).rd hjl).ups aB).ab
  ·obtain rfl:k=5 - m:=by omega
   exact hA f hf
 ·exact Jd
 exact Hv
def aLH(a:Int)(w:AAE)(x:T)(hw:w=jR\/w=gG\/w=rA)(hx:CE x):CE (.mk 5 0 a w [x]):=by
 intro L i hst;have hst:∀ b,cW (L b) i (O w::operand x (aL b x) ((6:Nat):Int)):=λb=>by have:=hst b;rwa[Ij]at this
 obtain⟨x',hx1,hx2⟩:=Zp (m:=6) aB hx (λb=>(hst b).cons.2.1);have hlen:len (.mk 5 0 a w [x])=1+(operand x (aL false x) ((6:Nat):Int)).length:=by unfold len;rw[Ij,aV,CV];rfl
 generalize (operand x (aL false x) ((6:Nat):Int)).length=lx at hx2 hlen;have hB:∀ f,len (.mk 5 0 a w [x])<=f->Bk L f 0 i (.mk 5 0 i w [x']) (i+len (.mk 5 0 a w [x])):=by
  intro f hf hs b;rw[hlen]at hf hs ⊢;obtain⟨f',rfl⟩:∃ f',f=f'+1:=⟨f - 1,by omega⟩
  have h2:=hx2 f' aB (by rw[gJ];exact hs) b
  show fN (L b) (f'+1) i=_
  unfold fN;rw[aF (by rw[eZ (hst b).cons.1];rcases hw with rfl|rfl|rfl<;>decide +kernel)];have h3:fN (L b) f' (i+1)=.ok (x',i+1+lx):=h2;rw[h3];unfold aH;simp only
  rw[(hst b).cons.1,gJ];rfl
 refine⟨.mk 5 0 i w [x'],bY (bG hx1 bQ),(Qe fZ hB).1,(Qe fZ hB).2,?_,?_⟩
 ·exact Jd
 exact Hv
def aEv(n a:Int)(w:AAE)(h:cOK n w):CE (.mk 1 n a w []):=by
 intro L i hst;have hst:∀ b,cW (L b) i [⟨n,w⟩]:=λb=>by have:=hst b;rwa[lR]at this
 have hlen:len (.mk 1 n a w [])=1:=by unfold len;rw[lR];rfl
 have hB:∀ f,len (.mk 1 n a w [])<=f->Bk L f 0 i (.mk 1 n i w []) (i+len (.mk 1 n a w [])):=by
  intro f hf hs b;rw[hlen]at hf ⊢;obtain⟨f',rfl⟩:∃ f',f=f'+1:=⟨f - 1,by omega⟩
  have ht:=(hst b).one.1;have h6:(n==6)=false:=by rcases h.1 with rfl|rfl|rfl|rfl<;>rfl
  have hc:dP (L b) i=true:=by
   unfold dP;rw[ht];rcases h.1 with rfl|rfl|rfl|rfl<;>rfl
  show fN (L b) (f'+1) i=_
  unfold fN;rw[aC (by rw[Ms ht,h6];simp),aC (by rw[Ms ht,h6];simp),aF hc];unfold cQ;rw[aF hc,ht]
 refine⟨.mk 1 n i w [],bY bQ,(Qe fZ hB).1,(Qe fZ hB).2,?_,?_⟩
 ·exact Jd
 exact Hv
def ajU{L:List Tk}{i f:Nat}{w:AAE}(h:tok L i=W w):fN L (f+1) i=eO L (mY L f) i:=by
 conv=>lhs;unfold fN
 rw[aC (by rw[yG h];decide),aC (by rw[yG h];decide),aC (by unfold dP;rw[h];simp[W])];rfl
def aGV{L:Bool->List Tk}{i:Nat}{t t':T}(hr:isRef t)(hf1:yN t)(hst:∀ b,cW (L b) i (aL b t))(h:∀ f,len t<=f+1->(∀ b,xB (tok (L b) (i+len t))=true)->∀ b,∃ g,(L b).length+1<=g+(i+len t)/\eO (L b) (mY (L b) f) i=pZ (L b) (mY (L b) f) i g t' (i+len t)):∀ f,len t<=f->Bk L f 0 i t' (i+len t):=by
 intro f hf hs b;obtain⟨x,hx1,_,hx3⟩:=hf1;have hxk:=hx3 (.inl hr);obtain⟨r,hr1⟩:=hx1 b;have ht:tok (L b) i=x:=by have:=hst b;rw[hr1]at this;exact this.cons.1
 have hlt:i<(L b).length:=by have:=hst b;rw[hr1]at this;exact this.cons.2.2
 have hle:=(hst b).le aB;rw[eV]at hle;have hpos:1<=len t:=by rw[<- eV b,hr1];simp
 obtain⟨f',rfl⟩:∃ f',f=f'+1:=⟨f - 1,by omega⟩
 have htw:tok (L b) i=W x.text:=by rw[ht];obtain⟨k,s⟩:=x;simp only at hxk;subst hxk;rfl
 show fN (L b) (f'+1) i=_
 rw[ajU htw];obtain⟨g,hg,h1⟩:=h f' aB (λb=>aoE (hs b)) b;rw[h1];obtain⟨g',rfl⟩:∃ g',g=g'+1:=⟨g - 1,by omega⟩
 unfold pZ;rw[aC (by rw[(Zr (hs b)).2.2];decide)]
def aKh(a:Int)(x y:T)(hx:CE x)(hfx:yN x)(hr:isRef x)(hy:CE y)(h2:y.kind=2):CE (.mk 4 0 a e0 [x,y])/\yN (.mk 4 0 a e0 [x,y]):=by
 have hfirst:yN (.mk 4 0 a e0 [x,y]):=by
  obtain⟨z,h1,h2,h3⟩:=hfx;exact Sa
 refine⟨?_,hfirst⟩;intro L i hst0;have hst:∀ b,cW (L b) i (aL b x++O fT::aL b y):=λb=>by have:=hst0 b;rwa[Ic]at this
 obtain⟨x',hx1,_,_,hx2,_⟩:=hx L i (λb=>(cW.app (hst b)).1);have hst2:∀ b,cW (L b) (i+len x) (O fT::aL b y):=λb=>by have:=(cW.app (hst b)).2;rwa[eV]at this
 obtain⟨y',hy1,_,_,_,hy2⟩:=hy L (i+len x+1) (λb=>(hst2 b).cons.2.1);have hlen:len (.mk 4 0 a e0 [x,y])=len x+1+len y:=by unfold len;rw[Ic,aO,aV];omega
 have hA:isRef (.mk 4 0 a e0 [x,y])->∀ f,len (.mk 4 0 a e0 [x,y])<=f+1->(∀ b,xB (tok (L b) (i+len (.mk 4 0 a e0 [x,y])))=true)->∀ b,∃ g,(L b).length+1<=g+(i+len (.mk 4 0 a e0 [x,y]))/\
  eO (L b) (mY (L b) f) i=pZ (L b) (mY (L b) f) i g (node 4 i [x',y']) (i+len (.mk 4 0 a e0 [x,y])):=by
  intro _ f hf hs b;rw[hlen]at hf hs ⊢;obtain⟨g,hg,h1⟩:=hx2 hr f aB (λb=>by rw[(hst2 b).cons.1];decide +kernel) b;have hlt:=(hst2 b).cons.2.2;obtain⟨g',rfl⟩:∃ g',g=g'+1:=⟨g - 1,by omega⟩
  have h3:=hy2 h2 f aB (by intro b;rw[show i+len x+1+len y=i+(len x+1+len y)from by omega];exact hs b) b;refine⟨g',by omega,?_⟩;rw[h1]
  conv=>lhs;unfold pZ
  rw[aF (by rw[eZ (hst2 b).cons.1];decide +kernel),h3];unfold aH;simp only
  rw[show i+len x+1+len y=i+(len x+1+len y)from by omega]
 have hB:=aGV (.inr rfl) hfirst hst0 (hA (.inr rfl));exact⟨node 4 i [x',y'],bY (bG hx1 (bG hy1 bQ)),(Qe fZ hB).1,(Qe fZ hB).2,hA,λh=>absurd h fZ⟩
def azY(L:Bool->List Tk):∀ (r:List T),(∀ x,x∈r->aeV x)->∀ (n:Nat),r.length<=n->∀ i,(r≠[]->∀ b,cW (L b) i (O lI::jN (r.map (aL b))))->∃ r',dK r' r=true/\∀ j,j=i+(if r=[]then 0 else 1+(jN (r.map (aL false))).length)->∀ f,(if r=[]then 0 else(jN (r.map (aL false))).length)<=f+1->(∀ b,xB (tok (L b) j)=true)->∀ b acc,iM (L b) (mY (L b) f) n acc i=.ok (acc++r',j):=by
 intro r
 induction r with
 | nil=>
  intro _ n _ i _;refine⟨[],bQ,λj hj f _ hS b acc=>?_⟩;rw[aF rfl,lE]at hj;subst hj
  cases n with
  | zero=>unfold iM;simp
  | succ n=>unfold iM;rw[aC (by rw[(EC (hS b)).2];decide)];simp
 | cons x r ih=>
  intro hr n hn i hst;have hst:=hst aI;obtain⟨m,rfl⟩:∃ m,n=m+1:=⟨n - 1,by simp at hn;omega⟩
  have hx:∀ b,cW (L b) (i+1) (aL b x):=by
   exact PO
  have hrest:r≠[]->∀ b,cW (L b) (i+1+len x) (O lI::jN (r.map (aL b))):=by
   exact SD
  obtain⟨x',hx1,hx2⟩:=hr x (eW ..) L (i+1) hx;obtain⟨r',hr1,hr2⟩:=ih (λy hy=>hr y (jZ _ hy)) m Dh (i+1+len x) hrest;refine⟨x'::r',bG hx1 hr1,λj hj f hf hS b acc=>?_⟩;have hlen:j=i+1+len x+(if r=[]then 0 else 1+(jN (r.map (aL false))).length)/\len x+(if r=[]then 0 else 1+(jN (r.map (aL false))).length)<=f+1:=by
   rw[aC aI]at hj hf
   cases r with
   | nil=>simp[jN,len]at hj hf ⊢; omega
   | cons y r=>
    have e:(jN ((x::y::r).map (aL false))).length=len x+(1+(jN ((y::r).map (aL false))).length):=by
     show (aL false x++O lI::jN ((y::r).map (aL false))).length=_
     rw[aO,aV];unfold len;omega
    rw[e]at hj hf;rw[aC aI];omega
  have hSx:∀ b,cD (L b) (i+1+len x) [cJ]=false:=by
   intro b
   by_cases hne:r=[]
   ·rw[hlen.1,aF hne,lE]at hS;exact(EC (hS b)).1
   ·rw[eZ (hrest hne b).cons.1];decide +kernel
  unfold iM;rw[aF (by rw[eZ (hst b).cons.1];decide +kernel),hx2 f aB hSx b];unfold aH;simp only
  have hf2:(if r=[]then 0 else(jN (r.map (aL false))).length)<=f+1:=by
   have:=hlen.2
   by_cases hne:r=[]
   ·rw[aF hne];omega
   ·rw[aC hne]at this ⊢; omega
  rw[hr2 j hlen.1 f hf2 hS b (acc++[x'])]
  simp
def aKc(a:Int)(ps:List T)(h1:1<=ps.length)(h8:ps.length<=8)(hp:∀ p,p∈ps->aeV p)(hf:∀ p,p∈ps->yN p/\p.kind=3):CE (.mk 2 0 a e0 ps)/\yN (.mk 2 0 a e0 ps):=by
 cases ps with
 | nil=>simp at h1
 | cons x r=>
  have hfirst:yN (.mk 2 0 a e0 (x::r)):=by
   exact RS
  refine⟨?_,hfirst⟩;intro L i hst0;have hst:∀ b,cW (L b) i (jN ((x::r).map (aL b))):=λb=>by have:=hst0 b;rwa[Ge]at this
  have hx:∀ b,cW (L b) i (aL b x):=by
   exact Tn
  have hrest:r≠[]->∀ b,cW (L b) (i+len x) (O lI::jN (r.map (aL b))):=by
   exact Qm
  obtain⟨x',hx1,hx2⟩:=hp x (eW ..) L i hx;obtain⟨r',hr1,hr2⟩:=azY L r (λy hy=>hp y (jZ _ hy)) 7 (by simp at h8;omega) (i+len x) hrest;have hlen:len (.mk 2 0 a e0 (x::r))=len x+(if r=[]then 0 else 1+(jN (r.map (aL false))).length):=by
   unfold len;rw[Ge]
   cases r with
   | nil=>simp[jN]
   | cons y r=>rw[aC aI];show (aL false x++O lI::jN ((y::r).map (aL false))).length=_;rw[aO,aV];omega
  have hP:∀ f,len (.mk 2 0 a e0 (x::r))<=f+1->(∀ b,xB (tok (L b) (i+len (.mk 2 0 a e0 (x::r))))=true)->∀ b,mG (L b) (mY (L b) f) i=.ok (node 2 i (x'::r'),i+len (.mk 2 0 a e0 (x::r))):=by
   intro f hf hS b;have hSx:∀ b,cD (L b) (i+len x) [cJ]=false:=by
    intro b
    by_cases hne:r=[]
    ·have:=hS b;rw[hlen,aF hne,lE]at this;exact(EC this).1
    ·rw[eZ (hrest hne b).cons.1];decide +kernel
   unfold mG;rw[hx2 f (by rw[hlen]at hf;omega) hSx b];unfold aH;simp only
   have hf2:(if r=[]then 0 else(jN (r.map (aL false))).length)<=f+1:=by
    rw[hlen]at hf
    by_cases hne:r=[]
    ·rw[aF hne];omega
    ·rw[aC hne]at hf ⊢; omega
   rw[hr2 (i+len (.mk 2 0 a e0 (x::r))) (by rw[hlen];omega) f hf2 hS b [x']];rfl
  have hA:isRef (.mk 2 0 a e0 (x::r))->∀ f,len (.mk 2 0 a e0 (x::r))<=f+1->(∀ b,xB (tok (L b) (i+len (.mk 2 0 a e0 (x::r))))=true)->∀ b,∃ g,(L b).length+1<=g+(i+len (.mk 2 0 a e0 (x::r)))/\
   eO (L b) (mY (L b) f) i=pZ (L b) (mY (L b) f) i g (node 2 i (x'::r')) (i+len (.mk 2 0 a e0 (x::r))):=by
   intro _ f hf hS b;refine⟨(L b).length+1,by omega,?_⟩;unfold eO;rw[hP f hf hS b];rfl
  have hB:=aGV (.inl rfl) hfirst hst0 (hA (.inl rfl));exact⟨node 2 i (x'::r'),bY (bG hx1 hr1),(Qe fZ hB).1,(Qe fZ hB).2,hA,λ_=>hP⟩
def aEq(a:Int)(w:AAE):aeV (.mk 3 0 a w [])/\yN (.mk 3 0 a w []):=by
 refine⟨?_,⟨W w,λb=>⟨[],xV b a w⟩,λh=>absurd h rS,λ_=>rfl⟩⟩;intro L i hst;have hlen:len (.mk 3 0 a w [])=1:=by unfold len;rw[xV];rfl
 refine⟨.mk 3 0 i w [],bY bQ,λf _ hS b=>?_⟩;have hst:cW (L b) i [W w]:=by have:=hst b;rwa[xV]at this
 rw[hlen]at hS ⊢;unfold qY iN;rw[aF (by unfold isName;rw[hst.one.1];rfl)];unfold aH;simp only
 rw[aC (by rw[hS b];decide),hst.one.1];rfl
abbrev Fu(N:Nat):={ p:Bool×Nat // N<=p.2 }
def aDs(L:Bool->List Tk)(N:Nat)(x:T)(h:atF x)(hf:len x<=N):Rd (ι:=Fu N) (λp=>p.1.1) (λp=>L p.1.1) (λp=>cV (L p.1.1) (mY (L p.1.1) p.1.2)) (qD 6) x:=by
 intro i hst;obtain⟨t',h1,h2⟩:=h L i (λb=>hst ⟨(b,N),aG _⟩);exact⟨t',h1,λhS p=>h2 p.1.2 (aZ hf p.2) (λb=>hS ⟨(b,N),aG _⟩) p.1.1⟩
def abF{x:T}:∀ {l:List T},x∈l->len x<=(aR (l.map (aL false))).length:=by
 intro l
 induction l with
 | nil=>intro h;cases h
 | cons y r ih=>
  intro h
  cases r with
  | nil=>
   obtain rfl:=cO.1 h;exact aG _
  | cons z r=>
   have e:(aR ((y::z::r).map (aL false))).length=len y+(1+(aR ((z::r).map (aL false))).length):=by
    show (aL false y++O jS::aR ((z::r).map (aL false))).length=_
    rw[aO,aV];unfold len;omega
   rw[e]
   exact IJ
def aFH(a:Int)(w:AAE)(l:List T)(h16:l.length<=16)(hl:∀ x,x∈l->atF x)(hne:∀ x,x∈l->∀ b,∃ y r,aL b x=y::r/\(y.kind=6->y.text≠dA)):aeV (.mk 3 1 a w l)/\yN (.mk 3 1 a w l):=by
 refine⟨?_,⟨W w,λb=>⟨_,yP b a w l⟩,λh=>absurd h rS,λ_=>rfl⟩⟩;intro L i hst;have hst:∀ b,cW (L b) i (W w::O cJ::(aR (l.map (aL b))++[O dA])):=λb=>by have:=hst b;rwa[yP]at this
 have hlen:len (.mk 3 1 a w l)=(aR (l.map (aL false))).length+3:=by unfold len;rw[yP];simp[bI]
 have hlc:∀ b,(aR (l.map (aL b))).length=(aR (l.map (aL false))).length:=λb=>Cz _ _ Dr
 cases l with
 | nil=>
  refine⟨.mk 3 1 i w [],bY bQ,λf _ hS b=>?_⟩;have h1:=(hst b).cons;have h2:=h1.2.1.cons;have h3:cW (L b) (i+1+1) [O dA]:=h2.2.1;rw[hlen];unfold qY iN;rw[aF (by unfold isName;rw[h1.1];rfl)];unfold aH;simp only
  rw[aF DZ,aF (by rw[eZ h3.one.1];decide +kernel),h1.1];rfl
 | cons x r=>
  obtain⟨y0,r0,hy0,hy1⟩:∃ y0 r0,aR ((x::r).map (aL false))=y0::r0/\True:=by
   obtain⟨y,s,h1,h2⟩:=hne x (eW ..) false
   cases r with
   | nil=>exact⟨y,s,h1,trivial⟩
   | cons z r=>exact⟨y,s++O jS::aR ((z::r).map (aL false)),by show aL false x++_=_;rw[h1];rfl,trivial⟩
  have hnr:∀ b,cD (L b) (i+1+1) [dA]=false:=by
   intro b;obtain⟨y,s,h1,h2⟩:=hne x (eW ..) b;have h3:cW (L b) (i+1+1) (aR ((x::r).map (aL b))):=(cW.app ((hst b).cons.2.1.cons.2.1)).1;have h4:tok (L b) (i+1+1)=y:=by
    cases r with
    | nil=>
     have:cW (L b) (i+1+1) (aL b x):=h3;rw[h1]at this;exact this.cons.1
    | cons z r=>
     have:=(cW.app h3).1;rw[h1]at this;exact this.cons.1
   unfold cD;rw[h4]
   by_cases hk:y.kind=6
   ·have:=h2 hk
    simp[eH,hk];exact λe=>this e.symm
   ·simp[hk]
  have hlist:∃ l',dK l' (x::r)=true/\∀ f,(aR ((x::r).map (aL false))).length<=f->∀ b,eR (L b) 16 (cV (L b) (mY (L b) f)) (i+2)=.ok (l',i+2+(aR ((x::r).map (aL false))).length):=by
   obtain⟨l',hl1,hl2⟩:=abG (ι:=Fu (aR ((x::r).map (aL false))).length) (λp=>p.1.1) (λp=>L p.1.1) (λp=>cV (L p.1.1) (mY (L p.1.1) p.1.2)) (qD 6) aE (x::r) aI
    (λy hy=>aDs L _ y (hl y hy) (abF hy)) (i+2) (λp=>(cW.app ((hst p.1.1).cons.2.1.cons.2.1)).1)
   refine⟨l',hl1,λf hf b=>hl2 (λp=>?_) ⟨(b,f),hf⟩ 16 h16⟩;have h3:=(cW.app ((hst p.1.1).cons.2.1.cons.2.1)).2;rw[hlc p.1.1]at h3;have h4:tok (L p.1.1) (i+2+(aR ((x::r).map (aL false))).length)=O dA:=h3.one.1;exact⟨by rw[h4];decide +kernel,by rw[eZ h4];decide +kernel⟩
  obtain⟨l',hl1,hl2⟩:=hlist;refine⟨.mk 3 1 i w l',bY hl1,λf hf hS b=>?_⟩;rw[hlen]at hf ⊢;have h1:=(hst b).cons;have h2:=h1.2.1.cons;have h3:=(cW.app h2.2.1).2;rw[hlc b]at h3;unfold qY iN;rw[aF (by unfold isName;rw[h1.1];rfl)];unfold aH;simp only
  rw[aF DZ,aC (by rw[hnr b];decide)];rw[show i+1+1=i+2 from rfl]at h3 ⊢;rw[hl2 f aB b];simp only
  unfold aW;rw[aF (by rw[eZ h3.one.1];decide +kernel),h1.1];simp only
  rw[show i+2+(aR ((x::r).map (aL false))).length+1=i+((aR ((x::r).map (aL false))).length+3)from by omega];rfl
end Px
end
section
namespace Px
open Lx
def Ke{p:T}(h:V .part p):p.kind=3:=by cases h<;>rfl
def Yn{t:T}(h:V .expr t):t.kind=1\/t.kind=2\/t.kind=4\/t.kind=5\/t.kind=6:=by cases h<;>simp[T.kind]
def aKS(x:T)(hc:CE x)(hf:yN x):atF x:=by
 intro L i hst;obtain⟨t',h1,h2,_⟩:=hc L i hst;refine⟨t',h1,λf hf' hS b=>?_⟩;obtain⟨y,g1,g2,_⟩:=hf;obtain⟨r,hr⟩:=g1 b;have ht:tok (L b) i=y:=by have:=hst b;rw[hr]at this;exact this.cons.1
 have hn:cD (L b) i [Cn]=false:=by
  unfold cD;rw[ht]
  by_cases hk:y.kind=6
  ·rcases g2 hk with e|e|e|e<;>(rw[e];simp[hk];decide +kernel)
  ·simp[hk]
 unfold cV;rw[aC (by rw[hn];decide)];exact h2 f 6 hf' (aG _) aB hS b
def aIj(a:Int):atF (.mk 7 0 a e0 []):=by
 intro L i hst;refine⟨node 7 i [],bY bQ,λf _ _ b=>?_⟩;have h1:cW (L b) i [O Cn]:=by have:=hst b;rwa[BV]at this
 unfold cV;rw[aF (by rw[eZ h1.one.1];decide +kernel)];have:len (.mk 7 0 a e0 [])=1:=by unfold len;rw[BV];rfl
 rw[this]
def XP(a:Int)(w:AAE)(x y:T)(hx:yN x):yN (.mk 6 0 a w [x,y]):=by
 obtain⟨z,h1,h2,h3⟩:=hx
 by_cases hb:x.kind=6/\level x.word<level w
 ·refine⟨O cJ,λb=>?_,λ_=>.inr (.inr (.inr rfl)),λh=>absurd h rR⟩;rw[Gh];unfold operand;rw[aF hb];exact⟨_,rfl⟩
 ·refine⟨z,λb=>?_,h2,λh=>absurd h rR⟩;obtain⟨r,hr⟩:=h1 b;rw[Gh];unfold operand;rw[aC hb,hr];exact⟨_,rfl⟩
def Fm: So->T->Prop
 | .expr,t=>yN t
 | .part,t=>yN t
 | _,_=>True
def avG(a:Int)(ps:List T)(h1:1<=ps.length)(hf:∀ p,p∈ps->yN p/\p.kind=3):yN (.mk 2 0 a e0 ps):=by
 cases ps with
 | nil=>simp at h1
 | cons x r=>
  exact RS
def atU{s:So}{t:T}(h:V s t):Fm s t:=by
 induction h with
 | const n a w h=>
  refine⟨⟨n,w⟩,λb=>⟨[],lR b n a w⟩,λh6=>?_,λh'=>absurd h' rR⟩;simp only at h6
  rcases h.1 with e|e|e|e<;>omega
 | ref a ps h1 h8 h ih=>exact avG a ps h1 (λp hp=>⟨ih p hp,Ke (h p hp)⟩)
 | ptr a x y hx hr hy h2 ihx ihy=>
  obtain⟨z,h1,h2,h3⟩:=ihx;exact Sa
 | un a w x hw hx ih=>
  refine⟨O w,λb=>⟨_,Ij b 0 a w x⟩,λ_=>?_,λh=>absurd h rR⟩
  exact Tw
 | bin a w x y hw hx hy ihx ihy=>exact XP a w x y ihx
 | part0 a w h=>exact⟨W w,λb=>⟨[],xV b a w⟩,λh=>absurd h rS,λ_=>rfl⟩
 | part1 a w l h h16 hl ih=>exact⟨W w,λb=>⟨_,yP b a w l⟩,λh=>absurd h rS,λ_=>rfl⟩
 | _=>trivial
def xN{t:T}(h:V .expr t):yN t:=atU h
def Ys{s:So}{t:T}(h:V s t):Cm s t:=by
 induction h with
 | const n a w h=>
  refine⟨aEv n a w h,⟨n,w⟩,λb=>⟨[],lR b n a w⟩,λh6=>?_,λh'=>absurd h' rR⟩;simp only at h6
  rcases h.1 with e|e|e|e<;>omega
 | ref a ps h1 h8 h ih=>exact aKc a ps h1 h8 (λp hp=>(ih p hp).1) (λp hp=>⟨(ih p hp).2,Ke (h p hp)⟩)
 | ptr a x y hx hr hy h2 ihx ihy=>exact aKh a x y ihx.1 ihx.2 hr ihy.1 h2
 | un a w x hw hx ih=>
  refine⟨aLH a w x hw ih.1,O w,λb=>⟨_,Ij b 0 a w x⟩,λ_=>?_,λh=>absurd h rR⟩
  exact Tw
 | bin a w x y hw hx hy ihx ihy=>exact⟨aKi a w x y hw ihx.1 ihy.1,XP a w x y ihx.2⟩
 | part0 a w h=>exact aEq a w
 | part1 a w l h h16 hl ih=>
  refine aFH a w l h16 ih (λx hx b=>?_);have hv:=hl x hx
  cases hv with
  | arg _ he=>
   obtain⟨y,g1,g2,_⟩:=xN he;obtain⟨r,hr⟩:=g1 b;refine⟨y,r,hr,λh6=>?_⟩
   rcases g2 h6 with e|e|e|e<;>(rw[e];decide +kernel)
  | star a=>exact⟨O Cn,[],BV b _ _ _ _,λ_=>by decide +kernel⟩
 | arg x h ih=>exact aKS x ih.1 ih.2
 | star a=>exact aIj a
 | _=>trivial
end Px
end
section
namespace Px
open Lx
def Up{α:Type}(k:Nat)(r:R α):Prop:=∀ x j,r=.ok (x,j)->k<=j
def Up.err{α:Type}{k:Nat}(a:Nat):Up k (.error a:R α):=λ_ _ h=>by cases h
theorem Up.ok{α:Type}{k j:Nat}{x:α}(h:k<=j):Up k (.ok (x,j):R α):=λ_ _ e=>by cases e;exact h
def Up.bind{α β:Type}{k m:Nat}{r:R α}{f:α->Nat->R β}(h:Up k r)(hf:∀ x j,k<=j->Up m (f x j)):Up m (aH r f):=by
 exact Ta
def Up.ite{α:Type}{k:Nat}{c:Prop}[Decidable c]{r s:R α}(h:c->Up k r)(g:¬ c->Up k s):Up k (if c then r else s):=by
 exact Ap
def Up.le{α:Type}{k m:Nat}{r:R α}(h:Up k r)(hm:m<=k):Up m r:=λx j e=>aZ hm (h x j e)
variable (L:List Tk)
def bM(i:Nat)(s:AAE):Up (i+1) (aW L i s):=Up.ite (λ_=>.ok (aG _)) (λ_=>.err _)
def oZ(i:Nat)(ss:List ByteArray):Up (i+1) (fV L i ss):=Up.ite (λ_=>.ok (aG _)) (λ_=>.err _)
def sN(i:Nat):Up (i+1) (iN L i):=Up.ite (λ_=>.ok (aG _)) (λ_=>.err _)
def oX(i:Nat):Up (i+1) (mI L i):=(sN L i).bind λ_ _ h=>.ok h
def vW(lo hi i:Nat):Up (i+1) (gO L lo hi i):=by
 unfold gO
 split
 ·exact Up.ite (λ_=>.ok (aG _)) (λ_=>.err _)
 ·exact .err _
def lQ(i:Nat):Up (i+1) (cQ L i):=Up.ite (λ_=>.ok (aG _)) (λ_=>.err _)
def awE{read:Nat->R T}(h:∀ i,Up (i+1) (read i)):∀ n acc j,Up j (iP L read n acc j):=by
 intro n
 induction n with
 | zero=>intro acc j;unfold iP;exact .ok (aG _)
 | succ n ih=>
  intro acc j;unfold iP;exact QL
def iZ{read:Nat->R T}(h:∀ i,Up (i+1) (read i))(most i:Nat):Up (i+1) (eR L most read i):=
 (h i).bind λx j hj=>(awE L h _ _ j).le hj
def aAV{sub:Nat->R T}(h:∀ i,Up (i+1) (sub i))(ops:List ByteArray)(a:Nat):∀ f x j,Up j (binGo L sub ops a f x j):=by
 intro f
 induction f with
 | zero=>intro x j;unfold binGo;exact .err _
 | succ f ih=>
  intro x j;unfold binGo;exact QL
def UA{prim:Nat->R T}(h:∀ i,Up (i+1) (prim i)):∀ k i,Up (i+1) (sY L prim k i):=by
 intro k
 induction k with
 | zero=>intro i;exact h i
 | succ k ih=>intro i;exact(ih i).bind λx j hj=>(aAV L ih _ _ _ x j).le hj
def uA{expr:Nat->R T}(h:∀ i,Up (i+1) (expr i))(i:Nat):Up (i+1) (cV L expr i):=Up.ite (λ_=>.ok (aG _)) (λ_=>h i)
def CB{expr:Nat->R T}(h:∀ i,Up (i+1) (expr i))(i:Nat):Up (i+1) (qY L expr i):=
 (sN L i).bind λs j hj=>Up.ite (λ_=>Up.ite (λ_=>.ok aB) (λ_=>(iZ L (uA L h) 16 (j+1)).bind λl j' h2=>(bM L j' dA).bind λ_ j2 h3=>.ok aB)) (λ_=>.ok hj)
def ajO{expr:Nat->R T}(h:∀ i,Up (i+1) (expr i)):∀ n acc j,Up j (iM L expr n acc j):=by
 intro n
 induction n with
 | zero=>intro acc j;unfold iM;exact .ok (aG _)
 | succ n ih=>
  intro acc j;unfold iM;exact Up.ite (λ_=>(CB L h (j+1)).bind λx j' hj=>(ih _ j').le aB) (λ_=>.ok (aG _))
def zW{expr:Nat->R T}(h:∀ i,Up (i+1) (expr i))(i:Nat):Up (i+1) (mG L expr i):=
 (CB L h i).bind λx j hj=>(ajO L h 7 _ j).bind λl j' h2=>.ok aB
def aDm{expr:Nat->R T}(h:∀ i,Up (i+1) (expr i))(a:Nat):∀ n x j,Up j (pZ L expr a n x j):=by
 intro n
 induction n with
 | zero=>intro x j;exact Dg
 | succ n ih=>
  intro x j;unfold pZ;exact Up.ite (λ_=>(zW L h (j+1)).bind λx j' hj=>(ih _ j').le aB) (λ_=>.ok (aG _))
def KE{expr:Nat->R T}(h:∀ i,Up (i+1) (expr i))(i:Nat):Up (i+1) (eO L expr i):=
 (zW L h i).bind λx j hj=>(aDm L h i _ x j).le hj
def XZ: ∀ f i,Up (i+1) (fN L f i):=by
 intro f
 induction f with
 | zero=>exact DR
 | succ f ih=>
  intro i;unfold fN;exact Up.ite (λ_=>(ih (i+1)).bind λx j hj=>.ok aB) λ_=>
   Up.ite (λ_=>(UA L ih 6 (i+1)).bind λx j hj=>(bM L j dA).bind λ_ j' h2=>.ok aB) λ_=>
   Up.ite (λ_=>lQ L i) (λ_=>KE L (UA L ih 6) i)
def agR(f i:Nat):Up (i+1) (mY L f i):=UA L (XZ L f) 6 i
def fI(i:Nat):Up (i+1) (dB L i):=agR L _ i
def Br(i:Nat):Up (i+1) (yZ L i):=KE L (fI L) i
end Px
end
section
namespace Px
open Lx
def WD: List Int:=[21,22,33,40,41,42]
def GP(k:Int):Bool:=decide (15<=k)&&decide (k<=47)&&!decide (k∈WD)
mutual
def Md(p:List Int):T->List (List Int)
 | .mk k _ _ _ l=>(if GP k=true then [p]else [])++uL p 0 l
def uL(p:List Int):Nat->List T->List (List Int)
 | _,[]=>[]
 | i,x::r=>Md (p++[(i:Int)]) x++uL p (i+1) r
end
end Px
end
