/- Part 07. -/
import Derived.Test.YtikalomcclefiaaGreatDoorV06
set_option linter.all false
set_option maxHeartbeats 0
set_option maxRecDepth 100000
namespace Go.Proofs.YtikalomcclefiaaGreatDoor
section
namespace Lx
def XR(c:Int):Bool:=c == -1||c==32||c==10
def JW{c:Int}(h:XR c=true):c = -1\/c=32\/c=10:=by unfold XR at h;simp at h;omega
def afI{c:Int}(h:XR c=true):Ua c=false:=by rcases JW h with rfl|rfl|rfl<;>decide
end Lx
namespace Lx
structure It where
 len:Nat
 tok:Option (Int×ByteArray)
 com:Bool
def step(l:Bs):Option It:=
 if hd l=32\/hd l=10 then some ⟨1,none,false⟩
 else if hd l=47/\hd (l.drop 1)=42 then(TR l).map λn=>⟨n,none,true⟩
 else match gT bF l with
  | none=>none
  | some g=>if g.ok=false\/eP g.kind ⟨g.text.toArray⟩=false then none else some ⟨g.len,some (g.kind,⟨g.text.toArray⟩),false⟩
def run: Nat->Bs->List It×Bs
 | 0,l=>([],l)
 | f+1,l=>match step l with
  | none=>([],l)
  | some it=>(it::(run f (l.drop it.len)).1,(run f (l.drop it.len)).2)
end Lx
namespace Lx
def arJ(s:AAE):s.data.toList.length=s.size:=rfl
def bl(it:It):It:=if it.com=true/\it.tok=none then⟨1,none,false⟩else it
def kt(t:Tok):Int×ByteArray:=(t.kind,t.text)
def less: List (Nat×Nat)->Nat
 | []=>0
 | c::cs=>(c.2 - c.1 - 1)+less cs
end Lx
namespace Lx
def ZH(t:AAE):(⟨t.data.toList.toArray⟩:ByteArray)=t:=by cases t;simp
def KN{a b:AAE}(h:a.data.toList=b.data.toList):a=b:=by
 rw[<- ZH a,<- ZH b,h]
def qO(a:Int×ByteArray):Bs:=(eY a.1 a.2).data.toList
def XB(a:Int×ByteArray):Bool:=eP a.1 a.2
end Lx
namespace Lx
def xY(a:Int×ByteArray):Bool:=decide (a.1=6)&&decide (a.2=⟨#[59]⟩)
def xL(a b:Int×ByteArray):Bool:=decide ((fX (eY a.1 a.2++eY b.1 b.2)).err=0)&&decide ((fX (eY a.1 a.2++eY b.1 b.2)).toks.map kt=[a,b])
def oH(a:Int×ByteArray):List (Int×ByteArray)->Bs
 | []=>if xY a then [10]else []
 | b::_=>if xY a then [10]else if xL a b then []else [32]
def iK: List (Int×ByteArray)->Bs
 | []=>[]
 | a::r=>qO a++(oH a r++iK r)
def DW(a b:Int×ByteArray)(r:List (Int×ByteArray)):oH a (b::r)=if xY a then [10]else if xL a b then []else [32]:=rfl
def wM(a:Int×ByteArray)(r:List (Int×ByteArray)):iK (a::r)=qO a++(oH a r++iK r):=rfl
def gX(l:List (Int×ByteArray)):ByteArray×Int:=
 if 5000<l.length then(⟨#[]⟩,2)
 else if l.all XB=false then(⟨#[]⟩,50)
 else if 20000<(iK l).length then(⟨#[]⟩,2)
 else(⟨(iK l).toArray⟩,0)
end Lx
end
