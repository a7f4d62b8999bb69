/- Part 09. -/
import Derived.Test.YtikalomcclefiaaGreatDoorV08
import Derived.Shelf.Strings.MapGrows
set_option linter.all false
set_option maxHeartbeats 0
set_option maxRecDepth 100000
namespace Go.Proofs.YtikalomcclefiaaGreatDoor
section
open Go.RowKit Lx
def aGf(l:Bs):(Np l).length<=2*l.length:=by
 induction l with
 | nil=>exact aG _
 | cons c l ih=>
  unfold Np
  split<;>simp<;>omega
def Jm(k:Int)(t:AAE):(eY k t).size<=2*t.size+3:=by
 unfold eY;have h:=aGf t.data.toList;have e:t.data.toList.length=t.size:=by simp
 rw[e]at h
 split
 ·show (t.data ++ #[66]).size<=_
  rw[Array.size_append,show t.data.size=t.size from rfl];simp;omega
 ·split
  ·show (List.toArray _).size<=_
   simp;omega
  ·split
   ·show (List.toArray _).size<=_
    simp;omega
   ·omega
def Ik(x y:T3):Bool:=decide ((fX (eY x.kind x.text++eY y.kind y.text)).err=0)&&Lib.allEq GI ((xS (eY x.kind x.text++eY y.kind y.text)).map Tok.t3) [x,y]
def Vn{w wc w':World}{B:Nat}(h:Below B w wc)(hB:B<=w.heap.size)(hb:Below wc.heap.size wc w'):Below B w w':=h.trans (hb.mono (aZ hB h.size))
def avU(x y:T3)(hx:x.text.size<=2147483647)(hy:y.text.size<=2147483647)(w:World)(hm:ML w):AAA 77 #[Ks x,Ks y] w λe w'=>e=.returned (.bool (Ik x y))/\Below w.heap.size w w':=by
 obtain⟨r,hr⟩:∃ r,r=fX (eY x.kind x.text++eY y.kind y.text):=⟨_,rfl⟩
 obtain⟨ts,hts⟩:∃ ts,ts=xS (eY x.kind x.text++eY y.kind y.text):=⟨_,rfl⟩
 have htt:Ik x y=(decide (r.err=0)&&Lib.allEq GI (ts.map Tok.t3) [x,y]):=by unfold Ik;rw[hr,hts]
 rw[htt];clear htt;unfold Ks;go_in;go_upto_region 1 with fail;have b2:=VJ w (.cells #[.int .i64 x.kind,.string x.text,.int .i64 x.at_] 47) (.cells #[.int .i64 y.kind,.string y.text,.int .i64 y.at_] 47);have n1:=aP w (.cells #[.int .i64 x.kind,.string x.text,.int .i64 x.at_] 47);have n2:=aP (w.alloc (.cells #[.int .i64 x.kind,.string x.text,.int .i64 x.at_] 47)) (.cells #[.int .i64 y.kind,.string y.text,.int .i64 y.at_] 47);have n3:=(Lib.alloc_old (w.alloc (.cells #[.int .i64 x.kind,.string x.text,.int .i64 x.at_] 47)) (.cells #[.int .i64 y.kind,.string y.text,.int .i64 y.at_] 47) w.heap.size (aX.1 n1).1).trans n1;rw[World.size_alloc]at n2;generalize (w.alloc (.cells #[.int .i64 x.kind,.string x.text,.int .i64 x.at_] 47)).alloc (.cells #[.int .i64 y.kind,.string y.text,.int .i64 y.at_] 47)=w2 at b2 n2 n3 ⊢;have hm2:=hm.below b2;have l1:=(aX.1 n3).1;have l2:=(aX.1 n2).1;have p0:w2.cell? (AAF w.heap.size 0)=some (.int .i64 x.kind):=by rw[gD n3];rfl
 have p1:w2.cell? (AAF w.heap.size 1)=some (.string x.text):=by rw[gD n3];rfl
 have p2:w2.cell? (AAF w.heap.size 2)=some (.int .i64 x.at_):=by rw[gD n3];rfl
 have q0:w2.cell? (AAF (w.heap.size+1) 0)=some (.int .i64 y.kind):=by rw[gD n2];rfl
 have q1:w2.cell? (AAF (w.heap.size+1) 1)=some (.string y.text):=by rw[gD n2];rfl
 have q2:w2.cell? (AAF (w.heap.size+1) 2)=some (.int .i64 y.at_):=by rw[gD n2];rfl
 have zx:=Jm x.kind x.text;have zy:=Jm y.kind y.text;have hsz:(eY x.kind x.text++eY y.kind y.text).size<=140737488351232:=by rw[ByteArray.size_append];omega
 have hb2:Below w2.heap.size w2 w2.drew:=(bH _ _).drew;have hc3:∀ W,ML W->AAA 50 #[.string (eY x.kind x.text++eY y.kind y.text)] W λe w'=>∃ lv,e=.returned (.tuple #[lv,.int .i64 r.at_,.int .i64 r.err])/\w'.ownsRow W.heap.size 47 3 lv ts.length (Bf ts)/\Below W.heap.size W w':=by
  intro W h;rw[hr,hts];exact FQ (eY x.kind x.text++eY y.kind y.text) hsz W h
 have hab:(eY x.kind x.text).size+(eY y.kind y.text).size<=140737488351232:=by omega
 have hnl:¬ 9223372036854775807<(eY x.kind x.text).size+(eY y.kind y.text).size:=by omega
 have HC3:=aM hc3;clear n1 n2 n3 zx zy hr hts hc3
 go_region_held3 (λw'=>w'.cell? (AAF w.heap.size 0)=some (.int .i64 x.kind)/\w'.cell? (AAF w.heap.size 1)=some (.string x.text)/\w'.cell? (AAF w.heap.size 2)=some (.int .i64 x.at_)/\w'.cell? (AAF (w.heap.size+1) 0)=some (.int .i64 y.kind)/\w'.cell? (AAF (w.heap.size+1) 1)=some (.string y.text)/\w'.cell? (AAF (w.heap.size+1) 2)=some (.int .i64 y.at_)/\Below w2.heap.size w2 w') (go_keep) (first
  | (go_at_call 80;refine(YB _ _ _ iS _ (hm2.below iS)).mono ?_;rintro e w' ⟨rfl,hb⟩;have hn:=Vn iS (aG w2.heap.size) hb;have g0:=(hn.cell (p:=(AAF w.heap.size 0)) l1).trans p0;have g1:=(hn.cell (p:=(AAF w.heap.size 1)) l1).trans p1;have g2:=(hn.cell (p:=(AAF w.heap.size 2)) l1).trans p2;have k0:=(hn.cell (p:=(AAF (w.heap.size+1) 0)) l2).trans q0;have k1:=(hn.cell (p:=(AAF (w.heap.size+1) 1)) l2).trans q1;have k2:=(hn.cell (p:=(AAF (w.heap.size+1) 2)) l2).trans q2)
  | (go_at_call 50;refine(HC3.out _ (hm2.below iS)).mono ?_;rintro e w' ⟨lv,rfl,hown,hb⟩;have hn:=Vn iS (aG w2.heap.size) hb;have g0:=(hn.cell (p:=(AAF w.heap.size 0)) l1).trans p0;have g1:=(hn.cell (p:=(AAF w.heap.size 1)) l1).trans p1;have g2:=(hn.cell (p:=(AAF w.heap.size 2)) l1).trans p2;have k0:=(hn.cell (p:=(AAF (w.heap.size+1) 0)) l2).trans q0;have k1:=(hn.cell (p:=(AAF (w.heap.size+1) 1)) l2).trans q1;have k2:=(hn.cell (p:=(AAF (w.heap.size+1) 2)) l2).trans q2))
 have z2:=b2.size;have z3:=hn.size;clear hab hnl hsz p0 p1 p2 q0 q1 q2 HC3 hm2 hm hx hy
 by_cases he:r.err=0
 ·rw[he];go_wp2_with fail;have hr1:fJ w' lv (ts.map Tok.t3):=fJ.VW Ds;have hln:(ts.map Tok.t3).length<=9223372036854775807:=by
   rw[bN]
   rcases hown.2 with ⟨_,h0⟩|⟨g,cap',cur,hv,hB,hg,hnc,hcm,rest⟩
   ·omega
   ·unfold maxLen at hcm;omega
  have hr2:=hr1.below (aJ w' (.cells #[.int .i64 x.kind,.string x.text,.int .i64 x.at_,.int .i64 y.kind,.string y.text,.int .i64 y.at_] 47)) (aG _);have n4:=aP w' (.cells #[.int .i64 x.kind,.string x.text,.int .i64 x.at_,.int .i64 y.kind,.string y.text,.int .i64 y.at_] 47);have b4:=aJ w' (.cells #[.int .i64 x.kind,.string x.text,.int .i64 x.at_,.int .i64 y.kind,.string y.text,.int .i64 y.at_] 47);generalize w'.alloc (.cells #[.int .i64 x.kind,.string x.text,.int .i64 x.at_,.int .i64 y.kind,.string y.text,.int .i64 y.at_] 47)=w4 at hr2 n4 b4 ⊢;have hr3:fJ w4 (.slice (some (AAF w'.heap.size 0)) 2 2) [x,y]:=by
   refine⟨_,2,rfl,λ_=>⟨w'.heap.size,0,rfl,(aX.1 n4).1,λj hj i u hu=>?_⟩⟩;rw[gD n4];have hi:i<3:=by
    exact RV
   have hj':j=0\/j=1:=by simp at hj;omega
   have hi':i=0\/i=1\/i=2:=by omega
   rcases hj' with rfl|rfl<;>rcases hi' with rfl|rfl|rfl<;>simpa[Bh]using hu
  refine(amN _ _ _ _ w4 hr2 hr3 hln (by show 2<=_;decide)).mono ?_;rintro e w5 ⟨rfl,hb5⟩;have z4:=b4.size;go_wp2_with fail;go_ret;exact⟨by rw[he];rfl,((b2.trans (hn.mono z2)).trans (b4.mono aB)).trans (hb5.mono aB)⟩
 ·have hd:decide (r.err=0)=false:=bX he;have hd':(r.err==0)=false:=by rw[dR];exact he
  go_wp2_with fail;go_ret;refine⟨?_,b2.trans (hn.mono z2)⟩;rw[hd]
  simp
def aKA: Go.Shelf.Ren:=⟨λ|167=>78|n=>Tryz.AW.f n,Tryz.AW.t,Tryz.AW.g⟩
def Em(B b:Nat)(bs:List Value)(c:Int)(w:World)(h:Lib.IsBuilderF 119 5 B b bs w)(hlen:bs.length+1<=140737488355328)(hBw:B<=w.heap.size):AAA 78 #[.pointer (some (AAF b 0)),.int .u8 c] w λe w'=>e=.returned .nilIface/\(Lib.BuilderAtF 119 5 B b (.pointer (some (AAF b 0))) (bs++[.int .u8 c]) w'/\Below B w w'/\Lib.OthersKept 5 (some b) w w'):=
 Any.Builder_WriteByte_k (ρ:=aKA) { Tryz.aoR with f167:=Tryz.func78.trans (congrArg some aQ) } { Tryz.Dy with } B b bs c w h hlen hBw
def asN: Option (Int×ByteArray)->Int×ByteArray->Bs
 | none,_=>[]
 | some p,a=>if xY p then []else if xL p a then []else [32]
def nlB(a:Int×ByteArray):Bs:=if xY a then [10]else []
def II(a:Int×ByteArray):oH a []=nlB a:=by unfold oH nlB;rfl
def YP(p a:Int×ByteArray):asN (some p) a=if xY p then []else if xL p a then []else [32]:=rfl
def Hm(a b:Int×ByteArray)(r:List (Int×ByteArray)):oH a (b::r)=nlB a++asN (some a) b:=by
 rw[DW,YP];unfold nlB
 by_cases h:xY a=true
 ·rw[aF h,aF h,aF h];rfl
 ·rw[aC h,aC h,aC h];rfl
def agS: ∀ (x:List (Int×ByteArray)) (a:Int×ByteArray),iK (x++[a])=iK x++(asN x.getLast? a++(qO a++nlB a)):=by
 intro x
 induction x with
 | nil=>intro a;show qO a++(oH a []++[])=_;rw[II];simp[iK,asN]
 | cons p r ih=>
  intro a
  cases r with
  | nil=>
   show qO p++(oH p [a]++(qO a++(oH a []++[])))=(qO p++(oH p []++[]))++_
   rw[Hm,II,II]
   simp[List.getLast?]
  | cons q r=>
   rw[kE,wM,ih]
   show qO p++(oH p (q::(r++[a]))++_)=_
   rw[wM p (q::r),Hm,Hm]
   simp[List.getLast?]
section
variable(l:List (Int×ByteArray))
include l
theorem SY(k:Nat)(h:k<l.length):iK (l.take (k+1))=iK (l.take k)++(asN (l.take k).getLast? l[k]++(qO l[k]++nlB l[k])):=by
 rw[jY h,agS]
theorem Hl:∀ d k,k+d<=l.length->(iK (l.take k)).length<=(iK (l.take (k+d))).length:=by
 intro d
 induction d with
 | zero=>intro k _;exact aG _
 | succ d ih=>
  intro k h;have h1:=ih k aB;have h2:=SY l (k+d) aB;rw[show k+(d+1)=k+d+1 from rfl,h2,aO];omega
theorem auO(k:Nat)(h:k<l.length):(l.take (k+1)).getLast?=some l[k]:=by
 rw[jY h,List.getLast?_concat]
end
def oK(t:T3):Int×ByteArray:=(t.kind,t.text)
def aCm(ts:List Tok)(x y:T3):Lib.allEq GI (ts.map Tok.t3) [x,y]=decide (ts.map kt=[oK x,oK y]):=by
 match ts with
 | []=>rfl
 | [a]=>simp[Lib.allEq]
 | a::b::c::r=>simp[Lib.allEq]
 | [a,b]=>
  rw[nS]
  simp[Lib.allEq,Tok.t3,GI,kt,oK,and_assoc]
def aAJ(x y:T3):Ik x y=xL (oK x) (oK y):=by
 unfold Ik xL;rw[aCm]
 show (decide _&&decide _)=(decide ((fX (eY x.kind x.text++eY y.kind y.text)).err=0)&&_)
 by_cases he:(fX (eY x.kind x.text++eY y.kind y.text)).err=0
 ·have e1:xS (eY x.kind x.text++eY y.kind y.text)=(fX (eY x.kind x.text++eY y.kind y.text)).toks:=by unfold xS;rw[aF he]
  rw[e1];rfl
 ·simp[he]
def NU(l:List (Int×ByteArray))(w:World)(e:Ending)(w':World):Prop:=e=.returned (.tuple #[.string (gX l).1,.int .i64 (gX l).2])/\Below w.heap.size w w'
def anN(l:List T3)(h:(l.map oK).all XB=true)(k:Nat)(hk:k<l.length):eP l[k]!.kind l[k]!.text=true:=by
 rw[kZ l k hk];exact iJ.1 h (oK l[k]) (Lg (eJ hk))
def UM(l:List T3)(h:∀ j,j<l.length->eP l[j]!.kind l[j]!.text=true):(l.map oK).all XB=true:=by
 rw[iJ];intro a ha;obtain⟨t,ht,rfl⟩:=iL.1 ha;obtain⟨j,hj,rfl⟩:=List.getElem_of_mem ht;have:=h j hj
 rwa[kZ l j hj]at this
def anG(v:Value)(l:List T3)(w:World)(hrow:fJ w v l)(hlen:l.length<=9223372036854775807)(hl:5000<l.length):AAA 49 #[v] w (NU (l.map oK) w):=by
 obtain⟨ao,cap,rfl,_⟩:=hrow;have hr:gX (l.map oK)=(⟨#[]⟩,2):=by unfold gX;rw[aF (by rw[bN];exact hl)]
 unfold NU;rw[hr];clear hr;have hl':(5000:Int)<(l.length:Int):=by omega
 go_in;go_wp2_with fail
 go_ret2
 exact⟨rfl,bH _ _⟩
def auV(v:Value)(l:List T3)(hs:∀ t∈l,t.text.size<=2147483647)(w:World)(hrow:fJ w v l)(hl:l.length<=5000)(hbad:(l.map oK).all XB=false):AAA 49 #[v] w (NU (l.map oK) w):=by
 have hr:gX (l.map oK)=(⟨#[]⟩,50):=by unfold gX;rw[aC AM,aF hbad]
 unfold NU;rw[hr];have HBAD:=aM hbad;clear hr hbad;obtain⟨ao,cap,rfl,h1⟩:=hrow;have hl':¬ (5000:Int)<(l.length:Int):=by omega
 have HS:=aM hs;clear hs;go_in;go_wp2_with fail;generalize hn:l.length=n at h1 hl hl' ⊢;have HN:=aM hn;have H1:=aM h1;clear hn h1
 go_loopg [14] n (λgg q wr=>∃ kk:Nat,kk<=n/\n - kk<=gg/\q=.int .i64 kk/\Aside (Below w.heap.size w wr)/\Aside (∀ j,j<kk->eP l[j]!.kind l[j]!.text=true))
 case atStart=>exact DF
 case round=>
  obtain⟨kk,hkk,hg,rfl,BW,A⟩:=hrel
  by_cases hlt:kk<n
  ·have hltz:(kk:Int)<(n:Int):=by omega
   obtain⟨b1,o1,rfl,l1,c1⟩:=H1.out (by intro e;have:=HN.out;rw[e]at this;simp at this;omega);have r1:=zY c1 l1 BW.out kk hlt;have hxs:l[kk]!.text.size<=2147483647:=by
    exact PW
   clear c1 l1;generalize hxk:l[kk]! = x at r1 hxs;have X:Aside (l[kk]! = x):=hxk;clear hxk;obtain⟨p0,p1,p2⟩:=r1;go_upto_region 6 with fail;have bw1:Below w.heap.size w (wr.alloc (.cells #[.int .i64 x.kind,.string x.text,.int .i64 x.at_] 47)):=BW.out.alloc BW.out.size _;have n1:=aP wr (.cells #[.int .i64 x.kind,.string x.text,.int .i64 x.at_] 47);generalize wr.alloc (.cells #[.int .i64 x.kind,.string x.text,.int .i64 x.at_] 47)=w1 at bw1 n1 ⊢;have q0:w1.cell? (AAF wr.heap.size 0)=some (.int .i64 x.kind):=by rw[gD n1];rfl
   have q1:w1.cell? (AAF wr.heap.size 1)=some (.string x.text):=by rw[gD n1];rfl
   have q2:w1.cell? (AAF wr.heap.size 2)=some (.int .i64 x.at_):=by rw[gD n1];rfl
   have hck:∀ W,AAA 44 #[.agg #[.int .i64 x.kind,.string x.text,.int .i64 x.at_]] W λe w'=>e=.returned (.int .i64 (GG (eP x.kind x.text)))/\Below W.heap.size W w':=
    λW=>EP x.kind x.text x.at_ aB W
   have HCK:=aM hck;clear hck n1 p0 p1 p2 hxs
   cases hq:eP x.kind x.text with
   | false=>
    rw[hq]at HCK;go_wp2_with fail;refine(HCK.out _).mono ?_;rintro e w' ⟨rfl,hb'⟩;go_wp2_with fail
    go_ret2
    exact⟨rfl,bw1.trans (hb'.mono bw1.size)⟩
   | true=>
    exact QD
  ·have hltz:¬ (kk:Int)<(n:Int):=by omega
   have hke:kk=n:=by omega
   subst hke;have:=UM l (by rw[HN.out];exact A.out);rw[HBAD.out]at this
   cases this
end
section
open Go.RowKit Go.Sort Lx
def ajM(x:T3):xY (oK x)=(x.kind==6&&x.text.toList == [59]):=by
 unfold xY oK;simp only
 congr 1
 rw[nS,KS,kW]
 constructor
 ·intro e;rw[e,toList_data]
 ·intro e;rw[toList_data]at e;exact KN e
def agK: Option (Int×ByteArray)->Int×ByteArray->Bool
 | none,_=>false
 | some p,a=>!xY p&&!xL p a
def aFy(o:Option (Int×ByteArray))(a:Int×ByteArray):asN o a=if agK o a then [32]else []:=by
 cases o with
 | none=>rfl
 | some p=>
  rw[YP,show agK (some p) a=(!xY p&&!xL p a)from rfl]
  cases xY p<;>cases xL p a<;>rfl
def anS(v:Value)(l:List T3)(hs:∀ t∈l,t.text.size<=2147483647)(w:World)(hml:ML w)(hrow:fJ w v l)(hl:l.length<=5000)(hgood:(l.map oK).all XB=true):AAA 49 #[v] w (NU (l.map oK) w):=by
 have HGOOD:=aM hgood;clear hgood;obtain⟨ao,cap,rfl,h1⟩:=hrow;have hl':¬ (5000:Int)<(l.length:Int):=by omega
 have HS:=aM hs;clear hs;go_in;go_wp2_with fail;generalize hn:l.length=n at h1 hl hl' ⊢;have HN:=aM hn;have H1:=aM h1;clear hn h1
 go_loopg [14] n (λgg q wr=>∃ kk:Nat,kk<=n/\n - kk<=gg/\q=.int .i64 kk/\Aside (Below w.heap.size w wr)/\Aside (∀ j,j<kk->eP l[j]!.kind l[j]!.text=true))
 case atStart=>exact DF
 case round=>
  obtain⟨kk,hkk,hg,rfl,BW,A⟩:=hrel
  by_cases hlt:kk<n
  ·have hltz:(kk:Int)<(n:Int):=by omega
   obtain⟨b1,o1,rfl,l1,c1⟩:=H1.out (by intro e;have:=HN.out;rw[e]at this;simp at this;omega);have r1:=zY c1 l1 BW.out kk hlt;have hxs:l[kk]!.text.size<=2147483647:=by
    exact PW
   clear c1 l1;generalize hxk:l[kk]! = x at r1 hxs;have X:Aside (l[kk]! = x):=hxk;clear hxk;obtain⟨p0,p1,p2⟩:=r1;go_upto_region 6 with fail;have bw1:Below w.heap.size w (wr.alloc (.cells #[.int .i64 x.kind,.string x.text,.int .i64 x.at_] 47)):=BW.out.alloc BW.out.size _;have n1:=aP wr (.cells #[.int .i64 x.kind,.string x.text,.int .i64 x.at_] 47);generalize wr.alloc (.cells #[.int .i64 x.kind,.string x.text,.int .i64 x.at_] 47)=w1 at bw1 n1 ⊢;have q0:w1.cell? (AAF wr.heap.size 0)=some (.int .i64 x.kind):=by rw[gD n1];rfl
   have q1:w1.cell? (AAF wr.heap.size 1)=some (.string x.text):=by rw[gD n1];rfl
   have q2:w1.cell? (AAF wr.heap.size 2)=some (.int .i64 x.at_):=by rw[gD n1];rfl
   have hck:∀ W,AAA 44 #[.agg #[.int .i64 x.kind,.string x.text,.int .i64 x.at_]] W λe w'=>e=.returned (.int .i64 (GG (eP x.kind x.text)))/\Below W.heap.size W w':=
    λW=>EP x.kind x.text x.at_ aB W
   have HCK:=aM hck;clear hck n1 p0 p1 p2 hxs
   cases hq:eP x.kind x.text with
   | false=>
    rw[hq]at HCK;have:=anN l HGOOD.out kk Dq;rw[X.out,hq]at this
    cases this
   | true=>
    exact QD
  ·have hltz:¬ (kk:Int)<(n:Int):=by omega
   have hke:kk=n:=by omega
   subst hke;have hall:=UM l (by rw[HN.out];exact A.out);have hbx:=BW.out;clear A;go_wp2_with fail;have hb2:=hbx.alloc hbx.size (.cells #[.pointer none,.slice none 0 0] 119);have bld2:Lib.IsBuilderF 119 5 wr.heap.size wr.heap.size (Lib.byteCells []) (wr.alloc (.cells #[.pointer none,.slice none 0 0] 119)):=
    .of <| .inl ⟨aG _,_,aP wr (.cells #[.pointer none,.slice none 0 0] 119),tN _ _ _ _,by simp[Value.ownBlock]⟩
   have bel2:Below wr.heap.size (wr.alloc (.cells #[.pointer none,.slice none 0 0] 119)) (wr.alloc (.cells #[.pointer none,.slice none 0 0] 119)):=bH _ _;have hz2:wr.heap.size<(wr.alloc (.cells #[.pointer none,.slice none 0 0] 119)).heap.size:=by simp
   have hBw:=hbx.size;generalize wr.alloc (.cells #[.pointer none,.slice none 0 0] 119)=w2 at hb2 bld2 bel2 hz2 ⊢;generalize wr.heap.size=B at bld2 bel2 hz2 hBw ⊢;have HALL:=aM hall;clear hall hltz hlt hbx BW
   go_loopg [24] kk (λgg q wr=>∃ k:Nat,k<=kk/\kk - k<=gg/\q=.int .i64 k/\Lib.IsBuilderF 119 5 B B (Lib.byteCells (iK ((l.map oK).take k))) wr/\Below B w2 wr/\(iK ((l.map oK).take k)).length<=20000)
   case atStart=>exact⟨0,aS _,by omega,rfl,bld2,bel2,by simp[iK]⟩
   case round=>
    obtain⟨k,hk,hgg,rfl,bld,bel,hsz⟩:=hrel;have hbw:=hb2.trans (bel.mono hBw);have hBr:B<=wr.heap.size:=by have:=bel.size;omega
    by_cases hlt:k<kk
    ·have hltz:(k:Int)<(kk:Int):=by omega
     obtain⟨b1,o1,rfl,l1,c1⟩:=H1.out (by intro e;have:=HN.out;rw[e]at this;simp at this;omega);have r1:=zY c1 l1 hbw k hlt;have hxs:l[k]!.text.size<=2147483647:=by
      rw[kZ l k Dq];exact HS.out _ (eJ _)
     generalize hxk:l[k]! = x at r1 hxs;have X:Aside (l[k]! = x):=hxk;clear hxk;obtain⟨p0,p1,p2⟩:=r1;have hr2:=λW (hW:Below w.heap.size w W) j (hj:j<kk)=>zY c1 l1 hW j hj
     have HR2:=aM hr2;clear hr2 c1 l1;go_upto_region 13 with fail;have bw1:Below w.heap.size w (wr.alloc (.cells #[.int .i64 x.kind,.string x.text,.int .i64 x.at_] 47)):=hbw.alloc hbw.size _;have bel1:Below B w2 (wr.alloc (.cells #[.int .i64 x.kind,.string x.text,.int .i64 x.at_] 47)):=bel.alloc hBr _;have bld1:=bld.alloc (.cells #[.int .i64 x.kind,.string x.text,.int .i64 x.at_] 47);have n1:=aP wr (.cells #[.int .i64 x.kind,.string x.text,.int .i64 x.at_] 47);have hB2:B<wr.heap.size:=by have:=bel.size;omega
     generalize wr.alloc (.cells #[.int .i64 x.kind,.string x.text,.int .i64 x.at_] 47)=w1 at bw1 bel1 bld1 n1 ⊢;have hlt1:=(aX.1 n1).1;have q0:w1.cell? (AAF wr.heap.size 0)=some (.int .i64 x.kind):=by rw[gD n1];rfl
     have q1:w1.cell? (AAF wr.heap.size 1)=some (.string x.text):=by rw[gD n1];rfl
     have q2:w1.cell? (AAF wr.heap.size 2)=some (.int .i64 x.at_):=by rw[gD n1];rfl
     generalize wr.heap.size=B2 at n1 hB2 hlt1 q0 q1 q2 ⊢;have N1:=aM n1;clear n1 p0 p1 p2 bld bel hbw hBr;have HM1:=aM (hml.below bw1);obtain⟨sb,hsb⟩:∃ sb,agK ((l.map oK).take k).getLast? (oK x)=sb:=⟨_,rfl⟩
     have HSB:=aM hsb;clear hsb;go_cut [59] (λc wx=>c=.bool sb/\Below w1.heap.size w1 wx)
     case first=>
      by_cases hk0:k=0
      ·subst hk0
       go_quiet (fail)
       go_wp2_with fail;go_meet;exact⟨by rw[<- HSB.out];rfl,below_drewN (bH _ _) _⟩
      ·obtain⟨j,hj⟩:∃ j,k=j+1:=⟨k - 1,by omega⟩
       have hlast:((l.map oK).take k).getLast?=some (oK l[j]!):=by
        have h1:j<(l.map oK).length:=by rw[bN,HN.out];omega
        have h2:j<l.length:=by rw[HN.out];omega
        rw[hj,auO _ j h1,List.getElem_map,kZ l j h2]
       have hsb2:=HSB.out;rw[hlast]at hsb2;clear HSB hlast;have hys:l[j]!.text.size<=2147483647:=by
        rw[kZ l j (by rw[HN.out];omega)];exact HS.out _ (eJ _)
       obtain⟨s0,s1,s2⟩:=HR2.out w1 bw1 j aB;have y0:IntKind.i64.wrap ((k:Int) - 1)=(j:Int):=by rw[hj,show ((j+1:Nat):Int) - 1=(j:Int)from by omega];exact iV _ aB
       have y1:0<k:=by omega
       have y2:(j:Int)<(kk:Int):=by omega
       have y3:(0:Int)<=(j:Int):=by omega
       have HJ:=aM hj;clear hj hk0;generalize l[j]! = y at s0 s1 s2 hys hsb2;have HSB:=aM hsb2;clear hsb2
       cases hsm:xY (oK y) with
       | true=>
        obtain⟨yk,yt,ya⟩:=y;have h6:yk=6/\yt=⟨#[59]⟩:=by unfold xY oK at hsm;simpa using hsm
        obtain⟨rfl,rfl⟩:=h6
        go_quiet (fail)
        go_wp2_with fail;go_meet;exact⟨by rw[<- HSB.out];unfold agK;simp only;rw[hsm];rfl,below_drewN (bH _ _) _⟩
       | false=>
        have ht:∀ W,ML W->AAA 77 #[.agg #[.int .i64 y.kind,.string y.text,.int .i64 y.at_],.agg #[.int .i64 x.kind,.string x.text,.int .i64 x.at_]] W λe w'=>e=.returned (.bool (Ik y x))/\Below W.heap.size W w':=
         λW h=>avU y x hys hxs W h
        have HT:=aM ht;have HSM:=aM hsm;clear ht hsm;have fin:sb = !Ik y x:=by rw[<- HSB.out,aAJ];unfold agK;simp only;rw[HSM.out];rfl
        have FIN:=aM fin;clear fin;have g0:=yY s0;have g1:=yY s1;have g2:=yY s2;have g3:=yY q0;have g4:=yY q1;have g5:=yY q2;have cT:∀ d os,AAA 77 #[.agg #[.int .i64 y.kind,.string y.text,.int .i64 y.at_],.agg #[.int .i64 x.kind,.string x.text,.int .i64 x.at_]] (grow (redrawn w1 d) os) λe w''=>e=.returned (.bool (Ik y x))/\∃ p:Regrown,w''=grow (redrawn w1 p.d) p.os:=
         λd os=>Calls.regrown_of (HT.out _ (HM1.out.below (below_regrown w1 d os)))
        have CT:=aM cT;clear cT
        by_cases h6:y.kind=6
        ·have e1:(y.kind==6)=true:=by rw[kW];exact h6
         have h7:¬ y.text=⟨#[59]⟩:=by intro e;have:=HSM.out;unfold xY oK at this;simp[h6,e]at this
         have e2:(y.text.toList == [59])=false:=by
          rw[dR];intro e;apply h7;rw[toList_data]at e;exact KN e
         clear h6 h7;exact RH
        ·have e1:(y.kind==6)=false:=by rw[dR];exact h6
         clear h6;exact RH
     case rest=>
      obtain⟨rfl,hbx⟩:=hcut;have hfin:iK ((l.map oK).take (k+1))=iK ((l.map oK).take k)++((if sb then [32]else [])++(qO (oK x)++nlB (oK x))):=by
       have h1:k<(l.map oK).length:=by rw[bN,HN.out];exact hlt
       have h2:k<l.length:=by rw[HN.out];exact hlt
       have h3:(l.map oK)[k]=oK x:=by rw[List.getElem_map,<- X.out,kZ l k h2]
       rw[SY _ k h1,h3,aFy,HSB.out]
      have HFIN:=aM hfin;have bwc:=bw1.trans (hbx.mono bw1.size);have belc:=bel1.trans (hbx.mono (iH (tP hB2 hlt1)));have bldc:=bld1.below hbx;have Nc:=(hbx.block _ hlt1).trans N1.out;have hBc:B<wc.heap.size:=by have:=hbx.size;omega
      have hB2c:B2<wc.heap.size:=by have:=hbx.size;omega
      clear hfin HSB bw1 bel1 bld1 N1 q0 q1 q2 HM1 hlt1 hbx HR2;have hspz:(qO (oK x)).length<=4294967300:=by
       have:=Jm x.kind x.text
       show (eY x.kind x.text).data.toList.length<=_
       rw[arJ];omega
      obtain⟨A0,hA0⟩:∃ A0,iK ((l.map oK).take k)=A0:=⟨_,rfl⟩
      rw[hA0]at HFIN bldc hsz;have HA0:=aM hA0;clear hA0;have hsp:∀ W,ML W->AAA 80 #[.agg #[.int .i64 x.kind,.string x.text,.int .i64 x.at_]] W λe w'=>e=.returned (.string (eY x.kind x.text))/\Below W.heap.size W w':=λW h=>YB x.kind x.text x.at_ hxs W h
      have HSP:=aM hsp;clear hsp;have X3:xY (oK x)=(x.kind==6&&x.text.toList == [59]):=ajM x
      cases sb with
      | false=>
       have Nd:=aM Nc;have bldd:=bldc;have beld:=belc;have hd1:(Lib.byteCells A0).length<=20000:=by rw[CZ];exact hsz
       cases hc1:(x.kind==6) with
       | false=>
        rw[hc1]at X3;exact RE
       | true=>
        cases hc2:(x.text.toList == [59]) with
        | false=>
         rw[hc1,hc2]at X3;exact RE
        | true=>
         rw[hc1,hc2]at X3;have hnl:nlB (oK x)=[10]:=by unfold nlB;rw[X3];rfl
         have HNL:=aM hnl;clear hnl X3;have t0:wc.cell? (AAF B2 0)=some (.int .i64 x.kind):=aK _ _ 0 _ _ _ Nd.out;have t1:wc.cell? (AAF B2 1)=some (.string x.text):=aK _ _ 1 _ _ _ Nd.out;have t2:wc.cell? (AAF B2 2)=some (.int .i64 x.at_):=aK _ _ 2 _ _ _ Nd.out;have hzd:=beld.size;go_wp2_with fail;refine(HSP.out _ (hml.below (hb2.trans (beld.mono hBw)))).mono ?_;rintro e w6 ⟨rfl,hb6⟩;have bld6:=bldd.below hb6;have bel6:=beld.trans (hb6.mono aB);have hz6:=bel6.size;have N6:=(hb6.block B2 (aX.1 Nd.out).1).trans Nd.out;clear t0 t1 t2 bldd beld;go_wp2_with fail;refine(vA B B (Lib.byteCells A0) (eY x.kind x.text) w6 bld6 (by have:(eY x.kind x.text).size=(qO (oK x)).length:=rfl;omega) aB).mono ?_;rintro e w7 ⟨rfl,hat,hb7,hk7⟩;rw[show Lib.byteCells A0++Lib.strCells (eY x.kind x.text)=Lib.byteCells (A0++qO (oK x))from by rw[CM (A0) (qO (oK x)),Lib.strCells_eq];rfl]at hat;have N7:=hk7 _ _ N6 AR AQ;have bel7:=bel6.trans hb7;have t0:w7.cell? (AAF B2 0)=some (.int .i64 x.kind):=aK _ _ 0 _ _ _ N7;have t1:w7.cell? (AAF B2 1)=some (.string x.text):=aK _ _ 1 _ _ _ N7;have hz7:=bel7.size;clear hk7 hb7 N6 bld6 bel6 hb6;go_wp2_with fail;refine(Em B B (Lib.byteCells (A0++qO (oK x))) 10 w7 (.inr hat) OF aB).mono ?_;rintro e w8 ⟨rfl,hat8,hb8,hk8⟩;rw[show Lib.byteCells (A0++qO (oK x))++[Value.int .u8 10]=Lib.byteCells ((A0++qO (oK x))++[10])from by rw[CM (A0++qO (oK x))];rfl]at hat8;have bel8:=bel7.trans hb8;clear hk8 hb8 hat;have hacc:iK ((l.map oK).take (k+1))=(A0++qO (oK x))++[10]:=by rw[HFIN.out,HNL.out];simp
         have HCUM:=aM hacc;clear hacc;have hln:=Tryz.Builder_Len_f B B (Lib.byteCells ((A0++qO (oK x))++[10])) w8 (.inr hat8);rw[CZ]at hln;obtain⟨nn,hnn⟩:∃ nn,((A0++qO (oK x))++[10]).length=nn:=⟨_,rfl⟩
         exact Pr
      | true=>
       go_wp2_with fail;refine(Em B B (Lib.byteCells A0) 32 wc bldc (by rw[CZ];omega) (iH hBc)).mono ?_;rintro e w5 ⟨rfl,hat,hb5,hk5⟩;rw[show Lib.byteCells A0++[Value.int .u8 32]=Lib.byteCells (A0++[32])from by rw[CM];rfl]at hat;have Nd:=aM (hk5 _ _ Nc AR AQ);have bldd:Lib.IsBuilderF 119 5 B B (Lib.byteCells (A0++[32])) w5:=.inr hat;have beld:=belc.trans hb5;have hd1:(Lib.byteCells (A0++[32])).length<=20001:=by rw[CZ,aO];simp;omega
       clear hat hb5 hk5
       cases hc1:(x.kind==6) with
       | false=>
        rw[hc1]at X3;exact Rj
       | true=>
        cases hc2:(x.text.toList == [59]) with
        | false=>
         rw[hc1,hc2]at X3;exact Rj
        | true=>
         rw[hc1,hc2]at X3;have hnl:nlB (oK x)=[10]:=by unfold nlB;rw[X3];rfl
         have HNL:=aM hnl;clear hnl X3;have t0:w5.cell? (AAF B2 0)=some (.int .i64 x.kind):=aK _ _ 0 _ _ _ Nd.out;have t1:w5.cell? (AAF B2 1)=some (.string x.text):=aK _ _ 1 _ _ _ Nd.out;have t2:w5.cell? (AAF B2 2)=some (.int .i64 x.at_):=aK _ _ 2 _ _ _ Nd.out;have hzd:=beld.size;go_wp2_with fail;refine(HSP.out _ (hml.below (hb2.trans (beld.mono hBw)))).mono ?_;rintro e w6 ⟨rfl,hb6⟩;have bld6:=bldd.below hb6;have bel6:=beld.trans (hb6.mono aB);have hz6:=bel6.size;have N6:=(hb6.block B2 (aX.1 Nd.out).1).trans Nd.out;clear t0 t1 t2 bldd beld;go_wp2_with fail;refine(vA B B (Lib.byteCells (A0++[32])) (eY x.kind x.text) w6 bld6 (by have:(eY x.kind x.text).size=(qO (oK x)).length:=rfl;omega) aB).mono ?_;rintro e w7 ⟨rfl,hat,hb7,hk7⟩;rw[show Lib.byteCells (A0++[32])++Lib.strCells (eY x.kind x.text)=Lib.byteCells ((A0++[32])++qO (oK x))from by rw[CM ((A0++[32])) (qO (oK x)),Lib.strCells_eq];rfl]at hat;have N7:=hk7 _ _ N6 AR AQ;have bel7:=bel6.trans hb7;have t0:w7.cell? (AAF B2 0)=some (.int .i64 x.kind):=aK _ _ 0 _ _ _ N7;have t1:w7.cell? (AAF B2 1)=some (.string x.text):=aK _ _ 1 _ _ _ N7;have hz7:=bel7.size;clear hk7 hb7 N6 bld6 bel6 hb6;go_wp2_with fail;refine(Em B B (Lib.byteCells ((A0++[32])++qO (oK x))) 10 w7 (.inr hat) OF aB).mono ?_;rintro e w8 ⟨rfl,hat8,hb8,hk8⟩;rw[show Lib.byteCells ((A0++[32])++qO (oK x))++[Value.int .u8 10]=Lib.byteCells (((A0++[32])++qO (oK x))++[10])from by rw[CM ((A0++[32])++qO (oK x))];rfl]at hat8;have bel8:=bel7.trans hb8;clear hk8 hb8 hat;have hacc:iK ((l.map oK).take (k+1))=((A0++[32])++qO (oK x))++[10]:=by rw[HFIN.out,HNL.out];simp
         have HCUM:=aM hacc;clear hacc;have hln:=Tryz.Builder_Len_f B B (Lib.byteCells (((A0++[32])++qO (oK x))++[10])) w8 (.inr hat8);rw[CZ]at hln;obtain⟨nn,hnn⟩:∃ nn,(((A0++[32])++qO (oK x))++[10]).length=nn:=⟨_,rfl⟩
         exact Pr
    ·have hke:k=kk:=by omega
     subst hke;have hpr:gX (l.map oK)=(⟨(iK ((l.map oK).take k)).toArray⟩,0):=by
      have e:(l.map oK).take k=l.map oK:=nQ (by rw[bN,HN.out];exact aG _);rw[e]at hsz ⊢;unfold gX;rw[aC oM,aC Dn,aC aB]
     have HPR:=aM hpr;clear hpr;go_wp2_with (go_at_call 82;refine(Tryz.Builder_String_any_f B B _ _ bld hBr).mono ?_;rintro e w'' ⟨rfl,hb3⟩)
     go_ret2
     exact⟨by rw[HPR.out];rfl,hbw.trans (hb3.2.mono hBw)⟩
end
section
open Go.RowKit Lx
def axP(v:Value)(l:List T3)(hs:∀ t∈l,t.text.size<=2147483647)(hlen:l.length<=9223372036854775807)(w:World)(hml:ML w)(hrow:fJ w v l):AAA 49 #[v] w (NU (l.map oK) w):=by
 by_cases hl:l.length<=5000
 ·cases hg:(l.map oK).all XB with
  | false=>exact auV v l hs w hrow hl hg
  | true=>exact anS v l hs w hml hrow hl hg
 ·exact anG v l w hrow hlen aB
end
