/- Part 08. -/
import Derived.Test.YtikalomcclefiaaGreatDoorV07
import Derived.Shelf.SlicesQ.Equal
set_option linter.all false
set_option maxHeartbeats 0
set_option maxRecDepth 100000
namespace Go.Proofs.YtikalomcclefiaaGreatDoor
section
open Go.RowKit Lx
def Bf(ts:List Tok):List Value:=ts.flatMap λt=>[.int .i64 t.kind,.string t.text,.int .i64 t.at_]
def ajT(a b:List Tok):Bf (a++b)=Bf a++Bf b:=by simp[Bf]
def aCF: (Tryz.prog.info? 47).map (λi=>(i.zero,i.size,i.bytes))=some (some (.agg #[.int .i64 0,.string ⟨#[]⟩,.int .i64 0]),3,32):=by kernel_rfl
def aAL: Tryz.prog.underlying 25=some (.slice 47):=by kernel_rfl
def xS(s:AAE):List Tok:=if (fX s).err=0 then(fX s).toks else []
def asL(s:AAE):List (Nat×Nat):=if (fX s).err=0 then(fX s).coms else []
def afK(s:AAE)(w:World)(e:Ending)(w':World):Prop:=
 ∃ lv cv,e=.returned (.tuple #[lv,cv,.int .i64 (fX s).at_,.int .i64 (fX s).err])/\w'.ownsRow w.heap.size 47 3 lv (xS s).length (Bf (xS s))/\
  w'.ownsRow w.heap.size 171 2 cv (asL s).length (uJ (asL s))/\Below w.heap.size w w'
section
variable{s:AAE}{w w':World}{ts:List Tok}{cs:List (Nat×Nat)}
include s w w' ts cs
theorem JA{i:Nat}{n:Int}(h:fX s=⟨ts,cs,i,n⟩)(hn:n≠0)(hb:Below w.heap.size w w'):afK s w (.returned (.tuple #[.slice none 0 0,.slice none 0 0,.int .i64 i,.int .i64 n])) w':=by
 have h1:xS s=[]:=by unfold xS;rw[h,aC hn]
 have h2:asL s=[]:=by unfold asL;rw[h,aC hn]
 unfold afK;rw[h1,h2,h];exact⟨_,_,rfl,tN _ _ _ _,tN _ _ _ _,hb⟩
theorem aAm{lv cv:Value}(h:fX s=⟨ts,cs,0,0⟩)(h1:w'.ownsRow w.heap.size 47 3 lv ts.length (Bf ts))(h2:w'.ownsRow w.heap.size 171 2 cv cs.length (uJ cs))(hb:Below w.heap.size w w'):afK s w (.returned (.tuple #[lv,cv,.int .i64 0,.int .i64 0])) w':=by
 have e1:xS s=ts:=by unfold xS;rw[h];rfl
 have e2:asL s=cs:=by unfold asL;rw[h];rfl
 unfold afK;rw[e1,e2,h];exact⟨lv,cv,rfl,h1,h2,hb⟩
end
def yH{fn:Func}{t u v x:Tmp}(h:fn.results=#[.tmp t,.tmp u,.tmp v,.tmp x])(tmps:Array Value)(P:Program)(w:World) :
 (results fn tmps).run P w=.ok (.tuple #[tmps.getD t undef,tmps.getD u undef,tmps.getD v undef,tmps.getD x undef]) w:=by simp[results,h]
def amS{w w':World}{B0 b n size:Nat}{e T:TypeId}{v:Value}{xs:List Value}{cs:Array Value}{fr:Nat×Nat}(hown:w.ownsRow B0 e size v n xs)(hb:w.heap[b]?=some (.cells cs T fr))(hne:T≠e)(he:e≠171)(ho:Lib.OthersKept 171 (some b) w w'):w'.ownsRow B0 e size v n xs:=by
 refine⟨hown.1,?_⟩
 rcases hown.2 with h|⟨g,cap,cur,rfl,hB,hg,rest⟩
 ·exact .inl h
 ·refine .inr ⟨g,cap,cur,rfl,hB,ho g _ hg ?_ ?_,rest⟩
  ·intro h;injection h with h;subst h;rw[hg]at hb;injection hb with hb;injection hb with _ h2 _;exact hne h2.symm
  ·intro c fz h;injection h with _ h2 _;exact he h2
def fU.others{w w':World}{b r:Nat}{ks:List ByteArray}{cs:Array Value}{T:TypeId}{fr:Nat×Nat}(h:fU w r ks)(hb:w.heap[b]?=some (.cells cs T fr))(ho:Lib.OthersKept 171 (some b) w w'):fU w' r ks:=by
 obtain⟨es,clk,h1,h2⟩:=h;refine⟨es,clk,ho r _ h1 ?_ ?_,h2⟩
 ·intro h;injection h with h;subst h;rw[h1]at hb;injection hb with hb;cases hb
 ·intro c fz h;cases h
def JD{w w':World}{B0 n size:Nat}{e:TypeId}{v:Value}{xs:List Value}(hown:w.ownsRow B0 e size v n xs)(hb:Below w.heap.size w w'):w'.ownsRow B0 e size v n xs:=by
 refine⟨hown.1,?_⟩
 rcases hown.2 with h|⟨g,cap,cur,rfl,hB,hg,rest⟩
 ·exact .inl h
 ·exact .inr ⟨g,cap,cur,rfl,hB,(hb.block g (aX.1 hg).1).trans hg,rest⟩
def ahT{w:World}{B0 n size:Nat}{e:TypeId}{v:Value}{xs:List Value}(h:w.ownsRow B0 e size v n xs):∃ ao cap,v=.slice ao n cap:=by
 exact RY
def aCJ{w:World}{B0 b n size:Nat}{e T:TypeId}{v:Value}{xs:List Value}{cs:Array Value}{fr:Nat×Nat}(hown:w.ownsRow B0 e size v n xs)(hb:w.heap[b]?=some (.cells cs T fr))(hne:T≠e)(j:Nat)(u:Value):(w.setCell (b,j) u).ownsRow B0 e size v n xs:=
 hown.kept (row:=some b) ⟨rfl,rfl,rfl,by simp[World.setCell],λk _ hk=>dJ _ _ _ _ (λe=>hk (by simp[e]))⟩ (Or.inr (ZZ hown hb hne))
def fU.set{w:World}{b r:Nat}{ks:List ByteArray}{cs:Array Value}{T:TypeId}{fr:Nat×Nat}(h:fU w r ks)(hb:w.heap[b]?=some (.cells cs T fr))(j:Nat)(u:Value):fU (w.setCell (b,j) u) r ks:=by
 obtain⟨es,clk,h1,h2⟩:=h;refine⟨es,clk,?_,h2⟩;rw[dJ _ _ _ _ (λe=>?_)]
 ·exact h1
 ·have e':r=b:=e;subst e';rw[h1]at hb;injection hb with hb;cases hb
def aGm{w:World}{B0 n n2 size size2:Nat}{e e2:TypeId}{v v2:Value}{xs ys:List Value}(h:w.ownsRow B0 e size v n xs)(h2:w.ownsRow B0 e2 size2 v2 n2 ys)(hne:e≠e2):v.ownBlock=none\/v.ownBlock≠v2.ownBlock:=by
 rcases h.2 with ⟨rfl,_⟩|⟨g,cap,cur,rfl,_,hg,_⟩
 ·left;rfl
 ·right
  rcases h2.2 with ⟨rfl,_⟩|⟨g2,cap2,cur2,rfl,_,hg2,_⟩
  ·simp[Value.ownBlock]
  ·simp only[Value.ownBlock,ne_eq,mP]
   rintro rfl;rw[hg]at hg2;injection hg2 with hg2;injection hg2 with _ h3 _;exact hne h3
def fU.grown{w w':World}{B0 n size r:Nat}{e:TypeId}{v:Value}{xs:List Value}{ks:List ByteArray}(h:fU w r ks){o:Obj}(hg:(w.alloc o).grownBy w' v.ownBlock)(hown:w.ownsRow B0 e size v n xs)(_:Obj:=o):fU w' r ks:=by
 have hlt:=h.lt;obtain⟨es,clk,h1,h2⟩:=h;refine⟨es,clk,?_,h2⟩;rw[hg.block r dW (λhk=>?_),lP w o r hlt]
 ·exact h1
 ·rcases hown.2 with ⟨rfl,_⟩|⟨g,cap,cur,rfl,_,hgg,_⟩
  ·simp[Value.ownBlock]at hk
  ·simp only[Value.ownBlock,mP]at hk
   subst hk;rw[h1]at hgg;injection hgg with hgg;cases hgg
def aCd(s:AAE)(hs:s.size<=140737488351232)(w:World)(hml:ML w):AAA 83 #[.string s] w (afK s w):=by
 by_cases hbig:20000<s.size
 ·have hr:fX s=⟨[],[],0,2⟩:=by unfold fX;rw[aF hbig]
  have HR:=aM hr;clear hr;go_in;go_wp2_with fail;refine iW (yH rfl _ _ _) rfl ?_;exact JA HR.out aD (bH _ _)
 ·obtain⟨i0,hi0,hz0,hz1,hz2⟩:=nU aCF;have hsz:s.size<=20000:=by omega
  go_in;go_wp2_with (go_at_call 72;refine(Yv _).mono ?_;rintro e ws ⟨rfl,hm,hbs⟩);have b1:Below w.heap.size w (ws.alloc (.cells #[.string s,.int .i64 0,.map (some w.heap.size),.slice none 0 0] 160)):=hbs.alloc hbs.size _;have sc1:Aa (ws.alloc (.cells #[.string s,.int .i64 0,.map (some w.heap.size),.slice none 0 0] 160)) ws.heap.size s 0 w.heap.size (.slice none 0 0):=aP ws (.cells #[.string s,.int .i64 0,.map (some w.heap.size),.slice none 0 0] 160);have hm1:fU (ws.alloc (.cells #[.string s,.int .i64 0,.map (some w.heap.size),.slice none 0 0] 160)) w.heap.size bF:=hm.below (aJ ws (.cells #[.string s,.int .i64 0,.map (some w.heap.size),.slice none 0 0] 160)) hm.lt;have hb0:w.heap.size<=ws.heap.size:=hbs.size;generalize ws.alloc (.cells #[.string s,.int .i64 0,.map (some w.heap.size),.slice none 0 0] 160)=w1 at b1 sc1 hm1 ⊢;generalize ws.heap.size=b at sc1 hb0 ⊢;clear hm hbs;obtain⟨hMb,m0,hm0⟩:=hml
  go_loopg [7] s.size (λg lv wr=>∃ (i:Nat) (cv:Value) (ts:List Tok) (cs:List (Nat×Nat)),i<=s.size/\g=s.size - i/\ts.length<=i/\ts.length<=5000/\cs.length<=i/\fX s=(scn s i ts.length).pre ts cs/\
   Aa wr b s i w.heap.size cv/\fU wr w.heap.size bF/\wr.ownsRow w.heap.size 47 3 lv ts.length (Bf ts)/\wr.ownsRow w.heap.size 171 2 cv cs.length (uJ cs)/\Below w.heap.size w wr)
  case atStart=>exact⟨0,_,[],[],aS _,rfl,aG _,by simp,aG _,by rw[aDw s hsz];simp[Og.pre],sc1,hm1,tN _ _ _ _,tN _ _ _ _,b1⟩
  case round=>
   clear b1 sc1 hm1;obtain⟨i,cv,ts,cs,hi,hg,hti,ht5,hci,hq,sc,hm,ownT,ownC,hb⟩:=hrel;obtain⟨ao,cap,rfl⟩:=ahT ownT;have hmlr:ML wr:=⟨by have:=hb.size;omega,m0,(hb.cell (p:=(AAF _ 0)) hMb).trans hm0⟩
   have hSP:=awV w.heap.size b w.heap.size s i cv cs hi aB hci hb0 wr sc ownC hmlr hb.size hMb;obtain⟨ok,j,cs',hsp⟩:∃ ok j cs',Ug s i=(ok,j,cs'):=⟨_,_,_,rfl⟩
   obtain⟨hij,hj,hcl,hok,hbad⟩:=atO s _ i rfl hi ts.length ok j cs' hsp;have hSP2:AAA 121 #[.pointer (some (AAF b 0))] wr λe w'=>e=.returned (.bool ok)/\∃ v',Aa w' b s j w.heap.size v'/\w'.ownsRow w.heap.size 47 3 (.slice ao ts.length cap) ts.length (Bf ts)/\fU w' w.heap.size bF/\
    w'.ownsRow w.heap.size 171 2 v' (cs++cs').length (uJ (cs++cs'))/\Below w.heap.size w w':=by
    refine hSP.mono λe w' h=>?_;unfold ZY at h;rw[hsp]at h;obtain⟨rfl,v',h1,h2,h3⟩:=h;exact⟨rfl,v',h1,amS ownT sc aD aD h3.others,hm.others sc h3.others,h2,hb.trans h3.below⟩
   have HSP:=aM hSP2;have HQ:=aM hq;have HG:=aM hg;clear hSP hSP2 hsp hq hg sc hm ownT ownC hb hmlr
   cases ok with
   | false=>
    have hres:fX s=⟨ts,cs++cs',j,50⟩:=by rw[HQ.out,hbad rfl];simp[Og.pre]
    have HR:=aM hres;clear hok hbad hres;go_wp2_with (go_at_call 121;refine(HSP.out).mono ?_;rintro e w2 ⟨rfl,v2,sc2,ownT,hm2,ownC,hb2⟩;obtain⟨k0,k1,k2,k3⟩:=sc2.cell)
    go_quiet (fail)
    go_wp2_with fail;refine iW (yH rfl _ _ _) rfl ?_;exact JA HR.out aD (below_drewN hb2 _)
   | true=>
    obtain⟨hnb,hnc,hscn⟩:=hok rfl;clear hok hbad
    by_cases hend:j=s.size
    ·subst hend;have hres:fX s=⟨ts,cs++cs',0,0⟩:=by rw[HQ.out,hscn,aEn];simp[Og.pre]
     have HR:=aM hres;clear hscn hres;go_wp2_with (go_at_call 121;refine(HSP.out).mono ?_;rintro e w2 ⟨rfl,v2,sc2,ownT,hm2,ownC,hb2⟩;obtain⟨k0,k1,k2,k3⟩:=sc2.cell)
     go_quiet (fail)
     go_wp2_with fail;refine iW (yH rfl _ _ _) rfl ?_;exact aAm HR.out ownT ownC (below_drewN hb2 _)
    ·have hlt:j<s.size:=by omega
     have ne1:((j:Int)==(s.size:Int))=false:=by rw[dR];omega
     have htok:=aGL s j ts.length hlt hnb hnc;clear hnb hnc hend
     rcases hnx:gT bF (s.data.toList.drop j)with _|g
     ·have hres:fX s=⟨ts,cs++cs',j,50⟩:=by rw[HQ.out,hscn,htok,hnx];simp[Og.pre]
      have HR:=aM hres;have hnext:∀ W V,Aa W b s j w.heap.size V->fU W w.heap.size bF->AAA 122 #[.pointer (some (AAF b 0))] W λe w'=>e=.returned (.tuple #[.agg #[.int .i64 0,.string ⟨#[]⟩,.int .i64 0],.int .i64 0,.bool false])/\Below W.heap.size W w':=by
       intro W V h1 h2;have:=ahY b w.heap.size s j V hlt aB W h1 h2;rw[hnx]at this;exact this
      have HNX:=aM hnext;clear hscn hres htok hnx hnext;exact Si
     ·have htx:=ajE _ _ _ hnx;have hpos:=EA _ _ _ hnx;have hfar:=YZ _ s j g hnx;have hdl:=EK s j;have hnext:∀ W V,Aa W b s j w.heap.size V->fU W w.heap.size bF->AAA 122 #[.pointer (some (AAF b 0))] W λe w'=>e=.returned (.tuple #[.agg #[.int .i64 g.kind,.string ⟨g.text.toArray⟩,.int .i64 j],.int .i64 (j+g.len:Nat),.bool g.ok])/\Below W.heap.size W w':=by
       intro W V h1 h2;have:=ahY b w.heap.size s j V hlt aB W h1 h2;rw[hnx]at this;exact this
      have HNX:=aM hnext;rw[hnx]at htok;simp only at htok
      have hsz2:(⟨g.text.toArray⟩:ByteArray).size<=140737488351232:=by show g.text.toArray.size<=_;simp;omega
      have hcheck:∀ W,AAA 44 #[.agg #[.int .i64 g.kind,.string ⟨g.text.toArray⟩,.int .i64 j]] W λe w'=>e=.returned (.int .i64 (GG (eP g.kind ⟨g.text.toArray⟩)))/\Below W.heap.size W w':=λW=>EP _ _ _ hsz2 W
      clear hnx hnext
      by_cases hgo:g.ok=false
      ·rw[aF (.inl hgo)]at htok;have hres:fX s=⟨ts,cs++cs',j,50⟩:=by rw[HQ.out,hscn,htok];simp[Og.pre]
       have HR:=aM hres;clear hscn hres htok hcheck htx hfar hdl;rw[hgo]at HNX;clear hgo;exact Si
      ·have hgo1:g.ok=true:=by simpa using hgo
       have hfar2:=hfar hgo1 hlt;rw[hgo1]at HNX
       by_cases hck:eP g.kind ⟨g.text.toArray⟩=false
       ·rw[aF (.inr hck)]at htok;have hres:fX s=⟨ts,cs++cs',j,50⟩:=by rw[HQ.out,hscn,htok];simp[Og.pre]
        have HR:=aM hres;rw[hck]at hcheck;have HCK:=aM hcheck;clear hscn hres htok hcheck htx hfar hdl hgo hgo1 hck;exact Rr
       ·have hck1:eP g.kind ⟨g.text.toArray⟩=true:=by simpa using hck
        rw[aC (by rw[hgo1,hck1];simp)]at htok;rw[hck1]at hcheck;have HCK:=aM hcheck
        by_cases h5:ts.length=5000
        ·rw[aF h5]at htok;have hres:fX s=⟨ts,cs++cs',j,2⟩:=by rw[HQ.out,hscn,htok];simp[Og.pre]
         have HR:=aM hres;have e5:((ts.length:Int)==5000)=true:=by rw[h5];rfl
         clear hscn hres htok hcheck htx hfar hdl hgo hgo1 hck hck1 h5;exact Rr
        ·rw[aC h5]at htok;have hres:fX s=(scn s (j+g.len) (ts++[(⟨g.kind,⟨g.text.toArray⟩,j⟩:Tok)]).length).pre (ts++[(⟨g.kind,⟨g.text.toArray⟩,j⟩:Tok)]) (cs++cs'):=by
          rw[HQ.out,hscn,htok,aAf,aaH,aaH,aO];simp
         have HR:=aM hres;have e5:((ts.length:Int)==5000)=false:=by rw[dR];omega
         have hx1:ts.length+1<=maxLen:=by unfold maxLen;omega
         have hx2:(ts.length+1)*32<=140737488355328:=by omega
         have hone:∀ u∈[Value.int .i64 g.kind,Value.string ⟨g.text.toArray⟩,Value.int .i64 (j:Int)],u.oneCell'=true:=by
          intro u hu;simp at hu;rcases hu with rfl|rfl|rfl<;>rfl
         have hp3:0<3:=by decide
         have hp1:0<1:=by decide
         clear hscn hres htok hcheck htx hdl hgo hgo1 hck hck1;go_upto_region 14 with (first|(go_at_call 121;refine(HSP.out).mono ?_;rintro e w2 ⟨rfl,v2,sc2,ownT,hm2,ownC,hb2⟩;obtain⟨k0,k1,k2,k3⟩:=sc2.cell)|(go_at_call 122;refine(HNX.out w2 v2 sc2 hm2).mono ?_;rintro e w3 ⟨rfl,hb3⟩;have sc3:=sc2.below hb3;have a1:∀ o,(w3.alloc o).cell? (AAF b 1)=some (.int .i64 j):=λo=>(sc3.below (aJ w3 o)).cell.2.1)|(go_at_call 44;refine(HCK.out _).mono ?_;rintro e w4 ⟨rfl,hb4⟩;have sc4:=(sc3.below (aJ w3 (.cells #[.int .i64 g.kind,.string ⟨g.text.toArray⟩,.int .i64 j] 47))).below hb4;have n4:=(hb4.block w3.heap.size aI).trans (aP w3 (.cells #[.int .i64 g.kind,.string ⟨g.text.toArray⟩,.int .i64 j] 47));have a1':w4.cell? (AAF b 1)=some (.int .i64 j):=sc4.cell.2.1;have y0:w4.cell? (AAF w3.heap.size 0)=some (.int .i64 g.kind):=aK _ _ 0 _ _ _ n4;have y1:w4.cell? (AAF w3.heap.size 1)=some (.string ⟨g.text.toArray⟩):=aK _ _ 1 _ _ _ n4;have y2:w4.cell? (AAF w3.heap.size 2)=some (.int .i64 j):=aK _ _ 2 _ _ _ n4;have f1':w4.frozen? (AAF b 1)=false:=aY sc4 1;have B34:=(hb2.trans (hb3.mono hb2.size)).trans ((eU _ _ _ hb4).mono (aZ hb2.size hb3.size));have ownT4:=JD (JD ownT hb3) (eU _ _ _ hb4);have ownC4:=JD (JD ownC hb3) (eU _ _ _ hb4);have hm4:=(hm2.below hb3 hm2.lt).below (eU _ _ _ hb4) (hm2.below hb3 hm2.lt).lt;clear k0 k1 k2 k3 a1 sc2 sc3 ownT ownC hm2 n4));go_wp2_with (at_builtin;refine GB _ rfl _ _ 25 rfl w.heap.size 47 i0 (.agg #[.int .i64 0,.string ⟨#[]⟩,.int .i64 0]) 3 32 aAL hi0 hz0 hz1 hz2 rfl hp3 _ _ _ rfl (ownT4.alloc _) (AAF w4.heap.size 0) 1 1 [.int .i64 g.kind,.string ⟨g.text.toArray⟩,.int .i64 j] rfl rfl ?dd1 ?dd2 ?dd3 ?dd4 ?dd5 ?_)
         case dd1=>exact tG (aP w4 (.cells #[.int .i64 g.kind,.string ⟨g.text.toArray⟩,.int .i64 j] 47))
         case dd2=>exact hone
         case dd3=>exact hx1
         case dd4=>exact hx2
         case dd5=>have:=B34.size;simp;omega
         intro v5 w5 ownT5 hgrow _;have hb4w:b<(w4.alloc (.cells #[.int .i64 g.kind,.string ⟨g.text.toArray⟩,.int .i64 j] 47)).heap.size:=Nat.lt_succ_of_lt sc4.lt |> λh=>by simpa using h
         have hneT:=ZZ ownT4 sc4 (by decide:(160:Nat)≠47);have sc5:Aa w5 b s j w.heap.size v2:=(hgrow.block b hb4w (λe=>hneT e.symm)).trans ((lP w4 _ b sc4.lt).trans sc4);have ownC5:=(ownC4.alloc (.cells #[.int .i64 g.kind,.string ⟨g.text.toArray⟩,.int .i64 j] 47)).kept hgrow (aGm ownC4 ownT4 aD);have hm5:=hm4.grown hgrow ownT4;have hb5:=(B34.alloc B34.size (.cells #[.int .i64 g.kind,.string ⟨g.text.toArray⟩,.int .i64 j] 47)).grown hgrow (by have:=B34.size;simp;omega) (λk hk=>(ownT4.lt k hk).1);obtain⟨k0,k1,k2,k3⟩:=sc5.cell;have f1:w5.frozen? (AAF b 1)=false:=aY sc5 1;clear a1' y0 y1 y2 f1' hgrow hneT hone;go_wp2_with fail
         go_roundg (s.size - (j+g.len))
         case rel=>
          refine⟨j+g.len,v2,ts++[⟨g.kind,⟨g.text.toArray⟩,j⟩],cs++cs',hfar2,rfl,?_,?_,?_,HR.out,Aa.akM sc5 _,hm5.set sc5 1 _,?_,UG ownC5 sc5 1 _,hb5.setCell (p:=(AAF b 1)) hb0 _⟩
          ·rw[aO];show ts.length+1<=_;omega
          ·rw[aO];show ts.length+1<=_;omega
          ·rw[aO];omega
          ·have:=aCJ ownT5 sc5 aD 1 (.int .i64 ((j+g.len:Nat):Int));rw[ajT,aO];exact this
         case measure=>rw[HG.out];omega
def Um(s:AAE)(w:World)(e:Ending)(w':World):Prop:=
 ∃ lv,e=.returned (.tuple #[lv,.int .i64 (fX s).at_,.int .i64 (fX s).err])/\w'.ownsRow w.heap.size 47 3 lv (xS s).length (Bf (xS s))/\Below w.heap.size w w'
def FQ(s:AAE)(hs:s.size<=140737488351232)(w:World)(hml:ML w):AAA 50 #[.string s] w (Um s w):=by
 go_in;go_wp2_with (go_at_call 83;refine(aCd s hs _ hml).mono ?_;rintro e w' ⟨lv,cv,rfl,h1,h2,hb⟩)
 go_ret3
 exact⟨lv,rfl,h1,hb⟩
def vA(B b:Nat)(bs:List Value)(s:AAE)(w:World)(h:Lib.IsBuilderF 119 5 B b bs w)(hlen:bs.length+s.size<=140737488355328)(hBw:B<=w.heap.size):AAA 79 #[.pointer (some (AAF b 0)),.string s] w λe w'=>e=.returned (.tuple #[.int .i64 s.size,.nilIface])/\(Lib.BuilderAtF 119 5 B b (.pointer (some (AAF b 0))) (bs++Lib.strCells s) w'/\Below B w w'/\Lib.OthersKept 5 (some b) w w'):=
 Any.Builder_WriteString_k { Tryz.aoR with } { Tryz.Dy with } B b bs s w h hlen hBw
def Vs{w w':World}{B B0 n size:Nat}{e:TypeId}{v:Value}{xs:List Value}(hown:w.ownsRow B0 e size v n xs)(hl:∀ g,v.ownBlock=some g->g<B)(hb:Below B w w'):w'.ownsRow B0 e size v n xs:=by
 refine⟨hown.1,?_⟩
 rcases hown.2 with h|⟨g,cap,cur,rfl,hB,hg,rest⟩
 ·exact .inl h
 ·exact .inr ⟨g,cap,cur,rfl,hB,(hb.block g (hl g rfl)).trans hg,rest⟩
structure T3 where
 kind:Int
 text:ByteArray
 at_:Int
deriving DecidableEq,Inhabited
def Tok.t3(t:Tok):T3:=⟨t.kind,t.text,t.at_⟩
def Bh(t:T3):List Value:=[.int .i64 t.kind,.string t.text,.int .i64 t.at_]
def tK(ts:List T3):List Value:=ts.flatMap Bh
def Xq(ts:List Tok):Bf ts=tK (ts.map Tok.t3):=by simp[Bf,tK,Bh,Tok.t3,List.flatMap_map]
def fJ(w:World)(v:Value)(ts:List T3):Prop:=∃ ao cap,v=.slice ao ts.length cap/\(ts≠[]->∃ b off,ao=some ⟨b,off,none⟩/\b<w.heap.size/\
 ∀ j,j<ts.length->∀ i u,(Bh ts[j]!)[i]?=some u->w.cell? (b,off+j*3+i)=some u)
def fJ.below{w w':World}{v:Value}{ts:List T3}{B:Nat}(h:fJ w v ts)(hb:Below B w w')(hB:w.heap.size<=B):fJ w' v ts:=by
 obtain⟨ao,cap,rfl,h⟩:=h;refine⟨ao,cap,rfl,λhne=>?_⟩;obtain⟨b,off,e,hlt,hc⟩:=h hne;refine⟨b,off,e,gH hlt hb.size,λj hj i u hu=>?_⟩;rw[hb.cell (p:=(b,off+j*3+i)) (by show b<B;omega)];exact hc j hj i u hu
theorem fJ.drewN{w:World}{v:Value}{ts:List T3}(h:fJ w v ts)(n:Nat):fJ (w.drewN n) v ts:=h
def Lq(ts:List T3):∀ (j:Nat),j<ts.length->∀ i u,(Bh ts[j]!)[i]?=some u->(tK ts)[j*3+i]?=some u:=by
 induction ts with
 | nil=>intro j h;cases h
 | cons t ts ih=>
  intro j h i u hu
  cases j with
  | zero=>
   have hi:i<3:=by
    exact RV
   rw[show tK (t::ts)=Bh t++tK ts from rfl,Gc (by simp[Bh];omega)]
   simpa using hu
  | succ j=>
   have:=ih j qA i u (by simpa using hu);rw[show tK (t::ts)=Bh t++tK ts from rfl,Ad (by simp[Bh];omega)];rw[<- this]
   congr 1
   simp[Bh];omega
def fJ.VW{w:World}{B:Nat}{v:Value}{ts:List T3}(h:w.ownsRow B 47 3 v ts.length (tK ts)):fJ w v ts:=by
 obtain⟨ao,cap,rfl⟩:=ahT h;refine⟨ao,cap,rfl,λhne=>?_⟩;have hl:0<ts.length:=pE.2 hne
 rcases h.2 with ⟨_,h0⟩|⟨g,cap',cur,hv,hB,hg,rest⟩
 ·omega
 ·injection hv with e1 e2 e3
  subst e1;refine⟨g,0,rfl,(aX.1 hg).1,λj hj i u hu=>?_⟩;have:=h.cells (g:=g) rfl _ _ (Lq ts j hj i u hu);exact Rk
def GI(x y:T3):Bool:=decide (x.kind=y.kind)&&decide (x.text=y.text)
def Ks(t:T3):Value:=.agg #[.int .i64 t.kind,.string t.text,.int .i64 t.at_]
def VJ(w:World)(a b:Obj):Below w.heap.size w ((w.alloc a).alloc b):=((bH _ _).alloc (aG _) _).alloc aI _
def aBH(x y:T3)(w:World):AAA 118 #[Ks x,Ks y] w λe w'=>e=.returned (.bool (GI x y))/\Below w.heap.size w w':=by
 obtain⟨k,t,a⟩:=x;obtain⟨k',t',a'⟩:=y;have ht:(t.toList=t'.toList)=(t=t'):=by rw[sH,sH];obtain⟨⟨x⟩⟩:=t;obtain⟨⟨y⟩⟩:=t';simp
 unfold Ks;go_in;go_wp2_with fail
 all_goals (go_ret;refine⟨?_,VJ _ _ _⟩)
 ·rename_i h
  by_cases h2:t=t'<;>simp[GI,h,h2,ht]
 ·rename_i h;simp[GI,h]
def zY{w w':World}{b off n:Nat}{ts:List T3}(hc:∀ j,j<n->∀ i u,(Bh ts[j]!)[i]?=some u->w.cell? (b,off+j*3+i)=some u)(hb:b<w.heap.size)(hw:Below w.heap.size w w')(j:Nat)(hj:j<n):w'.cell? (b,off+j*3)=some (.int .i64 ts[j]!.kind)/\w'.cell? (b,off+j*3+1)=some (.string ts[j]!.text)/\w'.cell? (b,off+j*3+2)=some (.int .i64 ts[j]!.at_):=by
 have h:=λi u hi=>(hw.cell (p:=(b,off+j*3+i)) hb).trans (hc j hj i u hi)
 exact⟨h 0 _ rfl,h 1 _ rfl,h 2 _ rfl⟩
def amN(a b:Value)(xs ys:List T3)(w:World)(h1:fJ w a xs)(h2:fJ w b ys)(hx:xs.length<=9223372036854775807)(_hy:ys.length<=9223372036854775807):AAA 117 #[a,b,.func (.func 118) #[] #[]] w λe w'=>e=.returned (.bool (Lib.allEq GI xs ys))/\Below w.heap.size w w':=by
 obtain⟨ao,ac,rfl,h1⟩:=h1;obtain⟨bo,bc,rfl,h2⟩:=h2
 by_cases hl:xs.length=ys.length
 ·go_in;go_wp2_with fail;generalize hn:xs.length=n at h1 ⊢;have hy':ys.length=n:=by omega
  rw[hy']at h2 ⊢
  go_loopg [17] n (λgg q wr=>∃ kk:Nat,kk<=n/\n - kk<=gg/\q=.int .i64 kk/\Aside (Below w.heap.size w wr)/\Aside (∀ j,j<kk->GI xs[j]! ys[j]! = true))
  case atStart=>exact DF
  case round=>
   obtain⟨kk,hkk,hg,rfl,BW,A⟩:=hrel
   by_cases hlt:kk<n
   ·have hltz:(kk:Int)<(n:Int):=by omega
    obtain⟨b1,o1,rfl,l1,c1⟩:=h1 (by intro e;rw[e]at hn;simp at hn;omega);obtain⟨b2,o2,rfl,l2,c2⟩:=h2 (by intro e;rw[e]at hy';simp at hy';omega);have r1:=zY c1 l1 BW.out kk hlt;have hr2:=λW (hW:Below w.heap.size w W)=>zY c2 l2 hW kk hlt
    have HR2:=aM hr2;clear hr2 c1 c2 l1 l2 h1 h2;generalize hxk:xs[kk]! = x at r1;generalize hyk:ys[kk]! = y at HR2;have B:Aside (xs[kk]! = x/\ys[kk]! = y):=⟨hxk,hyk⟩
    clear hxk hyk;obtain⟨p0,p1,p2⟩:=r1;go_upto_region 6 with fail;have bw1:Below w.heap.size w (wr.alloc (.cells #[.int .i64 x.kind,.string x.text,.int .i64 x.at_] 47)):=BW.out.alloc BW.out.size _;have n1:=aP wr (.cells #[.int .i64 x.kind,.string x.text,.int .i64 x.at_] 47);have z1:w.heap.size<=wr.heap.size:=BW.out.size;generalize wr.alloc (.cells #[.int .i64 x.kind,.string x.text,.int .i64 x.at_] 47)=w1 at bw1 n1 ⊢;have N1:=aM n1;have hz1:=(aX.1 n1).1;generalize wr.heap.size=B1 at n1 N1 hz1 z1 ⊢;obtain⟨s0,s1,s2⟩:=HR2.out w1 bw1;clear n1 HR2 p0 p1 p2 BW;go_upto_region 7 with fail;have hk1:(w1.alloc (.cells #[.int .i64 y.kind,.string y.text,.int .i64 y.at_] 47)).heap[B1]?=_:=(Lib.alloc_old w1 _ B1 hz1).trans N1.out;have bw2:Below w.heap.size w (w1.alloc (.cells #[.int .i64 y.kind,.string y.text,.int .i64 y.at_] 47)):=bw1.alloc bw1.size _;have n2:=aP w1 (.cells #[.int .i64 y.kind,.string y.text,.int .i64 y.at_] 47);have z2:w.heap.size<=w1.heap.size:=bw1.size;generalize w1.alloc (.cells #[.int .i64 y.kind,.string y.text,.int .i64 y.at_] 47)=w2 at bw2 n2 hk1 ⊢;have q0:w2.cell? (AAF B1 0)=some (.int .i64 x.kind):=by rw[gD hk1];rfl
    have q1:w2.cell? (AAF B1 1)=some (.string x.text):=by rw[gD hk1];rfl
    have q2:w2.cell? (AAF B1 2)=some (.int .i64 x.at_):=by rw[gD hk1];rfl
    have t0:w2.cell? (AAF w1.heap.size 0)=some (.int .i64 y.kind):=by rw[gD n2];rfl
    have t1:w2.cell? (AAF w1.heap.size 1)=some (.string y.text):=by rw[gD n2];rfl
    have t2:w2.cell? (AAF w1.heap.size 2)=some (.int .i64 y.at_):=by rw[gD n2];rfl
    have hcall:=λW=>aBH x y W
    unfold Ks at hcall;have z3:=bw2.size;clear hk1 n2 N1 s0 s1 s2 bw1 hz1 z1 z2
    cases hq:GI x y with
    | false=>
     rw[hq]at hcall;go_wp2_with fail;refine(hcall _).mono ?_;rintro e w' ⟨rfl,hb'⟩;go_wp2_with fail;go_ret;refine⟨?_,bw2.trans (hb'.mono z3)⟩;rw[Lib.allEq_elem GI xs ys kk aB aB (by rw[B.out.1,B.out.2];exact hq)];rfl
    | true=>
     rw[hq]at hcall;go_wp2_with fail;refine(hcall _).mono ?_;rintro e w' ⟨rfl,hb'⟩;go_wp2_with fail
     go_roundg (n - (kk+1))
     case measure=>omega
     case rel=>
      refine⟨kk+1,by omega,by omega,by go_num,bw2.trans (hb'.mono z3),(show Aside _ from λj hj=>?_)⟩
      by_cases e:j=kk
      ·subst e;rw[B.out.1,B.out.2];exact hq
      ·exact A.out j aB
   ·have hltz:¬ (kk:Int)<(n:Int):=by omega
    have:kk=n:=by omega
    subst this;go_wp2_with fail;go_ret;exact⟨by rw[Lib.allEq_all GI xs ys aB (by rw[hn];exact A.out)];rfl,BW.out⟩
 ·rw[Lib.allEq_len _ _ _ hl];have hl':¬ (xs.length:Int)=ys.length:=by omega
  clear h1 h2;go_in;go_wp2_with fail;go_ret;exact⟨rfl,bH _ _⟩
end
