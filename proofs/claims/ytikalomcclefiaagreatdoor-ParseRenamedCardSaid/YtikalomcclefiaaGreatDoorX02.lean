/- Part 02. -/
import Derived.Test.YtikalomcclefiaaGreatDoorV50
import Derived.Test.YtikalomcclefiaaGreatDoorX01
set_option linter.all false
set_option maxHeartbeats 0
set_option maxRecDepth 100000
namespace Go.Proofs.YtikalomcclefiaaGreatDoor
section
open Go.RowKit Lx Px
def TV.aGQ{w:World}{b:Nat}{x y z u v:Value}(h:TV w b x y z u v)(u':Value):TV (w.setCell (AAF b 3) u') b x y z u' v:=by
 exact Se
def Two(fb tb:Nat)(A B:dL)(w:World):Prop:=w.heap[fb]?=some (.cells #[.string A] 9 (0,0))/\w.heap[tb]?=some (.cells #[.string B] 9 (0,0))
def Two.below{fb tb:Nat}{A B:dL}{w w':World}(h:Two fb tb A B w)(b:iY w w'):Two fb tb A B w':=⟨(b.block _ (blt h.1)).trans h.1,(b.block _ (blt h.2)).trans h.2⟩
def ahN{fb tb:Nat}{A B:dL}{w:World}(h:Two fb tb A B w)(s:dL):AAA 59 #[s,pq fb,pq tb] w λe w'=>e=.returned (.string (rf A B s))/\w'=w:=by
 have k0:w.cell? (AAF fb 0)=some (.string A):=aK w fb 0 _ _ _ h.1;have k1:w.cell? (AAF tb 0)=some (.string B):=aK w tb 0 _ _ _ h.2
 by_cases hs:s=A
 ·subst hs;have HR:=aN (show rf s B s=B by unfold rf;rw[aF rfl]);have y1:(s.toList==s.toList)=true:=by simp
  go_in;go_wp2_with fail;go_ret;exact⟨by rw[HR.out];rfl,rfl⟩
 ·have HR:=aN (show rf A B s=s by unfold rf;rw[aC hs]);have y1:(s.toList==A.toList)=false:=by rw[beq_toList,bX hs]
  have y2:decide (s=A)=false:=bX hs;clear hs;go_in;go_wp2_with fail;go_ret;exact⟨by rw[HR.out];rfl,rfl⟩
def FG.below{w0 w w':World}{v:Value}{l:List T}(h:FG w0 w v l)(b:iY w w'):FG w0 w' v l:=by
 obtain⟨vs,g1,g2⟩:=h;exact⟨vs,g1.kept (bS none b) (by cases v.ownBlock<;>simp),g2.kept (λ_ hb _=>hb) b.size (λx _ hl=>b.block x hl)⟩
def RnQ(w:World)(t:T)(e:Ending)(w':World):Prop:=iY w w'/\∃ k n a s ao m c,e=.returned (tg k n a s ao m c)/\iB (Fr w) w' t (vT k n a s ao m c)
def NmR(wB:World)(fb tb:Nat)(A B:dL)(t:T):Prop:=∀ (w:World),iY wB w->Two fb tb A B w->nodes t<=1000000->∀ (k n a:Int) (s:dL) (ao:iD) (m c:Nat),Tr wB t (vT k n a s ao m c)->
 AAA 58 #[tg k n a s ao m c,.func (.func 59) #[] #[pq fb,pq tb]] w (RnQ w (qX (rf A B) false t))
theorem Tr.WQ{wB:World}{t:T}{k n a:Int}{s:dL}{ao:iD}{m c:Nat}(h:Tr wB t (vT k n a s ao m c))(s':dL):Tr wB (Px.WQ t s') (vT k n a s' ao m c):=by
 obtain⟨k',n',a',w',l⟩:=t;unfold Tr iB vT at h;obtain⟨ao',cap,e,h⟩:=h;simp only[fL,vE,vD,fD]at e
 obtain⟨rfl,rfl,rfl,rfl,e,_⟩:=e;unfold Tr iB vT;exact⟨ao',cap,by simp[T.kind,T.n,T.at_,T.l,e],h⟩
def auP(wB:World)(fb tb:Nat)(A B:dL):∀ d (t:T),depth t<=d->NmR wB fb tb A B t:=by
 intro d
 induction d using Nat.strongRecOn with
 | _ d ih=>
  intro t hd w low hw2 hnn k n a s ao m c ht;have H:=aN (λ(x:T) (hx:x∈t.l)=>ih (depth x) (by have:=Px.sD hx;omega));have HDL:=aN (λ(x:T) (hx:x∈t.l)=>CK hx);clear ih hd;have hsp:=ht.split;obtain rfl:m=t.l.length:=hsp.2.2.2.2;have e1:nodes t=1+bV t.l:=by obtain⟨k,n,a,w,l⟩:=t;rw[nodes];rfl
  have hll:=lU t.l
  have HT:=aN (show qX (rf A B) false t=.mk k n a (if k=3 then rf A B s else s) (BS (rf A B) (decide (k=48)) t.l)by
   obtain⟨k',n',a',w',l⟩:=t
   obtain⟨rfl,rfl,rfl,rfl,_⟩:=hsp
   rw[qX]
   simp[T.kind,T.n,T.at_,T.word,T.l])
  clear hsp;have b1:=aJ w (.cells (tg k n a s ao t.l.length c) 24);have t1:=TV.new w k n a s (.slice ao t.l.length c);have z1:(w.alloc (.cells (tg k n a s ao t.l.length c) 24)).heap.size=w.heap.size+1:=by simp
  have b2:=aJ (w.alloc (.cells (tg k n a s ao t.l.length c) 24)) (.cells zT 24);have r2:=TV.new (w.alloc (.cells (tg k n a s ao t.l.length c) 24)) (iq 0) (iq 0) (iq 0) (.string ⟨#[]⟩) (.slice none 0 0);have t2:=t1.below b2;have B2:=b1.trans (b2.mono b1.size);rw[z1]at r2;clear z1 b1 b2 t1;unfold zT at t2 B2;go_in;go_upto_region 1 with fail;generalize World.alloc (World.alloc w _) _=w2 at t2 r2 B2 ⊢;have h2:=hw2.below B2;have hC1:=ahN h2 s;have F0:=AAD t2;go_upto_if 10 with fail;go_cut []from 10 to 15 (λwx=>TV wx w.heap.size k n a (.string (if k=3 then rf A B s else s)) (.slice ao t.l.length c)/\TV wx (w.heap.size+1) (iq 0) (iq 0) (iq 0) (.string ⟨#[]⟩) (.slice none 0 0)/\iY w wx)
  case first=>
   by_cases hk3:k=3
   ·have T2:=t2.aGQ (.string (rf A B s));have R2:TV (w2.setCell (AAF w.heap.size 3) (.string (rf A B s))) (w.heap.size+1) _ _ _ _ _:=(dJ w2 (AAF w.heap.size 3) (.string (rf A B s)) _ (show w.heap.size+1≠w.heap.size by omega)).trans r2;have BB:iY w (w2.setCell (AAF w.heap.size 3) (.string (rf A B s))):=B2.setCell (p:=(AAF w.heap.size 3)) (aG _) _;have HS:=aN (show (if k=3 then rf A B s else s)=rf A B s by rw[aF hk3]);have y3:(k==(3:Int))=true:=by simp[hk3]
    clear hk3;have T2:=aN T2;have R2:=aN R2;have BB:=aN BB;go_upto_block 2 with fail;refine hC1.mono ?_;rintro e w3 ⟨rfl,hw3⟩;rw[hw3];clear hw3
    go_wp2
    go_meet
    case rel=>exact⟨by rw[HS.out];exact T2.out,R2.out,BB.out⟩
   ·have HS:=aN (show (if k=3 then rf A B s else s)=s by rw[aC hk3]);have y3:(k==(3:Int))=false:=by simp[hk3]
    clear hk3
    go_wp2
    go_meet
    case rel=>exact⟨by rw[HS.out];exact t2,r2,B2⟩
  case rest=>
   obtain⟨tc,rc,Bc⟩:=hcut;clear hC1 F0 t2 r2 B2;obtain⟨wS1,hwS⟩:∃ wS1,wS1=wc:=⟨_,rfl⟩
   rw[<- hwS]at tc rc Bc ⊢;clear hwS;generalize (if k=3 then rf A B s else s)=s' at tc HT;have hwc:=low.trans (Bc.mono low.size);have h2c:=hw2.below Bc;have hz1:=tc.lt;have hz2:=rc.lt;have F0:=AAD tc;go_wp2_with fail
   go_loopg [5,19] t.l.length (λg t5 t19 wr=>∃ (q:Nat) (lv:Value),t19=.int .i64 q/\lv=t5/\q<=t.l.length/\g=t.l.length - q/\FG wS1 wr lv (BS (rf A B) (decide (k=48)) (t.l.take q))/\iY wS1 wr)
   case atStart=>exact⟨0,_,rfl,rfl,aS _,rfl,by rw[Co,BS];exact FG.nil _ _,bH _ _⟩
   case round=>
    clear F0;obtain⟨q,lv,rfl,hlv,hq,hg,hL,Bz⟩:=hrel;subst hlv;have HG:=aN hg;clear hg;have tb:=tc.below Bz;have rb:=rc.below Bz;have F0:=AAD tb
    by_cases hlt:q<t.l.length
    ·have hwr:=hwc.trans (Bz.mono hwc.size);obtain⟨ao1,c1',vs1,e,hTs,hrow⟩:=mH.tree (rv:=[]) hwr ht;obtain⟨b,off,rfl,_,hcell⟩:=hrow kF;simp only[dZ,fD]at e
     obtain⟨rfl,rfl⟩:=e;obtain⟨k1,n1',a1,s1,o1,m1,c1,hTr,d0,d1,d2,d3,d4⟩:=Tr.elem hTs hcell q hlt;have TK:=aN (jY hlt);have hmem:=eJ hlt;have hyn:=HDL.out _ hmem;have hH:=H.out _ hmem;have hyk:k1=(t.l[q]'hlt).kind:=hTr.split.1;have hys:s1=(t.l[q]'hlt).word:=hTr.split.2.2.2.1;have hem:(t.l.take q).isEmpty=decide (q=0):=by
      cases q with
      | zero=>rfl
      | succ q=>
       rw[bX aB]
       cases h:t.l.take (q+1) with
       | nil=>have:=congrArg List.length h;rw[jV,dD]at this;omega
       | cons _ _=>rfl
     generalize t.l[q]'hlt=y at hTr TK hmem hyn hyk hys hH;obtain⟨cb,hcb⟩:∃ cb,cb=(decide (k=48)&&decide (q=0)&&decide (k1=11)):=⟨_,rfl⟩
     have hyy:qX (rf A B) (decide (k=48)&&(t.l.take q).isEmpty) y=qX (rf A B) false (Px.WQ y (if cb=true then rf A B s1 else s1)):=by
      rw[hem,hcb]
      by_cases h11:k1=11
      ·rw[eQ h11,Bool.and_true]
       cases (decide (k=48)&&decide (q=0)) with
       | true=>rw[aHS,aF (hyk ▸ h11),aF rfl,hys]
       | false=>rw[aC aD,hys];obtain⟨_,_,_,_,_⟩:=y;rfl
      ·rw[bX h11,Bool.and_false,aC aD,aLB (hyk ▸ h11),hys];obtain⟨_,_,_,_,_⟩:=y;rfl
     have HYY:=aN hyy;have HCB:=aN hcb;clear hyk hys hem hyy hcb hcell hTs hrow hmem;have x1:(q:Int)<(t.l.length:Int):=by omega
     have hq6:q<=1000000:=by omega
     have b4:=aJ wr (.cells (tg k1 n1' a1 s1 o1 m1 c1) 24);have x4:=TV.new wr k1 n1' a1 s1 (.slice o1 m1 c1);go_upto_region 7 with fail;generalize World.alloc wr _=w5 at b4 x4 ⊢;have tb5:=tb.below b4;clear d0 d1 d2 d3 d4 F0 x1;have F0:=AAD tb5;have F1:=AAD x4;have hC5:=ahN ((h2c.below Bz).below b4) s1;go_cut [35] (λv35 wx=>v35=.bool cb/\w5=wx)
     case first=>
      by_cases d48:k=48
      ·by_cases dq0:q=0
       ·by_cases d11:k1=11
        ·have y1:((q:Int)==0)=true:=by simp[dq0]
         have y2:(k==(48:Int))=true:=by simp[d48]
         have y3:(k1==(11:Int))=true:=by simp[d11]
         have D:=aN (show cb=true by rw[HCB.out,eQ d48,eQ dq0,eQ d11];rfl);clear d48 dq0 d11
         go_wp2
         go_meet
         case rel=>exact⟨by rw[D.out],rfl⟩
        ·have y1:((q:Int)==0)=true:=by simp[dq0]
         have y2:(k==(48:Int))=true:=by simp[d48]
         have y3:(k1==(11:Int))=false:=by simp[d11]
         have D:=aN (show cb=false by rw[HCB.out,bX d11,Bool.and_false]);clear d48 dq0 d11
         go_wp2
         go_meet
         case rel=>exact⟨by rw[D.out],rfl⟩
       ·have y1:((q:Int)==0)=false:=by simp;omega
        have y2:(k==(48:Int))=true:=by simp[d48]
        have D:=aN (show cb=false by rw[HCB.out,bX dq0,Bool.and_false];rfl);clear d48 dq0
        go_wp2
        go_meet
        case rel=>exact⟨by rw[D.out],rfl⟩
      ·have y2:(k==(48:Int))=false:=by simp[d48]
       have D:=aN (show cb=false by rw[HCB.out,bX d48];rfl);clear d48
       go_wp2
       go_meet
       case rel=>exact⟨by rw[D.out],rfl⟩
     case rest=>
      obtain⟨rfl,rfl⟩:=hcut;clear F0;go_upto_if 35 with fail;go_cut []from 35 to 40 (λwx=>TV wx wr.heap.size k1 n1' a1 (.string (if cb=true then rf A B s1 else s1)) (.slice o1 m1 c1)/\iY wr wx)
      case first=>
       cases hcv:cb with
       | true=>
        have X5:=aN (x4.aGQ (.string (rf A B s1)));have B5:=aN (b4.setCell (p:=(AAF wr.heap.size 3)) (aG _) (.string (rf A B s1)));have HS:=aN (show (if cb=true then rf A B s1 else s1)=rf A B s1 from aF hcv);clear hcv;go_upto_block 8 with fail;refine hC5.mono ?_;rintro e w6 ⟨rfl,hw6⟩;rw[hw6];clear hw6
        go_wp2
        go_meet
        case rel=>exact⟨by rw[HS.out];exact X5.out,B5.out⟩
       | false=>
        have HS:=aN (show (if cb=true then rf A B s1 else s1)=s1 from aC (by rw[hcv];decide));clear hcv
        go_wp2
        go_meet
        case rel=>exact⟨by rw[HS.out];exact x4,b4⟩
      case rest=>
       obtain⟨x6,B6⟩:=hcut;clear hC5 F1 x4 b4 tb5;generalize (if cb=true then rf A B s1 else s1)=s2 at x6 HYY;have Bw:=Bz.trans (B6.mono Bz.size);have hcall:=hH (Px.WQ y s2) (by obtain⟨_,_,_,_,_⟩:=y;unfold Px.WQ depth;exact aG _) _ (hwc.trans (Bw.mono hwc.size)) (h2c.below Bw) (by have e9:nodes (Px.WQ y s2)=nodes y:=(by obtain⟨_,_,_,_,_⟩:=y;unfold Px.WQ nodes;rfl);omega) k1 n1' a1 s2 o1 m1 c1 (hTr.WQ s2);have F1:=AAD x6;go_upto_block 9 with fail;refine hcall.mono ?_;rintro e w7 ⟨b7,k7,n7,a7,s7,o7,m7,c7,rfl,T7⟩;have T7v:=T7;have Bv:=Bw.trans (b7.mono Bw.size);have hL7:=hL.below (B6.trans (b7.mono B6.size));have ht7:=iB.beside (hL.below B6) Bw.size T7v;have x6n:=nodes y;clear hcall F1 x6 T7v T7 b7 B6 Bw hL;go_wp2_with (at_builtin;go_loud (refine qJ rfl _ _ rfl wS1 w7 lv _ rfl hL7 (qX (rf A B) false (Px.WQ y s2)) (vT k7 n7 a7 s7 o7 m7 c7) ht7 rfl ?dd1 ?dd2 ?_))
       case dd1=>exact Bv.size
       case dd2=>rw[abJ,jV];omega
       intro v8 w8 hL8 hb8;have Bu:=Bv.trans hb8;clear hL7 ht7 Bv hb8 x6n;go_wp2_with fail
       go_roundg (t.l.length - (q+1))
       case measure=>rw[HG.out];omega
       case rel=>exact⟨q+1,v8,by go_num,rfl,hlt,rfl,by rw[TK.out,aBO,HYY.out];exact hL8,Bu⟩
    ·have x1:¬ (q:Int)<(t.l.length:Int):=by omega
     rw[nQ aB]at hL;have hTree:=hL.tree k n a s';rw[<- HT.out]at hTree;obtain⟨ao9,c9,hv9⟩:=hL.form;rw[abJ]at hv9;subst hv9;have t9:=tb.aBu (.slice ao9 t.l.length c9);have r9:TV (wr.setCell (AAF w.heap.size 4) (.slice ao9 t.l.length c9)) (w.heap.size+1) _ _ _ _ _:=(dJ wr (AAF w.heap.size 4) (.slice ao9 t.l.length c9) _ (show w.heap.size+1≠w.heap.size by omega)).trans rb;have hb9:iY w (wr.setCell (AAF w.heap.size 4) (.slice ao9 t.l.length c9)):=(Bc.trans (Bz.mono Bc.size)).setCell (p:=(AAF w.heap.size 4)) (aG _) _;have hs9:∀ j,j≠w.heap.size->(wr.setCell (AAF w.heap.size 4) (.slice ao9 t.l.length c9)).heap[j]?=wr.heap[j]?:=λj hj=>dJ wr (AAF w.heap.size 4) (.slice ao9 t.l.length c9) j hj
     have hz9:(wr.setCell (AAF w.heap.size 4) (.slice ao9 t.l.length c9)).heap.size=wr.heap.size:=by simp[World.setCell]
     have HS9:=aN hs9;have HZ9:=aN hz9;clear hs9 hz9 hL tb rb;go_upto_region 12 with fail;generalize World.setCell wr _ _=w9 at t9 r9 hb9 HS9 HZ9 ⊢;clear F0;have F0:=AAD t9;have F1:=AAD r9;go_wp2_with fail;have P1:=r9.set k n a s' (.slice ao9 t.l.length c9);have P2:=jH hb9 (bU _) k n a s' (.slice ao9 t.l.length c9);have P3:∀ j,wS1.heap.size<=j->(((((w9.setCell (AAF (w.heap.size+1) 0) (iq k)).setCell (AAF (w.heap.size+1) 1) (iq n)).setCell (AAF (w.heap.size+1) 2) (iq a)).setCell (AAF (w.heap.size+1) 3) (.string s')).setCell (AAF (w.heap.size+1) 4) (.slice ao9 t.l.length c9)).heap[j]?=wr.heap[j]?:=λj hj=>(Aw (show w.heap.size+1≠j by omega) w9 _ _ _ _ _).trans (HS9.out j aB)
     have P4:(((((w9.setCell (AAF (w.heap.size+1) 0) (iq k)).setCell (AAF (w.heap.size+1) 1) (iq n)).setCell (AAF (w.heap.size+1) 2) (iq a)).setCell (AAF (w.heap.size+1) 3) (.string s')).setCell (AAF (w.heap.size+1) 4) (.slice ao9 t.l.length c9)).heap.size=wr.heap.size:=by simp[World.setCell];exact HZ9.out
     generalize World.setCell (World.setCell (World.setCell (World.setCell (World.setCell w9 _ _) _ _) _ _) _ _) _ _=w10 at P1 P2 P3 P4 ⊢;refine nX P1 Tryz.results58 ?_;exact⟨P2,k,n,a,s',ao9,t.l.length,c9,rfl,hTree.kept (λb hb _=>aZ Bc.size hb) (Nat.le_of_eq P4.symm) (λb hb _=>P3 b hb)⟩
def ENQ(w:World)(r:T×Int)(e:Ending)(w':World):Prop:=iY w w'/\∃ k n a s ao m c,e=.returned (.tuple #[tg k n a s ao m c,iq r.2])/\iB (Fr w) w' r.1 (vT k n a s ao m c)
def ENQ.mk{w:World}{r:T×Int}{w':World}{t:T}{x:Int}(h:r=(t,x))(b:iY w w'){k n a:Int}{s:dL}{ao:iD}{m c:Nat}(ht:iB (Fr w) w' t (vT k n a s ao m c)):ENQ w r (.returned (.tuple #[tg k n a s ao m c,iq x])) w':=by
 exact DV
def abN(t:T)(A B:dL):T×Int:=if De t=true then(if oI A=true/\oI B=true then(qX (rf A B) false t,0)else(sP,1))else(sP,71)
def Gw(s:dL)(w:World):AAA 28 #[s] w λe w'=>e=.returned (.bool (oI s))/\iY w w':=by
 by_cases hn:xE s=true
 ·refine Wm s ?_ w;unfold xE at hn;simp only[bA,dX]at hn
  omega
 ·have hn':xE s=false:=by simpa using hn
  go_in;go_wp2_with fail;refine(LG s w).mono ?_;rintro e w' ⟨rfl,n,rfl⟩
  go_wp2
  go_ret;exact⟨eI (by rw[LF,hn'];rfl),below_drewN _ _⟩
def aFc(w:World)(x y z u v:Value)(A B:dL):∃ w4,World.alloc (World.alloc (World.alloc (World.alloc w (.cells #[x,y,z,u,v] 24)) (.cells #[.string A] 9)) (.cells #[.string B] 9)) (.cells zT 24)=w4/\iY w w4/\TV w4 w.heap.size x y z u v/\Two (w.heap.size+1) (w.heap.size+2) A B w4/\TV w4 (w.heap.size+3) (iq 0) (iq 0) (iq 0) (.string ⟨#[]⟩) (.slice none 0 0):=by
 refine⟨_,rfl,?_,?_,?_,?_⟩
 ·exact((((bH _ w).alloc (aG _) _).alloc aI _).alloc dW _).alloc dW _
 ·exact(((TV.new w x y z u v).below (aJ _ _)).below (aJ _ _)).below (aJ _ _)
 ·have z1:(w.alloc (.cells #[x,y,z,u,v] 24)).heap.size=w.heap.size+1:=by simp
  have h1:=aP (w.alloc (.cells #[x,y,z,u,v] 24)) (.cells #[.string A] 9);have z2:((w.alloc (.cells #[x,y,z,u,v] 24)).alloc (.cells #[.string A] 9)).heap.size=w.heap.size+2:=by simp
  have h2:=aP ((w.alloc (.cells #[x,y,z,u,v] 24)).alloc (.cells #[.string A] 9)) (.cells #[.string B] 9);rw[z1]at h1;rw[z2]at h2;unfold Two;exact⟨((aJ _ _).block _ aI).trans (((aJ _ _).block _ (by rw[z2];omega)).trans h1),((aJ _ _).block _ aI).trans h2⟩
 ·have z3:(((w.alloc (.cells #[x,y,z,u,v] 24)).alloc (.cells #[.string A] 9)).alloc (.cells #[.string B] 9)).heap.size=w.heap.size+3:=by simp
  have h3:=aP (((w.alloc (.cells #[x,y,z,u,v] 24)).alloc (.cells #[.string A] 9)).alloc (.cells #[.string B] 9)) (.cells zT 24);rw[z3]at h3;exact h3
def Hj(w:World)(hTab:fQ w)(t:T)(ho:TJ t)(hwd:Xp t)(A B:dL)(k n a:Int)(s:dL)(ao:iD)(m c:Nat)(ht:Tr w t (vT k n a s ao m c)):AAA 27 #[tg k n a s ao m c,A,B] w (ENQ w (abN t A B)):=by
 have hmf:∀ (fn:Fn) (first cap:Array Value) (w:World),(Instr.makeFunc fn first cap).run Tryz.prog w=.ok (.func fn first cap) w:=λ_ _ _ _=>rfl
 obtain⟨w4,hw4,B4,t4,two4,r4⟩:=aFc w k n a s (.slice ao m c) A B;unfold zT at hw4;go_in;go_upto_region 1 with fail;clear hw4;have hC:=nV w4 (hTab.below B4) t ho hwd k n a s ao m c (ht.low B4);unfold Ed at hC;have F0:=AAD t4
 cases hc:De t with
 | false=>
  have HU:=aN (show abN t A B=(sP,71)by unfold abN;rw[hc];rfl);rw[hc]at hC;clear hc;go_upto_region 3 with (go_at_call 11;refine hC.mono ?_;rintro e w5 ⟨rfl,b5⟩);have r5:=r4.below b5;have B5:=B4.trans (b5.mono B4.size);clear F0 hC b5 t4 two4 r4 B4;have F1:=AAD r5;go_wp2_with fail;refine kN (.tuple #[tg 0 0 0 ⟨#[]⟩ none 0 0,iq 71]) (r5.set _ _ _ _ _) (λq0 q1 q2 q3 q4=>by simp[results,Tryz.results27,go_sem,q0,q1,q2,q3,q4]) rfl ?_;exact ENQ.mk HU.out (jH B5 aB _ _ _ _ _) (iB.leaf _ _ _ _ _ _ _)
 | true=>
  rw[hc]at hC;have hsz:nodes t<=1000000:=by have:=(BX.1 (Kl hc)).1;omega
  have HU:=aN (show abN t A B=if oI A=true/\oI B=true then(qX (rf A B) false t,0)else(sP,1)by unfold abN;rw[aF hc]);go_upto_region 4 with (go_at_call 11;refine hC.mono ?_;rintro e w5 ⟨rfl,b5⟩);have t5:=t4.below b5;have r5:=r4.below b5;have two5:=two4.below b5;have B5:=B4.trans (b5.mono B4.size);clear F0 hC b5 t4 two4 r4 B4 hc;have k0:w5.cell? (AAF (w.heap.size+1) 0)=some (.string A):=aK w5 _ 0 _ _ _ two5.1;have k1:w5.cell? (AAF (w.heap.size+2) 0)=some (.string B):=aK w5 _ 0 _ _ _ two5.2;have cA:=Gw A;have cB:=Gw B
  cases hA:oI A with
  | false=>
   have HV:=aN (HU.out.trans (aC (by simp[hA])));rw[hA]at cA;clear hA HU cB;go_upto_region 5 with (go_at_call 28;refine(cA _).mono ?_;rintro e w6 ⟨rfl,b6⟩);have r6:=r5.below b6;have B6:=B5.trans (b6.mono B5.size);clear cA b6 r5 t5 two5 k0 k1 B5;have F1:=AAD r6;go_wp2_with fail;refine kN (.tuple #[tg 0 0 0 ⟨#[]⟩ none 0 0,iq 1]) (r6.set _ _ _ _ _) (λq0 q1 q2 q3 q4=>by simp[results,Tryz.results27,go_sem,q0,q1,q2,q3,q4]) rfl ?_;exact ENQ.mk HV.out (jH B6 aB _ _ _ _ _) (iB.leaf _ _ _ _ _ _ _)
  | true=>
   rw[hA]at cA
   cases hB:oI B with
   | false=>
    have HV:=aN (HU.out.trans (aC (by simp[hB])));rw[hB]at cB;clear hA hB HU;go_upto_region 5 with (first|(go_at_call 28;refine dY (by with_reducible exact cA _) ?_;rintro e w6 ⟨rfl,b6⟩;have k1':w6.cell? (AAF (w.heap.size+2) 0)=some (.string B):=aK w6 _ 0 _ _ _ (two5.below b6).2)|(go_at_call 28;refine dY (by with_reducible exact cB _) ?_;rintro e w7 ⟨rfl,b7⟩));have r7:=(r5.below b6).below b7;have B7:=(B5.trans (b6.mono B5.size)).trans (b7.mono (B5.trans (b6.mono B5.size)).size);clear cA cB b6 b7 r5 t5 two5 k0 k1 k1' B5;have F1:=AAD r7;go_wp2_with fail;refine kN (.tuple #[tg 0 0 0 ⟨#[]⟩ none 0 0,iq 1]) (r7.set _ _ _ _ _) (λq0 q1 q2 q3 q4=>by simp[results,Tryz.results27,go_sem,q0,q1,q2,q3,q4]) rfl ?_;exact ENQ.mk HV.out (jH B7 aB _ _ _ _ _) (iB.leaf _ _ _ _ _ _ _)
   | true=>
    have HV:=aN (HU.out.trans (aF ⟨hA,hB⟩));rw[hB]at cB;clear hA hB HU;go_upto_region 6 with (first|(go_at_call 28;refine dY (by with_reducible exact cA _) ?_;rintro e w6 ⟨rfl,b6⟩;have k1':w6.cell? (AAF (w.heap.size+2) 0)=some (.string B):=aK w6 _ 0 _ _ _ (two5.below b6).2)|(go_at_call 28;refine dY (by with_reducible exact cB _) ?_;rintro e w7 ⟨rfl,b7⟩));have r7:=(r5.below b6).below b7;have t7:=(t5.below b6).below b7;have two7:=(two5.below b6).below b7;have B7:=(B5.trans (b6.mono B5.size)).trans (b7.mono (B5.trans (b6.mono B5.size)).size);have hz7:=r7.lt;clear cA cB b6 b7 r5 t5 two5 k0 k1 k1' B5;have hN:=auP w7 (w.heap.size+1) (w.heap.size+2) A B _ t (aG _) w7 (bH _ _) two7 hsz k n a s ao m c (ht.low B7);have F0:=AAD t7;go_upto_block 6 with fail;refine hN.mono ?_;rintro e w8 ⟨b8,k8,n8,a8,s8,o8,m8,c8,rfl,T8⟩;have r8:=r7.below b8;have B8:=B7.trans (b8.mono B7.size);clear hN b8 r7 t7 two7 B7 F0;have F1:=AAD r8;go_wp2_with fail;refine kN (.tuple #[tg k8 n8 a8 s8 o8 m8 c8,iq 0]) (r8.set _ _ _ _ _) (λq0 q1 q2 q3 q4=>by simp[results,Tryz.results27,go_sem,q0,q1,q2,q3,q4]) rfl ?_;refine ENQ.mk HV.out (jH B8 aB _ _ _ _ _) ?_;exact(T8.Yg (w.heap.size+3) (λb hb=>by unfold Fr at hb;omega) _ _ _ _ _).kept (λb hb _=>by unfold Fr at hb ⊢; omega) (aG _) (λ_ _ _=>rfl)
def NL{t:T}{A B:dL}(hc:De t=true)(hA:oI A=true)(hB:oI B=true)(hCt:CF t 4100 1)(hE:XJ t):abN t A B=(qX (rf A B) false t,0)/\De (qX (rf A B) false t)=true/\CF (qX (rf A B) false t) 4100 1/\XJ (qX (rf A B) false t):=by
 have hsz:B.size<=1000:=by
  unfold oI xE at hB;simp only[bA,dX]at hB
  omega
 refine⟨by unfold abN;rw[aF hc,aF ⟨hA,hB⟩],aIS hc hB,⟨?_,?_,?_⟩,?_⟩
 ·rw[UX];exact hCt.1
 ·rw[Vw];exact hCt.2.1
 ·exact ayM (λn w m h=>by unfold rf;split;exact hsz;exact h) false t hCt.2.2
 ·exact ayM (f:=rf A B) (λn w m h=>h) false t hE
end
