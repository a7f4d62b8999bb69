/- Part 45. -/
import Derived.Test.YtikalomcclefiaaGreatDoorV44
set_option linter.all false
set_option maxHeartbeats 0
set_option maxRecDepth 100000
namespace Go.Proofs.YtikalomcclefiaaGreatDoor
section
open Go.RowKit Lx Px
def wL: T->Prop:=ev λ_ w _=>w.size<=1000
def CF(t:T)(v dep:Nat):Prop:=nodes t<=v/\dep+depth t<=71/\wL t
def CFs(l:List T)(v dep:Nat):Prop:=bV l<=v/\∀ x,x∈l->dep+depth x<=71/\wL x
def aAr(t:T):wL t↔t.word.size<=1000/\∀ x,x∈t.l->wL x:=by
 obtain⟨k,n,a,w,l⟩:=t;unfold wL
 exact GW
def aHo(t:T)(v dep:Nat):CF t (v+1) dep↔dep<=70/\t.word.size<=1000/\CFs t.l v (dep+1):=by
 have e1:nodes t=1+bV t.l:=by obtain⟨k,n,a,w,l⟩:=t;rw[nodes];rfl
 have e2:depth t=1+jX t.l:=by obtain⟨k,n,a,w,l⟩:=t;rw[depth];rfl
 have:=Yj t.l (70 - dep);unfold CF CFs;rw[e1,e2,aAr]
 constructor
 ·rintro⟨h1,h2,h3,h4⟩;exact⟨by omega,h3,by omega,λx hx=>⟨by have:=this.1 aB x hx;omega,h4 x hx⟩⟩
 ·rintro⟨h1,h2,h3,h4⟩;have:=this.2 (λx hx=>by have:=(h4 x hx).1;omega);exact⟨by omega,by omega,h2,λx hx=>(h4 x hx).2⟩
def aBK(w:World)(C:Nat)(t:T)(v dep:Nat)(e:Ending)(w':World):Prop:=∃ b:Bool,e=.returned (.bool b)/\w.grownBy w' (some C)/\(b=true↔CF t v dep)/\(b=true->w'.heap[C]?=some (cI (v - nodes t:Nat)))
def aBK.no{w:World}{C:Nat}{t:T}{v dep:Nat}{w':World}(h:¬ CF t v dep)(g:w.grownBy w' (some C)):aBK w C t v dep (.returned (.bool false)) w':=⟨false,rfl,g,⟨λe=>(nomatch e),λe=>absurd e h⟩,λe=>(nomatch e)⟩
def aBK.yes{w:World}{C:Nat}{t:T}{v dep:Nat}{w':World}(h:CF t v dep)(g:w.grownBy w' (some C))(hc:w'.heap[C]?=some (cI (v - nodes t:Nat))):aBK w C t v dep (.returned (.bool true)) w':=⟨true,rfl,g,⟨λ_=>h,λ_=>rfl⟩,λ_=>hc⟩
def awW(wB:World)(C:Nat)(hCb:wB.heap.size<=C):∀ d (t:T),depth t<=d->∀ (w:World) (v dep:Nat),iY wB w->v<=8300->dep<=71->w.heap[C]?=some (cI v)->∀ (k n a:Int) (s:dL) (ao:iD) (m c:Nat),Tr wB t (vT k n a s ao m c)->AAA 38 #[tg k n a s ao m c,pq C,dep] w (aBK w C t v dep):=by
 intro d
 induction d using Nat.strongRecOn with
 | _ d ih=>
  intro t hd w v dep low hv hdep hC k n a s ao m c ht;have H:=aN (λ(x:T) (hx:x∈t.l)=>ih (depth x) (by have:=Px.sD hx;omega) x (aG _));clear ih hd;have lC:=nK hC;have b1:=aJ w (.cells (tg k n a s ao m c) 24);have t1:=TV.new w k n a s (.slice ao m c);have hsw:s=t.word:=ht.split.2.2.2.1;have HSW:=aN hsw;obtain rfl:m=t.l.length:=ht.split.2.2.2.2;clear hsw
  by_cases hv0:v=0
  ·subst hv0;have HZ:=aN (show ¬ CF t 0 dep from λh=>by have:=h.1;have:=Ox t;omega);go_in;go_upto_region 1 with fail;generalize World.alloc w _=w2 at t1 b1 ⊢;have hC2:=(b1.block _ lC).trans hC;have c0:=vC hC2;have f0:=EZ hC2;have c1:(w2.setCell (AAF C 0) (iq (-1))).cell? (AAF C 0)=some (.int .i64 (-1)):=vC (VG hC2 (-1));have g3:=(bS (some C) b1).trans (mN w2 C 0 (iq (-1)));clear hC hC2 t1;go_wp2_with fail;go_ret;exact .no HZ.out g3
  ·obtain⟨u,rfl⟩:∃ u,v=u+1:=⟨v - 1,by omega⟩
   clear hv0;have x0:((u+1:Nat):Int)=(u:Int)+1:=by omega
   rw[x0]at hC;have x1:IntKind.i64.wrap (u:Int)=(u:Int):=iV _ aB;have x2:¬ (u:Int)<0:=by omega
   clear x0;have HI:=aN (aHo t u dep);go_in;go_upto_region 1 with fail;generalize World.alloc w _=w2 at t1 b1 ⊢;have hC2:=(b1.block _ lC).trans hC;have c0:=vC hC2;have f0:=EZ hC2;have hC3:=VG hC2 (u:Int);have t3:TV (w2.setCell (AAF C 0) (iq u)) _ _ _ _ _ _:=(dJ w2 (AAF C 0) (iq u) _ (show w.heap.size≠C by omega)).trans t1;have g3:=(bS (some C) b1).trans (mN w2 C 0 (iq u));clear hC hC2 t1;go_upto_region 2 with fail;generalize World.setCell w2 _ _=w3 at hC3 t3 g3 ⊢;clear c0 f0;have c0:=vC hC3;have low3:=JL low hCb g3;have:=AAD t3
   by_cases hd70:dep<=70
   ·have x3:¬ (70:Int)<(dep:Int):=by omega
    by_cases hw:s.size<=1000
    ·have x4:¬ (1000:Int)<(s.size:Int):=by omega
     have HI2:=aN (show CF t (u+1) dep↔CFs t.l u (dep+1) from⟨λh=>(HI.out.1 h).2.2,λh=>HI.out.2 ⟨hd70,by rw[<- HSW.out];exact hw,h⟩⟩);have e1:nodes t=1+bV t.l:=by obtain⟨k,n,a,w,l⟩:=t;rw[nodes];rfl
     have E1:=aN e1;have HT:=aN ht;clear HI HSW e1 ht;go_wp2_with fail
     go_loopg [31] t.l.length (λg tt wr=>∃ q:Nat,tt=.int .i64 q/\q<=t.l.length/\g=t.l.length - q/\w.grownBy wr (some C)/\bV (t.l.take q)<=u/\wr.heap[C]?=some (cI (u - bV (t.l.take q):Nat))/\Aside (∀ x,x∈t.l.take q->dep+1+depth x<=71/\wL x))
     case atStart=>exact⟨0,rfl,aS _,rfl,g3,aS _,hC3,λx h=>(nomatch h)⟩
     case round=>
      clear t3 hC3 g3 c0;obtain⟨q,rfl,hq,hg,hB,hn,hCr,A⟩:=hrel;have HG:=aN hg;clear hg;have lowr:=JL low hCb hB
      by_cases hlt:q<t.l.length
      ·obtain⟨ao1,c1',vs1,e,hTs,hrow⟩:=mH.tree (rv:=[]) lowr HT.out;obtain⟨b,off,rfl,_,hcell⟩:=hrow kF;simp only[dZ,fD]at e
       obtain⟨rfl,rfl⟩:=e;obtain⟨k1,n1,a1,s1,o1,m1,c1,hTr,d0,d1,d2,d3,d4⟩:=Tr.elem hTs hcell q hlt;have hS:=H.out _ (eJ hlt);have nt:=Kd t.l q hlt;have tk:=jY hlt;have hmem:=eJ hlt;have hqv:q<=u:=by have:=lU (t.l.take q);rw[jV]at this;omega
       generalize t.l[q]'hlt=y at hTr hS nt tk hmem;have b2:=aJ wr (.cells (tg k1 n1 a1 s1 o1 m1 c1) 24);have t2:=TV.new wr k1 n1 a1 s1 (.slice o1 m1 c1);have lCr:=nK hCr;have x5:(q:Int)<(t.l.length:Int):=by omega
       have x6:IntKind.i64.wrap ((dep:Int)+1)=(dep:Int)+1:=iV _ aB;have x7:(((dep+1:Nat)):Int)=(dep:Int)+1:=by omega
       have NT:=aN nt;have TK:=aN tk;go_upto_region 7 with fail;generalize World.alloc wr _=w4 at b2 t2 ⊢;have hC4:=(b2.block _ lCr).trans hCr;have hcall:=hS w4 (u - bV (t.l.take q)) (dep+1) (lowr.trans (b2.mono lowr.size)) aB aB hC4 k1 n1 a1 s1 o1 m1 c1 hTr;rw[x7]at hcall;have hB4:=hB.trans (bS (some C) b2);clear hS hCr hC4 nt tk x7 d0 d1 d2 d3 d4 hcell b2;have:=AAD t2;go_upto_block 7 with fail;refine hcall.mono ?_;rintro e w5 ⟨bb,rfl,g5,hiff,hcc⟩;have HIFF:=aN hiff;have HCC:=aN hcc;clear hiff hcc hcall t2
       cases bb with
       | true=>
        have hf:=HIFF.out.1 rfl;have HF:=aN hf;have hc2:=HCC.out rfl;clear hf HCC HIFF;go_wp2_with fail
        go_roundg (t.l.length - (q+1))
        case measure=>rw[HG.out];omega
        case rel => exact ⟨q + 1, by go_num, hlt, rfl, hB4.trans g5, by rw [NT.out]; have := HF.out.1; omega, by rw [hc2, NT.out]; exact congrArg _ (congrArg _ (by have := HF.out.1; omega)), λx hx => by
          rw [TK.out] at hx
          rcases fP.1 hx with hx | hx
          · exact A.out x hx
          · rw [cO.1 hx]; exact HF.out.2⟩
       | false=>
        have HNO:=aN (show ¬ CF t (u+1) dep from λh=>by
         have h1:=HI2.out.1 h
         have h2:=zQ t.l (q+1)
         have h3:=h1.1
         rw[NT.out]at h2
         exact(nomatch HIFF.out.2 ⟨by omega,h1.2 y hmem⟩))
        go_wp2_with fail;go_ret;exact .no HNO.out (hB4.trans g5)
      ·have x5:¬ (q:Int)<(t.l.length:Int):=by omega
       have htk:t.l.take q=t.l:=nQ aB;have AA:=A.out;rw[htk]at hn hCr AA;have HF2:=aN (HI2.out.2 ⟨hn,AA⟩);clear htk A AA;go_wp2_with fail;go_ret;exact .yes HF2.out hB (by rw[hCr,E1.out];exact congrArg _ (congrArg _ aB))
    ·have x4:(1000:Int)<(s.size:Int):=by omega
     have HZ:=aN (show ¬ CF t (u+1) dep from λh=>hw (by rw[HSW.out];exact(HI.out.1 h).2.1));clear ht;go_wp2_with fail;go_ret;exact .no HZ.out g3
   ·have x3:(70:Int)<(dep:Int):=by omega
    have HZ:=aN (show ¬ CF t (u+1) dep from λh=>hd70 (HI.out.1 h).1);clear ht;go_wp2_with fail;go_ret;exact .no HZ.out g3
def Rw(w:World)(v:Value)(l:List T):Prop:=∃ ao c vs,v=.slice ao l.length c/\dO (λ_=>True) w l vs/\(l≠[]->∃ b off,ao=some ⟨b,off,none⟩/\b<w.heap.size/\∀ (i:Nat) (u:Value),vs[i]?=some u->w.cell? (AAF b (off+i))=some u)
def aeR(w:World)(p:Prop)(e:Ending)(w':World):Prop:=∃ b:Bool,e=.returned (.bool b)/\(b=true↔p)/\iY w w'
def aeR.no{w w':World}{p:Prop}(h:¬ p)(b:iY w w'):aeR w p (.returned (.bool false)) w':=⟨false,rfl,⟨λe=>(nomatch e),λe=>absurd e h⟩,b⟩
def aeR.yes{w w':World}{p:Prop}(h:p)(b:iY w w'):aeR w p (.returned (.bool true)) w':=⟨true,rfl,⟨λ_=>h,λ_=>rfl⟩,b⟩
def kV(w:World)(v:Value)(l:List T)(hl:Rw w v l)(hn:l.length<=1000):AAA 9 #[v] w (aeR w (∀ t,t∈l->CF t 4100 1)):=by
 obtain⟨ao,c,vs,rfl,hTs,hrow⟩:=hl;have HR:=aN hrow;clear hrow;go_in;go_wp2_with fail
 go_loopg [8] l.length (λg tt wr=>∃ q:Nat,tt=.int .i64 q/\q<=l.length/\g=l.length - q/\iY w wr/\Aside (∀ x,x∈l.take q->CF x 4100 1))
 case atStart=>exact⟨0,rfl,aS _,rfl,bH _ _,λx h=>(nomatch h)⟩
 case round=>
  obtain⟨q,rfl,hq,hg,hB,A⟩:=hrel;have HG:=aN hg;clear hg
  by_cases hlt:q<l.length
  ·obtain⟨b,off,rfl,hb,hcell⟩:=HR.out kF;obtain⟨k1,n1,a1,s1,o1,m1,c1,hTr,d0,d1,d2,d3,d4⟩:=Tr.elem hTs (λi u hu=>(hB.cell (p:=(AAF b (off+i))) hb).trans (hcell i u hu)) q hlt;have tk:=jY hlt;have hmem:=eJ hlt;generalize l[q]'hlt=y at hTr tk hmem;have TK:=aN tk;have x5:(q:Int)<(l.length:Int):=by omega
   have b2:=aJ wr (.cells (tg k1 n1 a1 s1 o1 m1 c1) 24);have t2:=TV.new wr k1 n1 a1 s1 (.slice o1 m1 c1);go_upto_region 4 with fail;generalize World.alloc wr _=w2 at b2 t2 ⊢;have n3:=aP w2 (.cells #[iq 4100] 3);have b3:=aJ w2 (.cells #[iq 4100] 3);have t3:=t2.below b3;have hB3:=hB.trans ((b2.trans (b3.mono b2.size)).mono hB.size);have hw2:w.heap.size<=w2.heap.size:=by have h1:=hB.size;have h2:=b2.size;omega
   go_upto_region 5 with fail;generalize World.alloc w2 _=w3 at n3 t3 hB3 ⊢;have hcall:=awW w w2.heap.size hw2 _ y (aG _) w3 4100 1 hB3 aD aD n3 k1 n1 a1 s1 o1 m1 c1 hTr;clear tk d0 d1 d2 d3 d4 hcell b2 b3 t2 n3;have:=AAD t3;go_upto_block 5 with fail;refine hcall.mono ?_;rintro e w4 ⟨bb,rfl,g4,hiff,_⟩;have HIFF:=aN hiff;have hB4:=hB3.grown g4 hB3.size (λj hj=>by cases hj;exact hw2);clear hiff hcall t3
   cases bb with
   | true=>
    have hf:=HIFF.out.1 rfl;have HF:=aN hf;clear hf HIFF;go_wp2_with fail
    go_roundg (l.length - (q+1))
    case measure=>rw[HG.out];omega
    case rel => exact ⟨q + 1, by go_num, hlt, rfl, hB4, λx hx => by
      rw [TK.out] at hx
      rcases fP.1 hx with hx | hx
      · exact A.out x hx
      · rw [cO.1 hx]; exact HF.out⟩
   | false=>
    have HNO:=aN (show ¬ (∀ t,t∈l->CF t 4100 1)from λh=>(nomatch HIFF.out.2 (h y hmem)));clear HIFF;go_wp2_with fail;go_ret;exact .no HNO.out hB4
  ·have x5:¬ (q:Int)<(l.length:Int):=by omega
   have AA:=A.out;rw[nQ aB]at AA;have HF:=aN AA;clear A AA;go_wp2_with fail;go_ret;exact .yes HF.out hB
def Nx(s:dL):List Tk:=lk ((xS s).map Tok.t3)
def VT{w:World}{B:Nat}{e:TypeId}{n:Nat}{v:Value}{len:Nat}{cs:List Value}(h:w.ownsRow B e n v len cs):len<=9223372036854775807:=by
 obtain⟨_,h⟩:=h
 rcases h with ⟨_,h⟩|⟨g,cap,cur,_,_,_,h1,h2,_⟩
 ·omega
 ·have:maxLen=9223372036854775807:=rfl;omega
def KC(s:dL):T×Int:=if (fX s).err=0 then((jM fC (Nx s)).1,(jM fC (Nx s)).2.2)else(sP,(fX s).err)
def RQ(w:World)(r:T×Int)(e:Ending)(w':World):Prop:=iY w w'/\∃ k n a s ao m c at_,e=.returned (.tuple #[tg k n a s ao m c,iq at_,iq r.2])/\iB (Fr w) w' r.1 (vT k n a s ao m c)
def RQ.mk{w:World}{r:T×Int}{w':World}{t:T}{x y:Int}(h:r=(t,y))(b:iY w w'){k n a:Int}{s:dL}{ao:iD}{m c:Nat}(ht:iB (Fr w) w' t (vT k n a s ao m c)):RQ w r (.returned (.tuple #[tg k n a s ao m c,iq x,iq y])) w':=by
 subst h;exact⟨b,k,n,a,s,ao,m,c,x,rfl,ht⟩
def aCU{read:List Tk->Nat->R T}{L:List Tk}{t:T}{x:Int}(h:jM read L=(t,x,70)):∃ a:Nat,x=a:=by
 unfold jM at h
 split at h
 ·cases h
 ·split at h
  ·cases h
  ·split at h
   ·cases h;exact⟨_,rfl⟩
   ·split at h<;>cases h
def NR(s:dL)(hs:s.size<=2147483647)(w:World)(hml:ML w)(hsz:∀ t,t∈(xS s).map Tok.t3->t.text.size<=140737488351232):AAA 16 #[s] w (RQ w (KC s)):=by
 have hTk:=λw1 (h:ML w1)=>FQ s aB w1 h
 have b1:=aJ w (.cells zT 24);have t1:=TV.new w (iq 0) (iq 0) (iq 0) (.string ⟨#[]⟩) (.slice none 0 0);have hUU:KC s=if (fX s).err=0 then((jM fC (Nx s)).1,(jM fC (Nx s)).2.2)else(sP,(fX s).err):=rfl
 have HUU:=aN hUU;clear hUU;go_in;go_upto_region 1 with fail;unfold zT at b1;generalize World.alloc w _=w1 at b1 t1 ⊢;have h1:=hTk w1 (hml.below b1);unfold Um at h1;clear hTk
 by_cases hx:(fX s).err=0
 ·have HU:=aN (HUU.out.trans (aF hx));rw[hx]at h1;generalize (fX s).at_=sa at h1;clear HUU hx;go_upto_region 4 with (go_at_call 50;refine h1.mono ?_;rintro e w2 ⟨lv,rfl,hown,b2⟩);have hrow:fJ w2 lv ((xS s).map Tok.t3):=fJ.VW (B:=w1.heap.size) Ds;have hLl:((xS s).map Tok.t3).length<=9223372036854775807:=by rw[bN];exact VT hown
  unfold Nx at HU;have hvb:∀ (b off len cap:Nat),lv=.slice (some (AAF b off)) len cap->w1.heap.size<=b:=λb off len cap e=>by
   obtain⟨_,h⟩:=hown
   rcases h with ⟨h,_⟩|⟨g,cap2,cur,h,h1,_⟩
   ·rw[h]at e;cases e
   ·rw[h]at e;cases e;exact h1
  have hlt1:=t1.lt;clear hown h1;generalize (xS s).map Tok.t3=L at HU hrow hLl hsz;have t2:=t1.below b2;have B2:=b1.trans (b2.mono b1.size);have hP:=Dc L hsz lv w2 hrow hLl;clear t1 b1 b2;have HRW:=aN hrow;obtain⟨vao,vcap,rfl,-⟩:=hrow;obtain⟨r,hr⟩:∃ r,jM fC (lk L)=r:=⟨_,rfl⟩
  rw[hr]at hP HU;obtain⟨rt,rx,ry⟩:=r;have hlt2:w.heap.size<w2.heap.size:=t2.lt
  by_cases h7:ry=70
  ·subst h7;obtain⟨a,rfl⟩:=aCU hr;clear hr;go_upto_region 5 with (go_at_call 19;refine hP.mono ?_;rintro e w3 ⟨b3,k1,n1,a1,s1,o1,m1,c1,rfl,htr⟩);have b4:=aJ w3 (.cells (tg k1 n1 a1 s1 o1 m1 c1) 24);have t4:=TV.new w3 k1 n1 a1 s1 (.slice o1 m1 c1);have htr4:iB (Fr w2) (w3.alloc (.cells (tg k1 n1 a1 s1 o1 m1 c1) 24)) rt (vT k1 n1 a1 s1 o1 m1 c1):=htr.kept (λ_ h _=>h) b4.size (λk _ hk=>b4.block k hk);generalize World.alloc w3 _=w4 at b4 t4 htr4 ⊢;have b34:=b3.trans (b4.mono b3.size);have tr4:=t2.below b34;have hrow4:=HRW.out.below b34 (aG _);have B4:=B2.trans (b34.mono B2.size);clear t2 hP htr b34 b3 b4 B2
   by_cases hal:a<L.length
   ·have hal':(a:Int)<(L.length:Int):=by omega
    obtain⟨ao5,cap5,e5,hcell⟩:=hrow4;obtain⟨b,off,rfl,hb,hc⟩:=hcell (by intro e;rw[e]at hal;simp at hal);simp only[dZ,fD]at e5
    obtain⟨rfl,rfl⟩:=e5;have h2:=hc a hal 2 _ rfl;obtain⟨za,hza⟩:∃ z,L[a]!.at_=z:=⟨_,rfl⟩
    rw[hza]at h2;clear hc hcell hza;have hne:w.heap.size≠b:=by have:=hvb b off _ _ rfl;omega
    have h2f:=λ(w':World) x y z u v=>(axC hne w' (off+a*3+2) x y z u v)
    have h2g:=(h2f w4 k1 n1 a1 s1 (.slice o1 m1 c1)).trans h2;clear h2f hvb;have:=AAD t4;have:=AAD tr4;go_upto_region 7 with fail;have P1:=tr4.set k1 n1 a1 s1 (.slice o1 m1 c1);have P2:=jH B4 (aG _) k1 n1 a1 s1 (.slice o1 m1 c1);have P3:=(htr4.Yg w.heap.size (λb hb=>by unfold Fr at hb;omega) k1 n1 a1 s1 (.slice o1 m1 c1)).kept (av':=Fr w) (λb hb _=>by unfold Fr at hb ⊢; omega) (aG _) (λ_ _ _=>rfl)
    go_region
    generalize World.setCell (World.setCell (World.setCell (World.setCell (World.setCell w4 _ _) _ _) _ _) _ _) _ _=w5 at P1 P2 P3 ⊢;go_wp2_with fail;refine kN (.tuple #[tg k1 n1 a1 s1 o1 m1 c1,iq za,iq 70]) P1.drew (λq0 q1 q2 q3 q4=>by simp[results,Tryz.results16,go_sem,q0,q1,q2,q3,q4]) rfl ?_;exact RQ.mk HU.out P2.drew (iB.kept (w:=w5) (w':=w5.drew) (λb hb _=>hb) (aG _) (λ_ _ _=>rfl) P3)
   ·have hal':¬ (a:Int)<(L.length:Int):=by omega
    have:=AAD t4;have:=AAD tr4;go_wp2_with fail;refine kN (.tuple #[tg k1 n1 a1 s1 o1 m1 c1,iq s.size,iq 70]) (tr4.set _ _ _ _ _) (λq0 q1 q2 q3 q4=>by simp[results,Tryz.results16,go_sem,q0,q1,q2,q3,q4]) rfl ?_;exact SC
  ·clear hr;go_upto_region 5 with (go_at_call 19;refine hP.mono ?_;rintro e w3 ⟨b3,k1,n1,a1,s1,o1,m1,c1,rfl,htr⟩);have b4:=aJ w3 (.cells (tg k1 n1 a1 s1 o1 m1 c1) 24);have t4:=TV.new w3 k1 n1 a1 s1 (.slice o1 m1 c1);have htr4:iB (Fr w2) (w3.alloc (.cells (tg k1 n1 a1 s1 o1 m1 c1) 24)) rt (vT k1 n1 a1 s1 o1 m1 c1):=htr.kept (λ_ h _=>h) b4.size (λk _ hk=>b4.block k hk);generalize World.alloc w3 _=w4 at b4 t4 htr4 ⊢;have b34:=b3.trans (b4.mono b3.size);have tr4:=t2.below b34;have B4:=B2.trans (b34.mono B2.size);clear t2 hP htr b34 b3 b4 B2;have:=AAD t4;have:=AAD tr4;go_wp2_with fail;refine kN (.tuple #[tg k1 n1 a1 s1 o1 m1 c1,iq rx,iq ry]) (tr4.set _ _ _ _ _) (λq0 q1 q2 q3 q4=>by simp[results,Tryz.results16,go_sem,q0,q1,q2,q3,q4]) rfl ?_;exact SC
 ·have HU:=aN (HUU.out.trans (aC hx));generalize (fX s).err=x at h1 hx HU;generalize (fX s).at_=sa at h1;clear HUU;go_upto_region 3 with (go_at_call 50;refine h1.mono ?_;rintro e w2 ⟨lv,rfl,hown,b2⟩);have t2:=t1.below b2;have B2:=b1.trans (b2.mono b1.size);clear hown h1 t1 b1 b2;have:=AAD t2;go_wp2_with fail;refine kN (.tuple #[tg 0 0 0 ⟨#[]⟩ none 0 0,iq sa,iq x]) (t2.set _ _ _ _ _) (λq0 q1 q2 q3 q4=>by simp[results,Tryz.results16,go_sem,q0,q1,q2,q3,q4]) rfl ?_;exact RQ.mk HU.out (jH B2 (aG _) _ _ _ _ _) (iB.leaf _ _ _ _ _ _ _)
def auU(w:World)(a b c d e a' b' c' d' e':Value):TV (((w.alloc (.cells #[a,b,c,d,e] 24)).alloc (.cells #[a',b',c',d',e'] 24)).alloc (.cells zT 24)) w.heap.size a b c d e/\TV (((w.alloc (.cells #[a,b,c,d,e] 24)).alloc (.cells #[a',b',c',d',e'] 24)).alloc (.cells zT 24)) (w.heap.size+1) a' b' c' d' e'/\TV (((w.alloc (.cells #[a,b,c,d,e] 24)).alloc (.cells #[a',b',c',d',e'] 24)).alloc (.cells zT 24)) (w.heap.size+2) (iq 0) (iq 0) (iq 0) (.string ⟨#[]⟩) (.slice none 0 0)/\iY w (((w.alloc (.cells #[a,b,c,d,e] 24)).alloc (.cells #[a',b',c',d',e'] 24)).alloc (.cells zT 24)):=by
 have t1:=TV.new w a b c d e;have b1:=aJ w (.cells #[a,b,c,d,e] 24);have z1:(w.alloc (.cells #[a,b,c,d,e] 24)).heap.size=w.heap.size+1:=by simp
 generalize w.alloc (.cells #[a,b,c,d,e] 24)=w1 at t1 b1 z1 ⊢;have t2:=TV.new w1 a' b' c' d' e';have b2:=aJ w1 (.cells #[a',b',c',d',e'] 24);have z2:(w1.alloc (.cells #[a',b',c',d',e'] 24)).heap.size=w.heap.size+2:=by simp[z1]
 rw[z1]at t2;generalize w1.alloc (.cells #[a',b',c',d',e'] 24)=w2 at t2 b2 z2 ⊢;have t3:=TV.new w2 (iq 0) (iq 0) (iq 0) (.string ⟨#[]⟩) (.slice none 0 0);have b3:=aJ w2 (.cells zT 24);rw[z2]at t3;exact⟨(t1.below b2).below b3,t2.below b3,t3,(b1.trans (b2.mono b1.size)).trans (b3.mono (b1.trans (b2.mono b1.size)).size)⟩
def OQA(av:Nat->Prop)(w:World)(t:T)(e:Ending)(w':World):Prop:=iY w w'/\∃ k n a s ao m c,e=.returned (tg k n a s ao m c)/\iB (λx=>av x\/w.heap.size<=x) w' t (vT k n a s ao m c)
def OQA.mk{av:Nat->Prop}{w:World}{w':World}{t t':T}(h:t=t')(b:iY w w'){k n a:Int}{s:dL}{ao:iD}{m c:Nat}(ht:iB (λx=>av x\/w.heap.size<=x) w' t' (vT k n a s ao m c)):OQA av w t (.returned (tg k n a s ao m c)) w':=by
 exact DV
def iB.old{av:Nat->Prop}{w w':World}{t:T}{us:List Value}(h:iB av w t us)(b:iY w w'):iB (λx=>av x\/w.heap.size<=x) w' t us:=
 h.kept (λ_ hb _=>.inl hb) b.size (λx _ hl=>b.block x hl)
def iB.node{av:Nat->Prop}{w:World}{k n a:Int}{s:dL}{l:List T}{vs:List Value}{b cap:Nat}(hvs:dO av w l vs)(hv:av b)(hb:b<w.heap.size)(hc:∀ (i:Nat) (u:Value),vs[i]?=some u->w.cell? ⟨b,i,Option.none⟩=some u)(hcap:l.length<=cap):iB av w (.mk k n a s l) (vT k n a s (some ⟨b,0,Option.none⟩) l.length cap):=by
 unfold iB;exact⟨_,cap,rfl,λ_=>⟨b,0,vs,rfl,hv,hb,hvs,λi u hu=>by rw[dT];exact hc i u hu⟩,hcap⟩
def Dp(s:dL):T:=.mk 2 0 0 e0 [.mk 3 0 0 s []]
def ajD(op:dL)(a b:T):T:=.mk 6 0 0 op [a,b]
def aEB(av:Nat->Prop)(s:dL)(w:World):AAA 35 #[s] w (OQA av w (Dp s)):=by
 have b1:=aJ w (.cells zT 24);have t1:=TV.new w (iq 0) (iq 0) (iq 0) (.string ⟨#[]⟩) (.slice none 0 0);unfold zT at b1;go_in;go_upto_region 1 with fail;generalize World.alloc w _=w1 at b1 t1 ⊢;have b2:=aJ w1 (.cells (tg 3 0 0 s none 0 0) 24);have n2:=TV.new w1 (iq 3) (iq 0) (iq 0) s (.slice none 0 0);have t2:=t1.below b2;have B2:=b1.trans (b2.mono b1.size);have hsz:=b1.size;have:=AAD t2;go_wp2_with fail;generalize World.alloc w1 _=w2 at n2 t2 B2 ⊢;have B5:=jH B2 (aG _) (iq 2) (iq 0) (iq 0) (.string ⟨#[]⟩) (.slice (some (AAF w1.heap.size 0)) 1 1);have n5:=(Aw (show w.heap.size≠w1.heap.size by have:=t1.lt;omega) w2 (iq 2) (iq 0) (iq 0) (.string ⟨#[]⟩) (.slice (some (AAF w1.heap.size 0)) 1 1)).trans n2;refine nX (t2.set _ _ _ _ _) Tryz.results35 ?_;refine OQA.mk rfl B5 ?_;refine iB.node (dO.one (iB.leaf _ _ 3 0 0 s 0)) (.inr hsz) (nK n5) (λi u hu=>?_) (aG _);rw[aK _ _ i _ _ _ n5]
 simpa using hu
def aHB(av:Nat->Prop)(op:dL)(w:World)(a b:T)(k n at_:Int)(s:dL)(ao:iD)(m c:Nat)(k' n' at':Int)(s':dL)(ao':iD)(m' c':Nat)(ha:iB av w a (vT k n at_ s ao m c))(hb:iB av w b (vT k' n' at' s' ao' m' c')):AAA 34 #[op,tg k n at_ s ao m c,tg k' n' at' s' ao' m' c'] w (OQA av w (ajD op a b)):=by
 obtain⟨t1,t2,t3,B⟩:=auU w k n at_ s (.slice ao m c) k' n' at' s' (.slice ao' m' c');unfold zT at t1 t2 t3 B;go_in;go_upto_region 1 with fail;generalize World.alloc (World.alloc (World.alloc w _) _) _=w1 at t1 t2 t3 B ⊢;have b2:=aJ w1 (.cells #[iq k,iq n,iq at_,.string s,.slice ao m c,iq k',iq n',iq at',.string s',.slice ao' m' c'] 24);have n2:=aP w1 (.cells #[iq k,iq n,iq at_,.string s,.slice ao m c,iq k',iq n',iq at',.string s',.slice ao' m' c'] 24);have r2:=t3.below b2;have B2:=B.trans (b2.mono B.size);have:=AAD t1;have:=AAD t2;have:=AAD r2;go_wp2_with fail;generalize World.alloc w1 _=w2 at n2 r2 B2 ⊢;have B5:=jH B2 (show w.heap.size<=w.heap.size+2 by omega) (iq 6) (iq 0) (iq 0) op (.slice (some (AAF w1.heap.size 0)) 2 2);have n5:=(Aw (show w.heap.size+2≠w1.heap.size by have:=t3.lt;omega) w2 (iq 6) (iq 0) (iq 0) op (.slice (some (AAF w1.heap.size 0)) 2 2)).trans n2;refine nX (r2.set _ _ _ _ _) Tryz.results34 ?_;refine OQA.mk rfl B5 ?_;refine iB.node (vs:=vT k n at_ s ao m c++vT k' n' at' s' ao' m' c') (dO.app (dO.one (ha.old B5)) (dO.one (hb.old B5))) (.inr (by have:=t3.lt;omega)) (nK n5) (λi u hu=>?_) (aG _);rw[aK _ _ i _ _ _ n5]
 simpa[vT]using hu
def rdE: Bool->List Tk->Nat->R T
 | true=>dB
 | false=>rW
def DB(s:dL)(ex:Bool):T×Int×Int:=if (fX s).err=0 then jM (rdE ex) (Nx s)else(sP,(fX s).at_,(fX s).err)
section
variable(s:dL)(hs:s.size<=2147483647)(w:World)(hml:ML w)(hsz:∀ t,t∈(xS s).map Tok.t3->t.text.size<=140737488351232)
include s hs w hml hsz
theorem akS:AAA 33 #[s,.bool true] w (TQ w (DB s true)):=by
 have hTk:=λw1 (h:ML w1)=>FQ s aB w1 h
 have b1:=aJ w (.cells zT 24);have t1:=TV.new w (iq 0) (iq 0) (iq 0) (.string ⟨#[]⟩) (.slice none 0 0);have hUU:DB s true=if (fX s).err=0 then jM dB (Nx s)else(sP,(fX s).at_,(fX s).err):=rfl
 have HUU:=aN hUU;clear hUU;go_in;go_upto_region 1 with fail;unfold zT at b1;generalize World.alloc w _=w1 at b1 t1 ⊢;have h1:=hTk w1 (hml.below b1);unfold Um at h1;clear hTk
 by_cases hx:(fX s).err=0
 ·have HU:=aN (HUU.out.trans (aF hx));rw[hx]at h1;generalize (fX s).at_=sa at h1;clear HUU hx;go_upto_region 4 with (go_at_call 50;refine h1.mono ?_;rintro e w2 ⟨lv,rfl,hown,b2⟩);have hrow:fJ w2 lv ((xS s).map Tok.t3):=fJ.VW (B:=w1.heap.size) Ds;have t2:=t1.below b2;have B2:=b1.trans (b2.mono b1.size);have hLl:((xS s).map Tok.t3).length<=9223372036854775807:=by rw[bN];exact VT hown
  unfold Nx at HU;clear hown h1;generalize (xS s).map Tok.t3=L at HU hrow hLl hsz;have hP:=Be L hsz lv w2 hrow hLl;clear t1 b1 b2;obtain⟨vao,vcap,rfl,-⟩:=hrow;obtain⟨r,hr⟩:∃ r,jM dB (lk L)=r:=⟨_,rfl⟩
  rw[hr]at hP HU;obtain⟨rt,rx,ry⟩:=r;have hlt2:w.heap.size<w2.heap.size:=t2.lt;clear hr;go_wp2_with (go_at_call 17;refine hP.mono ?_;rintro e w4 ⟨b3,k1,n1,a1,s1,o1,m1,c1,rfl,htr4⟩;have tr4:=t2.below b3;have:=AAD tr4);exact QS
 exact QY
theorem IS:AAA 33 #[s,.bool false] w (TQ w (DB s false)):=by
 have hTk:=λw1 (h:ML w1)=>FQ s aB w1 h
 have b1:=aJ w (.cells zT 24);have t1:=TV.new w (iq 0) (iq 0) (iq 0) (.string ⟨#[]⟩) (.slice none 0 0);have hUU:DB s false=if (fX s).err=0 then jM rW (Nx s)else(sP,(fX s).at_,(fX s).err):=rfl
 have HUU:=aN hUU;clear hUU;go_in;go_upto_region 1 with fail;unfold zT at b1;generalize World.alloc w _=w1 at b1 t1 ⊢;have h1:=hTk w1 (hml.below b1);unfold Um at h1;clear hTk
 by_cases hx:(fX s).err=0
 ·have HU:=aN (HUU.out.trans (aF hx));rw[hx]at h1;generalize (fX s).at_=sa at h1;clear HUU hx;go_upto_region 4 with (go_at_call 50;refine h1.mono ?_;rintro e w2 ⟨lv,rfl,hown,b2⟩);have hrow:fJ w2 lv ((xS s).map Tok.t3):=fJ.VW (B:=w1.heap.size) Ds;have t2:=t1.below b2;have B2:=b1.trans (b2.mono b1.size);have hLl:((xS s).map Tok.t3).length<=9223372036854775807:=by rw[bN];exact VT hown
  unfold Nx at HU;clear hown h1;generalize (xS s).map Tok.t3=L at HU hrow hLl hsz;have hP:=CI L hsz lv w2 hrow hLl;clear t1 b1 b2;obtain⟨vao,vcap,rfl,-⟩:=hrow;obtain⟨r,hr⟩:∃ r,jM rW (lk L)=r:=⟨_,rfl⟩
  rw[hr]at hP HU;obtain⟨rt,rx,ry⟩:=r;have hlt2:w.heap.size<w2.heap.size:=t2.lt;clear hr;go_wp2_with (go_at_call 18;refine hP.mono ?_;rintro e w4 ⟨b3,k1,n1,a1,s1,o1,m1,c1,rfl,htr4⟩;have tr4:=t2.below b3;have:=AAD tr4);exact QS
 exact QY
end
def Ei(w:World)(v:Value)(p:List Int):Prop:=∃ ao cap,v=.slice ao p.length cap/\(p≠[]->∃ b off,ao=some ⟨b,off,none⟩/\b<w.heap.size/\∀ i,(hi:i<p.length)->w.cell? (AAF b (off+i))=some (.int .i64 (p[i]'hi)))/\p.length<=cap
def Ei.below{w w':World}{v:Value}{p:List Int}(h:Ei w v p)(hb:iY w w'):Ei w' v p:=by
 obtain⟨ao,cap,rfl,h,hc⟩:=h;refine⟨ao,cap,rfl,λhne=>?_,hc⟩;obtain⟨b,off,e,hlt,hcell⟩:=h hne;exact⟨b,off,e,gH hlt hb.size,λi hi=>(hb.cell (p:=(AAF b (off+i))) hlt).trans (hcell i hi)⟩
def EQ(w:World)(r:T×Int)(e:Ending)(w':World):Prop:=iY w w'/\∃ k n a s ao m c,e=.returned (.tuple #[tg k n a s ao m c,iq r.2])/\Tr w' r.1 (vT k n a s ao m c)
def EQ.mk{w:World}{r:T×Int}{w':World}{t:T}{x:Int}(h:r=(t,x))(b:iY w w'){k n a:Int}{s:dL}{ao:iD}{m c:Nat}(ht:Tr w' t (vT k n a s ao m c)):EQ w r (.returned (.tuple #[tg k n a s ao m c,iq x])) w':=by
 exact DV
def Tr.zero(w:World):Tr w sP (vT 0 0 0 ⟨#[]⟩ Option.none 0 0):=iB.leaf _ _ _ _ _ _ _
def below_drewN(w:World)(n:Nat):iY w (w.drewN n):=⟨rfl,rfl,rfl,aG _,λ_ _=>rfl⟩
def Nv(rv:List (Nat×List Value))(b:Nat):Prop:=∀ p,p∈rv->b≠p.1
structure LS (w0 w:World) (rv fv:List (Nat×List Value)) (ts:List (T×List Value)):Prop where
 low:iY w0 w
 tv:∀ p,p∈rv->w.heap[p.1]?=some (.cells p.2.toArray 24 (0,0))/\w0.heap.size<=p.1
 pw:rv.Pairwise (λp q=>p.1≠q.1)
 fx:∀ p,p∈fv->w.heap[p.1]?=some (.cells p.2.toArray 24 (0,0))/\Nv rv p.1
 tr:∀ p,p∈ts->iB (Nv rv) w p.1 p.2
def LS.begin(w:World):LS w w [] [] []:=⟨bH _ _,λ_ h=>oU,.nil,λ_ h=>oU,λ_ h=>oU⟩
def LS.WN{w:World}{ts:List (T×List Value)}(h:∀ p,p∈ts->Tr w p.1 p.2):LS w w [] [] ts:=
 ⟨bH _ _,λ_ h=>oU,.nil,λ_ h=>oU,λp hp=>(h p hp).kept (λ_ _ _ q hq=>Ax) (aG _) (λ_ _ _=>rfl)⟩
def blt{w:World}{b:Nat}{o:Obj}(h:w.heap[b]?=some o):b<w.heap.size:=(aX.1 h).1
def LS.below{w0 w w':World}{rv fv ts}(S:LS w0 w rv fv ts)(b:iY w w'):LS w0 w' rv fv ts:=
 ⟨S.low.trans (b.mono S.low.size),λp h=>⟨(b.block _ (blt (S.tv p h).1)).trans (S.tv p h).1,(S.tv p h).2⟩,S.pw,λp h=>⟨(b.block _ (blt (S.fx p h).1)).trans (S.fx p h).1,(S.fx p h).2⟩,λp h=>(S.tr p h).kept (λ_ hb _=>hb) b.size (λx _ hl=>b.block x hl)⟩
theorem LS.drew{w0 w:World}{rv fv ts}(S:LS w0 w rv fv ts):LS w0 w.drew rv fv ts:=S.below (below_drewN w 1)
theorem LS.drewN{w0 w:World}{rv fv ts}(S:LS w0 w rv fv ts)(n:Nat):LS w0 (w.drewN n) rv fv ts:=S.below (below_drewN w n)
def LS.facts{w0 w:World}{rv fv ts}(S:LS w0 w rv fv ts)(k:Nat){b:Nat}{x y z u v:Value}(hk:fv[k]?=some (b,[x,y,z,u,v])):TV w b x y z u v:=(S.fx _ (lN hk)).1
def LS.nM{w0 w:World}{rv fv ts}(S:LS w0 w rv fv ts)(k:Nat){b:Nat}{x y z u v:Value}(hk:rv[k]?=some (b,[x,y,z,u,v])):TV w b x y z u v:=(S.tv _ (lN hk)).1
def LS.tree{w0 w:World}{rv fv ts}(S:LS w0 w rv fv ts)(p:T×List Value)(h:p∈ts):Tr w p.1 p.2:=(S.tr p h).kept (λ_ _ _=>trivial) (aG _) (λ_ _ _=>rfl)
def LS.less{w0 w:World}{rv fv ts fv' ts'}(S:LS w0 w rv fv ts)(hf:∀ p,p∈fv'->p∈fv)(h:∀ p,p∈ts'->p∈ts):LS w0 w rv fv' ts':=
 ⟨S.low,S.tv,S.pw,λp hp=>S.fx p (hf p hp),λp hp=>S.tr p (h p hp)⟩
def LS.At{w0 w:World}{rv fv ts}(S:LS w0 w rv fv ts)(us:List Value)(cs:Array Value)(hc:cs=us.toArray)(B:Nat)(hB:w.heap.size=B):LS w0 (w.alloc (.cells cs 24)) rv ((B,us)::fv) ts:=by
 subst hc hB;have S':=S.below (aJ w (.cells us.toArray 24));refine⟨S'.low,S'.tv,S'.pw,λp h=>?_,S'.tr⟩
 rcases bO.1 h with rfl|h
 ·exact⟨aP w _,λq hq e=>by have:=blt (S.tv q hq).1;simp only at e;omega⟩
 ·exact S'.fx p h
def LS.oF{w0 w:World}{rv fv ts}(S:LS w0 w rv fv ts)(us:List Value)(cs:Array Value)(hc:cs=us.toArray)(B:Nat)(hB:w.heap.size=B):LS w0 (w.alloc (.cells cs 24)) ((B,us)::rv) fv ts:=by
 subst hc hB;have b:=aJ w (.cells us.toArray 24);have S':=S.below b;have hN:∀ x,x<w.heap.size->Nv rv x->Nv ((w.heap.size,us)::rv) x:=λx hl h q hq=>by
  rcases bO.1 hq with rfl|hq
  ·exact λe=>by simp only at e;omega
  ·exact h q hq
 refine⟨S'.low,λp h=>?_,?_,λp h=>⟨(S'.fx p h).1,hN _ (blt (S.fx p h).1) (S.fx p h).2⟩,λp h=>(S.tr p h).kept (λx hb hl=>hN x hl hb) b.size (λ_ _ hl=>b.block _ hl)⟩
 ·rcases bO.1 h with rfl|h
  ·exact⟨aP w _,S.low.size⟩
  ·exact S'.tv p h
 ·refine sB.2 ⟨λq hq e=>?_,S.pw⟩;have:=blt (S.tv q hq).1;simp only at e;omega
def LS.fix{w0 w:World}{rv fv ts}(S:LS w0 w rv fv ts):LS w0 w [] (rv++fv) ts:=
 ⟨S.low,λ_ h=>oU,.nil,λp h=>⟨(fP.1 h).elim (λh=>(S.tv p h).1) (λh=>(S.fx p h).1),λq hq=>Ax⟩,λp h=>(S.tr p h).kept (λ_ _ _ q hq=>Ax) (aG _) (λ_ _ _=>rfl)⟩
def LS.fY{w0 w:World}{rv fv ts}{b:Nat}{us:List Value}(S:LS w0 w ((b,us)::rv) fv ts)(hl:us.length=5)(x y z u v:Value):LS w0 (AY w b x y z u v) ((b,[x,y,z,u,v])::rv) fv ts:=by
 have hb:=(S.tv _ (.head _)).2;have hh:=(S.tv _ (.head _)).1;have hne:∀ c,c≠b->(AY w b x y z u v).heap[c]?=w.heap[c]?:=λc hc=>by unfold AY;exact Aw (λe=>hc e.symm) w x y z u v
 have hsz:(AY w b x y z u v).heap.size=w.heap.size:=by unfold AY;simp[World.setCell]
 have hpw:=sB.1 S.pw;have hNv:∀ c,Nv ((b,us)::rv) c->Nv ((b,[x,y,z,u,v])::rv) c:=λc h q hq=>by
  rcases bO.1 hq with rfl|hq
  ·exact h (b,us) (.head _)
  ·exact h q (.tail _ hq)
 refine⟨?_,λp h=>?_,sB.2 ⟨λq hq=>hpw.1 q hq,hpw.2⟩,λp h=>⟨(hne _ ((S.fx p h).2 _ (.head _))).trans (S.fx p h).1,hNv _ (S.fx p h).2⟩,λp h=>(S.tr p h).kept (λc hc _=>hNv c hc) (Nat.le_of_eq hsz.symm) (λc hc _=>hne c (hc _ (.head _)))⟩
 ·unfold AY;exact jH S.low hb x y z u v
 ·rcases bO.1 h with rfl|h
  ·refine⟨?_,hb⟩
   match us,hl with
   | [u0,u1,u2,u3,u4],_=>
    have ht:TV w b u0 u1 u2 u3 u4:=hh;exact ht.set x y z u v
  ·exact⟨(hne _ (λe=>hpw.1 p h e.symm)).trans (S.tv p (.tail _ h)).1,(S.tv p (.tail _ h)).2⟩
theorem LS.lit{w0 w:World}{rv fv ts}(S:LS w0 w rv fv ts){l:List T}{us:List Value}(h:dO (Nv rv) w l us)(cs:Array Value)(hc:cs=us.toArray)(k n a:Int)(s:dL)(m c:Nat)(hm:m=l.length)(hcap:l.length<=c:=by exact aG _):LS w0 (w.alloc (.cells cs 24)) rv fv ((.mk k n a s l,vT k n a s (some (AAF w.heap.size 0)) m c)::ts):=by
 subst hc hm;have S':=S.below (aJ w (.cells us.toArray 24));refine⟨S'.low,S'.tv,S'.pw,S'.fx,λp hp=>?_⟩
 rcases bO.1 hp with rfl|hp
 ·exact iB.lit (w:=w) h (λq hq e=>by have:=blt (S.tv q hq).1;omega) (bH _ _) k n a s c hcap
 ·exact S'.tr p hp
def LS.read{w0 w w':World}{rv fv ts}(S:LS w0 w rv fv ts)(b:iY w w'){t:T}{us:List Value}(ht:iB (λx=>Nv rv x\/w.heap.size<=x) w' t us):LS w0 w' rv fv ((t,us)::ts):=by
 have S':=S.below b;refine⟨S'.low,S'.tv,S'.pw,S'.fx,λp h=>?_⟩
 rcases bO.1 h with rfl|h
 ·exact ht.kept (λx hb _=>hb.elim id (λhb q hq e=>by have:=blt (S.tv q hq).1;omega)) (aG _) (λ_ _ _=>rfl)
 ·exact S'.tr p h
def LS.DM{w0 w w':World}{rv fv ts}(S:LS w0 w rv fv ts)(b:iY w w'){t:T}{us:List Value}(ht:iB (Fr w) w' t us):LS w0 w' rv fv ((t,us)::ts):=
 S.read b (ht.kept (λ_ h _=>.inr h) (aG _) (λ_ _ _=>rfl))
def LT(w0:World)(rv fv:List (Nat×List Value))(ts:List (T×List Value))(t:T)(e:Ending)(w':World):Prop:=∃ k n a s ao m c,e=.returned (tg k n a s ao m c)/\LS w0 w' rv fv ((t,vT k n a s ao m c)::ts)
def LS.UP{w0 w:World}{rv fv ts}(S:LS w0 w rv fv ts)(s:dL):AAA 35 #[s] w (LT w0 rv fv ts (Dp s)):=
 (aEB (Nv rv) s w).mono λ_ _ ⟨b,k,n,a,s,ao,m,c,he,ht⟩=>⟨k,n,a,s,ao,m,c,he,S.read b ht⟩
def LS.aEf{w0 w:World}{rv fv ts}(S:LS w0 w rv fv ts)(op:dL){a b:T}{k n at_:Int}{s:dL}{ao:iD}{m c:Nat}{k' n' at':Int}{s':dL}{ao':iD}{m' c':Nat}(ha:(a,vT k n at_ s ao m c)∈ts)(hb:(b,vT k' n' at' s' ao' m' c')∈ts):AAA 34 #[op,tg k n at_ s ao m c,tg k' n' at' s' ao' m' c'] w (LT w0 rv fv ts (ajD op a b)):=
 (aHB (Nv rv) op w a b k n at_ s ao m c k' n' at' s' ao' m' c' (S.tr _ ha) (S.tr _ hb)).mono λ_ _ ⟨b,k,n,a,s,ao,m,c,he,ht⟩=>⟨k,n,a,s,ao,m,c,he,S.read b ht⟩
def LQ(w0:World)(rv fv:List (Nat×List Value))(ts:List (T×List Value))(r:T×Int×Int)(e:Ending)(w':World):Prop:=∃ k n a s ao m c,e=.returned (.tuple #[tg k n a s ao m c,iq r.2.1,iq r.2.2])/\LS w0 w' rv fv ((r.1,vT k n a s ao m c)::ts)
def LS.tq{w0 w:World}{rv fv ts}(S:LS w0 w rv fv ts){f:FuncId}{args:Array Value}{r:T×Int×Int}(h:AAA f args w (TQ w r)):AAA f args w (LQ w0 rv fv ts r):=
 h.mono λ_ _ ⟨b,k,n,a,s,ao,m,c,he,ht⟩=>⟨k,n,a,s,ao,m,c,he,S.DM b ht⟩
def Mix(wB w:World)(b:Nat):Prop:=b<wB.heap.size\/w.heap.size<=b
def aJq(wB w:World)(t:T)(e:Ending)(w':World):Prop:=iY w w'/\∃ k n a s ao m c,e=.returned (tg k n a s ao m c)/\iB (Mix wB w) w' t (vT k n a s ao m c)
def aJq.mk{wB w:World}{w':World}{t t':T}(h:t=t')(b:iY w w'){k n a:Int}{s:dL}{ao:iD}{m c:Nat}(ht:iB (Mix wB w) w' t' (vT k n a s ao m c)):aJq wB w t (.returned (tg k n a s ao m c)) w':=by
 exact DV
end
