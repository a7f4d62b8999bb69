/- Part 44. -/
import Derived.Test.YtikalomcclefiaaGreatDoorV33
import Derived.Test.YtikalomcclefiaaGreatDoorV43
import Derived.Test.YtikalomcclefiaaGreatDoorV09
set_option linter.all false
set_option maxHeartbeats 0
set_option maxRecDepth 100000
namespace Go.Proofs.YtikalomcclefiaaGreatDoor
section
open Go.RowKit Lx Px
def K3(L:List Tk):List T3:=L.map λk=>⟨k.kind,k.text,0⟩
def Eh(L:List Tk):(K3 L).length=L.length:=bN _
def Wz(L:List Tk):lk (K3 L)=L:=by
 induction L with
 | nil=>rfl
 | cons t r ih=>exact congrArg (List.cons t) ih
def aAy(L:List Tk):tK (K3 L)=yI L:=by
 induction L with
 | nil=>rfl
 | cons t r ih=>exact congrArg (λx=>tkv t++x) ih
def VC{w:World}{B:Nat}{v:Value}{L:List Tk}(h:w.ownsRow B 47 3 v L.length (yI L)):fJ w v (K3 L):=
 fJ.VW (B:=B) (by rw[Eh,aAy];exact h)
def aIL(L:List Tk):(K3 L).any Vb = !gdL L:=by
 unfold gdL
 induction L with
 | nil=>rfl
 | cons t r ih=>
  show (Vb _||(K3 r).any Vb)=_
  rw[ih,pH]
  show (!eP t.kind t.text||_)=_
  cases eP t.kind t.text<;>rfl
def aDH{L:List Tk}(h:gdL L=true):qZ (K3 L):=λt ht=>by
 obtain⟨x,hx,rfl⟩:=iL.1 ht;exact(aqA L).1 h x hx
def aFD{L:List Tk}(h:Tx L):∀ t,t∈K3 L->t.text.size<=140737488351232:=λt ht=>by
 obtain⟨x,hx,rfl⟩:=iL.1 ht;have:=h x hx;unfold NO at this;exact aZ this aD
def Tr.low{wB w:World}{t:T}{us:List Value}(h:Tr wB t us)(b:iY wB w):Tr w t us:=
 iB.kept (λ_ _ _=>trivial) b.size (λk _ hk=>b.block k hk) h
def Rp: ∀ args w,(callFunc 46 args).run Tryz.prog w=.ok (.enter 46 args) w:=
 enters_of Tryz.func46 aD rfl
def rdP: Nat->List Tk->Nat->R T
 | 0=>dB
 | _=>rW
def rdK: Nat->FuncId
 | 0=>45
 | _=>46
def aeF: ∀ (q:Nat) args w,(callFunc (rdK q) args).run Tryz.prog w=.ok (.enter (rdK q) args) w
 | 0=>BD
 | _+1=>Rp
def aHs(q:Nat)(L:List Tk)(hX:qZ (K3 L)):∀ pb w,PS w pb (K3 L) 0->AAA (rdK q) #[pq pb] w (aU pb (K3 L) w (rdP q L 0)):=λpb w h=>by
 cases q with
 | zero=>have:=fA pb (K3 L) 0 w (aS _) h;rw[Wz]at this;exact this
 | succ q=>have:=Wo pb (K3 L) hX 0 w (aS _) h;rw[Wz]at this;exact this
def aIe(t:T)(h1:oJ t=true)(h2:gdL (aL false t)=true):De t=(okR (rdP 0) (aL false t) t||okR (rdP 1) (aL false t) t):=by
 unfold De;rw[h1,show gdL (Eu t)=true from h2,qV,qV];rfl
def aJG(t:T)(h1:oJ t=false):De t=false:=by unfold De;rw[h1];rfl
def aKq(t:T)(h2:gdL (aL false t)=false):De t=false:=by unfold De;rw[show gdL (Eu t)=false from h2,FL,Bool.and_false]
def Ed(t:T):Int:=if De t=true then 0 else 71
def nV(w:World)(hTab:fQ w)(t:T)(ho:TJ t)(hwd:Xp t)(k n a:Int)(s:dL)(ao:iD)(m c:Nat)(ht:Tr w t (vT k n a s ao m c)):AAA 11 #[tg k n a s ao m c] w λe w'=>e=.returned (.int .i64 (Ed t))/\iY w w':=by
 have b1:=aJ w (.cells (tg k n a s ao m c) 24);have t1:=TV.new w k n a s (.slice ao m c);go_in;go_upto_region 1 with fail;generalize World.alloc w _=w1 at b1 t1 ⊢;have hS:=asI w1 t k n a s ao m c (ht.low b1);have:=AAD t1
 cases hsm:oJ t with
 | false=>
  rw[hsm]at hS;have HE:=aN (show Ed t=71 by unfold Ed;rw[aJG t hsm];rfl);clear hsm ht ho hwd;go_wp2_with (go_at_call 41;refine hS.mono ?_;rintro e w2 ⟨rfl,b2⟩);go_ret;exact⟨by rw[HE.out];rfl,b1.trans (b2.mono b1.size)⟩
 | true=>
  rw[hsm]at hS;have hsz:nodes t<=4000:=by unfold oJ at hsm;rw[bA,dX]at hsm;exact hsm.1
  have hlen:(aL false t).length<=192000:=by have:=aDg false t;omega
  go_upto_region 3 with (go_at_call 41;refine hS.mono ?_;rintro e w2 ⟨rfl,b2⟩);have t2:=t1.below b2;have B2:=b1.trans (b2.mono b1.size);have hTk:=Wd w2 (hTab.below B2) t ho k n a s ao m c (ht.low B2) (by unfold fG;omega);clear b1 b2 t1 hS;have:=AAD t2;go_upto_region 4 with (go_at_call 42;refine hTk.mono ?_;rintro e w3 ⟨v,rfl,hown,b3⟩);have hrow:=VC hown;have t3:=t2.below b3;have B3:=B2.trans (b3.mono B2.size);clear hTk hown B2 t2 b3;have hC:=QZ 43 aJi Vb v (K3 (aL false t)) (λx hx w=>aFf x (aFD (NC false hwd) x hx) w) w3 hrow (by rw[Eh];omega);rw[aIL]at hC
  cases hgd:gdL (aL false t) with
  | false=>
   rw[hgd]at hC;have HE:=aN (show Ed t=71 by unfold Ed;rw[aKq t hgd];rfl);clear hgd hsm ht ho hwd hrow t3 hlen hsz;go_wp2_with (go_at_call 39;refine hC.mono ?_;rintro e w4 ⟨rfl,b4⟩);go_ret;exact⟨by rw[HE.out];rfl,B3.trans (b4.mono B3.size)⟩
  | true=>
   rw[hgd]at hC;have hE:De t=(okR (rdP 0) (aL false t) t||okR (rdP 1) (aL false t) t):=aIe t hsm hgd;have HE:=aN hE;have HX:=aN (aDH hgd);have HT:=aN ht;have HL:=aN hlen;have HSZ:=aN hsz;clear hE hgd hsm ht ho hwd hlen hsz;go_upto_region 6 with (go_at_call 39;refine hC.mono ?_;rintro e w4 ⟨rfl,b4⟩);have hrow4:=hrow.below b4 (aG _);have t4:=t3.below b4;have B4:=B3.trans (b4.mono B3.size);clear hC hrow t3 b4 B3;have n5:=aP w4 (.cells #[.func (.func 45) #[] #[],.func (.func 46) #[] #[]] 79);have b5:=aJ w4 (.cells #[.func (.func 45) #[] #[],.func (.func 46) #[] #[]] 79);go_wp2_with fail;generalize World.alloc w4 _=w5 at n5 b5 ⊢;have hrow5:=hrow4.below b5 (aG _);have t5:=t4.below b5;have B5:=B4.trans (b5.mono B4.size);have l5:w4.heap.size<w5.heap.size:=nK n5;have hB4:=B4.size;clear hrow4 t4 b5 B4;have HR:=aN hrow5;have HT5:=aN t5;have HN5:=aN n5;have hfm:=hrow5;obtain⟨vao,vcap,rfl,-⟩:=hfm;clear hrow5 t5 n5
   go_loopg [18] 2 (λg tt wr=>∃ q:Nat,tt=.int .i64 q/\q<=2/\g=2 - q/\iY w5 wr/\Aside (∀ j,j<q->okR (rdP j) (aL false t) t=false))
   case atStart=>exact⟨0,rfl,aS _,rfl,bH _ _,λj h=>absurd h (Nat.not_lt_zero _)⟩
   case round=>
    obtain⟨q,rfl,hq,hg,hB,A⟩:=hrel;have HG:=aN hg;clear hg
    by_cases hlt:q<2
    ·have x1:(q:Int)<2:=by omega
     have hcell:wr.cell? (AAF w4.heap.size q)=some (.func (.func (rdK q)) #[] #[]):=by
      rw[hB.cell (p:=(AAF w4.heap.size q)) l5,aK w5 w4.heap.size q _ _ _ HN5.out]
      match q,hlt with
      | 0,_=>rfl
      | 1,_=>rfl
     have hrowr:=HR.out.below hB (aG _);have hall:=arF (rdK q) (aeF q) (K3 (aL false t)) (rdP q (aL false t)) (aHs q _ HX.out) _ wr hrowr (by rw[Eh];have:=HL.out;omega);rw[Wz]at hall;have hK:=aeF q;have hrd:okR (rdP q) (aL false t) t=(match uN (aL false t) (rdP q (aL false t))with | .ok t'=>dM t' t | .error _=>false):=rfl
     cases hr:uN (aL false t) (rdP q (aL false t)) with
     | error x=>
      rw[hr]at hall hrd;have HRD:=aN hrd;clear hr hrd hrowr;go_upto_region 9 with fail;clear hcell;go_upto_region 10 with (go_at_call 47;refine hall.mono ?_;rintro e w6 ⟨b6,rfl⟩);have b7:=aJ w6 (.cells sZ 24);generalize World.alloc w6 _=w7 at b7 ⊢;go_wp2_with fail
      go_roundg (2 - (q+1))
      case measure=>rw[HG.out];omega
      case rel => exact ⟨q + 1, by go_num, hlt, rfl, hB.trans ((b6.trans (b7.mono b6.size)).mono hB.size), λj hj => by
        by_cases e : j = q
        · rw [e]; exact HRD.out
        · exact A.out j aB⟩
     | ok t'=>
      rw[hr]at hall hrd;have HRD:=aN hrd;clear hr hrd hrowr;go_upto_region 9 with fail;clear hcell;go_upto_region 10 with (go_at_call 47;refine hall.mono ?_;rintro e w6 ⟨b6,k1,n1,a1,s1,o1,m1,c1,rfl,htr⟩);have b7:=aJ w6 (.cells (tg k1 n1 a1 s1 o1 m1 c1) 24);have t7:=TV.new w6 k1 n1 a1 s1 (.slice o1 m1 c1);generalize World.alloc w6 _=w7 at b7 t7 ⊢;have hB7:=hB.trans ((b6.trans (b7.mono b6.size)).mono hB.size);have B7:=B5.trans (hB7.mono B5.size);have t8:=HT5.out.below hB7;have hT1:Tr w6 t' (vT k1 n1 a1 s1 o1 m1 c1):=htr.kept (λ_ _ _=>trivial) (aG _) (λ_ _ _=>rfl);have hS:=Cf w7 _ t' (aG _) t (by have:=HSZ.out;omega) w7 (bH _ _) k1 n1 a1 s1 o1 m1 c1 k n a s ao m c (hT1.low b7) (HT.out.low B7);clear htr hT1 hall;have:=AAD t7;have:=AAD t8
      cases hsm:dM t' t with
      | true=>
       rw[hsm]at hS
       have HE2:=aN (show Ed t=0 by
        have h1:okR (rdP q) (aL false t) t=true:=HRD.out.trans hsm
        unfold Ed
        rw[HE.out]
        match q,hlt with
        | 0,_=>rw[h1];rfl
        | 1,_=>rw[h1,Bool.or_true];rfl)
       clear hsm;go_wp2_with (go_at_call 13;refine hS.mono ?_;rintro e w8 ⟨rfl,b8⟩);go_ret;exact⟨by rw[HE2.out];rfl,B7.trans (b8.mono B7.size)⟩
      | false=>
       rw[hsm]at hS;have HN:=aN (show okR (rdP q) (aL false t) t=false from HRD.out.trans hsm);clear hsm;go_wp2_with (go_at_call 13;refine hS.mono ?_;rintro e w8 ⟨rfl,b8⟩)
       go_roundg (2 - (q+1))
       case measure=>rw[HG.out];omega
       case rel => exact ⟨q + 1, by go_num, hlt, rfl, hB7.trans (b8.mono hB7.size), λj hj => by
         by_cases e : j = q
         · rw [e]; exact HN.out
         · exact A.out j aB⟩
    ·have x1:¬ (q:Int)<2:=by omega
     have hq2:q=2:=by omega
     subst hq2;have HE2:=aN (show Ed t=71 by unfold Ed;rw[HE.out,A.out 0 aD,A.out 1 aD];rfl);go_wp2_with fail;go_ret;exact⟨by rw[HE2.out];rfl,B5.trans (hB.mono B5.size)⟩
def aFF: ∀ args w,(callFunc 84 args).run Tryz.prog w=.ok (.enter 84 args) w:=
 enters_of Tryz.func84 aD rfl
def auG(t:T3)(ht:t.text.size<=140737488351232)(w:World):AAA 84 #[Ks t] w λe w'=>e=.returned (.bool (Vb t))/\iY w w':=by
 obtain⟨k,t,a⟩:=t;unfold Ks Vb;have hc:=λw=>EP k t a ht w
 have n1:=aP w (.cells #[iq k,.string t,iq a] 47);have b1:=aJ w (.cells #[iq k,.string t,iq a] 47);go_in;exact OY
def abW: ∀ (ts:List T3) (i:Nat),Xf Vb ts i=match xR (lk ts) i with|some j=>(j:Int)|none => -1:=by
 intro ts
 induction ts with
 | nil=>intro i;rfl
 | cons t r ih=>
  intro i;rw[Kk]
  show _=match (if eP t.kind t.text=true then xR (lk r) (i+1)else some i) with|some j=>(j:Int)|none => -1
  unfold Vb
  cases h:eP t.kind t.text with
  | true=>rw[aC aD,aF rfl];exact ih (i+1)
  | false=>rw[aF aD,aC aD]
def TQ(w:World)(r:T×Int×Int)(e:Ending)(w':World):Prop:=iY w w'/\∃ k n a s ao m c,e=.returned (.tuple #[tg k n a s ao m c,iq r.2.1,iq r.2.2])/\iB (Fr w) w' r.1 (vT k n a s ao m c)
def TQ.mk{w:World}{r:T×Int×Int}{w':World}{t:T}{x y:Int}(h:r=(t,x,y))(b:iY w w'){k n a:Int}{s:dL}{ao:iD}{m c:Nat}(ht:iB (Fr w) w' t (vT k n a s ao m c)):TQ w r (.returned (.tuple #[tg k n a s ao m c,iq x,iq y])) w':=by
 exact DV
def kN{P:Program}{fn:Func}{R:Ending->World->Prop}{a:Act}{w:World}{b:Nat}{x y z u v:Value}(val:Value)(t:TV w b x y z u v)(hr:w.cell? (AAF b 0)=some x->w.cell? (AAF b 1)=some y->w.cell? (AAF b 2)=some z->w.cell? (AAF b 3)=some u->w.cell? (AAF b 4)=some v->(results fn a.tmps).run P w=.ok val w)(hd:a.defers=[])(hR:R (.returned val) w):bodyPost P fn R .ret a w:=
 iW (hr t.facts.1 t.facts.2.1 t.facts.2.2.1 t.facts.2.2.2.1 t.facts.2.2.2.2.1) hd hR
def iB.Yg{av:Nat->Prop}{w:World}{t:T}{us:List Value}(h:iB av w t us)(B:Nat)(hB:∀ b,av b->b≠B)(x y z u v:Value):iB av (((((w.setCell (AAF B 0) x).setCell (AAF B 1) y).setCell (AAF B 2) z).setCell (AAF B 3) u).setCell (AAF B 4) v) t us:=
 h.kept (λ_ hb _=>hb) AN (λb hb _=>Aw (λe=>hB b hb e.symm) _ _ _ _ _ _)
def WW(K:FuncId)(hK:∀ args w,(callFunc K args).run Tryz.prog w=.ok (.enter K args) w)(L:List T3)(read:List Tk->Nat->R T)(hR:qZ L->∀ pb w,PS w pb L 0->AAA K #[pq pb] w (aU pb L w (read (lk L) 0)))(hN:L.length<=5000->∀ t,uN (lk L) (read (lk L))=.ok t->nodes t<=1000000000)(hs:∀ t,t∈L->t.text.size<=140737488351232)(v:Value)(w:World)(hT:fJ w v L)(hl:L.length<=9223372036854775807):AAA 51 #[v,.func (.func K) #[] #[]] w (TQ w (jM read (lk L))):=by
 have hlen:(lk L).length=L.length:=bN _;have hfm:=hT;obtain⟨vao,vcap,rfl,-⟩:=hfm;have HT:=aN hT;clear hT;have b1:=aJ w (.cells zT 24);have t1:=TV.new w (iq 0) (iq 0) (iq 0) (.string ⟨#[]⟩) (.slice none 0 0)
 by_cases h5:5000<L.length
 ·have h5':(5000:Int)<(L.length:Int):=by omega
  have HU:=aN (show jM read (lk L)=(sP,0,2)by unfold jM;rw[aF (by rw[hlen];exact h5)]);clear hN hR;go_in;go_upto_region 1 with fail;unfold zT at b1;generalize World.alloc w _=w1 at b1 t1 ⊢;have:=AAD t1;go_wp2_with fail;refine kN (.tuple #[tg 0 0 0 ⟨#[]⟩ none 0 0,iq 0,iq 2]) (t1.set _ _ _ _ _) (λq0 q1 q2 q3 q4=>by simp[results,Tryz.results51,go_sem,q0,q1,q2,q3,q4]) rfl ?_;exact TQ.mk HU.out (jH b1 (aG _) _ _ _ _ _) (iB.leaf _ _ _ _ _ _ _)
 ·have h5':¬ (5000:Int)<(L.length:Int):=by omega
  have hUU:jM read (lk L)=match xR (lk L) 0 with
   | some i=>(sP,i,50)
   | none=>match uN (lk L) (read (lk L)) with
    | .error a=>(sP,a,70)
    | .ok t=>if 4000<nodes t\/60<depth t then(sP,0,2)else(t,0,0):=by
   conv=>lhs;unfold jM
   rw[aC (by rw[hlen];exact h5)];rfl
  have hI:=λw1 (h:fJ w1 (.slice vao L.length vcap) L)=>MD 84 aFF Vb _ L (λx hx w=>auG x (hs x hx) w) w1 h hl
  rw[abW]at hI
  cases hf:xR (lk L) 0 with
  | some i=>
   rw[hf]at hI hUU;have HU:=aN hUU;clear hf hUU hN hR;go_in;go_upto_region 1 with fail;unfold zT at b1;generalize World.alloc w _=w1 at b1 t1 ⊢;have h1:=hI w1 (HT.out.below b1 (aG _));clear hI;have hi0:(i:Int)>=0:=by omega
   go_upto_region 5 with (go_at_call 63;refine h1.mono ?_;rintro e w2 ⟨rfl,b2⟩);have t2:=t1.below b2;have B2:=b1.trans (b2.mono b1.size);clear t1 h1;have:=AAD t2;go_wp2_with fail;refine kN (.tuple #[tg 0 0 0 ⟨#[]⟩ none 0 0,iq i,iq 50]) (t2.set _ _ _ _ _) (λq0 q1 q2 q3 q4=>by simp[results,Tryz.results51,go_sem,q0,q1,q2,q3,q4]) rfl ?_;exact TQ.mk HU.out (jH B2 (aG _) _ _ _ _ _) (iB.leaf _ _ _ _ _ _ _)
  | none=>
   rw[hf]at hI hUU;have hX:qZ L:=λt ht=>(Ah (lk L) 0).1 hf t.tk (Lg ht)
   have hall:=λw1 (h:fJ w1 (.slice vao L.length vcap) L)=>arF K hK L (read (lk L)) (hR hX) _ w1 h aB
   clear hR hf;go_in;go_upto_region 1 with fail;unfold zT at b1;generalize World.alloc w _=w1 at b1 t1 ⊢;have h1:=hI w1 (HT.out.below b1 (aG _));have HALL:=aN hall;clear hI hall;have hneg:¬ (-1:Int)>=0:=by omega
   cases hr:uN (lk L) (read (lk L)) with
   | error x=>
    rw[hr]at hUU HALL;have HU:=aN hUU;clear hUU hN hr;go_upto_region 6 with (go_at_call 63;refine h1.mono ?_;rintro e w2 ⟨rfl,b2⟩);have t2:=t1.below b2;have B2:=b1.trans (b2.mono b1.size);have h3:=HALL.out w2 (HT.out.below B2 (aG _));clear t1 h1 HALL b1 b2;go_upto_region 7 with (go_at_call 47;refine h3.mono ?_;rintro e w3 ⟨b3,rfl⟩);have b4:=aJ w3 (.cells sZ 24);generalize World.alloc w3 _=w4 at b4 ⊢;have b34:=b3.trans (b4.mono b3.size);have t4:=t2.below b34;have B4:=B2.trans (b34.mono B2.size);clear h3 t2 b34 b3 b4 B2;have:=AAD t4;go_wp2_with fail;refine kN (.tuple #[tg 0 0 0 ⟨#[]⟩ none 0 0,iq x,iq 70]) (t4.set _ _ _ _ _) (λq0 q1 q2 q3 q4=>by simp[results,Tryz.results51,go_sem,q0,q1,q2,q3,q4]) rfl ?_;exact TQ.mk HU.out (jH B4 (aG _) _ _ _ _ _) (iB.leaf _ _ _ _ _ _ _)
   | ok t=>
    rw[hr]at hUU HALL;have hnt:=hN aB t hr;have HU:=aN hUU;clear hUU hN hr;go_upto_region 6 with (go_at_call 63;refine h1.mono ?_;rintro e w2 ⟨rfl,b2⟩);have t2:=t1.below b2;have B2:=b1.trans (b2.mono b1.size);have h3:=HALL.out w2 (HT.out.below B2 (aG _));have hlt2:w.heap.size<w2.heap.size:=t2.lt;clear t1 h1 HALL b1 b2;go_upto_region 7 with (go_at_call 47;refine h3.mono ?_;rintro e w3 ⟨b3,k1,n1,a1,s1,o1,m1,c1,rfl,htr⟩);have b4:=aJ w3 (.cells (tg k1 n1 a1 s1 o1 m1 c1) 24);have t4:=TV.new w3 k1 n1 a1 s1 (.slice o1 m1 c1);have htr4:iB (Fr w2) (w3.alloc (.cells (tg k1 n1 a1 s1 o1 m1 c1) 24)) t (vT k1 n1 a1 s1 o1 m1 c1):=htr.kept (λ_ h _=>h) b4.size (λk _ hk=>b4.block k hk);generalize World.alloc w3 _=w4 at b4 t4 htr4 ⊢;have b34:=b3.trans (b4.mono b3.size);have tr4:=t2.below b34;have B4:=B2.trans (b34.mono B2.size);have hT4:Tr w4 t (vT k1 n1 a1 s1 o1 m1 c1):=htr4.kept (λ_ _ _=>trivial) (aG _) (λ_ _ _=>rfl);have hSz:=agD w4 _ t (aG _) hnt w4 (bH _ _) k1 n1 a1 s1 o1 m1 c1 hT4;have hB2:=B2.size;clear h3 htr t2 hT4 b34;have:=AAD t4;go_upto_region 10 with (go_at_call 37;refine hSz.mono ?_;rintro e w5 ⟨rfl,b5⟩);have t5:=t4.below b5;have tr5:=tr4.below b5;have B5:=B4.trans (b5.mono B4.size);have htr5:=htr4.kept (av':=Fr w2) (λ_ h _=>h) b5.size (λk _ hk=>b5.block k hk);have hdn:=Jw _ t (aG _);clear hSz tr4 t4 htr4 b4 b5 B4;have:=AAD t5;have:=AAD tr5
    by_cases hb1:4000<nodes t
    ·have y1:(4000:Int)<(nodes t:Int):=by omega
     have HU2:=aN (HU.out.trans (aF (.inl hb1)));clear HU hb1 htr5;exact QF
    ·have y1:¬ (4000:Int)<(nodes t:Int):=by omega
     by_cases hb2:60<depth t
     ·have y2:(60:Int)<(depth t:Int):=by omega
      have HU2:=aN (HU.out.trans (aF (.inr hb2)));clear HU hb1 hb2 htr5;exact QF
     ·have y2:¬ (60:Int)<(depth t:Int):=by omega
      have HU2:=aN (HU.out.trans (aC (λh=>h.elim hb1 hb2)));clear HU hb1 hb2;go_wp2_with fail;refine kN (.tuple #[tg k1 n1 a1 s1 o1 m1 c1,iq 0,iq 0]) (tr5.set _ _ _ _ _) (λq0 q1 q2 q3 q4=>by simp[results,Tryz.results51,go_sem,q0,q1,q2,q3,q4]) rfl ?_;refine TQ.mk HU2.out (jH B5 (aG _) _ _ _ _ _) ?_;exact(htr5.Yg _ (λb hb=>by unfold Fr at hb;omega) _ _ _ _ _).kept (λb hb _=>by unfold Fr at hb ⊢; omega) (aG _) (λ_ _ _=>rfl)
def auN: ∀ args w,(callFunc 52 args).run Tryz.prog w=.ok (.enter 52 args) w:=
 enters_of Tryz.func52 aD rfl
section
variable(L:List T3)(hs:∀ t,t∈L->t.text.size<=140737488351232)(v:Value)(w:World)(hT:fJ w v L)(hl:L.length<=9223372036854775807)
include L hs v w hT hl
theorem Be:AAA 17 #[v] w (TQ w (jM dB (lk L))):=by
 have hlen:(lk L).length=L.length:=bN _;have hC:=λw1 (h:fJ w1 v L)=>WW 45 BD L dB (λhX pb w h=>fA pb L 0 w (aS _) h) (λh t e=>by have:=aiV (lk L) (λ_ _=>mZ (lk L) 0) e;omega) hs v w1 h hl
 have b1:=aJ w (.cells zT 24);have t1:=TV.new w (iq 0) (iq 0) (iq 0) (.string ⟨#[]⟩) (.slice none 0 0);go_in;go_upto_region 1 with fail;unfold zT at b1;generalize World.alloc w _=w1 at b1 t1 ⊢;have h1:=hC w1 (hT.below b1 (aG _));obtain⟨r,hr⟩:∃ r,jM dB (lk L)=r:=⟨_,rfl⟩
 rw[hr]at h1;have HR:=aN hr;clear hr hC hT;obtain⟨rt,rx,ry⟩:=r;go_upto_block 1 with fail;refine h1.mono ?_;rintro e w2 ⟨b2,k,n,a,s,ao,m,c,rfl,htr⟩;have t2:=t1.below b2;have B2:=b1.trans (b2.mono b1.size);have hw1:=b1.size;have hlt1:=t1.lt;clear h1 t1 b2 b1;have:=AAD t2;go_wp2_with fail;refine kN (.tuple #[tg k n a s ao m c,iq rx,iq ry]) (t2.set _ _ _ _ _) (λq0 q1 q2 q3 q4=>by simp[results,Tryz.results17,go_sem,q0,q1,q2,q3,q4]) rfl ?_;exact Hh
theorem CI:AAA 18 #[v] w (TQ w (jM rW (lk L))):=by
 have hlen:(lk L).length=L.length:=bN _;have hC:=λw1 (h:fJ w1 v L)=>WW 46 Rp L rW (λhX pb w h=>Wo pb L hX 0 w (aS _) h) (λh t e=>by have:=aiV (lk L) (λ_ _=>UT (lk L) 0) e;omega) hs v w1 h hl
 have b1:=aJ w (.cells zT 24);have t1:=TV.new w (iq 0) (iq 0) (iq 0) (.string ⟨#[]⟩) (.slice none 0 0);go_in;go_upto_region 1 with fail;unfold zT at b1;generalize World.alloc w _=w1 at b1 t1 ⊢;have h1:=hC w1 (hT.below b1 (aG _));obtain⟨r,hr⟩:∃ r,jM rW (lk L)=r:=⟨_,rfl⟩
 rw[hr]at h1;have HR:=aN hr;clear hr hC hT;obtain⟨rt,rx,ry⟩:=r;go_upto_block 1 with fail;refine h1.mono ?_;rintro e w2 ⟨b2,k,n,a,s,ao,m,c,rfl,htr⟩;have t2:=t1.below b2;have B2:=b1.trans (b2.mono b1.size);have hw1:=b1.size;have hlt1:=t1.lt;clear h1 t1 b2 b1;have:=AAD t2;go_wp2_with fail;refine kN (.tuple #[tg k n a s ao m c,iq rx,iq ry]) (t2.set _ _ _ _ _) (λq0 q1 q2 q3 q4=>by simp[results,Tryz.results18,go_sem,q0,q1,q2,q3,q4]) rfl ?_;exact Hh
theorem Dc:AAA 19 #[v] w (TQ w (jM fC (lk L))):=by
 have hlen:(lk L).length=L.length:=bN _;have hC:=λw1 (h:fJ w1 v L)=>WW 52 auN L fC (λhX pb w h=>aeP pb L hX 0 w (aS _) h) (λh t e=>by have:=aiV (lk L) (λ_ _=>AV (lk L) 0) e;omega) hs v w1 h hl
 have b1:=aJ w (.cells zT 24);have t1:=TV.new w (iq 0) (iq 0) (iq 0) (.string ⟨#[]⟩) (.slice none 0 0);go_in;go_upto_region 1 with fail;unfold zT at b1;generalize World.alloc w _=w1 at b1 t1 ⊢;have h1:=hC w1 (hT.below b1 (aG _));obtain⟨r,hr⟩:∃ r,jM fC (lk L)=r:=⟨_,rfl⟩
 rw[hr]at h1;have HR:=aN hr;clear hr hC hT;obtain⟨rt,rx,ry⟩:=r;go_upto_block 1 with fail;refine h1.mono ?_;rintro e w2 ⟨b2,k,n,a,s,ao,m,c,rfl,htr⟩;have t2:=t1.below b2;have B2:=b1.trans (b2.mono b1.size);have hw1:=b1.size;have hlt1:=t1.lt;clear h1 t1 b2 b1;have:=AAD t2;go_wp2_with fail;refine kN (.tuple #[tg k n a s ao m c,iq rx,iq ry]) (t2.set _ _ _ _ _) (λq0 q1 q2 q3 q4=>by simp[results,Tryz.results19,go_sem,q0,q1,q2,q3,q4]) rfl ?_;exact Hh
end
def PQ(w:World)(r:List Tk×Int)(e:Ending)(w':World):Prop:=iY w w'/\∃ v,e=.returned (.tuple #[v,iq r.2])/\w'.ownsRow w.heap.size 47 3 v r.1.length (yI r.1)
def PQ.mk{w:World}{r:List Tk×Int}{w':World}{l:List Tk}{x:Int}{v:Value}(h:r=(l,x))(b:iY w w')(hv:w'.ownsRow w.heap.size 47 3 v l.length (yI l)):PQ w r (.returned (.tuple #[v,iq x])) w':=by
 subst h;exact⟨b,v,rfl,hv⟩
def Ld{w':World}{e:TypeId}{n:Nat}{v:Value}{len:Nat}{cs:List Value}{B B':Nat}(h:w'.ownsRow B e n v len cs)(hb:B'<=B):w'.ownsRow B' e n v len cs:=by
 unfold World.ownsRow at h ⊢;obtain⟨h1,h2⟩:=h;refine⟨h1,h2.imp id ?_⟩;rintro⟨g,cap,cur,k1,k2,k3⟩;exact⟨g,cap,cur,k1,aZ hb k2,k3⟩
def Lw(w:World)(hTab:fQ w)(t:T)(ho:TJ t)(hwd:Xp t)(k n a:Int)(s:dL)(ao:iD)(m c:Nat)(ht:Tr w t (vT k n a s ao m c)):AAA 20 #[tg k n a s ao m c] w (PQ w (Px.gX t)):=by
 have b1:=aJ w (.cells (tg k n a s ao m c) 24);have t1:=TV.new w k n a s (.slice ao m c);go_in;go_upto_region 1 with fail;generalize World.alloc w _=w1 at b1 t1 ⊢;have hC:=nV w1 (hTab.below b1) t ho hwd k n a s ao m c (ht.low b1);unfold Ed at hC;have:=AAD t1
 cases hc:De t with
 | false=>
  have HU:=aN (show Px.gX t=([],71)by unfold Px.gX;rw[hc];rfl);rw[hc]at hC;clear ht ho hwd hc;go_wp2_with (go_at_call 11;refine hC.mono ?_;rintro e w2 ⟨rfl,b2⟩)
  go_ret2
  exact PQ.mk HU.out (b1.trans (b2.mono b1.size)) (NW _ _ _)
 | true=>
  rw[hc]at hC;have hsz:nodes t<=4000:=by have:=Kl hc;unfold oJ at this;rw[bA,dX]at this;exact this.1
  have hlen:(aL false t).length<=192000:=by have:=aDg false t;omega
  have hUU:Px.gX t=if 5000<(aL false t).length then([],2)else(aL false t,0):=by unfold Px.gX;rw[aF hc];rfl
  have HUU:=aN hUU;clear hUU;go_upto_region 4 with (go_at_call 11;refine hC.mono ?_;rintro e w2 ⟨rfl,b2⟩);have t2:=t1.below b2;have B2:=b1.trans (b2.mono b1.size);have hTk:=Wd w2 (hTab.below B2) t ho k n a s ao m c (ht.low B2) (by unfold fG;omega);have hB2:=B2.size;clear b1 b2 t1 hC hc ht ho hwd;have:=AAD t2;go_upto_block 4 with fail;refine hTk.mono ?_;rintro e w3 ⟨v,rfl,hown,b3⟩;have hown2:=Ld hown hB2;have B3:=B2.trans (b3.mono B2.size);obtain⟨ao2,cap2,hv,-⟩:fJ w3 v (K3 (aL false t)):=VC hown;rw[Eh]at hv;subst hv;clear hTk hown B2 t2 b3
  by_cases h5:5000<(aL false t).length
  ·have h5':(5000:Int)<((aL false t).length:Int):=by omega
   have HU:=aN (HUU.out.trans (aF h5));clear HUU;go_wp2_with fail
   go_ret2
   exact PQ.mk HU.out B3 (NW _ _ _)
  ·have h5':¬ (5000:Int)<((aL false t).length:Int):=by omega
   have HU:=aN (HUU.out.trans (aC h5));clear HUU;go_wp2_with fail
   go_ret2
   exact PQ.mk HU.out B3 hown2
def Jn(t:T):ByteArray×Int:=if (Px.gX t).2=0 then Lx.gX ((K3 (Px.gX t).1).map oK)else(⟨#[]⟩,(Px.gX t).2)
def XQ(w:World)(r:ByteArray×Int)(e:Ending)(w':World):Prop:=e=.returned (.tuple #[.string r.1,iq r.2])/\iY w w'
def Vz{L:List Tk}(h:Tx L):∀ t,t∈K3 L->t.text.size<=2147483647:=λt ht=>by
 obtain⟨x,hx,rfl⟩:=iL.1 ht;exact h x hx
def NV(w:World)(hTab:fQ w)(hml:ML w)(t:T)(ho:TJ t)(hwd:Xp t)(k n a:Int)(s:dL)(ao:iD)(m c:Nat)(ht:Tr w t (vT k n a s ao m c)):AAA 14 #[tg k n a s ao m c] w (XQ w (Jn t)):=by
 have b1:=aJ w (.cells (tg k n a s ao m c) 24);have t1:=TV.new w k n a s (.slice ao m c);go_in;go_upto_region 1 with fail;generalize World.alloc w _=w1 at b1 t1 ⊢;have hC:=Lw w1 (hTab.below b1) t ho hwd k n a s ao m c (ht.low b1);have htx:Tx (Px.gX t).1:=by
  unfold Px.gX
  by_cases hc:De t=true
  ·rw[aF hc]
   by_cases h5:5000<(Eu t).length
   ·rw[aF h5];exact .nil
   ·rw[aC h5];exact NC false hwd
  ·rw[aC hc];exact .nil
 have hpl:(Px.gX t).1.length<=5000:=by
  unfold Px.gX
  by_cases hc:De t=true
  ·rw[aF hc]
   by_cases h5:5000<(Eu t).length
   ·rw[aF h5];exact aS _
   ·rw[aC h5];exact Nat.le_of_not_lt h5
  ·rw[aC hc];exact aS _
 have hUU:Jn t=if (Px.gX t).2=0 then Lx.gX ((K3 (Px.gX t).1).map oK)else(⟨#[]⟩,(Px.gX t).2):=rfl
 generalize Px.gX t=pr at hC htx hpl hUU;obtain⟨l,x⟩:=pr;have:=AAD t1
 by_cases hx:x=0
 ·subst hx;have HU:=aN (hUU.trans (aF rfl));clear hUU ht ho hwd;go_upto_block 1 with fail;refine hC.mono ?_;rintro e w2 ⟨b2,v,rfl,hown⟩;have B2:=b1.trans (b2.mono b1.size);have hrow:=VC hown;have hP:=axP v (K3 l) (Vz htx) (by rw[Eh];have:l.length<=5000:=hpl;omega) w2 (hml.below B2) hrow;obtain⟨ao2,cap2,hv,-⟩:=hrow;subst hv;clear hown hC;go_wp2_with (go_at_call 49;refine hP.mono ?_;rintro e w3 ⟨rfl,b3⟩)
  go_ret2
  exact⟨by rw[HU.out];rfl,B2.trans (b3.mono B2.size)⟩
 ·have HU:=aN (hUU.trans (aC hx));clear hUU ht ho hwd;go_upto_block 1 with fail;refine hC.mono ?_;rintro e w2 ⟨b2,v,rfl,hown⟩;have B2:=b1.trans (b2.mono b1.size);clear hown;go_wp2_with fail
  go_ret2
  exact⟨by rw[HU.out];rfl,B2⟩
end
