/- Part 03. -/
import Derived.Test.YtikalomcclefiaaGreatDoorY01
import Derived.Test.YtikalomcclefiaaGreatDoorY02
import Derived.Test.YtikalomcclefiaaGreatDoorV50
set_option linter.all false
set_option maxHeartbeats 0
set_option maxRecDepth 100000
namespace Go.Proofs.YtikalomcclefiaaGreatDoor
section
open Go.RowKit Lx Px
def LS.ayR{w0 w w':World}{fv ts}(S:LS w0 w [] fv ts)(b:iY w w'){t:T}{us:List Value}(ht:Tr w' t us):LS w0 w' [] fv ((t,us)::ts):=
 S.read b (ht.kept (λ_ _ _=>.inl (λq hq=>Ax)) (aG _) (λ_ _ _=>rfl))
def aIp: ∀ args w,(callFunc 40 args).run Tryz.prog w=.ok (.enter 40 args) w:=
 enters_of Tryz.func40 aD rfl
def YF(t:T3):Bool:=decide (1000<t.text.size)
def aBb(t:T3)(w:World):AAA 40 #[Ks t] w λe w'=>e=.returned (.bool (YF t))/\iY w w':=by
 obtain⟨k,t,a⟩:=t;unfold Ks YF;go_in
 go_wp2
 all_goals (
  go_ret
  refine⟨eI ?_,aJ _ _⟩
  rw[nS]
  simp
  try omega)
def VR(ts:List T3):Bool:=decide (ts.length<=5100)&&!ts.any YF
def apB(v:Value)(ts:List T3)(w:World)(h:fJ w v ts)(hn:ts.length<=9223372036854775807):AAA 10 #[v] w λe w'=>e=.returned (.bool (VR ts))/\iY w w':=by
 have hc:=λW (hW:fJ W v ts)=>QZ 40 aIp YF v ts (λt _ w=>aBb t w) W hW hn
 have HC:=aN hc;have H:=aN h;obtain⟨ao,cap,rfl,_⟩:=h;clear hc
 by_cases hl:ts.length<=5100
 ·have hlz:(ts.length:Int)<=5100:=by omega
  have hf:VR ts = !ts.any YF:=by unfold VR;rw[eQ hl];rfl
  have HF:=aN hf;clear hf;go_in;go_wp2_with fail;refine(HC.out _ H.out).mono ?_;rintro e w' ⟨rfl,hb⟩;go_wp2_with fail;go_ret;exact⟨by rw[HF.out];simp,hb⟩
 ·have hlz:¬ (ts.length:Int)<=5100:=by omega
  have hf:VR ts=false:=by unfold VR;rw[bX hl];rfl
  have HF:=aN hf;clear hf;go_in;go_wp2_with fail;go_ret;exact⟨by rw[HF.out];rfl,bH _ _⟩
end
section
open Go.ChangeShapes Go.WideShapes Go.Deep Go.RowKit
section
variable {H:Type} {enc:TypeId×Value->H} {P:Program} {w:World} {base:Nat} {spare:Nat->Bool} {held:Bool}
def MK{t e:TypeId}{fs:Array Field}{fuel:Nat}{cs:List Value}{x:DataW H×List MemPlace}(ht:P.underlying t=some (.slice e))(he:P.underlying e=some (.struct fs))(hone:oneCellFields P fs=true)(hC:P.cellsOf e=fs.size)(h:DataW.trod enc P w base spare held fuel t cs=some x):(cs=[.slice none 0 0]/\x=(.nil,[]))\/∃ (a:Addr) (len cap m:Nat) (D:Nat->DataW H) (Pl:Nat->List MemPlace),cs=[.slice (some a) len cap]/\base<=a.block/\len<=cap/\cap<=maxLen/\m=(if spare a.block then cap else len)/\x=(.slice ((List.range len).map D) ((List.range (m - len)).map λj=>D (len+j)),MemPlace.row a (m*fs.size)++(List.range m).flatMap Pl)/\∀ i,i<m->∃ (ys:List (DataW H×List MemPlace)) (n:Nat),D i=.agg (ys.map (·.1))/\Pl i=ys.flatMap (·.2)/\ys.length=fs.size/\∀ (j:Nat) (f:Field),fs[j]?=some f->∃ (v:Value) (y:DataW H×List MemPlace),w.cell? (a.add (i*fs.size+j))=some v/\ys[j]?=some y/\DataW.trod enc P w base spare held n f.type [v]=some y:=by
 rcases open_slice ht h with h0|⟨a,len,cap,m,n,D,Pl,hcs,hb,hl,hm,hmm,hx,hi⟩
 ·exact .inl h0
 ·refine .inr ⟨a,len,cap,m,D,Pl,hcs,hb,hl,hm,hmm,by rw[hC]at hx;exact hx,λi him=>?_⟩;obtain⟨cs',hc,ht'⟩:=hi i him;rw[hC]at hc;obtain⟨ys,n',hn',hy,hlen,hyl,hf⟩:=DataW.trod_struct he ht';obtain⟨_,hcl,hat⟩:=Cs hc;simp only[pB]at hy
  refine⟨ys,n',hy.1,hy.2,hyl,λj f hj=>?_⟩;obtain⟨ho,hk⟩:=hone_of hone j f hj;have hjl:j<fs.size:=(aX.1 hj).1;have hcell:=hat j hjl;have hv:cs'[j]?=some (cs'[j]' aB):=dQ aB;have h1:=hf j f hj;rw[ho,hk]at h1;have hone':(cs'.drop j).take 1=[cs'[j]' aB]:=by
   rw[zF aB];rfl
  rw[hone']at h1;have hys:ys[j]?=some (ys[j]' aB):=dQ aB;refine⟨_,_,?_,hys,h1.trans hys⟩;rw[<- Go.Deep.add_add,hcell,hv]
end
section
variable {H:Type} {enc:TypeId×Value->H}
def aDp{w:World}{base:Nat}{spare:Nat->Bool}{held:Bool}{a:Addr}{k:Nat}{fs:Array Field}(hfs:Tryz.prog.underlying 47=some (.struct fs))(h:∃ (ys:List (DataW H×List MemPlace)) (n:Nat),True/\True/\ys.length=fs.size/\∀ (j:Nat) (f:Field),fs[j]?=some f->∃ (v:Value) (y:DataW H×List MemPlace),w.cell? (a.add (k*fs.size+j))=some v/\ys[j]?=some y/\DataW.trod enc Tryz.prog w base spare held n f.type [v]=some y):∃ t:T3,∀ i u,(Bh t)[i]?=some u->w.cell? (a.add (k*3+i))=some u:=by
 have:=Tryz.underlying47.symm.trans hfs;simp only[mP,TypeDesc.struct.injEq]at this
 subst this;obtain⟨ys,n,_,_,hy,hf⟩:=h;obtain⟨v0,y0,c0,_,t0⟩:=hf 0 _ rfl;obtain⟨v1,y1,c1,_,t1⟩:=hf 1 _ rfl;obtain⟨v2,y2,c2,_,t2⟩:=hf 2 _ rfl;obtain⟨a0,e0,_⟩:=zP Tryz.underlying3 t0;obtain⟨a1,e1,_⟩:=DataW.trod_string Tryz.underlying9 t1;obtain⟨a2,e2,_⟩:=zP Tryz.underlying3 t2
 cases e0;cases e1;cases e2
 refine⟨⟨a0,a1,a2⟩,λi u hu=>?_⟩
 match i,hu with
 | 0,hu=>cases hu;exact c0
 | 1,hu=>cases hu;exact c1
 | 2,hu=>cases hu;exact c2
def aeL{w:World}{a:Addr}:∀ (m:Nat),(∀ k,k<m->∃ t:T3,∀ i u,(Bh t)[i]?=some u->w.cell? (a.add (k*3+i))=some u)->∃ l:List T3,l.length=m/\∀ k,k<m->∀ i u,(Bh l[k]!)[i]?=some u->w.cell? (a.add (k*3+i))=some u:=by
 intro m
 induction m with
 | zero=>intro _;exact⟨[],rfl,λk hk=>by omega⟩
 | succ m ih=>
  intro h;obtain⟨l,hl,hc⟩:=ih λk hk=>h k aB
  obtain⟨t,ht⟩:=h m aB;refine⟨l++[t],by simp[hl],λk hk i u hu=>?_⟩
  rcases cY k m with hlt|hge
  ·refine hc k hlt i u ?_;have e:(l++[t])[k]! = l[k]!:=by
    rw[tC,tC,Gc aB]
   rw[e]at hu;exact hu
  ·obtain rfl:k=m:=by omega
   have e:(l++[t])[k]! = t:=by
    rw[tC,Ad aB,hl];simp
   rw[e]at hu;exact ht i u hu
def YN{r:Reach}{b0 base:Nat}{spare:Nat->Bool}{held:Bool}{w:World}{v:Value}{d:DataW H}{ps:List MemPlace}(hval:Value.okWide Tryz.prog w r b0 25 v)(hd:DataW.Trod enc Tryz.prog w base spare held 25 v d ps):∃ l,fJ w v l/\l.length<=9223372036854775807:=by
 obtain⟨a,len,cap,rfl⟩:=okWide_slice Tryz.underlying25 hval;obtain⟨fuel,hf⟩:=hd
 rcases MK Tryz.underlying25 Tryz.underlying47 aQ aQ hf with ⟨h0,_⟩|⟨a',len',cap',m,D,Pl,hcs,_,hl,hm,hmm,_,hi⟩
 ·simp only[Value.cells,fL,mM]at h0
  cases h0
  exact⟨[],⟨none,0,rfl,λh=>absurd rfl h⟩,by simp⟩
 ·simp only[Value.cells,fL,mM]at hcs
  cases hcs
  have hml:len<=m:=by rw[hmm];split<;>omega
  obtain⟨l,hll,hc⟩:=aeL (w:=w) (a:=a') len λk hk=>by
   obtain⟨ys,n,_,_,h3,h4⟩:=hi k aB;exact aDp Tryz.underlying47 ⟨ys,n,trivial,trivial,h3,h4⟩
  subst hll;refine⟨l,⟨_,cap,rfl,λhne=>?_⟩,(by rw[show maxLen=9223372036854775807 from rfl]at hm;omega)⟩;have hpos:0<l.length:=pE.2 hne;obtain⟨b,off,spot⟩:=a';have h0:=hc 0 hpos 0 _ rfl;have hspot:spot=none:=by simpa[Addr.add]using World.cell?_spot h0
  subst hspot;refine⟨b,off,rfl,CD _ _ h0,λj hj i u hu=>?_⟩;have:=hc j hj i u hu;rw[vL]at this;rw[show off+j*3+i=off+(j*3+i)by omega];exact this
end
end
section
open Go.RowKit Lx Px
def WH{L:List T3}(h:VR L=true):∀ t,t∈L->t.text.size<=1000:=λt ht=>by
 unfold VR at h;simp only[bA,Gx,List.any_eq_false]at h
 have:=h.2 t ht;unfold YF at this;have:¬ 1000<t.text.size:=by simpa using this
 omega
def Kj{L:List T3}(h:VR L=true):∀ x,x∈lk L->x.text.size<=1000:=λx hx=>by
 obtain⟨t,ht,rfl⟩:=iL.1 hx;exact WH h t ht
def Ux{L:List Tk}{read:Nat->R T}{k:Nat}{s:So}{t:T}(hL:∀ x,x∈L->x.text.size<=1000)(h5:L.length<=5000)(h:∀ K,WK K L->Nw K L.length k (read 0))(e:uN L read=.ok t)(hs:oJ t=true)(hv:V s t):CF t 4100 1/\XJ t:=by
 have h1:=BX.1 hs;exact⟨⟨by omega,by omega,anC hL h5 h e⟩,apU (λn _ _ h=>by unfold inR;omega) t (aKJ hv)⟩
def AgQ(w:World)(t:T)(e:Ending)(w':World):Prop:=iY w w'/\∃ x k n a s ao m c,e=.returned (.tuple #[tg k n a s ao m c,.bool true])/\Tr w' x (vT k n a s ao m c)/\dM x t=true
def XW(w:World)(hTab:fQ w)(t:T)(ho:TJ t)(hwd:Xp t)(hc:De t=true)(k n a:Int)(s:dL)(ao:iD)(m c:Nat)(ht:Tr w t (vT k n a s ao m c)):AAA 12 #[tg k n a s ao m c] w (AgQ w t):=by
 have HKT:=aN (show k=t.kind from ht.split.1);have S0:LS w w [] [] [(t,vT k n a s ao m c)]:=LS.WN (by intro p hp;rw[cO.1 hp];exact ht);have S1:=S0.At (tg k n a s ao m c) (tg k n a s ao m c) rfl _ rfl;have S2:=S1.oF (tg 0 0 0 ⟨#[]⟩ none 0 0) zT rfl (w.heap.size+1) aI;unfold zT at S2;clear S0 S1 ht;go_in;go_upto_region 1 with fail;generalize World.alloc (World.alloc w _) _=w2 at S2 ⊢;have cP:=Lw w2 (hTab.below S2.low) t ho hwd k n a s ao m c (S2.tree (t,vT k n a s ao m c) (.head _));rw[FZ hc]at cP;have F0:=AAD (S2.facts 0 rfl)
 by_cases h5:5000<(Eu t).length
 ·rw[aF h5]at cP;clear h5;go_upto_region 2 with (go_at_call 20;refine cP.mono ?_;rintro e w3 ⟨b3,v3,rfl,_⟩);have S3:=S2.below b3;clear cP b3 F0 S2;have F0:=AAD (S3.facts 0 rfl);have R0:=AAD (S3.nM 0 rfl);have S4:=S3.fY rfl k n a s (.slice ao m c);go_wp2_with fail;refine kN (.tuple #[tg k n a s ao m c,.bool true]) ((S3.nM 0 rfl).set _ _ _ _ _) (λq0 q1 q2 q3 q4=>by simp[results,Tryz.results12,go_sem,q0,q1,q2,q3,q4]) rfl ?_;exact⟨S4.low,t,k,n,a,s,ao,m,c,rfl,S4.tree (t,vT k n a s ao m c) (.head _),yW t⟩
 ·rw[aC h5]at cP;have hlen:(Eu t).length<=5000:=by omega
  clear h5;go_upto_region 2 with (go_at_call 20;refine cP.mono ?_;rintro e w3 ⟨b3,v3,rfl,ho3⟩);have S3:=S2.below b3;have hT3:fJ w3 v3 (K3 (Eu t)):=VC ho3;have hTx:∀ u,u∈K3 (Eu t)->u.text.size<=140737488351232:=λu hu=>aZ (Vz (NC false hwd) u hu) aD
  have hl9:(K3 (Eu t)).length<=9223372036854775807:=by rw[Eh];omega
  clear cP b3 F0 ho3 S2;have F0:=AAD (S3.facts 0 rfl);go_upto_region 4 with fail
  by_cases h6:1<=k/\k<=6
  ·obtain⟨h1,h6⟩:=h6;obtain⟨x,hx,hsame⟩:=aiT hc (by have:=HKT.out;omega) hlen;have cE:=Be (K3 (Eu t)) hTx v3 w3 hT3 hl9;rw[Wz,hx]at cE;clear hx hT3 hTx hl9;go_upto_region 5 with fail;clear h1 h6;go_upto_region 6 with (go_at_call 17;refine cE.mono ?_;rintro e w4 ⟨b4,k4,n4,a4,s4,o4,m4,c4,rfl,T4⟩);have S4:=S3.DM b4 T4;have S5:=S4.At (tg k4 n4 a4 s4 o4 m4 c4) (tg k4 n4 a4 s4 o4 m4 c4) rfl _ rfl;generalize World.alloc w4 (.cells (tg k4 n4 a4 s4 o4 m4 c4) 24)=w5 at S5 ⊢;generalize w4.heap.size=B4 at S5 ⊢;clear cE b4 T4 F0 S3 S4;have F1:=AAD (S5.facts 0 rfl);have R0:=AAD (S5.nM 0 rfl);have S6:=S5.fY rfl k4 n4 a4 s4 (.slice o4 m4 c4);go_wp2_with fail;refine kN (.tuple #[tg k4 n4 a4 s4 o4 m4 c4,.bool true]) ((S5.nM 0 rfl).set _ _ _ _ _) (λq0 q1 q2 q3 q4=>by simp[results,Tryz.results12,go_sem,q0,q1,q2,q3,q4]) rfl ?_;exact⟨S6.low,x,k4,n4,a4,s4,o4,m4,c4,rfl,S6.tree (x,vT k4 n4 a4 s4 o4 m4 c4) (.head _),hsame⟩
  ·obtain⟨x,hx,hsame⟩:=aiW hc (by rw[<- HKT.out];exact h6) hlen;have cE:=CI (K3 (Eu t)) hTx v3 w3 hT3 hl9;rw[Wz,hx]at cE;clear hx hT3 hTx hl9;have hb:(decide (1<=k)&&decide (k<=6))=false:=by rw[<- Bool.not_eq_true];simp;omega
   by_cases h1:1<=k
   ·have h7:¬ k<=6:=λe=>h6 ⟨h1,e⟩
    clear h6 hb;go_upto_region 7 with fail;clear h1 h7;go_upto_region 8 with (go_at_call 18;refine cE.mono ?_;rintro e w4 ⟨b4,k4,n4,a4,s4,o4,m4,c4,rfl,T4⟩);have S4:=S3.DM b4 T4;have S5:=S4.At (tg k4 n4 a4 s4 o4 m4 c4) (tg k4 n4 a4 s4 o4 m4 c4) rfl _ rfl;generalize World.alloc w4 (.cells (tg k4 n4 a4 s4 o4 m4 c4) 24)=w5 at S5 ⊢;generalize w4.heap.size=B4 at S5 ⊢;clear cE b4 T4 F0 S3 S4;have F1:=AAD (S5.facts 0 rfl);have R0:=AAD (S5.nM 0 rfl);have S6:=S5.fY rfl k4 n4 a4 s4 (.slice o4 m4 c4);go_wp2_with fail;refine kN (.tuple #[tg k4 n4 a4 s4 o4 m4 c4,.bool true]) ((S5.nM 0 rfl).set _ _ _ _ _) (λq0 q1 q2 q3 q4=>by simp[results,Tryz.results12,go_sem,q0,q1,q2,q3,q4]) rfl ?_;exact⟨S6.low,x,k4,n4,a4,s4,o4,m4,c4,rfl,S6.tree (x,vT k4 n4 a4 s4 o4 m4 c4) (.head _),hsame⟩
   ·clear h6 hb;go_upto_region 7 with fail;clear h1;go_upto_region 8 with (go_at_call 18;refine cE.mono ?_;rintro e w4 ⟨b4,k4,n4,a4,s4,o4,m4,c4,rfl,T4⟩);have S4:=S3.DM b4 T4;have S5:=S4.At (tg k4 n4 a4 s4 o4 m4 c4) (tg k4 n4 a4 s4 o4 m4 c4) rfl _ rfl;generalize World.alloc w4 (.cells (tg k4 n4 a4 s4 o4 m4 c4) 24)=w5 at S5 ⊢;generalize w4.heap.size=B4 at S5 ⊢;clear cE b4 T4 F0 S3 S4;have F1:=AAD (S5.facts 0 rfl);have R0:=AAD (S5.nM 0 rfl);have S6:=S5.fY rfl k4 n4 a4 s4 (.slice o4 m4 c4);go_wp2_with fail;refine kN (.tuple #[tg k4 n4 a4 s4 o4 m4 c4,.bool true]) ((S5.nM 0 rfl).set _ _ _ _ _) (λq0 q1 q2 q3 q4=>by simp[results,Tryz.results12,go_sem,q0,q1,q2,q3,q4]) rfl ?_;exact⟨S6.low,x,k4,n4,a4,s4,o4,m4,c4,rfl,S6.tree (x,vT k4 n4 a4 s4 o4 m4 c4) (.head _),hsame⟩
def Yz{t:T}{s:dL}(hwd:Xp t)(hc:De t=true)(hp:qF t=true)(h:Jn t=(s,0)):s.size<=20000/\(∀ u,u∈(xS s).map Tok.t3->u.text.size<=140737488351232)/\∃ y,KC s=(y,0)/\dM y t=true:=by
 have hpr:=FZ hc
 by_cases h5:5000<(Eu t).length
 ·unfold Jn at h;rw[hpr,aF h5,aC aD]at h;have h9:(2:Int)=0:=congrArg Prod.snd h;exact absurd h9 aD
 ·rw[aC h5]at hpr;unfold Jn at h;rw[hpr,aF rfl]at h;obtain⟨g1,_,g2⟩:=ZM ((K3 (Eu t)).map oK) (by rw[h]);rw[h]at g1 g2;obtain⟨y,hy,hs⟩:=VO hc hp aB;have e:Nx s=Eu t:=by
   have h3:=congrArg (List.map λp:Int×ByteArray=>(⟨p.1,p.2⟩:Tk)) g2;unfold Nx xS;rw[aF g1]
   simpa[lk,K3,kt,oK,Tok.t3,T3.tk,vR,Function.comp_def]using h3
  refine⟨PK g1,λu hu=>?_,y,?_,hs⟩
  ·have hm:(⟨u.kind,u.text⟩:Tk)∈Nx s:=iL.2 ⟨u,hu,rfl⟩;rw[e]at hm;exact aZ (NC false hwd _ hm) aD
  ·unfold KC;rw[aF g1,e,hy]
end
