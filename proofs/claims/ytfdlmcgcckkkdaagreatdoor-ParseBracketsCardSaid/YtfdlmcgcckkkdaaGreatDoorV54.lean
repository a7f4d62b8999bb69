/- ParseBrackets: an expression with brackets around every part of it, and around itself, is read as itself. No condition. -/
import Derived.Test.YtfdlmcgcckkkdaaGreatDoorV31
import Derived.Carry
import Derived.Lib.LaidTab
import Derived.Test.YtfdlmcgcckkkdaaGreatDoorV49
import Derived.Test.YtfdlmcgcckkkdaaGreatDoorV50
import Derived.Test.YtfdlmcgcckkkdaaGreatDoorV52
import Derived.Test.YtfdlmcgcckkkdaaGreatDoorV51
import Derived.Test.YtfdlmcgcckkkdaaGreatDoorV53
import Derived.Test.YtfdlmcgcckkkdaaGreatDoorV47
set_option linter.all false
set_option maxHeartbeats 40000000
set_option maxRecDepth 100000
namespace Go.Proofs.YtfdlmcgcckkkdaaGreatDoor
section
open Go.ChangeShapes Go.WideShapes Go.ChangeAt Go.RowKit Lx Px
section
variable {H:Type} {enc:TypeId×Value→H}
open Go.ChangeAt in
theorem qR{C:Checked}{os:Os}{f:FuncId}{fn:Func}{s:ChangeSpec}{X:World→Array Value→Prop}(own:ownKnob C.prog.godebug=none)(started:os.Started)(noInit:C.prog.inits.idxOf? f=none)(hfn:C.prog.funcs[f]?=some fn)(witness:∃ (w:World) (tape:Tape) (i:Input),w.os=os∧(w.forCall tape i).Shaped C.prog∧i.vars=[]∧Input.okWide C.prog (w.forCall tape i) .any w.heap.size f i∧((s.pre enc C.prog fn [] false (w.forCall tape i).memory i.args∧X (w.forCall tape i).memory i.args)∧sizedMet enc C.prog fn (OpenSpec.ofChange s) false (w.forCall tape i).memory i.args)∧({}:Assume).holds C.prog (lone (Frame.enter C.prog f i.args .normal) [] (w.forCall tape i)))(contract:∀ (W:World) (base:Nat) (args:Array Value) (ds gs:List (DataW H)) (before:List MemPlace),(∀ (j:Nat) t v,fn.params[j]?=some t→args[j]?=some v→Value.okWide C.prog W .any base t v)→DataW.Whole enc C.prog fn.params.toList s.vars false W args.toList ds gs before→(DataW.weightsEach C.prog (fn.params.toList++s.plain.varTypes C.prog) (ds++gs)).all (·≤reachBytes)=true→W.ShapedOpen C.prog→X W.memory args→Calls C.prog f args W fun e W'=>∃ v,e=.returned v∧s.post enc C.prog fn false true false false W args v W'):ReturnsInHanded {} C os f .any (fun w args=>(s.pre enc C.prog fn [] false w args∧X w args)∧sizedMet enc C.prog fn (OpenSpec.ofChange s) false w args) (s.post enc C.prog fn false true false false):=by
 refine returnsInHanded_of_calls own started noInit witness ?_;intro w tape i _ hsh _ hok hpre hholds;obtain⟨_,_,_,fn',hfn',_,_,_,_,hval⟩:=hok;have e:fn'=fn:=Option.some.inj (hfn'.symm.trans hfn);subst e;obtain⟨⟨⟨ds,gs,before,hw,hc⟩,hx⟩,hz⟩:=hpre;have hw':=DataW.Whole.of_heap (w':=w.forCall tape i) (by rfl) hw;refine(contract (w.forCall tape i) w.heap.size i.args ds gs before hval hw' (hz.weights hw) hsh hx).mono fun e W' ⟨v,he,hp⟩=>?_;subst he;exact ChangeSpec.post_blind hp
theorem oW{P:Program}{w:World}{x:String×DataW Unit}{rest:List (String×DataW Unit)}{ps:List MemPlace}(h:DataW.LaidVars P w (x::rest) ps):∃ q,DataW.LaidVars P w rest q:=by
 obtain⟨_,_,_,_,_,q,_,_,_,_,h,_⟩:=h;exact⟨q,h⟩
theorem oG{P:Program}{W:World}{name:String}{k:IntKind}{zs:List Int}{rest:List (String×DataW Unit)}{ps:List MemPlace}{g:Nat}{t e:TypeId}{n:Nat}(hg:P.globalNamed name=some g)(hty:(P.globals[g]?).map (·.type)=some t)(ht:P.underlying t=some (.array n e))(he:P.underlying e=some (.int k))(hce:P.cellsOf e=1)(hct:P.cellsOf t=n)(h:DataW.LaidVars P W ((name,Lib.tabData k zs)::rest) ps):Lib.TabIs P W name k zs:=by
 obtain⟨g',t',cs,fuel,p,q,hg',ht',hvar,hd,_,_⟩:=h;obtain rfl:=Option.some.inj (hg.symm.trans hg');obtain rfl:=Option.some.inj (hty.symm.trans ht');unfold Lib.TabIs;rw[hvar,← Lib.cells_of_tab ht he hce hct hd]
theorem sH{W:World}(h:laidMet Tryz.prog Cy W):eJ W:=by
 obtain⟨ps,hv,_⟩:=h;obtain⟨q1,h1⟩:=oW hv;obtain⟨q2,h2⟩:=oW h1;exact oG (g:=3) (t:=218) (e:=199) (n:=20) (by kernel_rfl) (by kernel_rfl) (by kernel_rfl) (by kernel_rfl) (by kernel_rfl) (by kernel_rfl) h2
end
end
section
open Go.ChangeShapes Go.WideShapes Go.ChangeAt Go.RowKit Lx Px
section
variable {H:Type} {enc:TypeId×Value→H}
theorem St{base:Nat}{W:World}{v:Value}{d:DataW H}{ps:List MemPlace}(hval:Value.okWide Tryz.prog W .any base 24 v)(hd:DataW.Trod enc Tryz.prog W 0 (fun _=>true) true 24 v d ps):∃ (t:T) (k n a:Int) (s:ByteArray) (ao:Option Addr) (m c:Nat),v=.agg (tg k n a s ao m c)∧Tr W t (vT k n a s ao m c)∧evR t:=by
 obtain⟨cs,rfl,hsz⟩:=okWide_struct Tryz.underlying24 hval;obtain⟨fuel,hf⟩:=hd;obtain⟨t,k,n,a,s,ao,m,c,e,hT,hE⟩:=open_tree fuel _ _ hf;refine⟨t,k,n,a,s,ao,m,c,?_,hT,hE⟩;simp only[Value.cells]at e
 rw [show cs = #[.int .i64 k, .int .i64 n, .int .i64 a, .string s, .slice ao m c] from by
   rw [← Array.toList_inj]; exact e]
end
end
section
open Go.RowKit Lx Px
def Rdb(W:World)(t:T)(v:Value):Prop:=∃ ts x,Gk W v ts∧Tx ts∧ts.length≤10000∧jS bM ts=(x,0,0)∧fU x t=true
theorem Rdb.below{W W':World}{t:T}{v:Value}(h:Rdb W t v)(hb:Below W.heap.size W W'):Rdb W' t v:=by
 obtain⟨ts,x,h1,h2⟩:=h;exact⟨ts,x,h1.below hb,h2⟩
theorem MJ{W W':World}{B q:Nat}{v:Value}(h:W.cell? ⟨B,q,none⟩=some v)(hb:Below W.heap.size W W')(hB:B<W.heap.size):W'.cell? ⟨B,q,none⟩=some v:=(hb.cell (p:=⟨B,q,none⟩) hB).trans h
theorem DY(w:World)(hTab:eJ w)(hml:ML w)(t:T)(hEt:evR t)(kT nT zT:Int)(yT:ByteArray)(oT1:Option Addr)(mT lT:Nat)(hT:Tr w t (vT kT nT zT yT oT1 mT lT)):Calls Tryz.prog 9 #[tg kT nT zT yT oT1 mT lT] w fun e w'=>e=.returned (.bool true)∧Below w.heap.size w w':=by
 have hkt:kT=t.kind:=hT.split.1;have S0:LS w w [] [] [(t,(vT kT nT zT yT oT1 mT lT))]:=LS.Ws (by intro p hp;rw[List.mem_singleton.1 hp];exact hT);have S1:=S0.Dc (tg kT nT zT yT oT1 mT lT) (tg kT nT zT yT oT1 mT lT) rfl _ rfl;have hsn:=LW _ (hTab.below S1.low) (hml.below S1.low);have HK:=hdq hkt;clear S0 hkt;go_enter Tryz.func9,Tryz.ntmps9;go_upto_region 1 with fail;generalize World.alloc w _=w1 at S1 hsn ⊢;go_upto_region 3 with (go_at_call 11;refine hsn.mono ?_;rintro e w2 ⟨rfl,b2⟩);have S2:=S1.below b2;clear hsn b2 S1;have F0:=TV.facts (S2.facts 0 rfl);have cB:=OK w2 t 1000 (by decide) kT nT zT yT oT1 mT lT (S2.tree (t,vT kT nT zT yT oT1 mT lT) (.head _));have FL1:=hdq fun (W:World) (b:Below w2.heap.size w2 W)=>(TV.facts ((S2.below b).facts 0 rfl))
 by_cases hCF:CF t 1000 1
 rotate_left
 ·go_wp2_with (go_at_call 37;refine cB.mono ?_;rintro e w3 ⟨bb,rfl,hb,b3⟩;obtain rfl:bb=false:=Bool.eq_false_iff.2 fun e=>hCF (hb.1 e);clear hb;have F3:=FL1.out w3 b3);go_ret;exact⟨rfl,(S2.below b3).low⟩
 by_cases hk1:kT<1
 ·go_wp2_with (go_at_call 37;refine cB.mono ?_;rintro e w3 ⟨bb,rfl,hb,b3⟩;obtain rfl:bb=true:=hb.2 hCF;clear hb;have F3:=FL1.out w3 b3);go_ret;exact⟨rfl,(S2.below b3).low⟩
 by_cases hk6:6<kT
 ·go_wp2_with (go_at_call 37;refine cB.mono ?_;rintro e w3 ⟨bb,rfl,hb,b3⟩;obtain rfl:bb=true:=hb.2 hCF;clear hb;have F3:=FL1.out w3 b3);go_ret;exact⟨rfl,(S2.below b3).low⟩
 by_cases hk3:kT=3
 ·subst hk3;go_wp2_with (go_at_call 37;refine cB.mono ?_;rintro e w3 ⟨bb,rfl,hb,b3⟩;obtain rfl:bb=true:=hb.2 hCF;clear hb;have F3:=FL1.out w3 b3);go_ret;exact⟨rfl,(S2.below b3).low⟩
 have e1:decide (kT<1)=false:=decide_eq_false hk1;have e6:decide (6<kT)=false:=decide_eq_false hk6;have e3:(kT==3)=false:=beq_eq_false_iff_ne.2 hk3;obtain⟨okt,wdt⟩:=WA hCF (by decide) hEt;have hC:=fun (w3:World) (S:LS w w3 [] [(w.heap.size,tg kT nT zT yT oT1 mT lT)] [(t,vT kT nT zT yT oT1 mT lT)])=>jG w3 (hTab.below S.low) t okt wdt kT nT zT yT oT1 mT lT (S.tree (t,vT kT nT zT yT oT1 mT lT) (.head _))
 unfold Db at hC
 cases hck:chk t with
 | false=>
  simp only[hck]at hC
  rw[if_neg (by decide)]at hC;go_wp2_with (first|(go_at_call 37;refine cB.mono ?_;rintro e w3 ⟨bb,rfl,hb,b3⟩;obtain rfl:bb=true:=hb.2 hCF;clear hb;have F3:=FL1.out w3 b3)|(go_at_call 14;refine(hC _ (S2.below b3)).mono ?_;rintro e w4 ⟨rfl,b4⟩));go_ret;exact⟨rfl,((S2.below b3).below b4).low⟩
 | true=>
  simp only[hck]at hC
  try rw[if_pos rfl]at hC
  have hlaw:=Mx hck (by rw[← HK.out];omega) hCF.1;have hV:=Wy hck (by rw[← HK.out];omega);have hlen:lnE t:=PE hV;have hlb:=Mn hV;have htx:=VW _ t (Nat.le_refl _) wdt;unfold lnE at hlen;have hn:=hCF.1;go_upto_region 5 with (first|(go_at_call 37;refine cB.mono ?_;rintro e w3 ⟨bb,rfl,hb,b3⟩;obtain rfl:bb=true:=hb.2 hCF;clear hb;have F3:=FL1.out w3 b3)|(go_at_call 14;refine(hC _ (S2.below b3)).mono ?_;rintro e w4 ⟨rfl,b4⟩));have S4:=(S2.below b3).below b4;clear b3 b4 F0 F3 cB hC e1 e6 e3 hk1 hk6 hk3 S2 FL1;have T4:=S4.tree (t,vT kT nT zT yT oT1 mT lT) (.head _);have hfa:Cb w4 t∧BrC w4 t:=VG w4 hV hn;have HF:=hdq fun (W:World) (b:Below w4.heap.size w4 W)=>hfa.1 W b kT nT zT yT oT1 mT lT T4
  have HB:=hdq fun (W:World) (b:Below w4.heap.size w4 W)=>hfa.2 W b kT nT zT yT oT1 mT lT T4
  have KT:=hdq fun (W:World) (ps:List (Value×List Tk)) (S:GSt w4 w4 W ps)=>(S4.below S.low).facts 0 rfl
  have G1:GSt w4 w4 w4 []:=⟨Below.refl _ _,Below.refl _ _,fun _ h=>(nomatch h)⟩
  have HS4:=hdq S4;clear hfa T4;have Sq:=G1.drew;refine wp_region_held_drew (S:=(fun w'=>TV w' w.heap.size kT nT zT yT (.slice oT1 mT lT))) (by kernel_rfl) (KT.out _ _ Sq) (fun RY=>?_);generalize World.drew w4=wD at *
  repeat' first
   | ((with_reducible refine isH ?_)
      first
        | (refine Nn ?_
           skip)
        | refine DO 0 ?_
        | refine DO 2 ?_
        | refine DO 6 ?_
        | refine DO 5 ?_
        | refine DU [1] ?_
        | refine DU [3] ?_
        | refine DU [4] ?_)
   | ((with_reducible refine arH ?_);first|exact AllReadyH.nil|refine cnH (fun Kx RZ=>?_) ?_)
   | (go_simp
      first
        | (go_at_call 38
           refine (Sq.call (HF.out _ Sq.low)).mono ?_
           rintro e wx ⟨px, lx, qx, rfl, Sq⟩
           refine goH RZ (KT.out _ _ Sq) fun RY => ?_
           clear RZ Kx)
        | (go_at_call 39
           refine (Sq.call (HB.out _ Sq.low)).mono ?_
           rintro e wy ⟨py, ly, qy, rfl, Sq⟩
           refine goH RZ (KT.out _ _ Sq) fun RY => ?_
           clear RZ Kx)
        | (obtain ⟨Sq, hrow⟩ := Sq.WD (a := sV t) (b := brT t) Je Je
           refine goH RZ (KT.out _ _ Sq) fun RY => ?_
           clear RZ Kx))
  have R0:Rdb _ t (.slice px lx qx):=⟨_,hlaw.1.choose,Gk.Bu (Sq.src (.slice px lx qx,sV t) Je),htx.1,by show (sV t).length≤10000;omega,hlaw.1.choose_spec⟩
  have R1:Rdb _ t (.slice py ly qy):=⟨_,hlaw.2.choose,Gk.Bu (Sq.src (.slice py ly qy,brT t) Je),htx.2,by show (brT t).length≤10000;omega,hlaw.2.choose_spec⟩
  have hbl:=(Array.getElem?_eq_some_iff.1 hrow).1;have c0:=cell_of_row _ _ 0 _ _ _ hrow;have c1:=cell_of_row _ _ 1 _ _ _ hrow;have S6:=HS4.out.below Sq.low;generalize World.alloc _ _=w6 at R0 R1 hbl c0 c1 S6 ⊢;generalize (World.heap _).size=B6 at hbl c0 c1 ⊢;clear hrow;go_wp2_with fail
  go_loopw [39] (fun tq wr=>∃ q:Nat,tq=.int .i64 q∧q≤2∧Below w6.heap.size w6 wr) (fun q _=>2 - (intOf q).toNat)
  case atStart=>exact⟨0,rfl,by omega,Below.refl _ _⟩
  case round=>
   obtain⟨q,rfl,hq,bz⟩:=hrel;have S7:=S6.below bz
   by_cases hlt:q<2
   ·obtain⟨v,hcv,hrd⟩:∃ v,wr.cell? ⟨B6,q,none⟩=some v∧Rdb wr t v:=by
     have hq2:q=0∨q=1:=by omega
     rcases hq2 with rfl|rfl
     ·exact⟨_,MJ c0 bz hbl,R0.below bz⟩
     ·exact⟨_,MJ c1 bz hbl,R1.below bz⟩
    obtain⟨ts,x,hs,htxs,hln,htr,hsame⟩:=hrd;have hE:=vG (K3 ts) (MS htxs) v wr hs.row (by rw[Cl];omega);rw[MO,htr]at hE;obtain⟨ao,cap,rfl⟩:=hs.form;have x1:(q:Int)<2:=by omega
    have x4:IntKind.i64.wrap ((q:Int)+1)=(q:Int)+1:=IntWalk.i64_in _ (by omega);clear hs htxs htr R0 R1 c0 c1 S6;generalize ts.length=M at hcv hE hln;have hCx:=Vd hsame hCF (Nat.le_refl _);have hCx4:=Vd hsame hCF (show 1000≤4100 by decide);have HSM:=hdq hsame;have hnx:=hCx.1;clear hsame hCx;go_upto_region 8 with fail;go_upto_block 8 with fail;refine hE.mono ?_;rintro e w8 ⟨b8,k8,n8,z8,y8,o8,m8,l8,rfl,T8⟩;have S8:=S7.PF b8 T8;have S9:=S8.Dc (tg k8 n8 z8 y8 o8 m8 l8) (tg k8 n8 z8 y8 o8 m8 l8) rfl _ rfl;have bz8:=bz.trans (b8.mono bz.size);have bz9:Below w6.heap.size w6 (w8.alloc (.cells (tg k8 n8 z8 y8 o8 m8 l8) 24)):=bz8.alloc bz8.size _;clear T8 b8 hE S8 S7 bz8 hcv;go_upto_region 9 with fail;generalize World.alloc w8 (.cells (tg k8 n8 z8 y8 o8 m8 l8) 24)=w9 at S9 bz9 ⊢;generalize w8.heap.size=B9 at S9 ⊢;have F0:=TV.facts (S9.facts 0 rfl);have F1:=TV.facts (S9.facts 1 rfl);have bR:=aC w9 (.cells (tg k8 n8 z8 y8 o8 m8 l8) 24);have hR:=Wl (aW.one (S9.tree (x,(vT k8 n8 z8 y8 o8 m8 l8)) (.head _))) (tg k8 n8 z8 y8 o8 m8 l8) rfl 1 rfl;have cM1:=UW (w9.alloc (.cells (tg k8 n8 z8 y8 o8 m8 l8) 24)) _ [x] hR (by simp);have hM:∀ u,u∈[x]→CF u 4100 1:=by simp[hCx4]
    have SR:=S9.below bR;have bzR:=bz9.trans (bR.mono bz9.size);clear bR hR S9 bz9 hCx4;go_wp2_with (first|(go_at_call 12;refine cM1.mono ?_;rintro e w7 ⟨bb,rfl,hb,b7⟩;obtain rfl:bb=true:=hb.2 hM;clear hb;have S7:=SR.below b7;have G0:=TV.facts (S7.facts 0 rfl);have G1:=TV.facts (S7.facts 1 rfl))|(go_at_call 16;refine(uS w7 _ x (Nat.le_refl _) t (by omega) w7 (Below.refl _ _) k8 n8 z8 y8 o8 m8 l8 kT nT zT yT oT1 mT lT (S7.tree (x,(vT k8 n8 z8 y8 o8 m8 l8)) (.head _)) (S7.tree (t,(vT kT nT zT yT oT1 mT lT)) (.tail _ (.head _)))).mono ?_;rw[HSM.out];rintro e w8 ⟨rfl,b8⟩));have bf:=(bzR.trans (b7.mono bzR.size)).trans (b8.mono (Nat.le_trans bzR.size b7.size));clear cM1 hM SR F0 F1 G0 G1 S7 b7 b8 bzR
    go_roundw
    case rel=>exact⟨q+1,by go_num,hlt,bf⟩
    case measure=>simp only[intOf];omega
   ·have x1:¬ (q:Int)<2:=by omega
    have hfin:=S7.low;go_wp2_with fail;go_ret;exact⟨rfl,hfin⟩
end
section
open Go.ChangeShapes Go.WideShapes Go.ChangeAt Go.RowKit Lx Px
open Go.ChangeMaps (open_string shut_string)
theorem CE(os:Os)(started:os.Started)(H:Type)(enc:TypeId×Value→H):ReturnsInHanded {} Tryz.checked os 9 .any (fun w args=>(Rows.parseBracketsSpec.pre enc Tryz.prog Tryz.f9 [] false w args∧laidMetH Tryz.prog Cy w)∧sizedMet enc Tryz.prog Tryz.f9 (OpenSpec.ofChange Rows.parseBracketsSpec) false w args) (Rows.parseBracketsSpec.post enc Tryz.prog Tryz.f9 false true false false):=by
 refine qR (C:=Tryz.checked) (X:=fun w _=>laidMetH Tryz.prog Cy w) Rx started (by kernel_rfl) Tryz.func9
  (ChangeSpec.witness_shaped (enc := enc) (C := Tryz.checked) (os := os) (X := fun w _ => laidMetH Tryz.prog Cy w) false (World.laidAll Tryz.prog os Cy) #[tg 0 0 0 ⟨#[]⟩ none 0 0] 8 (World.laidAll_os _ _ _)
    (Nl os) (by kernel_rfl) (by kernel_rfl) (by kernel_rfl)
    (by rw [MakeChecks.laidMetH_plain _ _ _ (by kernel_rfl)]; exact laidMet_laidAll _ (by kernel_rfl) (by kernel_rfl))) ?_
 intro W base args ds gs before hval0 hW _ hsh hLH;have hval:∀ (j:Nat) t v,Tryz.f9.params[j]?=some t→args[j]?=some v→Value.okWide Tryz.prog W .any base t v:=hval0;have hW':=hW;obtain⟨p,q,hA0,hV,rfl,_,_⟩:=hW;have hA:DataW.TrodAll enc Tryz.prog W 0 (fun _=>true) true Tryz.f9.params.toList args.toList ds p:=hA0;rw[Tryz.params9]at hA hval;obtain⟨v0,d0,rfl,rfl,h0⟩:=trodAll_one hA;obtain⟨rfl,rfl⟩:=trodVars_none hV;obtain⟨t0,k0,n0,z0,y0,o0,m0,l0,rfl,hT0,hE0⟩:=St (hval 0 _ v0 rfl rfl) h0;have hL:laidMet Tryz.prog Cy W.memory:=by rw[MakeChecks.laidMetH_plain _ _ _ (by kernel_rfl)]at hLH;exact hLH
 have hTm:eJ W.memory:=sH hL;have hTab:eJ W:=hTm;refine(DY W hTab (Qr hsh) t0 hE0 k0 n0 z0 y0 o0 m0 l0 hT0).mono fun e W' ⟨he,hb⟩=>?_;subst he;have hlt:∀ y∈(p)++[],y.block<W.heap.size:=fun y hy=>hW'.lt y hy
 exact ⟨_, rfl, Lu hW' rfl rfl rfl (fun sp hsp => by
   rw [Tryz.params9]
   rw [List.append_nil] at hsp hlt ⊢
   exact trodAll_mk1 (WideElems.Trod_stays Ls (by kernel_rfl) (of_decide_eq_true (by kernel_rfl)) h0 (fun y hy => hb.same (hlt y hy)) hsp)) hb⟩
theorem Hy: Rows.ParseBracketsSaid:=
 OpenClaim.holds_of_wide 9 Tryz.f9 rfl rfl rfl rfl rfl rfl rfl ⟨rfl,rfl,rfl,rfl,rfl⟩ rfl rfl rfl rfl rfl (by kernel_rfl) Tryz.func9 (by kernel_rfl)
  (of_decide_eq_true (by kernel_rfl)) (by unfold Func.isWrapper;first|(rw[if_pos (by decide +kernel)];kernel_rfl)|(rw[if_neg (by decide +kernel)];exact⟨rfl,rfl⟩))
  (fun os started H enc _=>CE os started H enc)
theorem En: Rows.ParseBracketsCardSaid:=
 Claim7.holds_tied_plain_at .later [] [.data,.data,.data,.data,.sentinel,.sentinel,.pinned] true (true,"b10dbd1bb527d72cf5603d0a5555cfb922cf96659ce082fae8eb23041d50ab99") true Hy (fun _ h=>by cases h) (by kernel_rfl) (fun _ h=>by cases h) parseBrackets_row_tie rfl ⟨rfl,rfl⟩ (by kernel_rfl) rfl
  (fun f fn hf hfn => by
    obtain rfl : f = 9 := Option.some.inj ((show Tryz.prog.funcNamed "pliant/pliantlaw07.ParseBrackets" = some 9 by kernel_rfl).symm.trans hf) |>.symm
    obtain rfl : fn = Tryz.f9 := (Option.some.inj (Tryz.func9.symm.trans hfn)).symm
    exact ⟨by kernel_rfl, fun j t ht => by
      rw [Tryz.params9] at ht
      have hm : t ∈ [24] := by have := Array.mem_of_getElem? ht; simp at this; simp; omega
      have hall : ([24].all fun u => !Tryz.prog.wantsStandIn u) = true := by kernel_rfl
      exact (show Tryz.prog.wantsStandIn t = false by simpa using List.all_eq_true.1 hall t hm)⟩)
  (by kernel_rfl)
theorem ParseBrackets_holds: Rows.ParseBracketsCardSaid:=En
end
end Go.Proofs.YtfdlmcgcckkkdaaGreatDoor
