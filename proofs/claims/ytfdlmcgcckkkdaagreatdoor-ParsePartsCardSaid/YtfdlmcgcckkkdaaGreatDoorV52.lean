/- ParseParts, part 52: what it stands on. -/
import Derived.Test.YtfdlmcgcckkkdaaGreatDoorV31
import Derived.Test.YtfdlmcgcckkkdaaGreatDoorV46
import Derived.Carry
import Derived.Lib.LaidTab
import Derived.Test.YtfdlmcgcckkkdaaGreatDoorV50
set_option linter.all false
set_option maxHeartbeats 40000000
set_option maxRecDepth 100000
namespace Go.Proofs.YtfdlmcgcckkkdaaGreatDoor
section
open Go.ChangeShapes Go.WideShapes Go.Deep Go.RowKit Lx Px
theorem DU{w:World}{b off:Nat}:∀ (m:Nat),(∀ i,i<m→∃ z:Int,w.cell? ⟨b,off+i,none⟩=some (.int .i64 z))→∃ p:List Int,p.length=m∧∀ i,(hi:i<p.length)→w.cell? ⟨b,off+i,none⟩=some (.int .i64 (p[i]'hi)):=by
 intro m
 induction m with
 | zero=>intro _;exact⟨[],rfl,fun i hi=>absurd hi (Nat.not_lt_zero _)⟩
 | succ m ih=>
  intro h;obtain⟨p,h1,h2⟩:=ih fun i hi=>h i (by omega)
  obtain⟨z,hz⟩:=h m (by omega);refine⟨p++[z],by simp[h1],fun i hi=>?_⟩
  rcases Nat.lt_or_ge i p.length with hlt|hge
  ·rw[List.getElem_append_left hlt];exact h2 i hlt
  ·have hi2:i<p.length+1:=by simpa using hi
   obtain rfl:i=p.length:=by omega
   rw[List.getElem_append_right (Nat.le_refl _)];simp only[Nat.sub_self,List.getElem_cons_zero]
   rw[h1];exact hz
section
variable {H:Type} {enc:TypeId×Value→H}
theorem open_ints{r:Reach}{b0 base:Nat}{spare:Nat→Bool}{held:Bool}{w:World}{v:Value}{d:DataW H}{ps:List MemPlace}(hval:Value.okWide Tryz.prog w r b0 47 v)(hd:DataW.Trod enc Tryz.prog w base spare held 47 v d ps):∃ p,BN w v p∧p.length≤9223372036854775807:=by
 obtain⟨a,len,cap,rfl⟩:=okWide_slice Tryz.underlying47 hval;obtain⟨fuel,hf⟩:=hd
 rcases DataW.trod_slice Tryz.underlying47 hf with ⟨h0,_⟩|⟨ad,len',cap',elems,rest,n2,hn2,e4,_,hb,hl,hm,hlen,hel,_,_⟩
 ·simp only[Value.cells,List.cons.injEq,and_true]at h0
  cases h0
  exact⟨[],⟨none,0,rfl,fun h=>absurd rfl h,Nat.le_refl _⟩,by simp⟩
 ·simp only[Value.cells,List.cons.injEq,and_true]at e4
  cases e4
  obtain⟨b,off,spot⟩:=ad;have h1c:Tryz.prog.cellsOf 3=1:=by kernel_rfl
  have hget:∀ i,i<len→∃ z:Int,w.cell? ((⟨b,off,spot⟩:Addr).add i)=some (.int .i64 z):=fun i hi=>by
   have hc:=hel i hi;rw[List.getElem?_eq_getElem (by omega)]at hc;obtain⟨cs',h5,h6⟩:=Option.bind_eq_some_iff.1 hc;obtain⟨z,rfl,_,_⟩:=DataW.trod_int Tryz.underlying3 h6;obtain⟨_,hcl',hat⟩:=World.cells?_some h5;have h7:=hat 0 (by rw[h1c];decide);rw[h1c,Nat.mul_one,Go.Deep.add_add,Nat.add_zero]at h7;exact⟨z,h7⟩
  have hml:maxLen=9223372036854775807:=rfl
  by_cases h0:len=0
  ·subst h0;exact⟨[],⟨_,cap,rfl,fun h=>absurd rfl h,Nat.zero_le _⟩,by simp⟩
  ·have hsp:spot=none:=by
    obtain⟨z,hz⟩:=hget 0 (by omega)
    simpa[Addr.add]using World.cell?_spot hz
   subst hsp;obtain⟨p,h2,h3⟩:=DU (w:=w) (b:=b) (off:=off) len fun i hi=>by
    obtain⟨z,hz⟩:=hget i hi;rw[Go.WideShapes.add_plain]at hz;exact⟨z,hz⟩
   subst h2;refine⟨p,⟨_,cap,rfl,fun hne=>⟨b,off,rfl,?_,h3⟩,hl⟩,by omega⟩;exact World.block_lt_of_cell? _ _ (h3 0 (List.length_pos_iff.2 hne))
end
end
section
open Go.ChangeShapes Go.WideShapes Go.ChangeAt Go.RowKit Lx Px
section
variable {H:Type} {enc:TypeId×Value→H}
open Go.ChangeAt in
theorem GO{C:Checked}{os:Os}{f:FuncId}{fn:Func}{s:ChangeSpec}{X:World→Array Value→Prop}(own:ownKnob C.prog.godebug=none)(started:os.Started)(noInit:C.prog.inits.idxOf? f=none)(hfn:C.prog.funcs[f]?=some fn)(witness:∃ (w:World) (tape:Tape) (i:Input),w.os=os∧(w.forCall tape i).Shaped C.prog∧i.vars=[]∧Input.okWide C.prog (w.forCall tape i) .any w.heap.size f i∧((s.pre enc C.prog fn [] false (w.forCall tape i).memory i.args∧X (w.forCall tape i).memory i.args)∧sizedMet enc C.prog fn (OpenSpec.ofChange s) false (w.forCall tape i).memory i.args)∧({}:Assume).holds C.prog (lone (Frame.enter C.prog f i.args .normal) [] (w.forCall tape i)))(contract:∀ (W:World) (base:Nat) (args:Array Value) (ds gs:List (DataW H)) (before:List MemPlace),(∀ (j:Nat) t v,fn.params[j]?=some t→args[j]?=some v→Value.okWide C.prog W .any base t v)→DataW.Whole enc C.prog fn.params.toList s.vars false W args.toList ds gs before→(DataW.weightsEach C.prog (fn.params.toList++s.plain.varTypes C.prog) (ds++gs)).all (·≤reachBytes)=true→W.ShapedOpen C.prog→X W.memory args→Calls C.prog f args W fun e W'=>∃ v,e=.returned v∧s.post enc C.prog fn false true false false W args v W'):ReturnsInHanded {} C os f .any (fun w args=>(s.pre enc C.prog fn [] false w args∧X w args)∧sizedMet enc C.prog fn (OpenSpec.ofChange s) false w args) (s.post enc C.prog fn false true false false):=by
 refine returnsInHanded_of_calls own started noInit witness ?_;intro w tape i _ hsh _ hok hpre hholds;obtain⟨_,_,_,fn',hfn',_,_,_,_,hval⟩:=hok;have e:fn'=fn:=Option.some.inj (hfn'.symm.trans hfn);subst e;obtain⟨⟨⟨ds,gs,before,hw,hc⟩,hx⟩,hz⟩:=hpre;have hw':=DataW.Whole.of_heap (w':=w.forCall tape i) (by rfl) hw;refine(contract (w.forCall tape i) w.heap.size i.args ds gs before hval hw' (hz.weights hw) hsh hx).mono fun e W' ⟨v,he,hp⟩=>?_;subst he;exact ChangeSpec.post_blind hp
theorem BQ{P:Program}{w:World}{x:String×DataW Unit}{rest:List (String×DataW Unit)}{ps:List MemPlace}(h:DataW.LaidVars P w (x::rest) ps):∃ q,DataW.LaidVars P w rest q:=by
 obtain⟨_,_,_,_,_,q,_,_,_,_,h,_⟩:=h;exact⟨q,h⟩
theorem Ax{P:Program}{W:World}{name:String}{k:IntKind}{zs:List Int}{rest:List (String×DataW Unit)}{ps:List MemPlace}{g:Nat}{t e:TypeId}{n:Nat}(hg:P.globalNamed name=some g)(hty:(P.globals[g]?).map (·.type)=some t)(ht:P.underlying t=some (.array n e))(he:P.underlying e=some (.int k))(hce:P.cellsOf e=1)(hct:P.cellsOf t=n)(h:DataW.LaidVars P W ((name,Lib.tabData k zs)::rest) ps):Lib.TabIs P W name k zs:=by
 obtain⟨g',t',cs,fuel,p,q,hg',ht',hvar,hd,_,_⟩:=h;obtain rfl:=Option.some.inj (hg.symm.trans hg');obtain rfl:=Option.some.inj (hty.symm.trans ht');unfold Lib.TabIs;rw[hvar,← Lib.cells_of_tab ht he hce hct hd]
theorem PE{W:World}(h:laidMet Tryz.prog Cy W):eJ W:=by
 obtain⟨ps,hv,_⟩:=h;obtain⟨q1,h1⟩:=BQ hv;obtain⟨q2,h2⟩:=BQ h1;exact Ax (g:=3) (t:=218) (e:=199) (n:=20) (by kernel_rfl) (by kernel_rfl) (by kernel_rfl) (by kernel_rfl) (by kernel_rfl) (by kernel_rfl) h2
theorem yI{base:Nat}{W:World}{v:Value}{d:DataW H}{ps:List MemPlace}(hval:Value.okWide Tryz.prog W .any base 24 v)(hd:DataW.Trod enc Tryz.prog W 0 (fun _=>true) true 24 v d ps):∃ (t:T) (k n a:Int) (s:ByteArray) (ao:Option Addr) (m c:Nat),v=.agg (tg k n a s ao m c)∧Tr W t (vT k n a s ao m c)∧evR t:=by
 obtain⟨cs,rfl,hsz⟩:=okWide_struct Tryz.underlying24 hval;obtain⟨fuel,hf⟩:=hd;obtain⟨t,k,n,a,s,ao,m,c,e,hT,hE⟩:=JY fuel _ _ hf;refine⟨t,k,n,a,s,ao,m,c,?_,hT,hE⟩;simp only[Value.cells]at e
 rw [show cs = #[.int .i64 k, .int .i64 n, .int .i64 a, .string s, .slice ao m c] from by
   rw [← Array.toList_inj]; exact e]
end
open Go.ChangeMaps (open_string shut_string)
def Sb: Prop:=∀ (w:World),eJ w→ML w→∀ (t x:T),evR t→evR x→∀ (p q:List Int) (kT nT zT:Int) (yT:ByteArray) (oT:Option Addr) (mT lT:Nat),Tr w t (vT kT nT zT yT oT mT lT)→
 ∀ (kX nX zX:Int) (yX:ByteArray) (oX:Option Addr) (mX lX:Nat),Tr w x (vT kX nX zX yX oX mX lX)→∀ (vp vq:Value),BN w vp p→BN w vq q→
 Calls Tryz.prog 10 #[tg kT nT zT yT oT mT lT,tg kX nX zX yX oX mX lX,vp,vq] w fun e w'=>e=.returned (.bool true)∧Below w.heap.size w w'
theorem sH(hwalk:Sb)(os:Os)(started:os.Started)(H:Type)(enc:TypeId×Value→H):ReturnsInHanded {} Tryz.checked os 10 .any (fun w args=>(Rows.parsePartsSpec.pre enc Tryz.prog Tryz.f10 [] false w args∧laidMetH Tryz.prog Cy w)∧sizedMet enc Tryz.prog Tryz.f10 (OpenSpec.ofChange Rows.parsePartsSpec) false w args) (Rows.parsePartsSpec.post enc Tryz.prog Tryz.f10 false true false false):=by
 refine GO (C:=Tryz.checked) (X:=fun w _=>laidMetH Tryz.prog Cy w) Rx started (by kernel_rfl) Tryz.func10
  (ChangeSpec.witness_shaped (enc := enc) (C := Tryz.checked) (os := os) (X := fun w _ => laidMetH Tryz.prog Cy w) false (World.laidAll Tryz.prog os Cy) #[tg 0 0 0 ⟨#[]⟩ none 0 0, tg 0 0 0 ⟨#[]⟩ none 0 0, .slice none 0 0, .slice none 0 0] 8 (World.laidAll_os _ _ _)
    (Nl os) (by kernel_rfl) (by kernel_rfl) (by kernel_rfl)
    (by rw [MakeChecks.laidMetH_plain _ _ _ (by kernel_rfl)]; exact laidMet_laidAll _ (by kernel_rfl) (by kernel_rfl))) ?_
 intro W base args ds gs before hval0 hW _ hsh hLH;have hval:∀ (j:Nat) t v,Tryz.f10.params[j]?=some t→args[j]?=some v→Value.okWide Tryz.prog W .any base t v:=hval0;have hW':=hW;obtain⟨p,q,hA0,hV,rfl,_,_⟩:=hW;have hA:DataW.TrodAll enc Tryz.prog W 0 (fun _=>true) true Tryz.f10.params.toList args.toList ds p:=hA0;rw[Tryz.params10]at hA hval;obtain⟨v0,v1,v2,v3,d0,d1,d2,d3,p0,p1,p2,p3,rfl,rfl,rfl,h0,h1,h2,h3⟩:=trodAll_four hA;obtain⟨rfl,rfl⟩:=trodVars_none hV;obtain⟨t,kT,nT,zT,yT,oT,mT,lT,rfl,hT,hET⟩:=yI (hval 0 _ v0 rfl rfl) h0;obtain⟨x,kX,nX,zX,yX,oX,mX,lX,rfl,hX,hEX⟩:=yI (hval 1 _ v1 rfl rfl) h1;obtain⟨pa,hpa,_⟩:=open_ints (hval 2 _ v2 rfl rfl) h2;obtain⟨qa,hqa,_⟩:=open_ints (hval 3 _ v3 rfl rfl) h3;have hL:laidMet Tryz.prog Cy W.memory:=by rw[MakeChecks.laidMetH_plain _ _ _ (by kernel_rfl)]at hLH;exact hLH
 have hT0:eJ W.memory:=PE hL;have hTab:eJ W:=hT0;refine(hwalk W hTab (Qr hsh) t x hET hEX pa qa kT nT zT yT oT mT lT hT kX nX zX yX oX mX lX hX v2 v3 hpa hqa).mono fun e W' ⟨he,hb⟩=>?_;subst he;have hlt:∀ y∈(p0++p1++p2++p3)++[],y.block<W.heap.size:=fun y hy=>hW'.lt y hy
 exact ⟨_, rfl, Lu hW' rfl rfl rfl (fun sp hsp => by
   rw [Tryz.params10]
   rw [List.append_nil] at hsp hlt ⊢
   rw [List.append_assoc, List.append_assoc]
   exact trodAll_mk4 (WideElems.Trod_stays Ls (by kernel_rfl) (of_decide_eq_true (by kernel_rfl)) h0 (fun y hy => hb.same (hlt y (by simp [hy]))) (fun y hy => hsp y (by simp [hy])))
     (WideElems.Trod_stays Ls (by kernel_rfl) (of_decide_eq_true (by kernel_rfl)) h1 (fun y hy => hb.same (hlt y (by simp [hy]))) (fun y hy => hsp y (by simp [hy])))
     (WideElems.Trod_stays Ls (by kernel_rfl) (of_decide_eq_true (by kernel_rfl)) h2 (fun y hy => hb.same (hlt y (by simp [hy]))) (fun y hy => hsp y (by simp [hy])))
     (WideElems.Trod_stays Ls (by kernel_rfl) (of_decide_eq_true (by kernel_rfl)) h3 (fun y hy => hb.same (hlt y (by simp [hy]))) (fun y hy => hsp y (by simp [hy])))) hb⟩
theorem Aq(hwalk:Sb):Rows.ParsePartsSaid:=
 OpenClaim.holds_of_wide 10 Tryz.f10 rfl rfl rfl rfl rfl rfl rfl ⟨rfl,rfl,rfl,rfl,rfl⟩ rfl rfl rfl rfl rfl (by kernel_rfl) Tryz.func10 (by kernel_rfl)
  (of_decide_eq_true (by kernel_rfl)) (by unfold Func.isWrapper;first|(rw[if_pos (by decide +kernel)];kernel_rfl)|(rw[if_neg (by decide +kernel)];exact⟨rfl,rfl⟩))
  (fun os started H enc _=>sH hwalk os started H enc)
theorem vL(hwalk:Sb):Rows.ParsePartsCardSaid:=
 Claim7.holds_tied_plain_at .later [] [.data,.data,.data,.data,.sentinel,.sentinel,.pinned] true (true,"b10dbd1bb527d72cf5603d0a5555cfb922cf96659ce082fae8eb23041d50ab99") true (Aq hwalk) (fun _ h=>by cases h) (by kernel_rfl) (fun _ h=>by cases h) parseParts_row_tie rfl ⟨rfl,rfl⟩ (by kernel_rfl) rfl
  (fun f fn hf hfn => by
    obtain rfl : f = 10 := Option.some.inj ((show Tryz.prog.funcNamed "pliant/pliantlaw07.ParseParts" = some 10 by kernel_rfl).symm.trans hf) |>.symm
    obtain rfl : fn = Tryz.f10 := (Option.some.inj (Tryz.func10.symm.trans hfn)).symm
    exact ⟨by kernel_rfl, fun j t ht => by
      rw [Tryz.params10] at ht
      have hm : t ∈ [24, 47] := by have := Array.mem_of_getElem? ht; simp at this; simp; omega
      have hall : ([24, 47].all fun u => !Tryz.prog.wantsStandIn u) = true := by kernel_rfl
      exact (show Tryz.prog.wantsStandIn t = false by simpa using List.all_eq_true.1 hall t hm)⟩)
  (by kernel_rfl)
end
end Go.Proofs.YtfdlmcgcckkkdaaGreatDoor
