/- ParseWhole: fewer tokens than a program has are no program; one token more behind a program is wrong at its place. No condition. -/
import Derived.Test.YtfdlmcgcckkkdaaGreatDoorV31
import Derived.Carry
import Derived.Lib.LaidTab
import Derived.Test.YtfdlmcgcckkkdaaGreatDoorV49
import Derived.Test.YtfdlmcgcckkkdaaGreatDoorV52
import Derived.Lib.SmallJoins
import Derived.Test.YtfdlmcgcckkkdaaGreatDoorV07
import Derived.Deep.Slices
import Derived.Deep.Fields
import Derived.ChangeSame
set_option linter.all false
set_option maxHeartbeats 40000000
set_option maxRecDepth 100000
namespace Go.Proofs.YtfdlmcgcckkkdaaGreatDoor
section
open Go.ChangeShapes Go.WideShapes Go.ChangeAt Go.RowKit Lx Px
section
variable {H:Type} {enc:TypeId×Value→H}
open Go.ChangeAt in
theorem qR{C:Checked}{os:Os}{f:FuncId}{fn:Func}{s:ChangeSpec}{X:World→Array Value→Prop}(own:ownKnob C.prog.godebug=none)(started:os.Started)(noInit:C.prog.inits.idxOf? f=none)(hfn:C.prog.funcs[f]?=some fn)(witness:∃ (w:World) (tape:Tape) (i:Input),w.os=os∧(w.forCall tape i).Shaped C.prog∧i.vars=[]∧Input.okWide C.prog (w.forCall tape i) .any w.heap.size f i∧((s.pre enc C.prog fn [] false (w.forCall tape i).memory i.args∧X (w.forCall tape i).memory i.args)∧sizedMet enc C.prog fn (OpenSpec.ofChange s) false (w.forCall tape i).memory i.args)∧({}:Assume).holds C.prog (lone (Frame.enter C.prog f i.args .normal) [] (w.forCall tape i)))(contract:∀ (W:World) (base:Nat) (args:Array Value) (ds gs:List (DataW H)) (before:List MemPlace),(∀ (j:Nat) t v,fn.params[j]?=some t→args[j]?=some v→Value.okWide C.prog W .any base t v)→DataW.Whole enc C.prog fn.params.toList s.vars false W args.toList ds gs before→(DataW.weightsEach C.prog (fn.params.toList++s.plain.varTypes C.prog) (ds++gs)).all (·≤reachBytes)=true→W.ShapedOpen C.prog→X W.memory args→Calls C.prog f args W fun e W'=>∃ v,e=.returned v∧s.post enc C.prog fn false true false false W args v W'):ReturnsInHanded {} C os f .any (fun w args=>(s.pre enc C.prog fn [] false w args∧X w args)∧sizedMet enc C.prog fn (OpenSpec.ofChange s) false w args) (s.post enc C.prog fn false true false false):=by
 refine returnsInHanded_of_calls own started noInit witness ?_;intro w tape i _ hsh _ hok hpre hholds;obtain⟨_,_,_,fn',hfn',_,_,_,_,hval⟩:=hok;have e:fn'=fn:=Option.some.inj (hfn'.symm.trans hfn);subst e;obtain⟨⟨⟨ds,gs,before,hw,hc⟩,hx⟩,hz⟩:=hpre;have hw':=DataW.Whole.of_heap (w':=w.forCall tape i) (by rfl) hw;refine(contract (w.forCall tape i) w.heap.size i.args ds gs before hval hw' (hz.weights hw) hsh hx).mono fun e W' ⟨v,he,hp⟩=>?_;subst he;exact ChangeSpec.post_blind hp
theorem oW{P:Program}{w:World}{x:String×DataW Unit}{rest:List (String×DataW Unit)}{ps:List MemPlace}(h:DataW.LaidVars P w (x::rest) ps):∃ q,DataW.LaidVars P w rest q:=by
 obtain⟨_,_,_,_,_,q,_,_,_,_,h,_⟩:=h;exact⟨q,h⟩
theorem oG{P:Program}{W:World}{name:String}{k:IntKind}{zs:List Int}{rest:List (String×DataW Unit)}{ps:List MemPlace}{g:Nat}{t e:TypeId}{n:Nat}(hg:P.globalNamed name=some g)(hty:(P.globals[g]?).map (·.type)=some t)(ht:P.underlying t=some (.array n e))(he:P.underlying e=some (.int k))(hce:P.cellsOf e=1)(hct:P.cellsOf t=n)(h:DataW.LaidVars P W ((name,Lib.tabData k zs)::rest) ps):Lib.TabIs P W name k zs:=by
 obtain⟨g',t',cs,fuel,p,q,hg',ht',hvar,hd,_,_⟩:=h;obtain rfl:=Option.some.inj (hg.symm.trans hg');obtain rfl:=Option.some.inj (hty.symm.trans ht');unfold Lib.TabIs;rw[hvar,← Lib.cells_of_tab ht he hce hct hd]
theorem sH{W:World}(h:laidMet Tryz.prog Cy W):eJ W:=by
 obtain⟨ps,hv,_⟩:=h;obtain⟨q1,h1⟩:=oW hv;obtain⟨q2,h2⟩:=oW h1;exact oG (g:=3) (t:=218) (e:=199) (n:=20) (by kernel_rfl) (by kernel_rfl) (by kernel_rfl) (by kernel_rfl) (by kernel_rfl) (by kernel_rfl) h2
end
end
end Go.Proofs.YtfdlmcgcckkkdaaGreatDoor
namespace Go.Proofs.YtfdlmcgcckkkdaaGreatDoor
open Go.ChangeShapes Go.WideShapes Go.Deep Go.RowKit
section
variable {H:Type} {enc:TypeId×Value→H} {P:Program} {w:World} {base:Nat} {spare:Nat→Bool} {held:Bool}
theorem zZ{t e:TypeId}{fs:Array Field}{fuel:Nat}{cs:List Value}{x:DataW H×List MemPlace}(ht:P.underlying t=some (.slice e))(he:P.underlying e=some (.struct fs))(hone:oneCellFields P fs=true)(hC:P.cellsOf e=fs.size)(h:DataW.trod enc P w base spare held fuel t cs=some x):(cs=[.slice none 0 0]∧x=(.nil,[]))∨∃ (a:Addr) (len cap m:Nat) (D:Nat→DataW H) (Pl:Nat→List MemPlace),cs=[.slice (some a) len cap]∧base≤a.block∧len≤cap∧cap≤maxLen∧m=(if spare a.block then cap else len)∧x=(.slice ((List.range len).map D) ((List.range (m - len)).map fun j=>D (len+j)),MemPlace.row a (m*fs.size)++(List.range m).flatMap Pl)∧∀ i,i<m→∃ (ys:List (DataW H×List MemPlace)) (n:Nat),D i=.agg (ys.map (·.1))∧Pl i=ys.flatMap (·.2)∧ys.length=fs.size∧∀ (j:Nat) (f:Field),fs[j]?=some f→∃ (v:Value) (y:DataW H×List MemPlace),w.cell? (a.add (i*fs.size+j))=some v∧ys[j]?=some y∧DataW.trod enc P w base spare held n f.type [v]=some y:=by
 rcases open_slice ht h with h0|⟨a,len,cap,m,n,D,Pl,hcs,hb,hl,hm,hmm,hx,hi⟩
 ·exact .inl h0
 ·refine .inr ⟨a,len,cap,m,D,Pl,hcs,hb,hl,hm,hmm,by rw[hC]at hx;exact hx,fun i him=>?_⟩;obtain⟨cs',hc,ht'⟩:=hi i him;rw[hC]at hc;obtain⟨ys,n',hn',hy,hlen,hyl,hf⟩:=DataW.trod_struct he ht';obtain⟨_,hcl,hat⟩:=World.cells?_some hc;simp only[Prod.mk.injEq]at hy
  refine⟨ys,n',hy.1,hy.2,hyl,fun j f hj=>?_⟩;obtain⟨ho,hk⟩:=hone_of hone j f hj;have hjl:j<fs.size:=(Array.getElem?_eq_some_iff.1 hj).1;have hcell:=hat j hjl;have hv:cs'[j]?=some (cs'[j]'(by omega)):=List.getElem?_eq_getElem (by omega);have h1:=hf j f hj;rw[ho,hk]at h1;have hone':(cs'.drop j).take 1=[cs'[j]'(by omega)]:=by
   rw[List.drop_eq_getElem_cons (by omega)];rfl
  rw[hone']at h1;have hys:ys[j]?=some (ys[j]'(by omega)):=List.getElem?_eq_getElem (by omega);refine⟨_,_,?_,hys,h1.trans hys⟩;rw[← Go.Deep.add_add,hcell,hv]
end
section
variable {H:Type} {enc:TypeId×Value→H}
theorem Uk{w:World}{base:Nat}{spare:Nat→Bool}{held:Bool}{a:Addr}{k:Nat}{fs:Array Field}(hfs:Tryz.prog.underlying 43=some (.struct fs))(h:∃ (ys:List (DataW H×List MemPlace)) (n:Nat),True∧True∧ys.length=fs.size∧∀ (j:Nat) (f:Field),fs[j]?=some f→∃ (v:Value) (y:DataW H×List MemPlace),w.cell? (a.add (k*fs.size+j))=some v∧ys[j]?=some y∧DataW.trod enc Tryz.prog w base spare held n f.type [v]=some y):∃ t:T3,∀ i u,(EB t)[i]?=some u→w.cell? (a.add (k*3+i))=some u:=by
 have:=Tryz.underlying43.symm.trans hfs;simp only[Option.some.injEq,TypeDesc.struct.injEq]at this
 subst this;obtain⟨ys,n,_,_,hy,hf⟩:=h;obtain⟨v0,y0,c0,_,t0⟩:=hf 0 _ rfl;obtain⟨v1,y1,c1,_,t1⟩:=hf 1 _ rfl;obtain⟨v2,y2,c2,_,t2⟩:=hf 2 _ rfl;obtain⟨a0,e0,_⟩:=DataW.trod_int Tryz.underlying3 t0;obtain⟨a1,e1,_⟩:=DataW.trod_string Tryz.underlying9 t1;obtain⟨a2,e2,_⟩:=DataW.trod_int Tryz.underlying3 t2
 cases e0;cases e1;cases e2
 refine⟨⟨a0,a1,a2⟩,fun i u hu=>?_⟩
 match i,hu with
 | 0,hu=>cases hu;exact c0
 | 1,hu=>cases hu;exact c1
 | 2,hu=>cases hu;exact c2
theorem SY{w:World}{a:Addr}:∀ (m:Nat),(∀ k,k<m→∃ t:T3,∀ i u,(EB t)[i]?=some u→w.cell? (a.add (k*3+i))=some u)→∃ l:List T3,l.length=m∧∀ k,k<m→∀ i u,(EB l[k]!)[i]?=some u→w.cell? (a.add (k*3+i))=some u:=by
 intro m
 induction m with
 | zero=>intro _;exact⟨[],rfl,fun k hk=>by omega⟩
 | succ m ih=>
  intro h;obtain⟨l,hl,hc⟩:=ih fun k hk=>h k (by omega)
  obtain⟨t,ht⟩:=h m (by omega);refine⟨l++[t],by simp[hl],fun k hk i u hu=>?_⟩
  rcases Nat.lt_or_ge k m with hlt|hge
  ·refine hc k hlt i u ?_;have e:(l++[t])[k]! = l[k]!:=by
    rw[List.getElem!_eq_getElem?_getD,List.getElem!_eq_getElem?_getD,List.getElem?_append_left (by omega)]
   rw[e]at hu;exact hu
  ·obtain rfl:k=m:=by omega
   have e:(l++[t])[k]! = t:=by
    rw[List.getElem!_eq_getElem?_getD,List.getElem?_append_right (by omega),hl];simp
   rw[e]at hu;exact ht i u hu
theorem Th{r:Reach}{b0 base:Nat}{spare:Nat→Bool}{held:Bool}{w:World}{v:Value}{d:DataW H}{ps:List MemPlace}(hval:Value.okWide Tryz.prog w r b0 25 v)(hd:DataW.Trod enc Tryz.prog w base spare held 25 v d ps):∃ l ao cap,v=.slice ao l.length cap∧cK w v l∧l.length≤cap∧cap≤9223372036854775807:=by
 obtain⟨a,len,cap,rfl⟩:=okWide_slice Tryz.underlying25 hval;obtain⟨fuel,hf⟩:=hd
 rcases zZ Tryz.underlying25 Tryz.underlying43 (by kernel_rfl) (by kernel_rfl) hf with ⟨h0,_⟩|⟨a',len',cap',m,D,Pl,hcs,_,hl,hm,hmm,_,hi⟩
 ·simp only[Value.cells,List.cons.injEq,and_true]at h0
  cases h0
  exact⟨[],none,0,rfl,⟨none,0,rfl,fun h=>absurd rfl h⟩,Nat.le_refl _,by simp⟩
 ·simp only[Value.cells,List.cons.injEq,and_true]at hcs
  cases hcs
  have hml:len≤m:=by rw[hmm];split<;>omega
  obtain⟨l,hll,hc⟩:=SY (w:=w) (a:=a') len fun k hk=>by
   obtain⟨ys,n,_,_,h3,h4⟩:=hi k (by omega);exact Uk Tryz.underlying43 ⟨ys,n,trivial,trivial,h3,h4⟩
  subst hll;have hmax:maxLen=9223372036854775807:=by rfl
  refine⟨l,_,cap,rfl,⟨_,cap,rfl,fun hne=>?_⟩,hl,by omega⟩;have hpos:0<l.length:=List.length_pos_iff.2 hne;obtain⟨b,off,spot⟩:=a';have h0:=hc 0 hpos 0 _ rfl;have hspot:spot=none:=by simpa[Addr.add]using World.cell?_spot h0
  subst hspot;refine⟨b,off,rfl,World.block_lt_of_cell? _ _ h0,fun j hj i u hu=>?_⟩;have:=hc j hj i u hu;rw[Go.WideShapes.add_plain]at this;rw[show off+j*3+i=off+(j*3+i)by omega];exact this
end
section
variable {H:Type} {enc:TypeId×Value→H}
open Go.Joins in
theorem Tu{r:Reach}{b0 base:Nat}{spare:Nat→Bool}{held:Bool}{w:World}{v:Value}{d:DataW H}{ps:List MemPlace}(hval:Value.okWide Tryz.prog w r b0 43 v)(hd:DataW.Trod enc Tryz.prog w base spare held 43 v d ps):∃ (k:Int) (t:ByteArray) (a:Int),v=.agg #[.int .i64 k,.string t,.int .i64 a]:=by
 obtain⟨v0,v1,v2,y0,y1,y2,n,rfl,_,_,t0,t1,t2⟩:=open_agg3 Tryz.underlying43 (by kernel_rfl) (by kernel_rfl) hval hd;obtain⟨a0,e0,_⟩:=DataW.trod_int Tryz.underlying3 t0;obtain⟨a1,e1,_⟩:=DataW.trod_string Tryz.underlying9 t1;obtain⟨a2,e2,_⟩:=DataW.trod_int Tryz.underlying3 t2
 cases e0;cases e1;cases e2
 exact⟨_,_,_,rfl⟩
end
end Go.Proofs.YtfdlmcgcckkkdaaGreatDoor
namespace Go.Proofs.YtfdlmcgcckkkdaaGreatDoor
open Go.ChangeShapes Go.WideShapes Go.ChangeAt Go.RowKit Lx Px
open Go.ChangeMaps (open_string shut_string)
theorem zX(os:Os)(started:os.Started)(H:Type)(enc:TypeId×Value→H):ReturnsInHanded {} Tryz.checked os 4 .any (fun w args=>(Rows.parseWholeSpec.pre enc Tryz.prog Tryz.f4 [] false w args∧laidMetH Tryz.prog Cy w)∧sizedMet enc Tryz.prog Tryz.f4 (OpenSpec.ofChange Rows.parseWholeSpec) false w args) (Rows.parseWholeSpec.post enc Tryz.prog Tryz.f4 false true false false):=by
 refine qR (C:=Tryz.checked) (X:=fun w _=>laidMetH Tryz.prog Cy w) Rx started (by kernel_rfl) Tryz.func4
  (ChangeSpec.witness_shaped (enc := enc) (C := Tryz.checked) (os := os) (X := fun w _ => laidMetH Tryz.prog Cy w) false (World.laidAll Tryz.prog os Cy) #[.slice none 0 0, .int .i64 0, .agg #[.int .i64 0, .string ⟨#[]⟩, .int .i64 0]] 8 (World.laidAll_os _ _ _)
    (Nl os) (by kernel_rfl) (by kernel_rfl) (by kernel_rfl)
    (by rw [MakeChecks.laidMetH_plain _ _ _ (by kernel_rfl)]; exact laidMet_laidAll _ (by kernel_rfl) (by kernel_rfl))) ?_
 intro W base args ds gs before hval0 hW _ hsh hLH;have hval:∀ (j:Nat) t v,Tryz.f4.params[j]?=some t→args[j]?=some v→Value.okWide Tryz.prog W .any base t v:=hval0;have hW':=hW;obtain⟨p,q,hA0,hV,rfl,_,_⟩:=hW;have hA:DataW.TrodAll enc Tryz.prog W 0 (fun _=>true) true Tryz.f4.params.toList args.toList ds p:=hA0;rw[Tryz.params4]at hA hval;obtain⟨v0,v1,v2,d0,d1,d2,p0,p1,p2,rfl,rfl,rfl,h0,h1,h2⟩:=trodAll_three hA;obtain⟨rfl,rfl⟩:=trodVars_none hV;obtain⟨l,ao,cap,rfl,hT,hc1,hc2⟩:=Th (hval 0 _ v0 rfl rfl) h0;obtain⟨i,rfl,rfl,rfl,wi⟩:=open_int Tryz.underlying3 (hval 1 3 v1 rfl rfl) h1;obtain⟨k,x,y,rfl⟩:=Tu (hval 2 _ v2 rfl rfl) h2;have hL:laidMet Tryz.prog Cy W.memory:=by rw[MakeChecks.laidMetH_plain _ _ _ (by kernel_rfl)]at hLH;exact hLH
 have hT0:eJ W.memory:=sH hL;have hTab:eJ W:=hT0;refine(Sj W hTab (Qr hsh) l ao cap hT hc1 hc2 i k x y).mono fun e W' ⟨he,hb⟩=>?_;subst he;have hlt:∀ y∈(p0++[]++p2)++[],y.block<W.heap.size:=fun y hy=>hW'.lt y hy
 exact ⟨_, rfl, Lu hW' rfl rfl rfl (fun sp hsp => by
   rw [Tryz.params4]
   rw [List.append_nil] at hsp hlt ⊢
   rw [List.append_assoc]
   exact trodAll_mk3 (WideElems.Trod_stays Ls (by kernel_rfl) (of_decide_eq_true (by kernel_rfl)) h0 (fun y hy => hb.same (hlt y (by simp [hy]))) (fun y hy => hsp y (by simp [hy])))
     (shut_int Tryz.underlying3 wi)
     (WideElems.Trod_stays Ls (by kernel_rfl) (of_decide_eq_true (by kernel_rfl)) h2 (fun y hy => hb.same (hlt y (by simp [hy]))) (fun y hy => hsp y (by simp [hy])))) hb⟩
theorem SK: Rows.ParseWholeSaid:=
 OpenClaim.holds_of_wide 4 Tryz.f4 rfl rfl rfl rfl rfl rfl rfl ⟨rfl,rfl,rfl,rfl,rfl⟩ rfl rfl rfl rfl rfl (by kernel_rfl) Tryz.func4 (by kernel_rfl)
  (of_decide_eq_true (by kernel_rfl)) (by unfold Func.isWrapper;first|(rw[if_pos (by decide +kernel)];kernel_rfl)|(rw[if_neg (by decide +kernel)];exact⟨rfl,rfl⟩))
  (fun os started H enc _=>zX os started H enc)
theorem Sf: Rows.ParseWholeCardSaid:=
 Claim7.holds_tied_plain_at .later [] [.data,.data,.data,.data,.sentinel,.sentinel,.pinned] true (true,"b10dbd1bb527d72cf5603d0a5555cfb922cf96659ce082fae8eb23041d50ab99") true SK (fun _ h=>by cases h) (by kernel_rfl) (fun _ h=>by cases h) parseWhole_row_tie rfl ⟨rfl,rfl⟩ (by kernel_rfl) rfl
  (fun f fn hf hfn => by
    obtain rfl : f = 4 := Option.some.inj ((show Tryz.prog.funcNamed "pliant/pliantlaw07.ParseWhole" = some 4 by kernel_rfl).symm.trans hf) |>.symm
    obtain rfl : fn = Tryz.f4 := (Option.some.inj (Tryz.func4.symm.trans hfn)).symm
    exact ⟨by kernel_rfl, fun j t ht => by
      rw [Tryz.params4] at ht
      have hm : t ∈ [25, 3, 43] := by have := Array.mem_of_getElem? ht; simp at this; simp; omega
      have hall : ([25, 3, 43].all fun u => !Tryz.prog.wantsStandIn u) = true := by kernel_rfl
      exact (show Tryz.prog.wantsStandIn t = false by simpa using List.all_eq_true.1 hall t hm)⟩)
  (by kernel_rfl)
theorem ParseWhole_holds: Rows.ParseWholeCardSaid:=Sf
end Go.Proofs.YtfdlmcgcckkkdaaGreatDoor
namespace Go.Proofs.YtfdlmcgcckkkdaaGreatDoor
end Go.Proofs.YtfdlmcgcckkkdaaGreatDoor
