/- ParseShort: the law holds of the program, whatever the input. No condition. -/
import Derived.Test.YtikalomcclefiaaGreatDoorX02
import Derived.Test.YtikalomcclefiaaGreatDoorCards
set_option linter.all false
set_option maxHeartbeats 0
set_option maxRecDepth 100000
namespace Go.Proofs.YtikalomcclefiaaGreatDoor
section
open Go.ChangeShapes Go.WideShapes Go.Deep Go.RowKit Lx Px
def adM{w:World}{b off:Nat}:∀ (m:Nat),(∀ i,i<m->∃ z:Int,w.cell? (AAF b (off+i))=some (.int .i64 z))->∃ p:List Int,p.length=m/\∀ i,(hi:i<p.length)->w.cell? (AAF b (off+i))=some (.int .i64 (p[i]'hi)):=by
 intro m
 induction m with
 | zero=>intro _;exact⟨[],rfl,λi hi=>absurd hi (Nat.not_lt_zero _)⟩
 | succ m ih=>
  intro h;obtain⟨p,h1,h2⟩:=ih λi hi=>h i aB
  obtain⟨z,hz⟩:=h m aB;refine⟨p++[z],by simp[h1],λi hi=>?_⟩
  rcases cY i p.length with hlt|hge
  ·rw[List.getElem_append_left hlt];exact h2 i hlt
  ·have hi2:i<p.length+1:=by simpa using hi
   obtain rfl:i=p.length:=by omega
   rw[List.getElem_append_right (aG _)];simp only[Nat.sub_self,zI]
   rw[h1];exact hz
section
variable {H:Type} {enc:TypeId×Value->H}
def open_ints{r:Reach}{b0 base:Nat}{spare:Nat->Bool}{held:Bool}{w:World}{v:Value}{d:DataW H}{ps:List MemPlace}(hval:Value.okWide Tryz.prog w r b0 42 v)(hd:DataW.Trod enc Tryz.prog w base spare held 42 v d ps):∃ p,Ei w v p/\p.length<=9223372036854775807:=by
 obtain⟨a,len,cap,rfl⟩:=okWide_slice Tryz.underlying42 hval;obtain⟨fuel,hf⟩:=hd
 rcases DataW.trod_slice Tryz.underlying42 hf with ⟨h0,_⟩|⟨ad,len',cap',elems,rest,n2,hn2,e4,_,hb,hl,hm,hlen,hel,_,_⟩
 ·simp only[Value.cells,fL,mM]at h0
  cases h0
  exact⟨[],⟨none,0,rfl,λh=>absurd rfl h,aG _⟩,by simp⟩
 ·simp only[Value.cells,fL,mM]at e4
  cases e4
  obtain⟨b,off,spot⟩:=ad;have h1c:Tryz.prog.cellsOf 3=1:=by kernel_rfl
  have hget:∀ i,i<len->∃ z:Int,w.cell? ((⟨b,off,spot⟩:Addr).add i)=some (.int .i64 z):=λi hi=>by
   have hc:=hel i hi;rw[dQ aB]at hc;obtain⟨cs',h5,h6⟩:=LH.1 hc;obtain⟨z,rfl,_,_⟩:=zP Tryz.underlying3 h6;obtain⟨_,hcl',hat⟩:=Cs h5;have h7:=hat 0 (by rw[h1c];decide);rw[h1c,Nat.mul_one,Go.Deep.add_add,lE]at h7;exact⟨z,h7⟩
  have hml:maxLen=9223372036854775807:=rfl
  by_cases h0:len=0
  ·subst h0;exact⟨[],⟨_,cap,rfl,λh=>absurd rfl h,aS _⟩,by simp⟩
  ·have hsp:spot=none:=by
    obtain⟨z,hz⟩:=hget 0 aB
    simpa[Addr.add]using World.cell?_spot hz
   subst hsp;obtain⟨p,h2,h3⟩:=adM (w:=w) (b:=b) (off:=off) len λi hi=>by
    obtain⟨z,hz⟩:=hget i hi;rw[vL]at hz;exact⟨z,hz⟩
   subst h2;refine⟨p,⟨_,cap,rfl,λhne=>⟨b,off,rfl,?_,h3⟩,hl⟩,by omega⟩;exact CD _ _ (h3 0 (pE.2 hne))
end
end
section
open Go.ChangeShapes Go.WideShapes Go.ChangeAt Go.RowKit Lx Px
open Go.ChangeMaps (open_string shut_string)
def MZ(os:Os)(started:os.Started)(H:Type)(enc:TypeId×Value->H):ReturnsInHanded {} Tryz.checked os 4 .any (λw args=>(Rows.parseShortSpec.pre enc Tryz.prog Tryz.f4 [] false w args/\laidMetH Tryz.prog rH w)/\sizedMet enc Tryz.prog Tryz.f4 (OpenSpec.ofChange Rows.parseShortSpec) false w args) (Rows.parseShortSpec.post enc Tryz.prog Tryz.f4 false true false false):=by
 refine Ce (C:=Tryz.checked) (X:=λw _=>laidMetH Tryz.prog rH w) aDu started aQ Tryz.func4
  (ChangeSpec.witness_shaped (enc:=enc) (C:=Tryz.checked) (os:=os) (X:=λw _=>laidMetH Tryz.prog rH w) false (World.laidAll Tryz.prog os rH) #[tg 0 0 0 ⟨#[]⟩ none 0 0,.slice none 0 0] 8 (World.laidAll_os _ _ _)
   (Mi os) aQ aQ aQ
   (by rw[MakeChecks.laidMetH_plain _ _ _ aQ];exact laidMet_laidAll _ aQ aQ)) ?_
 intro W base args ds gs before hval0 hW _ hsh hLH;have hval:∀ (j:Nat) t v,Tryz.f4.params[j]?=some t->args[j]?=some v->Value.okWide Tryz.prog W .any base t v:=hval0;have hW':=hW;obtain⟨p,q,hA0,hV,rfl,_,_⟩:=hW;have hA:DataW.TrodAll enc Tryz.prog W 0 (λ_=>true) true Tryz.f4.params.toList args.toList ds p:=hA0;rw[Tryz.params4]at hA hval;obtain⟨v0,v1,d0,d1,p0,p1,rfl,rfl,rfl,h0,h1⟩:=trodAll_two hA;obtain⟨rfl,rfl⟩:=trodVars_none hV;obtain⟨t0,k0,n0,z0,y0,o0,m0,l0,rfl,hT0,hE0⟩:=FH (hval 0 _ v0 rfl rfl) h0;obtain⟨is1,hI1,hm1⟩:=open_ints (hval 1 _ v1 rfl rfl) h1;have hL:laidMet Tryz.prog rH W.memory:=by rw[MakeChecks.laidMetH_plain _ _ _ aQ]at hLH;exact hLH
 have hTm:fQ W.memory:=Vc hL;have hTab:fQ W:=hTm;refine(TW W hTab (aeY hsh) t0 hE0 k0 n0 z0 y0 o0 m0 l0 hT0 is1 v1 hI1 hm1).mono λe W' ⟨he,hb⟩=>?_;subst he;have hlt:∀ y∈(p0++p1)++[],y.block<W.heap.size:=λy hy=>hW'.lt y hy
 exact⟨_,rfl,Hi hW' rfl rfl rfl (λsp hsp=>by
  rw[Tryz.params4]
  rw[bD]at hsp hlt ⊢
  exact trodAll_mk2 (WideElems.Trod_stays QG aQ (iG aQ) h0 (λy hy=>hb.same (hlt y (by simp[hy]))) (λy hy=>hsp y (by simp[hy])))
   (WideElems.Trod_stays QG aQ (iG aQ) h1 (λy hy=>hb.same (hlt y (by simp[hy]))) (λy hy=>hsp y (by simp[hy])))) hb⟩
def Lp: Rows.parseShortRow.laidByTextAt .later Tryz.pinned [.data,.data,.data,.data,.sentinel,.sentinel,.pinned] true:=
 OpenClaim.laidByTextAt_pinned rfl rfl tie rfl rfl rfl rfl (λy hy _e => by
   simp only [Rows.parseShortRow, List.zip_cons_cons, List.zip_nil_right, bO, List.mem_nil_iff, or_false] at hy
   rcases hy with rfl | rfl | rfl | rfl | rfl | rfl | rfl
   · cases _e
   · cases _e
   · cases _e
   · cases _e
   · cases _e
   · cases _e
   · exact ⟨jD, by kernel_rfl⟩) aiE
def Xu: Rows.ParseShortSaid:=
 OpenClaim.holds_of_wide 4 Tryz.f4 rfl rfl rfl rfl rfl rfl rfl ⟨rfl,rfl,rfl,rfl,rfl⟩ rfl rfl rfl rfl rfl aQ Tryz.func4 aQ
  (iG aQ) (by unfold Func.isWrapper;first|(rw[aF aE];kernel_rfl)|(rw[aC aE];exact⟨rfl,rfl⟩))
  (λos started H enc _=>MZ os started H enc)
def TS: Rows.ParseShortCardSaid:=
 Claim7.holds_tied_plain_at .later [] [.data,.data,.data,.data,.sentinel,.sentinel,.pinned] true (true,"444515db2f49c643c3105946acfbf8479b97ebfe9767868f205b285ee7d5f22c") true Xu (λ_ h=>by cases h) aQ (λ_ h=>by cases h) Lp rfl ⟨rfl,rfl⟩ aQ rfl
  (λf fn hf hfn => by
    obtain rfl : f = 4 := Option.some.inj ((show Tryz.prog.funcNamed "pliant/pliantlaw07.ParseShort" = some 4 by kernel_rfl).symm.trans hf) |>.symm
    obtain rfl : fn = Tryz.f4 := (Option.some.inj (Tryz.func4.symm.trans hfn)).symm
    exact ⟨by kernel_rfl, λj t ht => by
      rw [Tryz.params4] at ht
      have hm : t ∈ [24, 42] := by have := Array.mem_of_getElem? ht; simp at this; simp; omega
      have hall : ([24, 42].all λu => !Tryz.prog.wantsStandIn u) = true := by kernel_rfl
      exact (show Tryz.prog.wantsStandIn t = false by simpa using iJ.1 hall t hm)⟩)
  aQ
theorem ParseShort_holds: Rows.ParseShortCardSaid:=TS
end
end Go.Proofs.YtikalomcclefiaaGreatDoor
