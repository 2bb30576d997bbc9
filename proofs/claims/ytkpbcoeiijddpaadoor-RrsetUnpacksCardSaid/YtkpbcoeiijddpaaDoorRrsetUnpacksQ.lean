/- RrsetUnpacks: for every input the law returns true, and each argument reads as before. No condition beyond the given row's own. -/
import Derived.Test.YtkpbcoeiijddpaaDoorRrsetUnpacksG10
import Derived.Test.YtkpbcoeiijddpaaDoorRrsetUnpacksG8
import Derived.Test.YtkpbcoeiijddpaaDoorRows
import Derived.Test.YtkpbcoeiijddpaaDoorCards
import Derived.Test.YtkpbcoeiijddpaaDoorTie
import Derived.Lay
import Derived.LaidOnce
import Derived.SevenTiedAt
import Derived.ChangeVars
import Derived.JoinedOf
import Derived.LaidLaws
import Derived.Handed
import Derived.WalkKit
import Derived.ProofKit
import Derived.OpenShut
import Derived.ShutString
import Derived.ChangeOld
import Derived.Below
import Derived.SizedLaws
open List renaming all_eq_true→Cy,append_nil→C2
set_option maxHeartbeats 1000000
set_option linter.unusedVariables false
set_option linter.unusedSimpArgs false
namespace Go.Proofs.YtkpbcoeiijddpaaDoor.rrsetUnpacks
open Go Go.ChangeShapes Go.WideShapes Go.ChangeAt Go.RowKit Go.X
set_option linter.unusedVariables false
theorem own:ownKnob Tryd.prog.godebug=none:=by kernel_rfl
theorem laidOut:laidOutB Tryd.prog=true:=by kernel_rfl
theorem shp:Sk Tryd.prog Tryd.f5.params.toList=some [Og]:=by kernel_rfl
theorem law:∀qs,Oks [Og] qs→G.S G.Dx1 1 qs=some [.b true]:=by
 intro qs h
 obtain ⟨p0,r0,rfl,h0,h⟩:=Ab2 h
 obtain rfl:=Cw6 h
 obtain ⟨x0,w0,rfl⟩:=Ab5 h0
 exact G.law_RrsetUnpacks x0 w0
set_option maxRecDepth 100000 in
theorem lifted (os:Os) (started:os.Started) (H:Type) (enc:TypeId×Value→H):
  ReturnsInHanded {} Tryd.checked os 5 .any (fun w args=>(Rows.rrsetUnpacksSpec.pre enc Tryd.prog Tryd.f5 [] false w args∧laidMetH Tryd.prog Rows.rrsetUnpacksRow.laid w)∧sizedMet enc Tryd.prog Tryd.f5 (OpenSpec.ofChange Rows.rrsetUnpacksSpec) false w args) (Rows.rrsetUnpacksSpec.post enc Tryd.prog Tryd.f5 false true false false):=by
 refine returnsInHanded_of_change_and (C:=Tryd.checked) (X:=fun w _=>laidMetH Tryd.prog Rows.rrsetUnpacksRow.laid w) (fun _ _ _ hh h=>h.of_heap hh) own started (by kernel_rfl) Tryd.func5
  (ChangeSpec.witness_shaped (enc:=enc) (C:=Tryd.checked) (os:=os) (X:=fun w _=>laidMetH Tryd.prog Rows.rrsetUnpacksRow.laid w) false (World.laidAll Tryd.prog os Rows.rrsetUnpacksRow.laid) #[.slice none 0 0] 8 (World.laidAll_os _ _ _)
   (World.shaped_of_ZipB (by kernel_rfl) (by kernel_rfl)) (by kernel_rfl) (by kernel_rfl) (by kernel_rfl)
   (by rw [MakeChecks.laidMetH_plain _ _ _ (by kernel_rfl)];exact laidMet_laidAll _ (by kernel_rfl) (by kernel_rfl))) ?_
 intro W base args ds gs before hval0 hW _ _ _ _
 have hval:∀(j:Nat) t v,Tryd.f5.params.toList[j]? =some t→args[j]? =some v→Value.okWide Tryd.prog W .any base t v:=fun j t v ht hv=>hval0 j t v (by simpa using ht) hv
 have hW':=hW
 obtain ⟨p,q,hA0,hV,rfl,hfz,hnd⟩:=hW
 have hA:DataW.TrodAll enc Tryd.prog W 0 (fun _=>true) true Tryd.f5.params.toList args.toList ds p:=hA0
 obtain ⟨rfl,rfl⟩:=trodVars_none hV
 refine (law_calls G.ext_mono G.Cs6 G.Db0 (ft:=⟨1,0,G.Ct9⟩) (f:=5) (by kernel_rfl) rfl shp law hval hA).mono fun e W' ⟨he,bel⟩=> ?_
 subst he
 have hback:=Yd laidOut bel (by kernel_rfl) hA
 rw [Tryd.params5] at hA hback
 obtain ⟨v0,vs0,d0,ds0,p0,q0,hargs,rfl,rfl,h0,r0⟩:=trodAll_cons hA
 obtain ⟨rfl,rfl,rfl⟩:=trodAll_nil r0
 simp only [C2] at hW'
 exact ⟨_,rfl,_,_,_,[],_,[],hW',trodAll_mk1 (shut_bool Tryd.underlying4 _),hback,rfl,bel.frame _,fun h=>by cases h⟩
theorem over:Rows.rrsetUnpacksRow.holds Tryd.pinned (OpenSpec.ofChange Rows.rrsetUnpacksSpec):=
 OpenClaim.holds_of_wide 5 Tryd.f5 rfl rfl rfl rfl rfl rfl rfl ⟨rfl,rfl,rfl,rfl,rfl⟩ rfl rfl rfl rfl rfl (by kernel_rfl) Tryd.func5 (by kernel_rfl)
  (of_decide_eq_true (by kernel_rfl)) (by unfold Func.isWrapper;first|(rw [if_pos (by decide+kernel)];kernel_rfl)|(rw [if_neg (by decide+kernel)];exact ⟨rfl,rfl⟩))
  (fun os started H enc _=>lifted os started H enc)
theorem proved:Rows.RrsetUnpacksCardSaid:=
 Claim7.holds_tied_plain_at .later [] [.data, .pinned] true (true, "c153469808e0c9fb03acea2cd462661edd01c4f477aafc9171bf4f80a00f466b") false over (fun _ h => by cases h) (by kernel_rfl) (fun _ h => by cases h) rrsetUnpacks_row_tie rfl ⟨rfl, rfl⟩ (by kernel_rfl) rfl
  (fun f fn hf hfn=>by
   obtain rfl : f = 5 := Option.some.inj ((show Tryd.prog.funcNamed "ddi/ddilaw07.RrsetUnpacks" = some 5 by kernel_rfl).symm.trans hf) |>.symm
   obtain rfl:fn=Tryd.f5:=(Option.some.inj (Tryd.func5.symm.trans hfn)).symm
   exact ⟨by kernel_rfl,fun j t ht=>by
    rw [Tryd.params5] at ht
    have hm:t∈Tryd.f5.params.toList:=by rw [Tryd.params5];simpa using Array.mem_of_getElem? ht
    have hall:(Tryd.f5.params.toList.all fun t=>Tryd.prog.wantsStandIn t==false)=true:=by kernel_rfl
    exact (by simpa using Cy.1 hall t hm:Tryd.prog.wantsStandIn t=false)⟩)
  (by kernel_rfl)
#print axioms proved
end Go.Proofs.YtkpbcoeiijddpaaDoor.rrsetUnpacks
