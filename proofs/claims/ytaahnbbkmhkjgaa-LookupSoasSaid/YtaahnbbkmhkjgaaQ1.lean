/- The row of LookupSoas. -/
import Derived.Test.YtaahnbbkmhkjgaaG5
import Derived.Test.YtaahnbbkmhkjgaaRows
import Derived.WalkKit
import Derived.ProofKit
import Derived.OpenShut
import Derived.ShutString
import Derived.ChangeOld
import Derived.Below
import Derived.SizedLaws
set_option linter.unusedVariables false
set_option linter.unusedSimpArgs false
namespace Go.Proofs.Ytaahnbbkmhkjgaa.lookupSoas
open Go Go.ChangeShapes Go.WideShapes Go.ChangeAt Go.RowKit Go.X
set_option linter.unusedVariables false
theorem own : ownKnob Try.prog.godebug = none := by kernel_rfl
theorem laidOut : laidOutB Try.prog = true := by kernel_rfl
theorem shp : shapes Try.prog Try.f3.params.toList = some [shZone] := by kernel_rfl
theorem law : ∀ qs, Oks [shZone] qs → G.S G.n_ddilaw11_LookupSoas 1 qs = some [.b true]
  | [p], h => by
    obtain ⟨z, hz, rfl⟩ := ok_zone h.1
    exact G.law_LookupSoas z hz
  | [], h => h.elim
  | _ :: _ :: _, h => h.2.elim
set_option maxRecDepth 100000 in
theorem lifted (os : Os) (started : os.Started) (H : Type) (enc : TypeId × Value → H) :
    ReturnsInHanded {} Try.checked os 3 .any (Rows.lookupSoasSpec.pre6 enc Try.prog Try.f3 Rows.lookupSoasRow.domain false) (Rows.lookupSoasSpec.post enc Try.prog Try.f3 false true false false) := by
  refine returnsInHanded_of_change_sized (C := Try.checked) own started (by kernel_rfl) Try.func3
    (ChangeSpec.witness6 (enc := enc) (C := Try.checked) false ⟨#[], #[.agg #[.string ByteArray.empty, .slice none 0 0]], []⟩ 8 (by kernel_rfl) (by kernel_rfl) (by kernel_rfl) (by kernel_rfl)) ?_
  intro W base args ds gs before hval0 hW hcnd hsz0 _
  have hval : ∀ (j : Nat) t v, Try.f3.params.toList[j]? = some t → args[j]? = some v → Value.okWide Try.prog W .any base t v := fun j t v ht hv => hval0 j t v (by simpa using ht) hv
  have hW' := hW
  obtain ⟨p, q, hA0, hV, rfl, hfz, hnd⟩ := hW
  have hA : DataW.TrodAll enc Try.prog W 0 (fun _ => true) true Try.f3.params.toList args.toList ds p := hA0
  obtain ⟨rfl, rfl⟩ := trodVars_none hV
  refine (law_calls noExt_mono G.tab_ok (fun fn _ => by intro f n vs rs h; simp [noExt] at h) (ft := ⟨1, 0, G.t_ddilaw11_LookupSoas⟩) (f := 3) (by kernel_rfl) rfl shp law hval hA).mono fun e W' ⟨he, bel⟩ => ?_
  subst he
  have hback := back_all laidOut bel (by kernel_rfl) hA
  rw [Try.params3] at hA hback
  obtain ⟨v0, vs0, d0, ds0, p0, q0, hargs, rfl, rfl, h0, r0⟩ := trodAll_cons hA
  obtain ⟨rfl, rfl, rfl⟩ := trodAll_nil r0
  exact ⟨_, rfl, _, _, _, [], _, [], hW', trodAll_mk1 (shut_bool Try.underlying4 _), hback, rfl, bel.frame _, fun h => by cases h⟩
theorem over : Rows.lookupSoasRow.holds Try.pinned (OpenSpec.ofChange Rows.lookupSoasSpec) :=
  OpenClaim.holds_of_wide 3 Try.f3 rfl rfl rfl rfl rfl rfl rfl ⟨rfl, rfl, rfl, rfl, rfl⟩ rfl rfl rfl rfl rfl (by kernel_rfl) Try.func3 (by kernel_rfl)
    (of_decide_eq_true (by kernel_rfl)) (by unfold Func.isWrapper; first | (rw [if_pos (by decide +kernel)]; kernel_rfl) | (rw [if_neg (by decide +kernel)]; exact ⟨rfl, rfl⟩))
    (fun os started H enc _ => lifted os started H enc)
theorem proved : Rows.LookupSoasSaid := over
#print axioms proved
end Go.Proofs.Ytaahnbbkmhkjgaa.lookupSoas
