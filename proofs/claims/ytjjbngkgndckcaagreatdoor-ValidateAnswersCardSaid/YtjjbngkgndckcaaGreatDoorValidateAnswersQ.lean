/- ValidateAnswers: for every input the law returns true, and each argument reads as before. No condition beyond the given row's own. -/
import Derived.Test.YtjjbngkgndckcaaGreatDoorValidateAnswersG11
import Derived.Test.YtjjbngkgndckcaaGreatDoorValidateAnswersG9
import Derived.Test.YtjjbngkgndckcaaGreatDoorRows
import Derived.Test.YtjjbngkgndckcaaGreatDoorCards
import Derived.Test.YtjjbngkgndckcaaGreatDoorTie
import Derived.Lay
import Derived.LaidOnce
import Derived.SevenTiedAt
import Derived.ChangeVars
import Derived.JoinedOf
import Derived.LaidLaws
import Derived.Handed
import Derived.WalkKit
import Derived.ProofKit
import Derived.OpenShut
import Derived.ShutString
import Derived.ChangeOld
import Derived.Below
import Derived.SizedLaws
open List renaming all_eq_true→Ds,append_nil→Ek
set_option maxHeartbeats 1000000
set_option linter.unusedVariables false
set_option linter.unusedSimpArgs false
namespace Go.Proofs.YtjjbngkgndckcaaGreatDoor.validateAnswers
open Go Go.ChangeShapes Go.WideShapes Go.ChangeAt Go.RowKit Go.X
set_option linter.unusedVariables false
theorem own:ownKnob Tryz.prog.godebug=none:=by kernel_rfl
theorem laidOut:laidOutB Tryz.prog=true:=by kernel_rfl
theorem shp:kq Tryz.prog Tryz.f4.params.toList=some [Dr7,Dr5]:=by kernel_rfl
theorem law:∀qs,Oks [Dr7,Dr5] qs→G.S G.Ht8 2 qs=some [.b true]:=by
 intro qs h
 obtain⟨p0,r0,rfl,h0,h⟩:=Aq5 h
 obtain⟨p1,r1,rfl,h1,h⟩:=Aq5 h
 obtain rfl:=Fr2 h
 obtain⟨x0,w0,rfl⟩:=Fr7 h0
 obtain⟨x1,w1,rfl⟩:=Fr6 h1
 exact G.law_ValidateAnswers x0 x1 w0 w1
set_option maxRecDepth 100000 in
theorem lifted (os:Os) (started:os.Started) (H:Type) (enc:TypeId×Value→H):
  ReturnsInHanded {} Tryz.checked os 4 .any (fun w args=>(Rows.validateAnswersSpec.pre enc Tryz.prog Tryz.f4 [] false w args∧laidMetH Tryz.prog Rows.validateAnswersRow.laid w)∧sizedMet enc Tryz.prog Tryz.f4 (OpenSpec.ofChange Rows.validateAnswersSpec) false w args) (Rows.validateAnswersSpec.post enc Tryz.prog Tryz.f4 false true false false):=by
 refine returnsInHanded_of_change_and (C:=Tryz.checked) (X:=fun w _=>laidMetH Tryz.prog Rows.validateAnswersRow.laid w) (fun _ _ _ hh h=>h.of_heap hh) own started (by kernel_rfl) Tryz.func4
  (ChangeSpec.witness_shaped (enc:=enc) (C:=Tryz.checked) (os:=os) (X:=fun w _=>laidMetH Tryz.prog Rows.validateAnswersRow.laid w) false (World.laidAll Tryz.prog os Rows.validateAnswersRow.laid) #[.agg #[.string ByteArray.empty,.slice none 0 0,.int .i64 0],.agg #[.int .i64 0,.int .i64 0,.int .i64 0,.bool false,.bool false,.bool false,.bool false,.bool false,.bool false,.bool false,.bool false,.int .i64 0,.string ByteArray.empty,.int .i64 0,.slice none 0 0,.slice none 0 0,.slice none 0 0]] 8 (World.laidAll_os _ _ _)
   (World.shaped_of_ZipB (by kernel_rfl) (by kernel_rfl)) (by kernel_rfl) (by kernel_rfl) (by kernel_rfl)
   (by rw[MakeChecks.laidMetH_plain _ _ _ (by kernel_rfl)];exact laidMet_laidAll _ (by kernel_rfl) (by kernel_rfl))) ?_
 intro W base args ds gs before hval0 hW _ _ _ _
 have hval:∀(j:Nat) t v,Tryz.f4.params.toList[j]? =some t→args[j]? =some v→Value.okWide Tryz.prog W .any base t v:=fun j t v ht hv=>hval0 j t v (by simpa using ht) hv
 have hW':=hW
 obtain⟨p,q,hA0,hV,rfl,hfz,hnd⟩:=hW
 have hA:DataW.TrodAll enc Tryz.prog W 0 (fun _=>true) true Tryz.f4.params.toList args.toList ds p:=hA0
 obtain⟨rfl,rfl⟩:=trodVars_none hV
 refine(law_calls G.ext_mono G.Gn2 G.Hm1 (ft:=⟨2,0,G.Ht5⟩) (f:=4) (by kernel_rfl) rfl shp law hval hA).mono fun e W' ⟨he,bel⟩=> ?_
 subst he
 have hback:=Al0 laidOut bel (by kernel_rfl) hA
 rw[Tryz.params4] at hA hback
 obtain⟨v0,vs0,d0,ds0,p0,q0,hargs,rfl,rfl,h0,r0⟩:=trodAll_cons hA
 obtain⟨v1,vs1,d1,ds1,p1,q1,rfl,rfl,rfl,h1,r1⟩:=trodAll_cons r0
 obtain⟨rfl,rfl,rfl⟩:=trodAll_nil r1
 simp only[Ek] at hW'
 exact⟨_,rfl,_,_,_,[],_,[],hW',trodAll_mk1 (shut_bool Tryz.underlying4 _),hback,rfl,bel.frame _,fun h=>by cases h⟩
theorem over:Rows.validateAnswersRow.holds Tryz.pinned (OpenSpec.ofChange Rows.validateAnswersSpec):=
 OpenClaim.holds_of_wide 4 Tryz.f4 rfl rfl rfl rfl rfl rfl rfl ⟨rfl,rfl,rfl,rfl,rfl⟩ rfl rfl rfl rfl rfl (by kernel_rfl) Tryz.func4 (by kernel_rfl)
  (of_decide_eq_true (by kernel_rfl)) (by unfold Func.isWrapper;first|(rw[if_pos (by decide+kernel)];kernel_rfl)|(rw[if_neg (by decide+kernel)];exact⟨rfl,rfl⟩))
  (fun os started H enc _=>lifted os started H enc)
theorem proved:Rows.ValidateAnswersCardSaid:=
 Claim7.holds_tied_plain_at .later [] [.data, .data, .data, .data, .pinned] true (true, "a4cbf14723a23c72c460dae69d4b5594f5d44e548d37125f38a0d1ec30cab9b9") false over (fun _ h => by cases h) (by kernel_rfl) (fun _ h => by cases h) validateAnswers_row_tie rfl ⟨rfl, rfl⟩ (by kernel_rfl) rfl
  (fun f fn hf hfn=>by
   obtain rfl : f = 4 := Option.some.inj ((show Tryz.prog.funcNamed "ddi/ddilaw24.ValidateAnswers" = some 4 by kernel_rfl).symm.trans hf) |>.symm
   obtain rfl:fn=Tryz.f4:=(Option.some.inj (Tryz.func4.symm.trans hfn)).symm
   exact⟨by kernel_rfl,fun j t ht=>by
    rw[Tryz.params4] at ht
    have hm:t∈Tryz.f4.params.toList:=by rw[Tryz.params4];simpa using Array.mem_of_getElem? ht
    have hall:(Tryz.f4.params.toList.all fun t=>Tryz.prog.wantsStandIn t==false)=true:=by kernel_rfl
    exact(by simpa using Ds.1 hall t hm:Tryz.prog.wantsStandIn t=false)⟩)
  (by kernel_rfl)
#print axioms proved
end Go.Proofs.YtjjbngkgndckcaaGreatDoor.validateAnswers
