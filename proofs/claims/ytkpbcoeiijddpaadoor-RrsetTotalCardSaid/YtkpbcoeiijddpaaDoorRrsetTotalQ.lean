/- RrsetTotal: for every input the law returns true, and each argument reads as before. No condition beyond the given row's own. -/
import Derived.Test.YtkpbcoeiijddpaaDoorRrsetTotalG10
import Derived.Test.YtkpbcoeiijddpaaDoorRows
import Derived.Test.YtkpbcoeiijddpaaDoorCards
import Derived.Test.YtkpbcoeiijddpaaDoorTie
import Derived.Lay
import Derived.LaidOnce
import Derived.SevenTiedAt
import Derived.ChangeVars
import Derived.JoinedOf
import Derived.LaidLaws
import Derived.Handed
import Derived.WalkKit
import Derived.ProofKit
import Derived.OpenShut
import Derived.ShutString
import Derived.ChangeOld
import Derived.Below
import Derived.SizedLaws
open List renaming all_eq_true→B2,append_nil→If
set_option maxHeartbeats 1000000
set_option linter.unusedVariables false
set_option linter.unusedSimpArgs false
namespace Go.Proofs.YtkpbcoeiijddpaaDoor.rrsetTotal
open Go Go.ChangeShapes Go.WideShapes Go.ChangeAt Go.RowKit Go.X
set_option linter.unusedVariables false
theorem own:ownKnob Tryd.prog.godebug=none:=by kernel_rfl
theorem laidOut:laidOutB Tryd.prog=true:=by kernel_rfl
theorem shp:Qg Tryd.prog Tryd.f4.params.toList=some [sq]:=by kernel_rfl
theorem law:∀qs,Oks [sq] qs→G.S G.Br4 1 qs=some [.b true]:=by
 intro qs h
 obtain ⟨p0,r0,rfl,h0,h⟩:=uv h
 obtain rfl:=An5 h
 obtain ⟨x0,w0,rfl⟩:=An6 h0
 exact G.law_RrsetTotal x0 w0
set_option maxRecDepth 100000 in
theorem lifted (os:Os) (started:os.Started) (H:Type) (enc:TypeId×Value→H):
  ReturnsInHanded {} Tryd.checked os 4 .any (fun w args=>(Rows.rrsetTotalSpec.pre enc Tryd.prog Tryd.f4 [] false w args∧laidMetH Tryd.prog Rows.rrsetTotalRow.laid w)∧sizedMet enc Tryd.prog Tryd.f4 (OpenSpec.ofChange Rows.rrsetTotalSpec) false w args) (Rows.rrsetTotalSpec.post enc Tryd.prog Tryd.f4 false true false false):=by
 refine returnsInHanded_of_change_and (C:=Tryd.checked) (X:=fun w _=>laidMetH Tryd.prog Rows.rrsetTotalRow.laid w) (fun _ _ _ hh h=>h.of_heap hh) own started (by kernel_rfl) Tryd.func4
  (ChangeSpec.witness_shaped (enc:=enc) (C:=Tryd.checked) (os:=os) (X:=fun w _=>laidMetH Tryd.prog Rows.rrsetTotalRow.laid w) false (World.laidAll Tryd.prog os Rows.rrsetTotalRow.laid) #[.agg #[.string ByteArray.empty, .int .i64 0, .int .i64 0, .bool false, .int .u64 0, .int .u64 0, .string ByteArray.empty, .string ByteArray.empty, .string ByteArray.empty, .int .i64 0, .int .i64 0, .int .i64 0, .int .i64 0, .int .i64 0, .int .i64 0, .int .u64 0, .string ByteArray.empty, .int .i64 0, .int .i64 0, .bool false, .int .u64 0, .int .u64 0, .string ByteArray.empty, .string ByteArray.empty, .string ByteArray.empty, .int .i64 0, .int .i64 0, .int .i64 0, .int .i64 0, .int .i64 0, .int .i64 0, .int .u64 0, .string ByteArray.empty, .int .i64 0, .int .i64 0, .bool false, .int .u64 0, .int .u64 0, .string ByteArray.empty, .string ByteArray.empty, .string ByteArray.empty, .int .i64 0, .int .i64 0, .int .i64 0, .int .i64 0, .int .i64 0, .int .i64 0, .int .u64 0]] 8 (World.laidAll_os _ _ _)
   (World.shaped_of_ZipB (by kernel_rfl) (by kernel_rfl)) (by kernel_rfl) (by kernel_rfl) (by kernel_rfl)
   (by rw [MakeChecks.laidMetH_plain _ _ _ (by kernel_rfl)];exact laidMet_laidAll _ (by kernel_rfl) (by kernel_rfl))) ?_
 intro W base args ds gs before hval0 hW _ _ _ _
 have hval:∀(j:Nat) t v,Tryd.f4.params.toList[j]? =some t→args[j]? =some v→Value.okWide Tryd.prog W .any base t v:=fun j t v ht hv=>hval0 j t v (by simpa using ht) hv
 have hW':=hW
 obtain ⟨p,q,hA0,hV,rfl,hfz,hnd⟩:=hW
 have hA:DataW.TrodAll enc Tryd.prog W 0 (fun _=>true) true Tryd.f4.params.toList args.toList ds p:=hA0
 obtain ⟨rfl,rfl⟩:=trodVars_none hV
 refine (law_calls G.ext_mono G.Bf5 G.Cj9 (ft:=⟨1,0,G.Bh2⟩) (f:=4) (by kernel_rfl) rfl shp law hval hA).mono fun e W' ⟨he,bel⟩=> ?_
 subst he
 have hback:=V7 laidOut bel (by kernel_rfl) hA
 rw [Tryd.params4] at hA hback
 obtain ⟨v0,vs0,d0,ds0,p0,q0,hargs,rfl,rfl,h0,r0⟩:=trodAll_cons hA
 obtain ⟨rfl,rfl,rfl⟩:=trodAll_nil r0
 simp only [If] at hW'
 exact ⟨_,rfl,_,_,_,[],_,[],hW',trodAll_mk1 (shut_bool Tryd.underlying4 _),hback,rfl,bel.frame _,fun h=>by cases h⟩
theorem over:Rows.rrsetTotalRow.holds Tryd.pinned (OpenSpec.ofChange Rows.rrsetTotalSpec):=
 OpenClaim.holds_of_wide 4 Tryd.f4 rfl rfl rfl rfl rfl rfl rfl ⟨rfl,rfl,rfl,rfl,rfl⟩ rfl rfl rfl rfl rfl (by kernel_rfl) Tryd.func4 (by kernel_rfl)
  (of_decide_eq_true (by kernel_rfl)) (by unfold Func.isWrapper;first|(rw [if_pos (by decide+kernel)];kernel_rfl)|(rw [if_neg (by decide+kernel)];exact ⟨rfl,rfl⟩))
  (fun os started H enc _=>lifted os started H enc)
theorem proved:Rows.RrsetTotalCardSaid:=
 Claim7.holds_tied_plain_at .later [] [.data, .pinned] true (true, "c153469808e0c9fb03acea2cd462661edd01c4f477aafc9171bf4f80a00f466b") false over (fun _ h => by cases h) (by kernel_rfl) (fun _ h => by cases h) rrsetTotal_row_tie rfl ⟨rfl, rfl⟩ (by kernel_rfl) rfl
  (fun f fn hf hfn=>by
   obtain rfl : f = 4 := Option.some.inj ((show Tryd.prog.funcNamed "ddi/ddilaw07.RrsetTotal" = some 4 by kernel_rfl).symm.trans hf) |>.symm
   obtain rfl:fn=Tryd.f4:=(Option.some.inj (Tryd.func4.symm.trans hfn)).symm
   exact ⟨by kernel_rfl,fun j t ht=>by
    rw [Tryd.params4] at ht
    have hm:t∈Tryd.f4.params.toList:=by rw [Tryd.params4];simpa using Array.mem_of_getElem? ht
    have hall:(Tryd.f4.params.toList.all fun t=>Tryd.prog.wantsStandIn t==false)=true:=by kernel_rfl
    exact (by simpa using B2.1 hall t hm:Tryd.prog.wantsStandIn t=false)⟩)
  (by kernel_rfl)
#print axioms proved
end Go.Proofs.YtkpbcoeiijddpaaDoor.rrsetTotal
