/- TrustInsides: for every input the law returns true, and each argument reads as before. No condition beyond the given row's own. -/
import Derived.Test.YtdljoocpdjbhfaaDoorTrustInsidesG9
import Derived.Test.YtdljoocpdjbhfaaDoorRows
import Derived.Test.YtdljoocpdjbhfaaDoorCards
import Derived.Test.YtdljoocpdjbhfaaDoorTie
import Derived.Lay
import Derived.LaidOnce
import Derived.SevenTiedAt
import Derived.ChangeVars
import Derived.JoinedOf
import Derived.LaidLaws
import Derived.Handed
import Derived.WalkKit
import Derived.ProofKit
import Derived.OpenShut
import Derived.ShutString
import Derived.ChangeOld
import Derived.Below
import Derived.SizedLaws
open List renaming all_eq_true→Bs
set_option maxHeartbeats 1000000
set_option linter.unusedVariables false
set_option linter.unusedSimpArgs false
namespace Go.Proofs.YtdljoocpdjbhfaaDoor.trustInsides
open Go Go.ChangeShapes Go.WideShapes Go.ChangeAt Go.RowKit Go.X
set_option linter.unusedVariables false
theorem own:ownKnob Tryd.prog.godebug=none:=by kernel_rfl
theorem laidOut:laidOutB Tryd.prog=true:=by kernel_rfl
theorem shp:M9 Tryd.prog Tryd.f3.params.toList=some [aj, .s]:=by kernel_rfl
theorem law:∀qs,Oks [aj, .s] qs→G.S G.vf 2 qs=some [.b true]:=by
 intro qs h
 obtain ⟨p0,r0,rfl,h0,h⟩:=Qt h
 obtain ⟨p1,r1,rfl,h1,h⟩:=Qt h
 obtain rfl:=ov h
 obtain ⟨x0,w0,rfl⟩:=oy h0
 obtain ⟨x1,w1,rfl⟩:=ox h1
 exact G.law_TrustInsides x0 x1 w0 w1
set_option maxRecDepth 100000 in
theorem lifted (os:Os) (started:os.Started) (H:Type) (enc:TypeId×Value→H):
  ReturnsInHanded {} Tryd.checked os 3 .any (fun w args=>(Rows.trustInsidesSpec.pre enc Tryd.prog Tryd.f3 [] false w args∧laidMetH Tryd.prog Rows.trustInsidesRow.laid w)∧sizedMet enc Tryd.prog Tryd.f3 (OpenSpec.ofChange Rows.trustInsidesSpec) false w args) (Rows.trustInsidesSpec.post enc Tryd.prog Tryd.f3 false true false false):=by
 refine returnsInHanded_of_change_and (C:=Tryd.checked) (X:=fun w _=>laidMetH Tryd.prog Rows.trustInsidesRow.laid w) (fun _ _ _ hh h=>h.of_heap hh) own started (by kernel_rfl) Tryd.func3
  (ChangeSpec.witness_shaped (enc:=enc) (C:=Tryd.checked) (os:=os) (X:=fun w _=>laidMetH Tryd.prog Rows.trustInsidesRow.laid w) false (World.laidAll Tryd.prog os Rows.trustInsidesRow.laid) #[.agg #[.int .i64 0, .int .i64 0, .int .i64 0, .bool false, .bool false, .bool false, .bool false, .bool false, .bool false, .bool false, .bool false, .int .i64 0, .string ByteArray.empty, .int .i64 0, .slice none 0 0, .slice none 0 0, .slice none 0 0], .string ByteArray.empty] 8 (World.laidAll_os _ _ _)
   (World.shaped_of_ZipB (by kernel_rfl) (by kernel_rfl)) (by kernel_rfl) (by kernel_rfl) (by kernel_rfl)
   (by rw [MakeChecks.laidMetH_plain _ _ _ (by kernel_rfl)];exact laidMet_laidAll _ (by kernel_rfl) (by kernel_rfl))) ?_
 intro W base args ds gs before hval0 hW _ _ _ _
 have hval:∀(j:Nat) t v,Tryd.f3.params.toList[j]? =some t→args[j]? =some v→Value.okWide Tryd.prog W .any base t v:=fun j t v ht hv=>hval0 j t v (by simpa using ht) hv
 have hW':=hW
 obtain ⟨p,q,hA0,hV,rfl,hfz,hnd⟩:=hW
 have hA:DataW.TrodAll enc Tryd.prog W 0 (fun _=>true) true Tryd.f3.params.toList args.toList ds p:=hA0
 obtain ⟨rfl,rfl⟩:=trodVars_none hV
 refine (law_calls G.ext_mono G.tq G.wk (ft:=⟨2,0,G.tg⟩) (f:=3) (by kernel_rfl) rfl shp law hval hA).mono fun e W' ⟨he,bel⟩=> ?_
 subst he
 have hback:=Ry laidOut bel (by kernel_rfl) hA
 rw [Tryd.params3] at hA hback
 obtain ⟨v0,vs0,d0,ds0,p0,q0,hargs,rfl,rfl,h0,r0⟩:=trodAll_cons hA
 obtain ⟨v1,vs1,d1,ds1,p1,q1,rfl,rfl,rfl,h1,r1⟩:=trodAll_cons r0
 obtain ⟨rfl,rfl,rfl⟩:=trodAll_nil r1
 simp only [List.append_nil] at hW'
 exact ⟨_,rfl,_,_,_,[],_,[],hW',trodAll_mk1 (shut_bool Tryd.underlying4 _),hback,rfl,bel.frame _,fun h=>by cases h⟩
theorem over:Rows.trustInsidesRow.holds Tryd.pinned (OpenSpec.ofChange Rows.trustInsidesSpec):=
 OpenClaim.holds_of_wide 3 Tryd.f3 rfl rfl rfl rfl rfl rfl rfl ⟨rfl,rfl,rfl,rfl,rfl⟩ rfl rfl rfl rfl rfl (by kernel_rfl) Tryd.func3 (by kernel_rfl)
  (of_decide_eq_true (by kernel_rfl)) (by unfold Func.isWrapper;first|(rw [if_pos (by decide+kernel)];kernel_rfl)|(rw [if_neg (by decide+kernel)];exact ⟨rfl,rfl⟩))
  (fun os started H enc _=>lifted os started H enc)
theorem proved:Rows.TrustInsidesCardSaid:=
 Claim7.holds_tied_plain_at .later [] [.data, .pinned] true (true, "dd8431b27c017a3438653fec93a8bd94514dbae0b76e65b5ea4dd4ce96b02906") false over (fun _ h => by cases h) (by kernel_rfl) (fun _ h => by cases h) trustInsides_row_tie rfl ⟨rfl, rfl⟩ (by kernel_rfl) rfl
  (fun f fn hf hfn=>by
   obtain rfl : f = 3 := Option.some.inj ((show Tryd.prog.funcNamed "ddi/ddilaw30.TrustInsides" = some 3 by kernel_rfl).symm.trans hf) |>.symm
   obtain rfl:fn=Tryd.f3:=(Option.some.inj (Tryd.func3.symm.trans hfn)).symm
   exact ⟨by kernel_rfl,fun j t ht=>by
    rw [Tryd.params3] at ht
    have hm:t∈Tryd.f3.params.toList:=by rw [Tryd.params3];simpa using Array.mem_of_getElem? ht
    have hall:(Tryd.f3.params.toList.all fun t=>Tryd.prog.wantsStandIn t==false)=true:=by kernel_rfl
    exact (by simpa using Bs.1 hall t hm:Tryd.prog.wantsStandIn t=false)⟩)
  (by kernel_rfl)
#print axioms proved
end Go.Proofs.YtdljoocpdjbhfaaDoor.trustInsides
