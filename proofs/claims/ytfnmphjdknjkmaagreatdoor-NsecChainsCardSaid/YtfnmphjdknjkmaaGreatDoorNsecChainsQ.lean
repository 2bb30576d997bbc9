/- NsecChains: for every input the law returns true, and each argument reads as before. No condition beyond the given row's own. -/
import Derived.Test.YtfnmphjdknjkmaaGreatDoorNsecChainsG14
import Derived.Test.YtfnmphjdknjkmaaGreatDoorNsecChainsG10
import Derived.Test.YtfnmphjdknjkmaaGreatDoorRows
import Derived.Test.YtfnmphjdknjkmaaGreatDoorCards
import Derived.Test.YtfnmphjdknjkmaaGreatDoorTie
import Derived.Lay
import Derived.LaidOnce
import Derived.SevenTiedAt
import Derived.ChangeVars
import Derived.JoinedOf
import Derived.LaidLaws
import Derived.Handed
import Derived.WalkKit
import Derived.ProofKit
import Derived.OpenShut
import Derived.ShutString
import Derived.ChangeOld
import Derived.Below
import Derived.SizedLaws
open List renaming all_eq_true→C0,append_nil→E3
set_option maxHeartbeats 1000000
set_option linter.unusedVariables false
set_option linter.unusedSimpArgs false
namespace Go.Proofs.YtfnmphjdknjkmaaGreatDoor.nsecChains
open Go Go.ChangeShapes Go.WideShapes Go.ChangeAt Go.RowKit Go.X
set_option linter.unusedVariables false
theorem own:ownKnob Tryz.prog.godebug=none:=by kernel_rfl
theorem laidOut:laidOutB Tryz.prog=true:=by kernel_rfl
theorem shp:rn Tryz.prog Tryz.f7.params.toList=some [rt,.s]:=by kernel_rfl
theorem law:∀qs,Oks [rt,.s] qs→G.S G.Iv6 2 qs=some [.b true]:=by
 intro qs h
 obtain⟨p0,r0,rfl,h0,h⟩:=Bg0 h
 obtain⟨p1,r1,rfl,h1,h⟩:=Bg0 h
 obtain rfl:=Gg5 h
 obtain⟨x0,w0,rfl⟩:=Fb9 h0
 obtain⟨x1,w1,rfl⟩:=Gg8 h1
 exact G.law_NsecChains x0 x1 w0 w1
set_option maxRecDepth 100000 in
theorem lifted (os:Os) (started:os.Started) (H:Type) (enc:TypeId×Value→H):
  ReturnsInHanded {} Tryz.checked os 7 .any (fun w args=>(Rows.nsecChainsSpec.pre enc Tryz.prog Tryz.f7 [] false w args∧laidMetH Tryz.prog Rows.nsecChainsRow.laid w)∧sizedMet enc Tryz.prog Tryz.f7 (OpenSpec.ofChange Rows.nsecChainsSpec) false w args) (Rows.nsecChainsSpec.post enc Tryz.prog Tryz.f7 false true false false):=by
 refine returnsInHanded_of_change_and (C:=Tryz.checked) (X:=fun w _=>laidMetH Tryz.prog Rows.nsecChainsRow.laid w) (fun _ _ _ hh h=>h.of_heap hh) own started (by kernel_rfl) Tryz.func7
  (ChangeSpec.witness_shaped (enc:=enc) (C:=Tryz.checked) (os:=os) (X:=fun w _=>laidMetH Tryz.prog Rows.nsecChainsRow.laid w) false (World.laidAll Tryz.prog os Rows.nsecChainsRow.laid) #[.agg #[.string ByteArray.empty,.slice none 0 0],.string ByteArray.empty] 8 (World.laidAll_os _ _ _)
   (World.shaped_of_ZipB (by kernel_rfl) (by kernel_rfl)) (by kernel_rfl) (by kernel_rfl) (by kernel_rfl)
   (by rw[MakeChecks.laidMetH_plain _ _ _ (by kernel_rfl)];exact laidMet_laidAll _ (by kernel_rfl) (by kernel_rfl))) ?_
 intro W base args ds gs before hval0 hW _ _ _ _
 have hval:∀(j:Nat) t v,Tryz.f7.params.toList[j]? =some t→args[j]? =some v→Value.okWide Tryz.prog W .any base t v:=fun j t v ht hv=>hval0 j t v (by simpa using ht) hv
 have hW':=hW
 obtain⟨p,q,hA0,hV,rfl,hfz,hnd⟩:=hW
 have hA:DataW.TrodAll enc Tryz.prog W 0 (fun _=>true) true Tryz.f7.params.toList args.toList ds p:=hA0
 obtain⟨rfl,rfl⟩:=trodVars_none hV
 refine(law_calls G.ext_mono G.Hb4 G.Im9 (ft:=⟨2,0,G.Hb6⟩) (f:=7) (by kernel_rfl) rfl shp law hval hA).mono fun e W' ⟨he,bel⟩=> ?_
 subst he
 have hback:=Bs4 laidOut bel (by kernel_rfl) hA
 rw[Tryz.params7] at hA hback
 obtain⟨v0,vs0,d0,ds0,p0,q0,hargs,rfl,rfl,h0,r0⟩:=trodAll_cons hA
 obtain⟨v1,vs1,d1,ds1,p1,q1,rfl,rfl,rfl,h1,r1⟩:=trodAll_cons r0
 obtain⟨rfl,rfl,rfl⟩:=trodAll_nil r1
 simp only[E3] at hW'
 exact⟨_,rfl,_,_,_,[],_,[],hW',trodAll_mk1 (shut_bool Tryz.underlying4 _),hback,rfl,bel.frame _,fun h=>by cases h⟩
theorem over:Rows.nsecChainsRow.holds Tryz.pinned (OpenSpec.ofChange Rows.nsecChainsSpec):=
 OpenClaim.holds_of_wide 7 Tryz.f7 rfl rfl rfl rfl rfl rfl rfl ⟨rfl,rfl,rfl,rfl,rfl⟩ rfl rfl rfl rfl rfl (by kernel_rfl) Tryz.func7 (by kernel_rfl)
  (of_decide_eq_true (by kernel_rfl)) (by unfold Func.isWrapper;first|(rw[if_pos (by decide+kernel)];kernel_rfl)|(rw[if_neg (by decide+kernel)];exact⟨rfl,rfl⟩))
  (fun os started H enc _=>lifted os started H enc)
theorem proved:Rows.NsecChainsCardSaid:=
 Claim7.holds_tied_plain_at .later [] [.data, .pinned] true (true, "5719ad2ab0698bc57f57a96a12c6dcba05b4eedcff4a1b25c860030201da39c7") false over (fun _ h => by cases h) (by kernel_rfl) (fun _ h => by cases h) nsecChains_row_tie rfl ⟨rfl, rfl⟩ (by kernel_rfl) rfl
  (fun f fn hf hfn=>by
   obtain rfl : f = 7 := Option.some.inj ((show Tryz.prog.funcNamed "ddi/ddilaw20.NsecChains" = some 7 by kernel_rfl).symm.trans hf) |>.symm
   obtain rfl:fn=Tryz.f7:=(Option.some.inj (Tryz.func7.symm.trans hfn)).symm
   exact⟨by kernel_rfl,fun j t ht=>by
    rw[Tryz.params7] at ht
    have hm:t∈Tryz.f7.params.toList:=by rw[Tryz.params7];simpa using Array.mem_of_getElem? ht
    have hall:(Tryz.f7.params.toList.all fun t=>Tryz.prog.wantsStandIn t==false)=true:=by kernel_rfl
    exact(by simpa using C0.1 hall t hm:Tryz.prog.wantsStandIn t=false)⟩)
  (by kernel_rfl)
#print axioms proved
end Go.Proofs.YtfnmphjdknjkmaaGreatDoor.nsecChains
