/- Functions. -/
import Derived.Test.YtbjmmfaolmclfaaGreatDoorIteratePlaysG3
import GoSem.ClaimChange
import Derived.WideShapes
import Derived.ChangeShapes
import Derived.OpenShut
import Derived.Carry
import Derived.SizedLaws
import Derived.Lib.Bytealg
import Derived.IntWalk
set_option maxHeartbeats 1000000
set_option linter.unusedVariables false
set_option linter.unusedSimpArgs false
namespace Go.X
open Go Go.RowKit

section
variable {P : Program} {sig : Nat → Option Nat} {fn : Fns} {w0 : Fr} {Oe : Nat → Option Nat} {N : Nat}

theorem start_ok {func : Func} {args : List PV} {w : World} {O : Nat → Option Nat} {cargs : Array Value} (hg : Given w O func.params.size args cargs) (hl : args.length = func.params.size + func.nfree) (ht : func.params.size + func.nfree ≤ func.ntmps) {fa : Option Nat} (hfa : ∀ e, fa = some e → ∃ xs b, args[0]? = some (.l (Aj0 P e) xs) ∧ cargs[0]? = some (.slice b xs.length xs.length)) :
  Rels ⟨w, none⟩ O args (start P none fa func) (cargs ++ Array.replicate (func.ntmps - cargs.size) undef) w := by
 refine ⟨fun _ => 0, fun _ => undef, O, Bel.refl ⟨w, none⟩, fun _ _ _ => rfl, hg.out, ?_, fun s b hs => by simp [start, mget] at hs, fun s s' b b' hs => by simp [start, mget] at hs, fun v hv => by cases hv⟩
 have hsz := hg.size
 refine Aj5.mk (by simp [start]; omega) fun j x v hx hv => ?_
 simp only [start, Option.isSome_none, Bool.false_eq_true, false_and, if_false] at hx
 rw [List.append_assoc] at hx
 by_cases h1 : j < func.params.size
 ·rw [List.getElem?_append_left (by simpa using h1)] at hx
  simp only [List.getElem?_map, Option.map_eq_some_iff] at hx
  obtain ⟨k, hk, rfl⟩ := hx
  rw [List.getElem?_range h1] at hk; injection hk with hk; subst hk
  have hp : args[j]? = some args[j] := List.getElem?_eq_getElem (by omega)
  rw [Array.getElem?_toList, Array.getElem?_append_left (by omega)] at hv
  have hval := hg.val j _ v h1 hp hv
  have plain : Aj1 ⟨args, view w O, fun _ => 0, fun _ => undef, (start P none fa func).m⟩ (.e (.v j)) v := by
   simp only [Aj1, E.ev]
   exact ⟨args[j], hp, hval⟩
  by_cases hj0 : j = 0
  ·rw [if_pos hj0]
   cases fa with
   | none => exact plain
   | some e =>
     obtain ⟨xs, b, h5, h6⟩ := hfa e rfl
     subst hj0
     rw [hp] at h5
     injection h5 with h5
     rw [hv] at h6
     injection h6 with h6
     simp only [Aj1, E.ev]
     exact ⟨xs, b, by rw [hp, h5], h6, by rw [← h5]; exact hval⟩
  ·rw [if_neg hj0]; exact plain
 ·rw [List.getElem?_append_right (by simpa using Nat.le_of_not_lt h1)] at hx
  simp only [List.length_map, List.length_range] at hx
  by_cases h2 : j < func.params.size + func.nfree
  ·rw [List.getElem?_append_left (by simp; omega)] at hx
   simp only [List.getElem?_map, Option.map_eq_some_iff] at hx
   obtain ⟨k, hk, rfl⟩ := hx
   rw [List.getElem?_range (by omega)] at hk; injection hk with hk; subst hk
   simp only [Aj1, E.ev, List.drop_zero]
   have hjj : func.params.size + (j - func.params.size) = j := by omega
   rw [hjj]
   have hp : args[j]? = some args[j] := List.getElem?_eq_getElem (by omega)
   refine ⟨args[j], hp, hg.cap j _ v (by omega) hp ?_⟩
   rw [Array.getElem?_toList, Array.getElem?_append_left (by omega)] at hv
   exact hv
  ·rw [List.getElem?_append_right (by simp; omega), List.getElem?_replicate] at hx
   split at hx
   ·injection hx with hx; subst hx; simp only [Aj1]
   ·cases hx

theorem Own.mono' {B B' : Nat → Prop} {w : World} {e size n : Nat} {v : Value} {xs : List Value} (h : Own w B e size v n xs) (hb : ∀ g, Ak0 v = some g → B' g) : Own w B' e size v n xs := by
 refine ⟨h.1, ?_⟩
 rcases h.2 with h1 | ⟨g, cap, cur, h1, h2, h3, h4⟩
 ·exact .inl h1
 ·exact .inr ⟨g, cap, cur, h1, h2, hb g (by rw [h1]; simp only [Ak0, if_neg (show ¬ cap = 0 by omega)]), h4⟩
theorem Fh7 {func : Func} {e : Nat} {r : Bool} {args : List PV} {w : World} {O : Nat → Option Nat} {cargs : Array Value} {v0 : Value} {xs : List PV} {us : List Value} (hg : GivenM P e w O func.params.size args cargs v0 xs us) (hl : args.length = func.params.size + func.nfree) (ht : func.params.size + func.nfree ≤ func.ntmps) :
  Rels ⟨w, some v0⟩ O args (start P (some (e, r)) none func) (cargs ++ Array.replicate (func.ntmps - cargs.size) undef) w := by
 have hsz := hg.size
 have hpos := hg.pos
 have hmem : ∀ s b, mget (start P (some (e, r)) none func).m s = some b → s = S0 ∧ b = .arr e (Aj0 P e) (.v 0) false := by
  intro s b hs
  simp only [start, mget] at hs
  split at hs
  ·rename_i h1; injection hs with hs; exact ⟨h1.symm, hs.symm⟩
  ·cases hs
 have harg : ∀ v, (cargs ++ Array.replicate (func.ntmps - cargs.size) undef)[0]? = some v → v = v0 := by
  intro v hv
  rw [Array.getElem?_append_left (by omega), hg.arg] at hv
  injection hv with hv; exact hv.symm
 refine ⟨fun _ => (Ak0 v0).getD 0, fun _ => v0, O, Bel.refl ⟨w, some v0⟩, fun _ _ _ => rfl, hg.out, ?_, fun s b hs => ?_, fun s s' b b' hs hs' hne => ?_, fun v hv _ => ?_⟩
 ·refine Aj5.mk (by simp [start]; omega) fun j x v hx hv => ?_
  simp only [start, Option.isSome_some, true_and] at hx
  rw [List.append_assoc] at hx
  by_cases h1 : j < func.params.size
  ·rw [List.getElem?_append_left (by simpa using h1)] at hx
   simp only [List.getElem?_map, Option.map_eq_some_iff] at hx
   obtain ⟨k, hk, rfl⟩ := hx
   rw [List.getElem?_range h1] at hk; injection hk with hk; subst hk
   by_cases hj : j = 0
   ·subst hj
    simp only [if_true, Aj1]
    exact harg v (by rw [← Array.getElem?_toList]; exact hv)
   ·simp only [if_neg hj, Aj1, E.ev]
    have hp : args[j]? = some args[j] := List.getElem?_eq_getElem (by omega)
    refine ⟨args[j], hp, hg.val j _ v (by omega) h1 hp ?_⟩
    rw [Array.getElem?_toList, Array.getElem?_append_left (by omega)] at hv
    exact hv
  ·rw [List.getElem?_append_right (by simpa using Nat.le_of_not_lt h1)] at hx
   simp only [List.length_map, List.length_range] at hx
   by_cases h2 : j < func.params.size + func.nfree
   ·rw [List.getElem?_append_left (by simp; omega)] at hx
    simp only [List.getElem?_map, Option.map_eq_some_iff] at hx
    obtain ⟨k, hk, rfl⟩ := hx
    rw [List.getElem?_range (by omega)] at hk; injection hk with hk; subst hk
    simp only [Aj1, E.ev, List.drop_zero]
    have hjj : func.params.size + (j - func.params.size) = j := by omega
    rw [hjj]
    have hp : args[j]? = some args[j] := List.getElem?_eq_getElem (by omega)
    refine ⟨args[j], hp, hg.cap j _ v (by omega) hp ?_⟩
    rw [Array.getElem?_toList, Array.getElem?_append_left (by omega)] at hv
    exact hv
   ·rw [List.getElem?_append_right (by simp; omega), List.getElem?_replicate] at hx
    split at hx
    ·injection hx with hx; subst hx; simp only [Aj1]
    ·cases hx
 ·obtain ⟨rfl, rfl⟩ := hmem s b hs
  refine ⟨hg.sz, xs, us, ?_, hg.own.mono' fun g hgb => .inr hgb, hg.el, fun g hgb => ?_⟩
  ·show (E.v 0).ev args = _
   simp only [E.ev]; exact hg.fst
  ·have hgb' : Ak0 v0 = some g := hgb
   refine ⟨?_, 0, hg.shut g hgb', Nat.zero_le _, fun _ => rfl⟩
   show g = (Ak0 v0).getD 0
   rw [hgb']; rfl
 ·obtain ⟨rfl, _⟩ := hmem s b hs
  obtain ⟨rfl, _⟩ := hmem s' b' hs'
  exact absurd rfl hne
 ·injection hv with hv
  subst hv
  rw [Array.getElem?_append_left (by omega)]
  exact hg.arg

theorem Eg7 {α : Type} {w : World} {g : α → Sem Value} : ∀ {l : List α} {us : List Value}, us.length = l.length → (∀ (j : Nat) (x : α) (u : Value), l[j]? = some x → us[j]? = some u → (g x).run P w = .ok u w) → (l.mapM g).run P w = .ok us w
 | [], us, hl, _ => by
   have : us = [] := List.eq_nil_of_length_eq_zero (by simpa using hl)
   subst this; simp
 | x :: l, [], hl, _ => by simp at hl
 | x :: l, u :: us, hl, h => by
   have h1 := h 0 x u rfl rfl
   have h2 := Eg7 (l := l) (us := us) (by simpa using hl) (fun j y v hy hv => h (j + 1) y v (by simpa using hy) (by simpa using hv))
   simp [List.mapM_cons, h1, h2]

def gR (tm : Array Value) : ResultVar → Sem Value
 | .tmp t => pure (tm.getD t undef)
 | .cell a t => do loadVar t (← asAddr (tm.getD a undef))
theorem Bv3 {func : Func} {σ : St} {η : List PV} {tm : Array Value} {w : World} {β : Nat → Nat} {hv : Nat → Value} {O : Nat → Option Nat} {svs : List SV} (h : Rel w0 Oe η σ tm w β hv O) (hs : Af0 P σ func.results.toList = some svs) :
  ∃ us, Aj5 ⟨η, view w O, β, hv, σ.m⟩ svs us ∧ (Go.results func tm).run P w = .ok (if h : us.length = 1 then us[0] else .tuple us.toArray) w := by
 have go : ∀ {l : List ResultVar} {svs : List SV}, Af0 P σ l = some svs → ∃ us : List Value, Aj5 ⟨η, view w O, β, hv, σ.m⟩ svs us ∧ us.length = l.length ∧ ∀ (j : Nat) (x : ResultVar) (u : Value), l[j]? = some x → us[j]? = some u →
   (gR tm x).run P w = .ok u w := by
  intro l
  induction l with
  | nil =>
    intro svs h
    simp only [Af0, Option.some.injEq] at h; subst h
    exact ⟨[], by simp only [Aj5], rfl, fun j x u hx => by simp at hx⟩
  | cons r l ih =>
    intro svs hs
    simp only [Af0] at hs
    split at hs
    ·rename_i x xs hx hxs
     injection hs with hs; subst hs
     obtain ⟨us, u1, u2, u3⟩ := ih hxs
     have one : ∃ u, Aj1 ⟨η, view w O, β, hv, σ.m⟩ x u ∧ (gR tm r).run P w = .ok u w := by
      cases r with
      | tmp t =>
        simp only [Ic2] at hx
        obtain ⟨u, h1, h2⟩ := h.tmps.get t x hx
        refine ⟨u, h2, ?_⟩
        rw [Array.getElem?_toList] at h1
        simp [gR, Array.getD_eq_getD_getElem?, h1]
      | cell p t =>
        simp only [Ic2] at hx
        split at hx
        ·rename_i sv hsv
         split at hx
         ·rename_i v hl
          injection hx with hx; subst hx
          obtain ⟨u0, h1, h2⟩ := h.tmps.get p sv hsv
          rw [Array.getElem?_toList] at h1
          obtain ⟨ad, u, g1, g2, g3⟩ := Gz1 (G := none) h (fun g hg => by cases hg) h2 hl (fun x hx => by simp at hx)
          subst g1
          refine ⟨u, g3, ?_⟩
          simp [gR, Array.getD_eq_getD_getElem?, h1, asAddr, g2]
         ·cases hx
        ·cases hx
     obtain ⟨u, v1, v2⟩ := one
     refine ⟨u :: us, by simp only [Aj5]; exact ⟨u, us, rfl, v1, u1⟩, by simp [u2], fun j y u' hy hu => ?_⟩
     cases j with
     | zero => simp at hy hu; subst hy; subst hu; exact v2
     | succ j => exact u3 j y u' (by simpa using hy) (by simpa using hu)
    ·cases hs
 obtain ⟨us, u1, u2, u3⟩ := go hs
 refine ⟨us, u1, ?_⟩
 have hm := Eg7 (P := P) (w := w) (g := gR tm) u2 u3
 have e : Go.results func tm = (do let vs ← List.toArray <$> func.results.toList.mapM (gR tm); pure (if h : vs.size = 1 then vs[0] else .tuple vs)) := by
  unfold Go.results
  rw [Array.mapM_eq_mapM_toList]
  have he : ∀ x, (match x with | ResultVar.tmp t => pure (tm.getD t undef) | ResultVar.cell a t => do loadVar t (← asAddr (tm.getD a undef)) : Sem Value) = gR tm x := fun x => by cases x <;> rfl
  congr
 rw [e]
 simp only [Sem.run_bind, Sem.run_map]
 rw [hm]
 simp only [Result.andThen, Sem.run_pure]
 by_cases h1 : us.length = 1
 ·rw [dif_pos h1]
  have : us.toArray.size = 1 := by simpa using h1
  simp only [this, dif_pos]; simp
 ·rw [dif_neg h1]
  have : ¬ us.toArray.size = 1 := by simpa using h1
  rw [dif_neg this]

theorem Cr6 {func : Func} {σ : St} {η : List PV} {tm : Array Value} {w : World} {β : Nat → Nat} {hv : Nat → Value} {O : Nat → Option Nat} {cs : List SV} (h : Rel w0 Oe η σ tm w β hv O) {svs : List SV} (hsv : Af0 P σ func.results.toList = some svs) (hs : An8 P σ func.results.toList = some cs) :
  ∃ vs : Array Value, (Go.results func tm).run P w = .ok (.agg vs) w ∧ Aj5 ⟨η, view w O, β, hv, σ.m⟩ cs vs.toList := by
 have e : ∀ x : ResultVar, func.results.toList = [x] → ∀ v, (gR tm x).run P w = .ok v w → (Go.results func tm).run P w = .ok v w := by
  intro x hx v hv1
  have e : Go.results func tm = (do let vs ← List.toArray <$> func.results.toList.mapM (gR tm); pure (if h : vs.size = 1 then vs[0] else .tuple vs)) := by
   unfold Go.results
   rw [Array.mapM_eq_mapM_toList]
   have he : ∀ x, (match x with | ResultVar.tmp t => pure (tm.getD t undef) | ResultVar.cell a t => do loadVar t (← asAddr (tm.getD a undef)) : Sem Value) = gR tm x := fun x => by cases x <;> rfl
   congr
  rw [e, hx]
  simp [List.mapM_cons, hv1, Result.andThen]
 unfold An8 at hs
 split at hs
 ·rename_i p t hr
  split at hs
  ·rename_i hag
   split at hs
   ·rename_i s off hp
    split at hs
    ·rename_i cs0 ro hb
     injection hs with hs
     subst hs
     obtain ⟨_, _, vs, T, g3, g4, g5, _⟩ := h.mem s _ hb
     obtain ⟨u0, h1, h2⟩ := h.tmps.get p _ hp
     rw [Array.getElem?_toList] at h1
     simp only [Aj1] at h2
     subst h2
     have hle : off + Aj0 P t ≤ cs0.length := by
      rw [hr] at hsv
      simp only [Af0, Ic2, hp] at hsv
      unfold Ap3 at hsv
      by_cases hle : off + Aj0 P t ≤ cs0.length
      ·exact hle
      ·simp only [hb, hag, if_true, if_neg hle] at hsv
       split at hsv
       ·rename_i hx _
        split at hx
        ·rename_i hl
         split at hl <;> cases hl
        ·cases hx
       ·cases hsv
     have hlen := g5.length
     refine ⟨((vs.toList.drop off).take (Aj0 P t)).toArray, e _ hr _ ?_, ?_⟩
     ·have := Ad7 (P := P) w (a := ⟨β s, off, none⟩) (us := (vs.toList.drop off).take (Aj0 P t)) hag (by simp at hlen ⊢; omega) fun j u hu => by
       rw [List.getElem?_take] at hu
       split at hu
       ·rw [List.getElem?_drop, Array.getElem?_toList] at hu
        rw [add_lit, cell_of_row w (β s) (off + j) vs T (0, 0) g3]; exact hu
       ·cases hu
      simp [gR, Array.getD_eq_getD_getElem?, h1, asAddr, this]
     ·refine Aj5.mk (by simp [hlen]) fun j y u hy hu => ?_
      rw [List.getElem?_take] at hy
      split at hy
      ·rename_i hj
       have hu' : ((vs.toList.drop off).take (Aj0 P t))[j]? = some u := by simpa using hu
       rw [List.getElem?_take, if_pos hj] at hu'
       rw [List.getElem?_drop] at hy hu'
       obtain ⟨u', hu2, hr'⟩ := g5.get _ y hy
       rw [hu'] at hu2; injection hu2 with hu2; subst hu2; exact hr'
      ·cases hy
    ·cases hs
   ·cases hs
  ·cases hs
 ·rename_i t hr
  split at hs
  ·rename_i cs0 hp
   injection hs with hs
   subst hs
   obtain ⟨u0, h1, h2⟩ := h.tmps.get t _ hp
   rw [Array.getElem?_toList] at h1
   simp only [Aj1] at h2
   obtain ⟨vs, rfl, _, h3⟩ := h2
   exact ⟨vs, e _ hr _ (by simp [gR, Array.getD_eq_getD_getElem?, h1]), h3⟩
  ·cases hs
 ·cases hs
theorem Cn6 (hC : Contract P sig fn) {f : Nat} (hmu : muOf (sig f) = none) {func : Func} {H : Hints} {t : T} {args rs : List PV} (hf : P.funcs[f]? = some func) (hx : xfun P sig f func H = some t) (hev : t.ev fn N args = some (.ret rs)) (hl : args.length = func.params.size + func.nfree) {w : World} {O : Nat → Option Nat} {cargs : Array Value} (hg : Given w O func.params.size args cargs) (hfa : ∀ e, faOf (sig f) = some e → ∃ xs b, args[0]? = some (.l (Aj0 P e) xs) ∧ cargs[0]? = some (.slice b xs.length xs.length)) :
  Calls P f cargs w fun e w' => ∃ v, e = .returned v ∧ Back P (sig f) w O rs v w' := by
 unfold xfun at hx
 split at hx
 ·rename_i c hb
  split at hx
  ·rename_i ht
   rw [hmu] at hx
   simp only [Option.isSome_none, Bool.false_eq_true, false_and, if_false] at hx
   refine calls_of_wp hf hb ?_
   refine Ar7 hC c 0 0 (start P none (faOf (sig f)) func) _ t args (.ret rs) _ w _ hx hev (by rw [hl]; rfl) (start_ok hg hl ht hfa) ?_
   intro x σ' T' η' ζ a' w' h1 h2 h3 h4 h5 h6
   have main : ∀ svs, Af0 P σ' func.results.toList = some svs → (match rkOf (sig f) with
     | .own e => Bk1 P σ' e svs
     | .full nl m => match An8 P σ' func.results.toList with
       | some cs => if Eg6 nl m cs then (toEs σ'.m svs).map fun r => .ret r.1 else none
       | none => none
     | .plain => (toEs σ'.m svs).map fun r => .ret r.1) = some T' → ∃ v, (Go.results func a'.tmps).run P w' = .ok v w' ∧ Back P (sig f) w O rs v w' := by
    intro svs hs hT
    obtain ⟨β, hv, O', rel⟩ := h5
    obtain ⟨us, u1, u2⟩ := Bv3 rel hs
    refine ⟨_, u2, rel.bel.below rfl, ?_⟩
    have plainly : ((toEs σ'.m svs).map fun r => T.ret r.1) = some T' → ∃ O'', (∀ c, c < w.heap.size → O'' c = O c) ∧ (∀ c, w'.heap.size ≤ c → O'' c = none) ∧ Ah1 (view w' O'') rs (if h : us.length = 1 then us[0] else .tuple us.toArray) := by
     intro hT
     obtain ⟨⟨es, ss⟩, he, rfl⟩ := Option.map_eq_some_iff.1 hT
     obtain ⟨O'', hrel, hM, hop, _⟩ := rel.frz ss (n := 0)
     obtain ⟨ps, q1, q2, q3⟩ := Ar6 rel hM he u1 (fun s hs => hop s (by simpa using hs))
     simp only [T.ev, Option.map_eq_some_iff] at h2
     obtain ⟨vs, hvs, hret⟩ := h2
     injection hret with hret
     subst hret
     rw [q1] at hvs; injection hvs with hvs; subst hvs
     refine ⟨O'', fun c hc => hrel.ext c hc (by simp [Fr.x]), hrel.out, ?_⟩
     show Ah1 (view w' O'') ps _
     match ps, us, q2, q3 with
     | [p], [u], _, q3 => exact q3 0 p u rfl rfl
     | [], [], _, _ => exact ⟨#[], by simp, rfl, fun j p u hp => by simp at hp⟩
     | p :: p' :: ps, u :: u' :: us, q2, q3 =>
       have : ¬ (u :: u' :: us).length = 1 := by simp
       rw [dif_neg this]
       exact ⟨_, rfl, by simpa using q2.symm, fun j p v hp hv => q3 j p v hp (by simpa using hv)⟩
     | [], _ :: _, q2, _ => simp at q2
     | _ :: _, [], q2, _ => simp at q2
     | [_], _ :: _ :: _, q2, _ => simp at q2
     | _ :: _ :: _, [_], q2, _ => simp at q2
    cases hsig : rkOf (sig f) with
    | plain =>
      rw [hsig] at hT
      exact plainly hT
    | full nl m =>
      rw [hsig] at hT
      simp only at hT
      split at hT
      ·rename_i cs hcs
       split at hT
       ·rename_i hmask
        obtain ⟨O'', g1, g2, g3⟩ := plainly hT
        refine ⟨O'', g1, g2, g3, ?_⟩
        have hagg : ∃ vs : Array Value, (Go.results func a'.tmps).run P w' = .ok (.agg vs) w' ∧ Aj5 ⟨η', view w' O', β, hv, σ'.m⟩ cs vs.toList := Cr6 rel hs hcs
        obtain ⟨vs, hrun, hcells⟩ := hagg
        rw [u2] at hrun
        injection hrun with hrun _
        rw [hrun]
        intro j hj
        simp only [Eg6, Bool.and_eq_true, decide_eq_true_eq, List.all_eq_true, List.mem_range, Bool.or_eq_true, Bool.not_eq_true'] at hmask
        have hjl : j < cs.length := by
         rcases Nat.lt_or_ge j cs.length with h | h
         ·exact h
         ·have := Nat.testBit_lt_two_pow (Nat.lt_of_lt_of_le hmask.1 (Nat.pow_le_pow_right (by omega) h))
          rw [this] at hj; cases hj
        have hcj : cs[j]? = some cs[j] := List.getElem?_eq_getElem hjl
        obtain ⟨u, hu, hru⟩ := hcells.get j _ hcj
        rw [Array.getElem?_toList] at hu
        have hnr := (hmask.2 j hjl).resolve_left (by rw [hj]; simp)
        have hgd : cs.getD j .und = cs[j] := by simp [List.getD_eq_getElem?_getD, hcj]
        rw [hgd] at hnr
        generalize cs[j] = x at hru hnr
        cases x with
        | nil sz =>
          simp only [Aj1] at hru
          exact ⟨vs, none, 0, rfl, by rw [hu, hru], fun _ => ⟨rfl, rfl⟩⟩
        | lit sz y =>
          simp only [Aj1] at hru
          obtain ⟨xs, b, _, h5, _⟩ := hru
          refine ⟨vs, b, xs.length, rfl, by rw [hu, h5], fun hn => ?_⟩
          rw [hn] at hnr
          simp [SV.noRoom] at hnr
        | _ => simp [SV.noRoom] at hnr
       ·cases hT
      ·cases hT
    | own e =>
      rw [hsig] at hT
      simp only at hT
      refine ⟨O', fun c hc => rel.ext c hc (by simp [Fr.x]), rel.out, ?_⟩
      unfold Bk1 at hT
      split at hT
      ·rename_i s
       split at hT
       ·rename_i e' sz x hb'
        split at hT
        ·rename_i hcond
         obtain ⟨rfl, rfl⟩ := hcond
         injection hT with hT
         subst hT
         obtain ⟨q0, xs, cs, q1, q2, q3, q4⟩ := rel.mem s _ hb'
         have q1' : x.ev η' = some (.l (Aj0 P e') xs) := q1
         simp only [T.ev, E.evs, q1', Option.bind_some, Option.map_some, Option.some.injEq, Out.ret.injEq] at h2
         simp only [Aj5, Aj1] at u1
         obtain ⟨v, r, rfl, hv1, rfl⟩ := u1
         refine ⟨q0, xs, cs, h2.symm, ?_, q3, fun g hg' => ?_⟩
         ·show Own w' (From w.heap.size) e' (Aj0 P e') v xs.length cs
          rw [hv1]
          refine q2.mono fun g hg => ?_
          rcases hg with hg | hg
          ·exact hg
          ·simp [Fr.x] at hg
         ·have hg2 : Ak0 v = some g := hg'
          rw [hv1] at hg2
          obtain ⟨_, lim, h7, _, h8⟩ := q4 g hg2
          rw [h7, h8 rfl]
        ·cases hT
       ·cases hT
      ·rename_i sz
       split at hT
       ·rename_i hcond
        obtain ⟨rfl, h0⟩ := hcond
        injection hT with hT
        subst hT
        simp only [T.ev, E.evs, E.ev, Option.bind_some, Option.map_some, Option.some.injEq, Out.ret.injEq] at h2
        simp only [Aj5, Aj1] at u1
        obtain ⟨v, r, rfl, hv1, rfl⟩ := u1
        refine ⟨h0, [], [], h2.symm, ?_, fun i x hx => by simp at hx, fun g hg' => ?_⟩
        ·show Own w' (From w.heap.size) e (Aj0 P e) v 0 []
         rw [hv1]
         exact ⟨by simp, .inl ⟨none, rfl, rfl⟩⟩
        ·have hg2 : Ak0 v = some g := hg'
         rw [hv1] at hg2
         simp [Ak0] at hg2
       ·cases hT
      ·rename_i sz x
       split at hT
       ·rename_i hcond
        obtain ⟨rfl, h0⟩ := hcond
        injection hT with hT
        subst hT
        simp only [Aj5, Aj1] at u1
        obtain ⟨v, r, rfl, hv1, rfl⟩ := u1
        obtain ⟨xs, b, hxe, hvb, _⟩ := hv1
        have hxe' : x.ev η' = some (.l (Aj0 P e) xs) := hxe
        simp only [T.ev, W.ev, asrt, E.ev, E.evs, hxe', Aw9, X.bin, Av0, Option.bind_some, if_true] at h2
        have hx0 : xs = [] := by
         by_cases hx0 : xs = []
         ·exact hx0
         ·have hl : ((xs.length : Int) == 0) = false := by
           have := List.length_pos_iff.2 hx0
           simp; omega
          rw [hl] at h2
          simp [PV.scal] at h2
        subst hx0
        simp only [List.length_nil] at h2
        have hrs : [PV.l (Aj0 P e) []] = rs := by simpa using h2
        refine ⟨h0, [], [], hrs.symm, ?_, fun i x hx => by simp at hx, fun g hg' => ?_⟩
        ·show Own w' (From w.heap.size) e (Aj0 P e) v 0 []
         rw [hvb]
         exact ⟨by simp, .inl ⟨b, rfl, rfl⟩⟩
        ·have hg2 : Ak0 v = some g := hg'
         rw [hvb] at hg2
         cases b <;> simp [Ak0] at hg2
       ·cases hT
      ·cases hT
   unfold Jz9 at h1
   simp only [hmu] at h1
   have fin : ∀ svs, Af0 P σ' func.results.toList = some svs → (match rkOf (sig f) with
     | .own e => Bk1 P σ' e svs
     | .full nl m => match An8 P σ' func.results.toList with
       | some cs => if Eg6 nl m cs then (toEs σ'.m svs).map fun r => .ret r.1 else none
       | none => none
     | .plain => (toEs σ'.m svs).map fun r => .ret r.1) = some T' → a'.defers = [] ∧ ∃ v, (Go.results func a'.tmps).run P w' = .ok v w' ∧ ∃ v', Ending.returned v = .returned v' ∧ Back P (sig f) w O rs v' w' := by
    intro svs hs hT
    obtain ⟨v, k1, k2⟩ := main svs hs hT
    exact ⟨h6, v, k1, v, rfl, k2⟩
   cases x with
   | exit b => simp at h1
   | normal =>
     simp only at h1
     split at h1
     ·rename_i svs hs
      exact fin svs hs h1
     ·cases h1
   | ret =>
     simp only at h1
     split at h1
     ·rename_i svs hs
      exact fin svs hs h1
     ·cases h1
  ·cases hx
 ·cases hx

theorem Iy2 (hC : Contract P sig fn) {f e : Nat} {r : Bool} (hmu : muOf (sig f) = some (e, r)) {func : Func} {H : Hints} {t : T} {args rs : List PV} (hf : P.funcs[f]? = some func) (hx : xfun P sig f func H = some t) (hev : t.ev fn N args = some (.ret rs)) (hl : args.length = func.params.size + func.nfree) {w : World} {O : Nat → Option Nat} {cargs : Array Value} {v0 : Value} {xs : List PV} {us : List Value} (hg : GivenM P e w O func.params.size args cargs v0 xs us) :
  Calls P f cargs w fun en w' => ∃ v, en = .returned v ∧ Ip2 P e r v0 w O rs v w' := by
 unfold xfun at hx
 split at hx
 ·rename_i c hb
  split at hx
  ·rename_i ht
   rw [hmu, Gg8 hmu] at hx
   have hpos := hg.pos
   have hnp : ¬ ((some (e, r) : Option (Nat × Bool)).isSome = true ∧ func.params.size = 0) := fun h => by omega
   rw [if_neg hnp] at hx
   refine calls_of_wp hf hb ?_
   refine Ar7 hC c 0 0 (start P (some (e, r)) none func) _ t args (.ret rs) _ w _ hx hev (by rw [hl]; rfl) (Fh7 hg hl ht) ?_
   intro x σ' T' η' ζ a' w' h1 h2 h3 h4 h5 h6
   have main : ∀ svs, Af0 P σ' func.results.toList = some svs → Eh0 P σ' e r svs = some T' → ∃ v, (Go.results func a'.tmps).run P w' = .ok v w' ∧ Ip2 P e r v0 w O rs v w' := by
    intro svs hs hT
    obtain ⟨β, hv, O', rel⟩ := h5
    obtain ⟨us1, u1, u2⟩ := Bv3 rel hs
    refine ⟨_, u2, rel.bel, O', fun c hc hx => rel.ext c hc hx, rel.out, ?_⟩
    unfold Eh0 at hT
    split at hT
    ·rename_i s hsel
     split at hT
     ·rename_i e' sz x hb'
      split at hT
      ·rename_i hcond
       obtain ⟨rfl, rfl⟩ := hcond
       injection hT with hT
       subst hT
       obtain ⟨q0, ys, cs, q1, q2, q3, q4⟩ := rel.mem s _ hb'
       have q1' : x.ev η' = some (.l (Aj0 P e') ys) := q1
       simp only [T.ev, E.evs, q1', Option.bind_some, Option.map_some, Option.some.injEq, Out.ret.injEq] at h2
       refine ⟨ys, cs, h2.symm, q3, fun hr => ?_, fun hr => ?_⟩
       ·subst hr
        simp only [if_true] at hsel
        split at hsel
        ·rename_i s'
         injection hsel with hsel
         subst hsel
         simp only [Aj5, Aj1] at u1
         obtain ⟨v, r1, rfl, hv1, rfl⟩ := u1
         refine ⟨?_, fun g hg' => ?_⟩
         ·show Own w' _ e' (Aj0 P e') v ys.length cs
          rw [hv1]; exact q2
         ·have hg2 : Ak0 v = some g := hg'
          rw [hv1] at hg2
          obtain ⟨_, lim, h7, _, h8⟩ := q4 g hg2
          rw [h7, h8 rfl]
        ·cases hsel
       ·subst hr
        simp only [Bool.false_eq_true, if_false] at hsel
        split at hsel
        ·rename_i s' ht0
         split at hsel
         ·rename_i hs0
          injection hsel with hsel
          subst hsel
          subst hs0
          have hvs : hv S0 = v0 := by
           have g1 := rel.t0 v0 rfl ht0
           obtain ⟨v, g2, g3⟩ := rel.tmps.get 0 _ ht0
           rw [Array.getElem?_toList, g1] at g2
           injection g2 with g2
           simp only [Aj1] at g3
           rw [← g3, g2]
          simp only [Aj5] at u1
          subst u1
          refine ⟨rfl, ?_, fun g hg' => ?_⟩
          ·have := q2.mono (B' := fun _ => True) fun _ _ => trivial
           show Own w' _ e' (Aj0 P e') v0 ys.length cs
           rw [← hvs]; exact this
          ·have hg2 : Ak0 (hv S0) = some g := by rw [hvs]; exact hg'
           obtain ⟨_, lim, h7, _, h8⟩ := q4 g hg2
           rw [h7, h8 rfl]
         ·cases hsel
        ·cases hsel
      ·cases hT
     ·cases hT
    ·cases hT
   unfold Jz9 at h1
   simp only [hmu] at h1
   have fin : ∀ svs, Af0 P σ' func.results.toList = some svs → Eh0 P σ' e r svs = some T' → a'.defers = [] ∧ ∃ v, (Go.results func a'.tmps).run P w' = .ok v w' ∧ ∃ v', Ending.returned v = .returned v' ∧ Ip2 P e r v0 w O rs v' w' := by
    intro svs hs hT
    obtain ⟨v, k1, k2⟩ := main svs hs hT
    exact ⟨h6, v, k1, v, rfl, k2⟩
   cases x with
   | exit b => simp at h1
   | normal =>
     simp only at h1
     split at h1
     ·rename_i svs hs
      exact fin svs hs h1
     ·cases h1
   | ret =>
     simp only at h1
     split at h1
     ·rename_i svs hs
      exact fin svs hs h1
     ·cases h1
  ·cases hx
 ·cases hx

def Iw6 (sig : Nat → Option Nat) (f : Nat) (func : Func) : Nat := func.params.size + if (muOf (sig f)).isSome || (faOf (sig f)).isSome then TAG else 0
def Tab (P : Program) (sig : Nat → Option Nat) (tab : Nat → Option FT) : Prop :=
 (∀ f ft, tab f = some ft → ∃ func H, P.funcs[f]? = some func ∧ (func.name == "runtime.NumGoroutine") = false ∧ Iw6 sig f func = ft.np ∧ func.params.size < TAG ∧ func.nfree = ft.nf ∧ ∃ t, xfun P sig f func H = some t ∧ t.slim = ft.t) ∧ Blds P sig

theorem Bk8 {f : Nat} {func : Func} {H : Hints} {t : T} (hx : xfun P sig f func H = some t) : func.body.isSome = true := by
 unfold xfun at hx
 split at hx
 ·rename_i h; rw [h]; rfl
 ·cases hx

theorem Fm1 {tab : Nat → Option FT} {ext : Fns → Fns} (hT : Tab P sig tab) (hE : ∀ fn, Contract P sig fn → Contract P sig (ext fn)) : ∀ k, Contract P sig (runF tab ext k)
 | 0 => ⟨fun f n vs rs h => by simp [runF] at h, hT.2⟩
 | k + 1 => by
  refine ⟨fun f n vs rs h => ?_, hT.2⟩
  ·
   have ih := Fm1 hT hE k
   simp only [runF] at h
   split at h
   ·rename_i ft hft
    split at h
    ·rename_i hc
     obtain ⟨o, ho, h⟩ := Option.bind_eq_some_iff.1 h
     split at h
     ·rename_i vs'
      injection h with h; subst h
      obtain ⟨func, H, hf, hn, hp, hlt, hnf, t0, hx, hs⟩ := hT.1 f ft hft
      rw [← hs, Ax8] at ho
      obtain ⟨hc1, hc2⟩ := hc
      unfold Iw6 at hp
      refine ⟨fun hn1 w O args hg => ?_, fun hn1 => ?_⟩
      ·have hno : ((muOf (sig f)).isSome || (faOf (sig f)).isSome) = false := by
        cases hb : ((muOf (sig f)).isSome || (faOf (sig f)).isSome) with
        | false => rfl
        | true =>
          rw [hb] at hp
          simp only [if_true] at hp
          omega
       rw [hno] at hp
       simp only [Bool.false_eq_true, if_false, Nat.add_zero] at hp
       simp only [Bool.or_eq_false_iff, Option.isSome_eq_false_iff, Option.isNone_iff_eq_none] at hno
       obtain ⟨hmu, hfa⟩ := hno
       refine Ax4.of_calls hf hn (Bk8 hx) ?_
       refine Cn6 ih hmu hf hx ho ?_ (by rw [hp, hc1]; exact hg) (fun e he => by rw [hfa] at he; cases he)
       rw [hc2, ← hp, Nat.mod_eq_of_lt hlt, hnf]
      ·have hyes : ((muOf (sig f)).isSome || (faOf (sig f)).isSome) = true := by
        cases hb : ((muOf (sig f)).isSome || (faOf (sig f)).isSome) with
        | true => rfl
        | false =>
          rw [hb] at hp
          simp only [Bool.false_eq_true, if_false] at hp
          omega
       rw [hyes] at hp
       simp only [if_true] at hp
       have e1 : n - TAG = func.params.size := by omega
       have e2 : (func.params.size + TAG) % TAG = func.params.size := by rw [Nat.add_mod_right]; exact Nat.mod_eq_of_lt hlt
       cases hmu : muOf (sig f) with
       | some er =>
         obtain ⟨e, r⟩ := er
         refine .inl ⟨e, r, rfl, fun w O args v0 xs us hg => ?_⟩
         refine Ax4.of_calls hf hn (Bk8 hx) ?_
         rw [e1] at hg
         refine Iy2 ih hmu hf hx ho ?_ hg
         rw [hc2, ← hp, e2, hnf]
       | none =>
         rw [hmu] at hyes
         simp only [Option.isSome_none, Bool.false_or] at hyes
         obtain ⟨e, hfa⟩ := Option.isSome_iff_exists.1 hyes
         refine .inr ⟨e, hfa, fun w O args b xs hg h0 h5 => ?_⟩
         refine Ax4.of_calls hf hn (Bk8 hx) ?_
         rw [e1] at hg
         refine Cn6 ih hmu hf hx ho ?_ hg (fun e' he => ?_)
         ·rw [hc2, ← hp, e2, hnf]
         ·rw [hfa] at he
          injection he with he
          subst he
          exact ⟨xs, b, h0, h5⟩
     ·cases h
    ·cases h
   ·exact (hE _ ih).says f n vs rs h
end
end Go.X
/- The functions of a table without fuel. -/
namespace Go.X
open Go

def Fle (fn fn' : Fns) : Prop := ∀ f n vs rs, fn f n vs = some rs → fn' f n vs = some rs
theorem Fle.refl (fn : Fns) : Fle fn fn := fun _ _ _ _ h => h
theorem Fle.trans {a b c : Fns} (h : Fle a b) (h' : Fle b c) : Fle a c := fun f n vs rs e => h' f n vs rs (h f n vs rs e)

theorem As0 {flat : Bool} {m : Nat} {η η' : List PV} {r r' : Option (List PV)} (hr : ∀ rs, r = some rs → r' = some rs) (h : results flat m η r = some η') : results flat m η r' = some η' := by
 unfold results at h ⊢
 obtain ⟨rs, h1, h2⟩ := Option.bind_eq_some_iff.1 h
 rw [hr rs h1]; exact h2
theorem Bn6 {η η' : List PV} {m : Nat} {g : Option E} {r r' : Option (List PV)} (hr : ∀ x, r = some x → r' = some x) (h : Aq7 η m g r = some η') : Aq7 η m g r' = some η' := by
 unfold Aq7 at h ⊢
 split at h
 ·exact hr _ h
 ·obtain ⟨v, h1, h2⟩ := Option.bind_eq_some_iff.1 h
  rw [h1]
  simp only [Option.bind_some]
  split at h2
  ·exact hr _ h2
  ·exact h2
  ·cases h2
theorem W.ev_le {fn fn' : Fns} (hf : Fle fn fn') {η η' : List PV} : ∀ {x : W}, x.ev fn η = some η' → x.ev fn' η = some η'
 | .chk x, h => h
 | .call g flat f ar m, h => by
   simp only [W.ev] at h ⊢
   refine Bn6 (fun x hx => ?_) h
   obtain ⟨vs, h1, h2⟩ := Option.bind_eq_some_iff.1 hx
   rw [h1]
   exact As0 (fun rs hr => hf _ _ _ _ hr) h2
 | .clo g flat c ar m, h => by
   simp only [W.ev] at h ⊢
   refine Bn6 (fun x hx => ?_) h
   obtain ⟨q, h0, hx⟩ := Option.bind_eq_some_iff.1 hx
   obtain ⟨vs, h1, h2⟩ := Option.bind_eq_some_iff.1 hx
   rw [h0]
   simp only [Option.bind_some]
   rw [h1]
   simp only [Option.bind_some]
   split at h2
   ·exact As0 (fun rs hr => hf _ _ _ _ hr) h2
   ·cases h2
 | .mcall f ar, h => by
   simp only [W.ev] at h ⊢
   obtain ⟨vs, h1, h2⟩ := Option.bind_eq_some_iff.1 h
   rw [h1]
   exact As0 (fun rs hr => hf _ _ _ _ hr) h2
theorem Bv1 {s s' : List PV → Option Out} (hs : ∀ vs o, s vs = some o → s' vs = some o) {id : Nat} : ∀ {n n' : Nat} {st : List PV} {o : Out}, n ≤ n' → Ax7 s id n st = some o → Ax7 s' id n' st = some o
 | 0, _, _, _, _, h => by simp [Ax7] at h
 | n + 1, 0, _, _, hn, _ => by omega
 | n + 1, n' + 1, st, o, hn, h => by
   simp only [Ax7] at h ⊢
   obtain ⟨o1, h1, h2⟩ := Option.bind_eq_some_iff.1 h
   rw [hs _ _ h1]
   simp only [Option.bind_some]
   split at h2
   ·split at h2
    ·rename_i hj
     rw [if_pos hj]
     exact Bv1 hs (by omega) h2
    ·rename_i hj
     rw [if_neg hj]; exact h2
   ·exact h2
theorem T.ev_le {fn fn' : Fns} (hf : Fle fn fn') {N N' : Nat} (hN : N ≤ N') : ∀ {t : T} {η : List PV} {o : Out}, t.ev fn N η = some o → t.ev fn' N' η = some o
 | .w x k, η, o, h => by
   simp only [T.ev] at h ⊢
   obtain ⟨η', h1, h2⟩ := Option.bind_eq_some_iff.1 h
   rw [W.ev_le hf h1]
   exact T.ev_le hf hN h2
 | .ite c t e, η, o, h => by
   simp only [T.ev] at h ⊢
   obtain ⟨r, h1, h2⟩ := Option.bind_eq_some_iff.1 h
   rw [h1]
   simp only [Option.bind_some]
   split at h2
   ·exact T.ev_le hf hN h2
   ·exact T.ev_le hf hN h2
   ·cases h2
 | .ret es, η, o, h => h
 | .yld id es, η, o, h => h
 | .blk id body k, η, o, h => by
   simp only [T.ev] at h ⊢
   obtain ⟨o1, h1, h2⟩ := Option.bind_eq_some_iff.1 h
   rw [T.ev_le hf hN h1]
   simp only [Option.bind_some]
   split at h2
   ·split at h2
    ·rename_i hj; rw [if_pos hj]; exact T.ev_le hf hN h2
    ·rename_i hj; rw [if_neg hj]; exact h2
   ·exact h2
 | .loop id init body, η, o, h => by
   simp only [T.ev] at h ⊢
   obtain ⟨st, h1, h2⟩ := Option.bind_eq_some_iff.1 h
   rw [h1]
   exact Bv1 (fun vs o ho => T.ev_le hf hN ho) hN h2

def Ac3 (ext : Fns → Fns) : Prop := ∀ fn fn', Fle fn fn' → Fle (ext fn) (ext fn')
section
variable {tab : Nat → Option FT} {ext : Fns → Fns}
theorem Cz9 (hE : Ac3 ext) : ∀ k, Fle (runF tab ext k) (runF tab ext (k + 1))
 | 0 => fun f n vs rs h => by simp [runF] at h
 | k + 1 => fun f n vs rs h => by
   have ih := Cz9 hE k
   rw [runF] at h ⊢
   cases ht : tab f with
   | none => simp only [ht] at h ⊢; exact hE _ _ ih _ _ _ _ h
   | some t =>
     simp only [ht] at h ⊢
     split at h
     ·rename_i hc
      rw [if_pos hc]
      obtain ⟨o, h1, h2⟩ := Option.bind_eq_some_iff.1 h
      rw [T.ev_le ih (Nat.le_succ k) h1]
      exact h2
     ·cases h
theorem Ad4 (hE : Ac3 ext) {k k' : Nat} (h : k ≤ k') : Fle (runF tab ext k) (runF tab ext k') := by
 induction h with
 | refl => exact Fle.refl _
 | step _ ih => exact ih.trans (Cz9 hE _)

open Classical in
noncomputable def sem (tab : Nat → Option FT) (ext : Fns → Fns) : Fns := fun f n args =>
 if h : ∃ rs k, runF tab ext k f n args = some rs then some h.choose else none
theorem Bs7 (hE : Ac3 ext) {f n : Nat} {args rs : List PV} : sem tab ext f n args = some rs ↔ ∃ k, runF tab ext k f n args = some rs := by
 unfold sem
 constructor
 ·intro h
  split at h
  ·rename_i hex
   injection h with h
   subst h
   exact hex.choose_spec
  ·cases h
 ·rintro ⟨k, hk⟩
  have hex : ∃ rs k, runF tab ext k f n args = some rs := ⟨rs, k, hk⟩
  rw [dif_pos hex]
  obtain ⟨k', hk'⟩ := hex.choose_spec
  have h1 := Ad4 hE (Nat.le_max_left k k') _ _ _ _ hk
  have h2 := Ad4 hE (Nat.le_max_right k k') _ _ _ _ hk'
  rw [h1] at h2
  exact h2.symm
theorem W.ev_cont (hE : Ac3 ext) {η η' : List PV} : ∀ {x : W}, x.ev (sem tab ext) η = some η' → ∃ k, x.ev (runF tab ext k) η = some η' := by
 have res : ∀ {flat : Bool} {m f n : Nat} {vs : List PV}, results flat m η (sem tab ext f n vs) = some η' → ∃ k, results flat m η (runF tab ext k f n vs) = some η' := by
  intro flat m f n vs h
  unfold results at h
  obtain ⟨rs, h1, h2⟩ := Option.bind_eq_some_iff.1 h
  obtain ⟨k, hk⟩ := (Bs7 hE).1 h1
  exact ⟨k, by unfold results; rw [hk]; exact h2⟩
 intro x h
 cases x with
 | chk x => exact ⟨0, h⟩
 | call g flat f ar m =>
   simp only [W.ev] at h ⊢
   unfold Aq7 at h ⊢
   split at h
   ·obtain ⟨vs, h1, h2⟩ := Option.bind_eq_some_iff.1 h
    obtain ⟨k, hk⟩ := res h2
    exact ⟨k, by rw [h1]; exact hk⟩
   ·obtain ⟨v, h0, h⟩ := Option.bind_eq_some_iff.1 h
    split at h
    ·obtain ⟨vs, h1, h2⟩ := Option.bind_eq_some_iff.1 h
     obtain ⟨k, hk⟩ := res h2
     exact ⟨k, by rw [h0]; simp only [Option.bind_some]; rw [h1]; exact hk⟩
    ·exact ⟨0, by rw [h0]; exact h⟩
    ·cases h
 | clo g flat c ar m =>
   have body : ((c.ev η).bind fun q => (E.evs η ar).bind fun vs => match q with | .f f caps => results flat m η (sem tab ext f vs.length (vs ++ caps)) | _ => none) = some η' → ∃ k, ((c.ev η).bind fun q => (E.evs η ar).bind fun vs => match q with | .f f caps => results flat m η (runF tab ext k f vs.length (vs ++ caps)) | _ => none) = some η' := by
    intro hh
    obtain ⟨q, h0, hh⟩ := Option.bind_eq_some_iff.1 hh
    obtain ⟨vs, h1, hh⟩ := Option.bind_eq_some_iff.1 hh
    cases q with
    | f f caps =>
      obtain ⟨k, hk⟩ := res hh
      exact ⟨k, by rw [h0]; simp only [Option.bind_some]; rw [h1]; exact hk⟩
    | _ => simp at hh
   simp only [W.ev] at h ⊢
   unfold Aq7 at h ⊢
   split at h
   ·exact body h
   ·obtain ⟨v, h0, h⟩ := Option.bind_eq_some_iff.1 h
    split at h
    ·obtain ⟨k, hk⟩ := body h
     exact ⟨k, by rw [h0]; exact hk⟩
    ·exact ⟨0, by rw [h0]; exact h⟩
    ·cases h
 | mcall f ar =>
   simp only [W.ev] at h ⊢
   obtain ⟨vs, h1, h2⟩ := Option.bind_eq_some_iff.1 h
   obtain ⟨k, hk⟩ := res h2
   exact ⟨k, by rw [h1]; exact hk⟩

theorem T.ev_cont (hE : Ac3 ext) {N : Nat} : ∀ {t : T} {η : List PV} {o : Out}, t.ev (sem tab ext) N η = some o → ∃ k, t.ev (runF tab ext k) N η = some o
 | .w x t, η, o, h => by
   simp only [T.ev] at h ⊢
   obtain ⟨η', h1, h2⟩ := Option.bind_eq_some_iff.1 h
   obtain ⟨k1, g1⟩ := W.ev_cont hE h1
   obtain ⟨k2, g2⟩ := T.ev_cont hE h2
   refine ⟨max k1 k2, ?_⟩
   rw [W.ev_le (Ad4 hE (Nat.le_max_left k1 k2)) g1]
   exact T.ev_le (Ad4 hE (Nat.le_max_right k1 k2)) (Nat.le_refl _) g2
 | .ite c t e, η, o, h => by
   simp only [T.ev] at h ⊢
   obtain ⟨r, h1, h2⟩ := Option.bind_eq_some_iff.1 h
   split at h2
   ·obtain ⟨k, g⟩ := T.ev_cont hE h2; exact ⟨k, by rw [h1]; exact g⟩
   ·obtain ⟨k, g⟩ := T.ev_cont hE h2; exact ⟨k, by rw [h1]; exact g⟩
   ·cases h2
 | .ret es, η, o, h => ⟨0, h⟩
 | .yld id es, η, o, h => ⟨0, h⟩
 | .blk id body t, η, o, h => by
   simp only [T.ev] at h ⊢
   obtain ⟨o1, h1, h2⟩ := Option.bind_eq_some_iff.1 h
   obtain ⟨k1, g1⟩ := T.ev_cont hE h1
   split at h2
   ·split at h2
    ·rename_i hj
     obtain ⟨k2, g2⟩ := T.ev_cont hE h2
     refine ⟨max k1 k2, ?_⟩
     rw [T.ev_le (Ad4 hE (Nat.le_max_left k1 k2)) (Nat.le_refl _) g1]
     simp only [Option.bind_some]
     rw [if_pos hj]
     exact T.ev_le (Ad4 hE (Nat.le_max_right k1 k2)) (Nat.le_refl _) g2
    ·rename_i hj
     exact ⟨k1, by rw [g1]; simp only [Option.bind_some]; rw [if_neg hj]; exact h2⟩
   ·exact ⟨k1, by rw [g1]; exact h2⟩
 | .loop id init body, η, o, h => by
   simp only [T.ev] at h ⊢
   obtain ⟨st, h1, h2⟩ := Option.bind_eq_some_iff.1 h
   have key : ∀ (n : Nat) (st : List PV), Ax7 (fun vs => body.ev (sem tab ext) N (η ++ vs)) id n st = some o → ∃ k, Ax7 (fun vs => body.ev (runF tab ext k) N (η ++ vs)) id n st = some o := by
    intro n
    induction n with
    | zero => intro st h; simp [Ax7] at h
    | succ n ih =>
      intro st h
      simp only [Ax7] at h ⊢
      obtain ⟨o1, h1, h2⟩ := Option.bind_eq_some_iff.1 h
      obtain ⟨k1, g1⟩ := T.ev_cont hE h1
      split at h2
      ·split at h2
       ·rename_i hj
        obtain ⟨k2, g2⟩ := ih _ h2
        refine ⟨max k1 k2, ?_⟩
        rw [T.ev_le (Ad4 hE (Nat.le_max_left k1 k2)) (Nat.le_refl _) g1]
        simp only [Option.bind_some]
        rw [if_pos hj]
        exact Bv1 (fun vs o ho => T.ev_le (Ad4 hE (Nat.le_max_right k1 k2)) (Nat.le_refl _) ho) (Nat.le_refl _) g2
       ·rename_i hj
        exact ⟨k1, by rw [g1]; simp only [Option.bind_some]; rw [if_neg hj]; exact h2⟩
      ·exact ⟨k1, by rw [g1]; exact h2⟩
   obtain ⟨k, g⟩ := key N st h2
   exact ⟨k, by rw [h1]; exact g⟩

theorem Aj4 (hE : Ac3 ext) {f n N : Nat} {ft : FT} {args rs : List PV} (ht : tab f = some ft) (hn : ft.np = n) (hl : args.length = ft.np % TAG + ft.nf) (h : ft.t.ev (sem tab ext) N args = some (.ret rs)) : sem tab ext f n args = some rs := by
 obtain ⟨k, hk⟩ := T.ev_cont hE h
 refine (Bs7 hE).2 ⟨max k N + 1, ?_⟩
 rw [runF]
 simp only [ht]
 rw [if_pos ⟨hn, hl⟩, T.ev_le (Ad4 hE (Nat.le_max_left k N)) (Nat.le_max_right k N) hk]
 rfl

end
end Go.X
/- What comes in: the readings of a row's arguments as plain values. -/
namespace Go.X
open Go

inductive Sh where
 | b | i (k : IntKind) | s
 | l (e : Sh)
 | st (fs : List Sh)
 deriving Inhabited
mutual
def Sh.size : Sh → Nat
 | .st fs => Sh.sizes fs
 | _ => 1
def Sh.sizes : List Sh → Nat
 | [] => 0
 | f :: fs => f.size + Sh.sizes fs
end
def Sh.agg : Sh → Bool
 | .st _ => true
 | _ => false
mutual
def Sh.okC : Sh → List PV → Prop
 | .b, cs => ∃ x, cs = [.b x]
 | .i k, cs => ∃ n, cs = [.i k n] ∧ k.min ≤ n ∧ n ≤ k.max
 | .s, cs => ∃ x, cs = [.s x] ∧ x.length ≤ maxLen
 | .l e, cs => ∃ xs, cs = [.l e.size xs] ∧ xs.length ≤ maxLen ∧ ∀ x, x ∈ xs → if e.agg then ∃ ds, x = .a ds ∧ e.okC ds else x.scal = true ∧ e.okC [x]
 | .st fs, cs => Sh.okCs fs cs
def Sh.okCs : List Sh → List PV → Prop
 | [], cs => cs = []
 | f :: fs, cs => ∃ a b, cs = a ++ b ∧ f.okC a ∧ Sh.okCs fs b
end
def Sh.ok (sh : Sh) (p : PV) : Prop := if sh.agg then ∃ ds, p = .a ds ∧ sh.okC ds else p.scal = true ∧ sh.okC [p]

mutual
theorem Sh.okC_len : ∀ (sh : Sh) (cs : List PV), sh.okC cs → cs.length = sh.size
 | .b, cs, h => by simp only [Sh.okC] at h; obtain ⟨x, rfl⟩ := h; rfl
 | .i k, cs, h => by simp only [Sh.okC] at h; obtain ⟨n, rfl, _⟩ := h; rfl
 | .s, cs, h => by simp only [Sh.okC] at h; obtain ⟨x, rfl, _⟩ := h; rfl
 | .l e, cs, h => by simp only [Sh.okC] at h; obtain ⟨x, rfl, _⟩ := h; rfl
 | .st fs, cs, h => by simp only [Sh.okC] at h; simp only [Sh.size]; exact Sh.okCs_len fs cs h
theorem Sh.okCs_len : ∀ (fs : List Sh) (cs : List PV), Sh.okCs fs cs → cs.length = Sh.sizes fs
 | [], cs, h => by simp only [Sh.okCs] at h; subst h; rfl
 | f :: fs, cs, h => by
   simp only [Sh.okCs] at h
   obtain ⟨a, b, rfl, h1, h2⟩ := h
   rw [List.length_append, Sh.okC_len f a h1, Sh.okCs_len fs b h2]; rfl
end

def An5 (P : Program) (f : TypeId → Option Sh) : List Field → Nat → Option (List Sh)
 | [], _ => some []
 | x :: fs, off => if x.offset = off then match f x.type with
   | some sh => if P.cellsOf x.type = sh.size then (An5 P f fs (off + sh.size)).map (sh :: ·) else none
   | none => none
   else none
def shOf (P : Program) : Nat → TypeId → Option Sh
 | 0, _ => none
 | d + 1, t => match P.underlying t with
   | some .bool => some .b
   | some (.int k) => some (.i k)
   | some .string => some .s
   | some (.slice e) => match shOf P d e with
     | some sh => if P.cellsOf e = sh.size then some (.l sh) else none
     | none => none
   | some (.struct fs) => match An5 P (shOf P d) fs.toList 0 with
     | some shs => if P.cellsOf t = Sh.sizes shs then some (.st shs) else none
     | none => none
   | some (.array n e) => match shOf P d e with
     | some sh => if P.cellsOf e = sh.size then (if P.cellsOf t = n * sh.size then some (.st (List.replicate n sh)) else none) else none
     | none => none
   | _ => none

theorem Cj8 {α β : Type} {f : α → Option β} : ∀ {l : List α} {ys : List β}, l.mapM f = some ys → ys.length = l.length ∧ ∀ (i : Nat) (x : α) (y : β), l[i]? = some x → ys[i]? = some y → f x = some y
 | [], ys, h => by simp at h; subst h; exact ⟨rfl, fun i x y hx => by simp at hx⟩
 | x :: l, ys, h => by
   simp only [List.mapM_cons, Option.bind_eq_bind, Option.bind_eq_some_iff, Option.pure_def, Option.some.injEq] at h
   obtain ⟨y, hy, r, hr, rfl⟩ := h
   obtain ⟨h1, h2⟩ := Cj8 hr
   refine ⟨by simp [h1], fun i a b ha hb => ?_⟩
   cases i with
   | zero => simp at ha hb; subst ha; subst hb; exact hy
   | succ i => exact h2 i a b (by simpa using ha) (by simpa using hb)

def As3 (agg : Bool) (cs : List PV) : PV := if agg then .a cs else cs.headD .u

abbrev Bx5 : Nat → Option Nat := fun _ => none

def RepC (M : Vw) (pcs : List PV) (cs : List Value) : Prop := pcs.length = cs.length ∧ ∀ (j : Nat) (p : PV) (v : Value), pcs[j]? = some p → cs[j]? = some v → One v ∧ Rep M p v

theorem RepC.append {M : Vw} {p q : List PV} {c d : List Value} (h : RepC M p c) (h' : RepC M q d) : RepC M (p ++ q) (c ++ d) := by
 refine ⟨by simp [h.1, h'.1], fun j x v hx hv => ?_⟩
 rw [List.getElem?_append] at hx hv
 rw [h.1] at hx
 split at hx
 ·rename_i hj
  rw [if_pos hj] at hv
  exact h.2 j x v hx hv
 ·rename_i hj
  rw [if_neg hj] at hv
  exact h'.2 _ x v hx hv
theorem RepC.one {M : Vw} {p : PV} {v : Value} (h1 : One v) (h : Rep M p v) : RepC M [p] [v] :=
 ⟨rfl, fun j q u hq hu => by cases j with
  | zero => simp at hq hu; subst hq; subst hu; exact ⟨h1, h⟩
  | succ j => simp at hq⟩

theorem Cj1 {e : Sh} (he : e.agg = false) {cs : List PV} (h : e.okC cs) : ∃ p, cs = [p] ∧ p.scal = true := by
 cases e with
 | b => simp only [Sh.okC] at h; obtain ⟨x, rfl⟩ := h; exact ⟨_, rfl, rfl⟩
 | i k => simp only [Sh.okC] at h; obtain ⟨n, rfl, _⟩ := h; exact ⟨_, rfl, rfl⟩
 | s => simp only [Sh.okC] at h; obtain ⟨n, rfl, _⟩ := h; exact ⟨_, rfl, rfl⟩
 | l e => simp only [Sh.okC] at h; obtain ⟨n, rfl, _⟩ := h; exact ⟨_, rfl, rfl⟩
 | st fs => simp [Sh.agg] at he

theorem Cj2 {e : Sh} {cs : List PV} (h : e.okC cs) : (As3 e.agg cs).cells = cs := by
 cases he : e.agg with
 | true => rfl
 | false =>
   obtain ⟨p, rfl, hp⟩ := Cj1 he h
   exact PV.scal_cells hp

theorem cells?_get {w : World} {base : Nat} {a : Addr} {n : Nat} {cs : List Value} (h : w.cells? base a n = some cs) : cs.length = n ∧ ∀ j v, cs[j]? = some v → w.cell? (a.add j) = some v := by
 unfold World.cells? at h
 split at h
 ·obtain ⟨h1, h2⟩ := Cj8 h
  simp only [List.length_range] at h1
  refine ⟨h1, fun j v hv => ?_⟩
  have hj : j < n := by rw [← h1]; exact (List.getElem?_eq_some_iff.1 hv).1
  exact h2 j j v (List.getElem?_range hj) hv
 ·cases h

theorem Bs0 {H : Type} {enc : TypeId × Value → H} {P : Program} {w : World} {base : Nat} {spare : Nat → Bool} {held : Bool} : ∀ (fuel d : Nat) (t : TypeId) (sh : Sh) (cs : List Value) (x : DataW H × List MemPlace), shOf P d t = some sh → DataW.trod enc P w base spare held fuel t cs = some x →
  ∃ pcs, sh.okC pcs ∧ RepC (view w Bx5) pcs cs
 | 0, d, t, sh, cs, x, hs, h => by simp [DataW.trod] at h
 | fuel + 1, 0, t, sh, cs, x, hs, h => by simp [shOf] at hs
 | fuel + 1, d + 1, t, sh, cs, x, hs, h => by
   simp only [shOf] at hs
   split at hs
   ·rename_i hu
    injection hs with hs; subst hs
    simp only [DataW.trod, hu] at h
    split at h <;> first | (rename_i heq; simp at heq; done) | (cases h; done) | skip
    exact ⟨_, ⟨_, rfl⟩, RepC.one rfl (.b _)⟩
   ·rename_i k hu
    injection hs with hs; subst hs
    simp only [DataW.trod, hu] at h
    split at h <;> first | (rename_i heq; simp at heq; done) | (cases h; done) | skip
    rename_i k1 k2 n heq
    injection heq with heq
    injection heq with heq
    subst heq
    split at h
    ·rename_i hc
     obtain ⟨rfl, hwf⟩ := hc
     simp only [Lit.wf, Bool.and_eq_true, decide_eq_true_eq] at hwf
     exact ⟨_, ⟨_, rfl, hwf⟩, RepC.one rfl (.i _ _)⟩
    ·cases h
   ·rename_i hu
    injection hs with hs; subst hs
    simp only [DataW.trod, hu] at h
    split at h <;> first | (rename_i heq; simp at heq; done) | (cases h; done) | skip
    rename_i s heq
    split at h
    ·rename_i hc
     refine ⟨_, ⟨s.data.toList, rfl, ?_⟩, RepC.one rfl (.s _ _ rfl)⟩
     rw [Array.length_toList]; exact hc
    ·cases h
   ·-- a slice
    rename_i e hu
    split at hs
    ·rename_i she hse
     split at hs
     ·rename_i hsz
      injection hs with hs; subst hs
      simp only [DataW.trod, hu] at h
      split at h <;> first | (rename_i heq; simp at heq; done) | (cases h; done) | skip
      ·exact ⟨_, ⟨[], rfl, Nat.zero_le _, fun x hx => by simp at hx⟩, RepC.one rfl (Rep.lnil _ _ _ _)⟩
      ·rename_i e' a len cap heq
       injection heq with heq
       injection heq with heq
       subst heq
       split at h
       ·rename_i hc
        obtain ⟨elems, hel, _⟩ := Option.bind_eq_some_iff.1 h
        obtain ⟨hl, hget⟩ := Cj8 hel
        simp only [List.length_range] at hl
        have each : ∀ i, i < len → ∃ ecs pcs, w.cells? base (a.add (i * P.cellsOf e)) (P.cellsOf e) = some ecs ∧ she.okC pcs ∧ RepC (view w Bx5) pcs ecs := by
         intro i hi
         have hx : elems[i]? = some (elems[i]'(by omega)) := List.getElem?_eq_getElem (by omega)
         have := hget i i _ (List.getElem?_range hi) hx
         obtain ⟨ecs, h1, h2⟩ := Option.bind_eq_some_iff.1 this
         obtain ⟨pcs, h3, h4⟩ := Bs0 fuel d e she ecs _ hse h2
         exact ⟨ecs, pcs, h1, h3, h4⟩
        have pick : ∃ f : Nat → List PV × List Value, ∀ i, i < len → w.cells? base (a.add (i * P.cellsOf e)) (P.cellsOf e) = some (f i).2 ∧ she.okC (f i).1 ∧ RepC (view w Bx5) (f i).1 (f i).2 := by
         have : ∀ i, ∃ y : List PV × List Value, i < len → w.cells? base (a.add (i * P.cellsOf e)) (P.cellsOf e) = some y.2 ∧ she.okC y.1 ∧ RepC (view w Bx5) y.1 y.2 := by
          intro i
          by_cases hi : i < len
          ·obtain ⟨ecs, pcs, h1, h2, h3⟩ := each i hi
           exact ⟨(pcs, ecs), fun _ => ⟨h1, h2, h3⟩⟩
          ·exact ⟨default, fun h => absurd h hi⟩
         exact ⟨fun i => (this i).choose, fun i hi => (this i).choose_spec hi⟩
        obtain ⟨f, hf⟩ := pick
        have hsz' : P.cellsOf e = she.size := hsz
        have hxs : ∀ (i : Nat) (x : PV), ((List.range len).map fun i => As3 she.agg (f i).1)[i]? = some x → i < len ∧ x = As3 she.agg (f i).1 ∧ x.cells = (f i).1 := by
         intro i x hx
         simp only [List.getElem?_map, Option.map_eq_some_iff] at hx
         obtain ⟨k, hk, rfl⟩ := hx
         have hi : i < len := by have := (List.getElem?_eq_some_iff.1 hk).1; simpa using this
         rw [List.getElem?_range hi] at hk; injection hk with hk; subst hk
         exact ⟨hi, rfl, Cj2 (hf i hi).2.1⟩
        have hlen : ((List.range len).map fun i => As3 she.agg (f i).1).length = len := by simp
        refine ⟨[.l she.size ((List.range len).map fun i => As3 she.agg (f i).1)], ⟨_, rfl, by rw [hlen]; omega, fun x hx => ?_⟩, RepC.one rfl ?_⟩
        ·obtain ⟨i, hi⟩ := List.getElem?_of_mem hx
         obtain ⟨h1, h2, h3⟩ := hxs i x hi
         cases he : she.agg with
         | true =>
           simp only [if_true]
           exact ⟨(f i).1, by rw [h2, he]; rfl, (hf i h1).2.1⟩
         | false =>
           simp only [Bool.false_eq_true, if_false]
           obtain ⟨p, hp, hps⟩ := Cj1 he (hf i h1).2.1
           have : x = p := by rw [h2, he, hp]; rfl
           subst this
           exact ⟨hps, by rw [← hp]; exact (hf i h1).2.1⟩
        ·have := Rep.l (M := view w Bx5) she.size ((List.range len).map fun i => As3 she.agg (f i).1) (some a) cap a (fun i j => (f i).2.getD j undef) (by rw [hlen]; exact hc.2.1) (fun _ => rfl)
          (fun i x hx => by obtain ⟨h1, h2, h3⟩ := hxs i x hx; rw [h3]; exact Sh.okC_len _ _ (hf i h1).2.1) ?_ ?_ ?_
         ·rw [hlen] at this; exact this
         all_goals
          intro i x j c hx hcj
          obtain ⟨h1, h2, h3⟩ := hxs i x hx
          obtain ⟨g1, g2, g3⟩ := hf i h1
          rw [h3] at hcj
          obtain ⟨c1, c2⟩ := cells?_get g1
          have hj : j < (f i).2.length := by rw [← g3.1]; exact (List.getElem?_eq_some_iff.1 hcj).1
          have hv : (f i).2[j]? = some ((f i).2[j]) := List.getElem?_eq_getElem hj
          have hd : (f i).2.getD j undef = (f i).2[j] := by rw [List.getD_eq_getElem?_getD, hv]; rfl
         ·rw [hd]
          refine Aq4 ?_ (fun lim hl => by cases hl)
          rw [← hsz', ← Addr.add_add]
          exact c2 j _ hv
         ·rw [hd]; exact (g3.2 j c _ hcj hv).1
         ·rw [hd]; exact (g3.2 j c _ hcj hv).2
       ·cases h
     ·cases hs
    ·cases hs
   ·-- a struct
    rename_i fs hu
    split at hs
    ·rename_i shs hshs
     split at hs
     ·rename_i hsz
      injection hs with hs; subst hs
      have h' : ∃ ys, cs.length = P.cellsOf t ∧ (fs.toList.mapM fun f => DataW.trod enc P w base spare held fuel f.type ((cs.drop f.offset).take (P.cellsOf f.type))) = some ys := by
       simp only [DataW.trod, hu] at h
       by_cases hl : cs.length = P.cellsOf t
       ·rw [if_pos hl] at h
        obtain ⟨ys, hy, _⟩ := Option.map_eq_some_iff.1 h
        exact ⟨ys, hl, hy⟩
       ·rw [if_neg hl] at h; cases h
      obtain ⟨ys, hlen, hys⟩ := h'
      have go : ∀ (l : List Field) (off : Nat) (shs : List Sh) (ys : List (DataW H × List MemPlace)), An5 P (shOf P d) l off = some shs → (l.mapM fun f => DataW.trod enc P w base spare held fuel f.type ((cs.drop f.offset).take (P.cellsOf f.type))) = some ys → cs.length = off + Sh.sizes shs →
        ∃ pcs, Sh.okCs shs pcs ∧ RepC (view w Bx5) pcs (cs.drop off) := by
       intro l
       induction l with
       | nil =>
         intro off shs ys h1 h2 h3
         simp only [An5, Option.some.injEq] at h1; subst h1
         refine ⟨[], rfl, ?_⟩
         have : cs.drop off = [] := List.drop_eq_nil_of_le (by simp only [Sh.sizes] at h3; omega)
         rw [this]
         exact ⟨rfl, fun j p v hp => by simp at hp⟩
       | cons fl l ih =>
         intro off shs ys h1 h2 h3
         simp only [An5] at h1
         split at h1
         ·rename_i hoff
          subst hoff
          split at h1
          ·rename_i sh hsh
           split at h1
           ·rename_i hsize
            obtain ⟨rest, hrest, rfl⟩ := Option.map_eq_some_iff.1 h1
            simp only [List.mapM_cons, Option.bind_eq_bind, Option.bind_eq_some_iff, Option.pure_def, Option.some.injEq] at h2
            obtain ⟨y, hy, r, hr, rfl⟩ := h2
            obtain ⟨pcs, p1, p2⟩ := Bs0 fuel d fl.type sh _ _ hsh hy
            simp only [Sh.sizes] at h3
            obtain ⟨qcs, q1, q2⟩ := ih (fl.offset + sh.size) rest r hrest hr (by omega)
            refine ⟨pcs ++ qcs, ⟨pcs, qcs, rfl, p1, q1⟩, ?_⟩
            have e : cs.drop fl.offset = (cs.drop fl.offset).take (P.cellsOf fl.type) ++ cs.drop (fl.offset + sh.size) := by
             rw [hsize, ← List.drop_drop, List.take_append_drop]
            rw [e]
            exact p2.append q2
           ·cases h1
          ·cases h1
         ·cases h1
      obtain ⟨pcs, p1, p2⟩ := go fs.toList 0 shs ys hshs hys (by omega)
      exact ⟨pcs, p1, by simpa using p2⟩
     ·cases hs
    ·cases hs
   ·-- an array
    rename_i n e hu
    split at hs
    ·rename_i sh hse
     split at hs
     ·rename_i hsz
      split at hs
      ·rename_i hsz2
       injection hs with hs; subst hs
       have h' : ∃ ys, cs.length = P.cellsOf t ∧ ((List.range n).mapM fun i => DataW.trod enc P w base spare held fuel e ((cs.drop (i * P.cellsOf e)).take (P.cellsOf e))) = some ys := by
        simp only [DataW.trod, hu] at h
        by_cases hl : cs.length = P.cellsOf t
        ·rw [if_pos hl] at h
         obtain ⟨ys, hy, _⟩ := Option.map_eq_some_iff.1 h
         exact ⟨ys, hl, hy⟩
        ·rw [if_neg hl] at h; cases h
       obtain ⟨ys, hlen, hys⟩ := h'
       have go : ∀ (m off : Nat) (ys : List (DataW H × List MemPlace)), ((List.range' off m).mapM fun i => DataW.trod enc P w base spare held fuel e ((cs.drop (i * P.cellsOf e)).take (P.cellsOf e))) = some ys → cs.length = off * sh.size + m * sh.size →
         ∃ pcs, Sh.okCs (List.replicate m sh) pcs ∧ RepC (view w Bx5) pcs (cs.drop (off * sh.size)) := by
        intro m
        induction m with
        | zero =>
          intro off ys h2 h3
          refine ⟨[], rfl, ?_⟩
          have : cs.drop (off * sh.size) = [] := List.drop_eq_nil_of_le (by omega)
          rw [this]
          exact ⟨rfl, fun j p v hp => by simp at hp⟩
        | succ m ih =>
          intro off ys h2 h3
          simp only [List.range'_succ, List.mapM_cons, Option.bind_eq_bind, Option.bind_eq_some_iff, Option.pure_def, Option.some.injEq] at h2
          obtain ⟨y, hy, r, hr, rfl⟩ := h2
          obtain ⟨pcs, p1, p2⟩ := Bs0 fuel d e sh _ _ hse hy
          have e1 : (off + 1) * sh.size = off * sh.size + sh.size := by rw [Nat.add_mul, Nat.one_mul]
          have e2 : (m + 1) * sh.size = m * sh.size + sh.size := by rw [Nat.add_mul, Nat.one_mul]
          obtain ⟨qcs, q1, q2⟩ := ih (off + 1) r hr (by omega)
          refine ⟨pcs ++ qcs, ⟨pcs, qcs, rfl, p1, q1⟩, ?_⟩
          rw [hsz] at p2
          have e3 : cs.drop (off * sh.size) = (cs.drop (off * sh.size)).take sh.size ++ cs.drop ((off + 1) * sh.size) := by
           rw [e1, ← List.drop_drop, List.take_append_drop]
          rw [e3]
          exact p2.append q2
       rw [List.range_eq_range'] at hys
       obtain ⟨pcs, p1, p2⟩ := go n 0 ys hys (by omega)
       refine ⟨pcs, ?_, by simpa using p2⟩
       simpa only [Sh.okC] using p1
      ·cases hs
     ·cases hs
    ·cases hs
   ·cases hs
end Go.X
/- A law's row: what its call comes to, said of readings. -/
namespace Go.X
open Go Go.RowKit Go.ChangeShapes Go.WideShapes

section
variable {H : Type} {enc : TypeId × Value → H} {P : Program} {sig : Nat → Option Nat} {tab : Nat → Option FT} {ext : Fns → Fns}

theorem Fl6 (hM : Ac3 ext) (hT : Tab P sig tab) (hE : ∀ fn, Contract P sig fn → Contract P sig (ext fn)) {f n : Nat} {ft : FT} {vs rs : List PV} (hf : tab f = some ft) (hmu : muOf (sig f) = none) (hfa : faOf (sig f) = none) (h : sem tab ext f n vs = some rs) {w : World} {O : Nat → Option Nat} {args : Array Value} (hg : Given w O n vs args) :
  Calls P f args w fun e w' => ∃ v, e = .returned v ∧ Back P (sig f) w O rs v w' := by
 obtain ⟨k, hk⟩ := (Bs7 hM).1 h
 cases k with
 | zero => simp [runF] at hk
 | succ k =>
   rw [runF] at hk
   simp only [hf] at hk
   split at hk
   ·rename_i hc
    obtain ⟨o, ho, hk⟩ := Option.bind_eq_some_iff.1 hk
    split at hk
    ·injection hk with hk; subst hk
     obtain ⟨func, Hn, hfn, hn, hp, hlt, hnf, t0, hx, hs⟩ := hT.1 f ft hf
     rw [← hs, Ax8] at ho
     unfold Iw6 at hp
     rw [hmu, hfa] at hp
     simp only [Option.isSome_none, Bool.or_self, Bool.false_eq_true, if_false, Nat.add_zero] at hp
     exact Cn6 (Fm1 hT hE k) hmu hfn hx ho (by rw [hc.2, ← hp, Nat.mod_eq_of_lt hlt, hnf]) (by rw [hp, hc.1]; exact hg) (fun e he => by rw [hfa] at he; cases he)
    ·cases hk
   ·cases hk

def Oks : List Sh → List PV → Prop
 | [], [] => True
 | sh :: ss, p :: ps => sh.ok p ∧ Oks ss ps
 | _, _ => False
theorem Oks.len : ∀ {ss : List Sh} {ps : List PV}, Oks ss ps → ps.length = ss.length
 | [], [], _ => rfl
 | _ :: _, _ :: _, h => by simp [Oks.len h.2]
 | [], _ :: _, h => h.elim
 | _ :: _, [], h => h.elim

def Cz6 (P : Program) (ts : List TypeId) : Option (List Sh) := ts.mapM (shOf P 30)

theorem Id6 {w : World} {base b0 : Nat} {spare : Nat → Bool} {held : Bool} {t : TypeId} {v : Value} {d : DataW H} {ps : List MemPlace} {sh : Sh} {n : Nat} (hs : shOf P n t = some sh) (hok : Value.okWide P w .any base t v) (h : DataW.Trod enc P w b0 spare held t v d ps) :
  ∃ p, sh.ok p ∧ Rep (view w Bx5) p v := by
 obtain ⟨fuel, hf⟩ := h
 obtain ⟨pcs, h1, h2⟩ := Bs0 fuel n t sh _ _ hs hf
 have single : sh.agg = false → v.cells = #[v] → ∃ p, sh.ok p ∧ Rep (view w Bx5) p v := by
  intro ha hv
  obtain ⟨p, rfl, hp⟩ := Cj1 ha h1
  rw [hv] at h2
  refine ⟨p, ?_, (h2.2 0 p v rfl rfl).2⟩
  unfold Sh.ok
  rw [ha]
  simp only [Bool.false_eq_true, if_false]
  exact ⟨hp, h1⟩
 cases n with
 | zero => simp [shOf] at hs
 | succ n =>
   simp only [shOf] at hs
   split at hs
   ·rename_i hu
    injection hs with hs; subst hs
    obtain ⟨b, rfl⟩ := okWide_bool hu hok
    exact single rfl rfl
   ·rename_i k hu
    injection hs with hs; subst hs
    obtain ⟨b, rfl⟩ := okWide_int hu hok
    exact single rfl rfl
   ·rename_i hu
    injection hs with hs; subst hs
    obtain ⟨b, rfl⟩ := okWide_string hu hok
    exact single rfl rfl
   ·rename_i e hu
    split at hs
    ·split at hs
     ·injection hs with hs; subst hs
      obtain ⟨a, l, c, rfl⟩ := okWide_slice hu hok
      exact single rfl rfl
     ·cases hs
    ·cases hs
   ·rename_i fs hu
    split at hs
    ·split at hs
     ·injection hs with hs; subst hs
      simp only [Value.okWide, hu] at hok
      obtain ⟨cs, rfl, _, _⟩ := hok
      refine ⟨.a pcs, ?_, ?_⟩
      ·unfold Sh.ok
       simp only [Sh.agg, if_true]
       exact ⟨pcs, rfl, h1⟩
      ·have hl : pcs.length = cs.toList.length := h2.1
       refine Rep.a pcs cs (by rw [hl, Array.length_toList]) (fun u hu => ?_) (fun j c u hc hu => (h2.2 j c u hc (by show cs.toList[j]? = some u; rw [Array.getElem?_toList]; exact hu)).2)
       obtain ⟨j, hj⟩ := List.getElem?_of_mem hu
       have hj1 := (List.getElem?_eq_some_iff.1 hj).1
       exact (h2.2 j _ u (List.getElem?_eq_getElem (by omega)) hj).1
     ·cases hs
    ·cases hs
   ·rename_i n e hu
    split at hs
    ·split at hs
     ·split at hs
      ·injection hs with hs; subst hs
       simp only [Value.okWide, hu] at hok
       obtain ⟨cs, rfl, _, _⟩ := hok
       refine ⟨.a pcs, ?_, ?_⟩
       ·unfold Sh.ok
        simp only [Sh.agg, if_true]
        exact ⟨pcs, rfl, h1⟩
       ·have hl : pcs.length = cs.toList.length := h2.1
        refine Rep.a pcs cs (by rw [hl, Array.length_toList]) (fun u hu => ?_) (fun j c u hc hu => (h2.2 j c u hc (by show cs.toList[j]? = some u; rw [Array.getElem?_toList]; exact hu)).2)
        obtain ⟨j, hj⟩ := List.getElem?_of_mem hu
        have hj1 := (List.getElem?_eq_some_iff.1 hj).1
        exact (h2.2 j _ u (List.getElem?_eq_getElem (by omega)) hj).1
      ·cases hs
     ·cases hs
    ·cases hs
   ·cases hs

theorem Ef7 {w : World} {base b0 : Nat} {spare : Nat → Bool} {held : Bool} : ∀ {ts : List TypeId} {shs : List Sh} {vs : List Value} {ds : List (DataW H)} {ps : List MemPlace}, Cz6 P ts = some shs → (∀ (j : Nat) t v, ts[j]? = some t → vs[j]? = some v → Value.okWide P w .any base t v) →
  DataW.TrodAll enc P w b0 spare held ts vs ds ps → ∃ qs, Oks shs qs ∧ qs.length = vs.length ∧ ∀ (j : Nat) (p : PV) (v : Value), qs[j]? = some p → vs[j]? = some v → Rep (view w Bx5) p v
 | [], shs, vs, ds, ps, hs, hok, h => by
   simp only [Cz6, List.mapM_nil, Option.pure_def, Option.some.injEq] at hs; subst hs
   obtain ⟨rfl, rfl, rfl⟩ := trodAll_nil h
   exact ⟨[], trivial, rfl, fun j p v hp => by simp at hp⟩
 | t :: ts, shs, vs, ds, ps, hs, hok, h => by
   simp only [Cz6, List.mapM_cons, Option.bind_eq_bind, Option.bind_eq_some_iff, Option.pure_def, Option.some.injEq] at hs
   obtain ⟨sh, hsh, rest, hrest, rfl⟩ := hs
   obtain ⟨v, vs', d, ds', p, q, rfl, rfl, rfl, h1, h2⟩ := trodAll_cons h
   obtain ⟨x, x1, x2⟩ := Id6 hsh (hok 0 t v rfl rfl) h1
   obtain ⟨qs, q1, q2, q3⟩ := Ef7 hrest (fun j t' v' ht hv => hok (j + 1) t' v' (by simpa using ht) (by simpa using hv)) h2
   refine ⟨x :: qs, ⟨x1, q1⟩, by simp [q2], fun j p' v' hp hv => ?_⟩
   cases j with
   | zero => simp at hp hv; subst hp; subst hv; exact x2
   | succ j => exact q3 j p' v' (by simpa using hp) (by simpa using hv)

theorem El4 (hl : laidOutB P = true) {W W' : World} (hb : Below W.heap.size W W') : ∀ {ts : List TypeId} {vs : List Value} {ds : List (DataW H)} {ps : List MemPlace}, (ts.all fun t => P.readableRec t && decide (t < P.types.size)) = true → DataW.TrodAll enc P W 0 (fun _ => true) true ts vs ds ps →
  DataW.TrodAll enc P W' 0 (fun b => decide (b < W.heap.size)) true ts vs ds ps
 | [], vs, ds, ps, _, h => by
   obtain ⟨rfl, rfl, rfl⟩ := trodAll_nil h
   exact trodAll_mk0
 | t :: ts, vs, ds, ps, hr, h => by
   simp only [List.all_cons, Bool.and_eq_true, decide_eq_true_eq] at hr
   obtain ⟨v, vs', d, ds', p, q, rfl, rfl, rfl, h1, h2⟩ := trodAll_cons h
   refine trodAll_cons_mk (Below.trod hl hr.1.1 hr.1.2 h1 hb ?_) (El4 hl hb (by simpa using hr.2) h2)
   obtain ⟨m, hm⟩ := h1
   exact DataW.trod_lt m _ _ _ hm

theorem law_calls (hM : Ac3 ext) (hT : Tab P sig tab) (hE : ∀ fn, Contract P sig fn → Contract P sig (ext fn)) {f : Nat} {ft : FT} (hf : tab f = some ft) (hsig : sig f = none) {ts : List TypeId} {shs : List Sh} (hs : Cz6 P ts = some shs)
  (law : ∀ qs, Oks shs qs → sem tab ext f shs.length qs = some [.b true]) {W : World} {base b0 : Nat} {spare : Nat → Bool} {held : Bool} {args : Array Value} {ds : List (DataW H)} {ps : List MemPlace}
  (hok : ∀ (j : Nat) t v, ts[j]? = some t → args[j]? = some v → Value.okWide P W .any base t v) (h : DataW.TrodAll enc P W b0 spare held ts args.toList ds ps) :
  Calls P f args W fun e W' => e = .returned (.bool true) ∧ Below W.heap.size W W' := by
 obtain ⟨qs, q1, q2, q3⟩ := Ef7 hs (fun j t v ht hv => hok j t v ht (by simpa using hv)) h
 have hlen := q1.len
 refine (Fl6 hM hT hE hf (by rw [hsig]; rfl) (by rw [hsig]; rfl) (law qs q1) (O := Bx5) ⟨fun _ _ => rfl, by rw [q2, Array.length_toList], fun j p v _ hp hv => q3 j p v hp (by simpa using hv), fun j p v hj hp _ => ?_⟩).mono fun e w' ⟨v, he, hb⟩ => ?_
 ·have := (List.getElem?_eq_some_iff.1 hp).1
  omega
 ·subst he
  rw [hsig] at hb
  obtain ⟨hbel, O', _, _, hres⟩ := hb
  have hr : Rep (view w' O') (.b true) v := hres
  exact ⟨by rw [hr.bool], hbel.to⟩
end
end Go.X
/- Functions without a body: what the model says of them. -/
namespace Go.X
open Go Go.RowKit

inductive XK where
 | countS | indexS | cmpS
 deriving DecidableEq
def XK.entry : XK → Array Value → Sem Value
 | .countS => Extern.BytealgCount.count
 | .indexS => Extern.BytealgIndexByte.indexByte
 | .cmpS => Extern.BytealgCompare.compare
def Fq0 (f : List UInt8 → UInt8 → Int) : List PV → Option (List PV)
 | [.s x, .i .u8 c] => some [.i .i64 (f x c.toNat.toUInt8)]
 | _ => none
def Jx1 (f : List UInt8 → List UInt8 → Int) : List PV → Option (List PV)
 | [.s x, .s y] => some [.i .i64 (f x y)]
 | _ => none
def XK.run : XK → List PV → Option (List PV)
 | .countS => Fq0 fun x c => (Lib.countByte x c : Int)
 | .indexS => Fq0 Lib.indexByte
 | .cmpS => Jx1 Lib.compareBytes
theorem Ah8 {f : List UInt8 → UInt8 → Int} {vs rs : List PV} (h : Fq0 f vs = some rs) : ∃ x c, vs = [.s x, .i .u8 c] ∧ rs = [.i .i64 (f x c.toNat.toUInt8)] := by
 unfold Fq0 at h
 split at h
 ·rename_i x c; injection h with h; exact ⟨x, c, rfl, h.symm⟩
 ·cases h
theorem Bh3 {f : List UInt8 → List UInt8 → Int} {vs rs : List PV} (h : Jx1 f vs = some rs) : ∃ x y, vs = [.s x, .s y] ∧ rs = [.i .i64 (f x y)] := by
 unfold Jx1 at h
 split at h
 ·rename_i x c; injection h with h; exact ⟨x, c, rfl, h.symm⟩
 ·cases h
def lkX : List (Nat × XK) → Nat → Option XK
 | [], _ => none
 | (k, t) :: r, f => if k = f then some t else lkX r f
def Cl9 (xs : List (Nat × XK)) : Fns → Fns := fun _ f n args => match lkX xs f with
 | some k => if n = args.length then k.run args else none
 | none => none
theorem Bp0 (xs : List (Nat × XK)) : Ac3 (Cl9 xs) := fun _ _ _ _ _ _ _ h => h
def XOK (P : Program) (f : Nat) (k : XK) : Prop := ∃ func, P.funcs[f]? = some func ∧ (func.name == "runtime.NumGoroutine") = false ∧ func.body.isNone = true ∧ Extern.findNext func = none ∧ Extern.find func = some k.entry
def XOKs (P : Program) : List (Nat × XK) → Prop
 | [] => True
 | p :: r => XOK P p.1 p.2 ∧ XOKs P r
theorem Is1 {P : Program} : ∀ {xs : List (Nat × XK)} {f : Nat} {k : XK}, XOKs P xs → lkX xs f = some k → XOK P f k
 | [], _, _, _, h => by simp [lkX] at h
 | (j, t) :: r, f, k, hx, h => by
   simp only [lkX] at h
   split at h
   ·rename_i e
    injection h with h
    subst h; subst e
    exact hx.1
   ·exact Is1 hx.2 h
theorem As1 {w : World} {O : Nat → Option Nat} {n : Nat} {vs : List PV} {args : Array Value} (hg : Given w O n vs args) (hn : n = vs.length) {j : Nat} {p : PV} (hp : vs[j]? = some p) : ∃ v, args[j]? = some v ∧ Rep (view w O) p v := by
 have hj := (List.getElem?_eq_some_iff.1 hp).1
 have hs := hg.size
 obtain ⟨v, hv⟩ : ∃ v, args[j]? = some v := ⟨args[j]'(by omega), Array.getElem?_eq_getElem (by omega)⟩
 exact ⟨v, hv, hg.val j p v (by omega) hp hv⟩
theorem Br9 {args : Array Value} {a b : Value} (hs : args.size = 2) (ha : args[0]? = some a) (hb : args[1]? = some b) : args = #[a, b] := by
 obtain ⟨l⟩ := args
 match l, hs with
 | [x, y], _ => simp at ha hb; simp [ha, hb]
theorem Eh9 {sig : Nat → Option Nat} : ∀ {xs : List (Nat × XK)}, (xs.all fun p => (sig p.1).isNone) = true → ∀ f k, lkX xs f = some k → sig f = none
 | [], _, f, k, h => by simp [lkX] at h
 | (j, t) :: r, h, f, k, hk => by
   simp only [List.all_cons, Bool.and_eq_true, Option.isNone_iff_eq_none] at h
   simp only [lkX] at hk
   split at hk
   ·rename_i e; subst e; exact h.1
   ·exact Eh9 h.2 f k hk
theorem XK.run_len {k : XK} {vs rs : List PV} (h : k.run vs = some rs) : vs.length = 2 := by
 cases k with
 | countS => obtain ⟨x, c, rfl, _⟩ := Ah8 (by simpa only [XK.run] using h); rfl
 | indexS => obtain ⟨x, c, rfl, _⟩ := Ah8 (by simpa only [XK.run] using h); rfl
 | cmpS => obtain ⟨x, c, rfl, _⟩ := Bh3 h; rfl
theorem Im2 {P : Program} {sig : Nat → Option Nat} {xs : List (Nat × XK)} (hx : XOKs P xs) (hsig : ∀ f k, lkX xs f = some k → sig f = none) (fn : Fns) (hC : Contract P sig fn) : Contract P sig (Cl9 xs fn) := by
 refine ⟨fun f n vs rs h => ?_, hC.bld⟩
 ·simp only [Cl9] at h
  split at h
  ·rename_i k hk
   split at h
   ·rename_i hn
    refine ⟨fun _ w O args hg => ?_, fun hT => by rw [hn, XK.run_len h] at hT; simp [TAG] at hT⟩
    obtain ⟨func, h1, h2, h3, h4, h5⟩ := Is1 hx hk
    have hrun := fun a => run_callFunc_extern h1 h2 h3 h4 h5 a w
    have fin : ∀ (z : Int) (a : Array Value), args = a → (k.entry a).run P w = .ok (.int .i64 z) w → Ax4 P f args w (Back P (sig f) w O [.i .i64 z]) := by
     intro z a ha hr
     subst ha
     refine .inl ⟨.int .i64 z, w, ?_, Blw.refl _ _, O, fun _ _ => rfl, hg.out, ?_⟩
     ·rw [hrun, hr]; rfl
     ·rw [hsig f k hk]
      exact Rep.i .i64 z
    cases k with
    | countS =>
      obtain ⟨x, c, rfl, rfl⟩ := Ah8 (by simpa only [XK.run] using h)
      obtain ⟨a, ha, ra⟩ := As1 hg hn (j := 0) rfl
      obtain ⟨b, hb, rb⟩ := As1 hg hn (j := 1) rfl
      have e := Br9 (by rw [hg.size]; rfl) ha hb
      obtain ⟨s, rfl, rfl⟩ := ra.str
      have := rb.int
      subst this
      exact fin _ _ e (Lib.run_countString s c w)
    | indexS =>
      obtain ⟨x, c, rfl, rfl⟩ := Ah8 (by simpa only [XK.run] using h)
      obtain ⟨a, ha, ra⟩ := As1 hg hn (j := 0) rfl
      obtain ⟨b, hb, rb⟩ := As1 hg hn (j := 1) rfl
      have e := Br9 (by rw [hg.size]; rfl) ha hb
      obtain ⟨s, rfl, rfl⟩ := ra.str
      have := rb.int
      subst this
      exact fin _ _ e (Lib.run_indexByteString s c w)
    | cmpS =>
      obtain ⟨x, y, rfl, rfl⟩ := Bh3 h
      obtain ⟨a, ha, ra⟩ := As1 hg hn (j := 0) rfl
      obtain ⟨b, hb, rb⟩ := As1 hg hn (j := 1) rfl
      have e := Br9 (by rw [hg.size]; rfl) ha hb
      obtain ⟨s, rfl, rfl⟩ := ra.str
      obtain ⟨t, rfl, rfl⟩ := rb.str
      exact fin _ _ e (Lib.run_compareString s t w)
   ·cases h
  ·cases h
theorem Fl5 {tab : Nat → Option FT} {xs : List (Nat × XK)} {f : Nat} {k : XK} {args rs : List PV} (ht : tab f = none) (hk : lkX xs f = some k) (h : k.run args = some rs) : sem tab (Cl9 xs) f args.length args = some rs := by
 refine (Bs7 (Bp0 xs)).2 ⟨1, ?_⟩
 rw [runF]
 simp only [ht]
 simp only [Cl9, hk, if_true]
 exact h
end Go.X
/- Residual programs, evaluated by rewriting. -/
namespace Go.X
open Go

def Aj6 (j : Nat) (p : PV) : Option PV := p.cells[j]?
def Ab0 (off n : Nat) (p : PV) : Option PV := if off + n ≤ p.cells.length then some (.a ((p.cells.drop off).take n)) else none
def As5 (n : Nat) : PV → Option PV
 | .a cs => if cs.length = n then some (.a cs) else none
 | _ => none
def Af8 (p : PV) : Option PV := if p.scal then some p else none
def brE (η : List PV) (x y : E) : PV → Option PV
 | .b true => x.ev η
 | .b false => y.ev η
 | _ => none
def brT (fn : Fns) (N : Nat) (t e : T) (η : List PV) : PV → Option Out
 | .b true => t.ev fn N η
 | .b false => e.ev fn N η
 | _ => none
def goT (fn : Fns) (N : Nat) (k : T) (η : List PV) : Option Out := k.ev fn N η
def aft (fn : Fns) (N : Nat) (id : Nat) (k : T) (η : List PV) : Out → Option Out
 | .yld j vs => if j = id then k.ev fn N (η ++ vs) else some (.yld j vs)
 | .ret vs => some (.ret vs)
def Im7 (fn : Fns) (η : List PV) (fl : Bool) (f : Nat) (ar : List E) (m : Nat) : PV → Option (List PV)
 | .b true => (E.evs η ar).bind fun vs => results fl m η (fn f vs.length vs)
 | .b false => some (η ++ List.replicate m .u)
 | _ => none
section
variable {η : List PV}
theorem ev_v (n : Nat) : (E.v n).ev η = η[n]? := by simp only [E.ev]
theorem ev_c (x : PV) : (E.c x).ev η = some x := by simp only [E.ev]
theorem Lj3 (op : BinOp) (x y : E) : (E.bin op x y).ev η = (x.ev η).bind fun p => (y.ev η).bind fun q => X.bin op p q := by simp only [E.ev]
theorem Ls3 (op : UnOp) (x : E) : (E.un op x).ev η = (x.ev η).bind (X.un op) := by simp only [E.ev]
theorem Kt8 (g x y : E) : (E.ite g x y).ev η = (g.ev η).bind (brE η x y) := by
 simp only [E.ev]; rfl
theorem Jd3 (j : Nat) (x : E) : (E.proj j x).ev η = (x.ev η).bind (Aj6 j) := by simp only [E.ev]; rfl
theorem Kt1 (o n : Nat) (x : E) : (E.sub o n x).ev η = (x.ev η).bind (Ab0 o n) := by simp only [E.ev]; rfl
theorem Lj6 (xs : List E) : (E.agg xs).ev η = (E.evs η xs).map .a := by simp only [E.ev]
theorem Lj0 (n : Nat) (x : E) : (E.fit n x).ev η = (x.ev η).bind (As5 n) := by
 simp only [E.ev]; congr 1; funext p; cases p <;> rfl
theorem Jd2 (x : E) : (E.scal x).ev η = (x.ev η).bind Af8 := by simp only [E.ev]; rfl
theorem Kt9 (sz : Nat) (x i : E) : (E.idx sz x i).ev η = (x.ev η).bind fun p => (i.ev η).bind fun q => Ac8 sz p q := by simp only [E.ev]
theorem ev_len (x : E) : (E.len x).ev η = (x.ev η).bind Aw9 := by simp only [E.ev]
theorem Jd0 (x : E) : (E.slen x).ev η = (x.ev η).bind At3 := by simp only [E.ev]
theorem Jd1 (x i : E) : (E.sidx x i).ev η = (x.ev η).bind fun p => (i.ev η).bind fun q => Bq7 p q := by simp only [E.ev]
theorem Kt2 (x lo hi : E) : (E.ssl x lo hi).ev η = (x.ev η).bind fun p => (lo.ev η).bind fun q => (hi.ev η).bind fun r => Fh8 p q r := by simp only [E.ev]
theorem Kt6 (sz : Nat) (x lo hi : E) : (E.lsl sz x lo hi).ev η = (x.ev η).bind fun p => (lo.ev η).bind fun q => (hi.ev η).bind fun r => Ac7 sz p q r := by simp only [E.ev]
theorem Lj5 (sz : Nat) (x y : E) : (E.app sz x y).ev η = (x.ev η).bind fun p => (y.ev η).bind fun q => Aw1 sz p q := by simp only [E.ev]
theorem Kt7 (sz : Nat) (xs : List E) : (E.lit sz xs).ev η = (E.evs η xs).bind (Ap4 sz) := by simp only [E.ev]
theorem Kt5 (sz : Nat) (n z : E) : (E.rep sz n z).ev η = (n.ev η).bind fun p => (z.ev η).bind fun q => Bv4 sz p q := by simp only [E.ev]
theorem Kt3 (sz : Nat) (x i : E) (o : Nat) (vs : List E) : (E.set sz x i o vs).ev η = (x.ev η).bind fun p => (i.ev η).bind fun q => (E.evs η vs).bind fun r => Cr3 sz o r p q := by simp only [E.ev]
theorem Jd6 (k : IntKind) (x : E) : (E.conv k x).ev η = (x.ev η).bind (El1 k) := by simp only [E.ev]
theorem Lj4 (x : E) : (E.b2s x).ev η = (x.ev η).bind Cm4 := by simp only [E.ev]
theorem Kt4 (x : E) : (E.s2b x).ev η = (x.ev η).bind Fk9 := by simp only [E.ev]
theorem Lj1 (n g : Bool) (ts : List Sc) (x y : E) : (E.eqs n g ts x y).ev η = (x.ev η).bind fun p => (y.ev η).bind fun q => Ag9 n g ts p q := by simp only [E.ev]
theorem Lj2 (g : Nat) (xs : List E) : (E.clo g xs).ev η = (E.evs η xs).map (.f g) := by simp only [E.ev]
theorem Ls5 (x y : E) : (E.mn x y).ev η = (x.ev η).bind fun p => (y.ev η).bind fun q => mnPV p q := by simp only [E.ev]
theorem Ls4 (x y : E) : (E.mx x y).ev η = (x.ev η).bind fun p => (y.ev η).bind fun q => mxPV p q := by simp only [E.ev]
theorem Jd5 (x k z : E) : (E.mget x k z).ev η = (x.ev η).bind fun p => (k.ev η).bind fun q => (z.ev η).bind fun r => Cg7 p q r := by simp only [E.ev]
theorem Jd4 (x k v : E) : (E.mset x k v).ev η = (x.ev η).bind fun p => (k.ev η).bind fun q => (v.ev η).bind fun r => Cg6 p q r := by simp only [E.ev]
theorem Jc9 : E.evs η [] = some [] := by simp only [E.evs]
theorem Im3 (x : E) (xs : List E) : E.evs η (x :: xs) = (x.ev η).bind fun p => (E.evs η xs).map fun ps => p :: ps := by simp only [E.evs]
theorem Im9 (x y : E) : brE η x y (.b true) = x.ev η := rfl
theorem Ik6 (x y : E) : brE η x y (.b false) = y.ev η := rfl
theorem Ls9 (x y : E) (v : Bool) : brE η x y (.b v) = if v = true then x.ev η else y.ev η := by cases v <;> rfl
end

section
variable {fn : Fns} {N : Nat} {η : List PV}
theorem tev_eq {t t' : T} (h : t = t') : ∀ (fn : Fns) (N : Nat) (η : List PV), T.ev fn N t η = T.ev fn N t' η := by
 subst h; intro fn N η; exact Eq.refl _
theorem Jq9 (x : E) (k : T) : (T.w (.chk x) k).ev fn N η = (x.ev η).bind fun _ => k.ev fn N η := by
 simp only [T.ev, W.ev]; cases x.ev η <;> rfl
theorem Iz3 (fl : Bool) (f : Nat) (ar : List E) (m : Nat) (k : T) : (T.w (.call none fl f ar m) k).ev fn N η = (((E.evs η ar).bind fun vs => results fl m η (fn f vs.length vs))).bind (goT fn N k) := by
 simp only [T.ev, W.ev, Aq7]; rfl
theorem Fg8 (g : E) (fl : Bool) (f : Nat) (ar : List E) (m : Nat) (k : T) : (T.w (.call (some g) fl f ar m) k).ev fn N η = (W.ev fn η (.call (some g) fl f ar m)).bind (goT fn N k) := by
 simp only [T.ev]; rfl
theorem Jq8 (g : Option E) (fl : Bool) (c : E) (ar : List E) (m : Nat) (k : T) : (T.w (.clo g fl c ar m) k).ev fn N η = (W.ev fn η (.clo g fl c ar m)).bind (goT fn N k) := by
 simp only [T.ev]; rfl
theorem Cy2 (f : Nat) (ar : List E) (k : T) : (T.w (.mcall f ar) k).ev fn N η = ((E.evs η ar).bind fun vs => results false 1 η (fn f (vs.length + TAG) vs)).bind (goT fn N k) := by
 simp only [T.ev, W.ev]; rfl
theorem Kq8 : TAG = 1048576 := rfl
theorem Ks2 (k : T) : goT fn N k η = k.ev fn N η := rfl
theorem Jq7 (c : E) (t e : T) : (T.ite c t e).ev fn N η = (c.ev η).bind (brT fn N t e η) := by
 simp only [T.ev]; rfl
theorem Im8 (t e : T) : brT fn N t e η (.b true) = t.ev fn N η := rfl
theorem Ik5 (t e : T) : brT fn N t e η (.b false) = e.ev fn N η := rfl
theorem Ls8 (t e : T) (v : Bool) : brT fn N t e η (.b v) = if v = true then t.ev fn N η else e.ev fn N η := by cases v <;> rfl
theorem Jq6 (es : List E) : (T.ret es).ev fn N η = (E.evs η es).map .ret := by simp only [T.ev]
theorem Jq5 (id : Nat) (es : List E) : (T.yld id es).ev fn N η = (E.evs η es).map (.yld id) := by simp only [T.ev]
theorem Jv0 (id : Nat) (b k : T) : (T.blk id b k).ev fn N η = (b.ev fn N η).bind (aft fn N id k η) := by
 simp only [T.ev]; rfl
theorem Iw9 (id : Nat) (k : T) (vs : List PV) : aft fn N id k η (.ret vs) = some (.ret vs) := rfl
theorem Jt1 (id j : Nat) (k : T) (vs : List PV) : aft fn N id k η (.yld j vs) = if j = id then k.ev fn N (η ++ vs) else some (.yld j vs) := rfl
theorem Jt2 (id : Nat) (k : T) (p : Prop) [Decidable p] (x y : Out) : aft fn N id k η (if p then x else y) = if p then aft fn N id k η x else aft fn N id k η y := by split <;> rfl
theorem Fg3 (g : E) (fl : Bool) (f : Nat) (ar : List E) (m : Nat) : W.ev fn η (.call (some g) fl f ar m) = (g.ev η).bind (Im7 fn η fl f ar m) := by
 simp only [W.ev, Aq7]; rfl
theorem Fc7 (fl : Bool) (f : Nat) (ar : List E) (m : Nat) : Im7 fn η fl f ar m (.b true) = (E.evs η ar).bind fun vs => results fl m η (fn f vs.length vs) := rfl
theorem Dk6 (fl : Bool) (f : Nat) (ar : List E) (m : Nat) : Im7 fn η fl f ar m (.b false) = some (η ++ List.replicate m .u) := rfl
theorem Jf9 (fl : Bool) (f : Nat) (ar : List E) (m : Nat) (v : Bool) : Im7 fn η fl f ar m (.b v) = if v = true then ((E.evs η ar).bind fun vs => results fl m η (fn f vs.length vs)) else some (η ++ List.replicate m .u) := by cases v <;> rfl
theorem Jq2 (fl : Bool) (c : E) (ar : List E) (m : Nat) : W.ev fn η (.clo none fl c ar m) = (c.ev η).bind fun q => (E.evs η ar).bind fun vs => match q with | .f f caps => results fl m η (fn f vs.length (vs ++ caps)) | _ => none := by
 simp only [W.ev, Aq7]; rfl

theorem Ih1 {α β : Type} (p : Prop) [Decidable p] (x y : Option α) (f : α → Option β) : (if p then x else y).bind f = if p then x.bind f else y.bind f := by split <;> rfl
theorem Ih0 (p : Prop) [Decidable p] (x y : PV) : (if p then some x else some y) = some (if p then x else y) := by split <;> rfl
theorem Gf2 (p : Prop) [Decidable p] (x y : Out) : (if p then some x else some y) = some (if p then x else y) := by split <;> rfl
theorem Ks1 (p : Prop) [Decidable p] (x y : Bool) : (if p then PV.b x else PV.b y) = PV.b (if p then x else y) := by split <;> rfl
theorem Ks0 (p : Prop) [Decidable p] (k : IntKind) (x y : Int) : (if p then PV.i k x else PV.i k y) = PV.i k (if p then x else y) := by split <;> rfl
theorem Kr9 (p : Prop) [Decidable p] (x y : List UInt8) : (if p then PV.s x else PV.s y) = PV.s (if p then x else y) := by split <;> rfl

def Out.goes (id : Nat) : Out → Bool
 | .yld j _ => j == id
 | _ => false
theorem Bv0 {step : List PV → Option Out} {id : Nat} {α : Type} (st : α → List PV) (res : α → Out) (I : α → Prop) (μ : α → Nat)
  (h : ∀ a, I a → (∃ b, step (st a) = some (.yld id (st b)) ∧ I b ∧ μ b < μ a ∧ res b = res a) ∨ (step (st a) = some (res a) ∧ (res a).goes id = false)) :
  ∀ (n : Nat) (a : α), I a → μ a < n → Ax7 step id n (st a) = some (res a)
 | 0, a, _, hn => by omega
 | n + 1, a, ha, hn => by
   simp only [Ax7]
   rcases h a ha with ⟨b, h1, h2, h3, h4⟩ | ⟨h1, h2⟩
   ·rw [h1]
    simp only [Option.bind_some, if_true]
    rw [Bv0 st res I μ h n b h2 (by omega), h4]
   ·rw [h1]
    simp only [Option.bind_some]
    cases hr : res a with
    | ret vs => rfl
    | yld j vs =>
      rw [hr] at h2
      simp only [Out.goes, beq_eq_false_iff_ne, ne_eq] at h2
      simp only []
      rw [if_neg h2]
theorem Aw8 {id : Nat} {init : List E} {body : T} {α : Type} (st : α → List PV) (res : α → Out) (I : α → Prop) (μ : α → Nat) (a0 : α)
  (h0 : E.evs η init = some (st a0)) (hI : I a0) (hN : μ a0 < N)
  (h : ∀ a, I a → (∃ b, body.ev fn N (η ++ st a) = some (.yld id (st b)) ∧ I b ∧ μ b < μ a ∧ res b = res a) ∨ (body.ev fn N (η ++ st a) = some (res a) ∧ (res a).goes id = false)) :
  (T.loop id init body).ev fn N η = some (res a0) := by
 simp only [T.ev, h0, Option.bind_some]
 exact Bv0 st res I μ h N a0 hI hN
theorem Bk0 {id : Nat} {init : List E} {body : T} (n : Nat) (st : Nat → List PV) (res : Nat → Out)
  (h0 : E.evs η init = some (st 0)) (hN : n < N)
  (h : ∀ i, i < n → (body.ev fn N (η ++ st i) = some (.yld id (st (i + 1))) ∧ res (i + 1) = res i) ∨ (body.ev fn N (η ++ st i) = some (res i) ∧ (res i).goes id = false))
  (hn : body.ev fn N (η ++ st n) = some (res n) ∧ (res n).goes id = false) :
  (T.loop id init body).ev fn N η = some (res 0) := by
 refine Aw8 st res (fun i => i ≤ n) (fun i => n - i) 0 h0 (Nat.zero_le _) (by omega) fun i hi => ?_
 by_cases hlt : i < n
 ·rcases h i hlt with ⟨h1, h2⟩ | h1
  ·exact .inl ⟨i + 1, h1, by omega, by omega, h2⟩
  ·exact .inr h1
 ·have : i = n := by omega
  subst this; exact .inr hn
end


theorem Ak8 {fn : Fns} {N : Nat} {η : List PV} {id : Nat} {init : List E} {body : T} {β γ : Type} (l : List β) (st : Nat → γ → List PV) (f : Nat → γ → List β → Out) (I : Nat → γ → Prop) (g0 : γ)
  (h0 : E.evs η init = some (st 0 g0)) (hI : I 0 g0) (hN : l.length < N)
  (step : ∀ i g c r, l.drop i = c :: r → i < l.length → l[i]? = some c → I i g →
   (∃ g', body.ev fn N (η ++ st i g) = some (.yld id (st (i + 1) g')) ∧ I (i + 1) g' ∧ f (i + 1) g' r = f i g (c :: r)) ∨ (body.ev fn N (η ++ st i g) = some (f i g (c :: r)) ∧ (f i g (c :: r)).goes id = false))
  (stop : ∀ g, I l.length g → body.ev fn N (η ++ st l.length g) = some (f l.length g []) ∧ (f l.length g []).goes id = false) :
  (T.loop id init body).ev fn N η = some (f 0 g0 l) := by
 have := Aw8 (fn := fn) (N := N) (η := η) (id := id) (init := init) (body := body) (α := Nat × γ) (fun a => st a.1 a.2) (fun a => f a.1 a.2 (l.drop a.1)) (fun a => a.1 ≤ l.length ∧ I a.1 a.2) (fun a => l.length - a.1) (0, g0) h0 ⟨Nat.zero_le _, hI⟩ (by simpa using hN) ?_
 ·simpa using this
 ·rintro ⟨i, g⟩ ⟨hi, hg⟩
  simp only at hi hg ⊢
  by_cases hlt : i < l.length
  ·have hd : l.drop i = l[i] :: l.drop (i + 1) := List.drop_eq_getElem_cons hlt
   rcases step i g l[i] (l.drop (i + 1)) hd hlt (List.getElem?_eq_getElem hlt) hg with ⟨g', h1, h2, h3⟩ | h1
   ·exact .inl ⟨(i + 1, g'), h1, ⟨hlt, h2⟩, by simp only; omega, by simp only; rw [h3, hd]⟩
   ·exact .inr (by rw [hd]; exact h1)
  ·have hi' : i = l.length := by omega
   subst hi'
   have hd : l.drop l.length = [] := List.drop_length
   exact .inr (by rw [hd]; exact stop g hg)
theorem Ak2 {fn : Fns} {N : Nat} {η : List PV} {id : Nat} {init : List E} {body : T} {β : Type} (l : List β) (st : Nat → List PV) (f : Nat → List β → Out)
  (h0 : E.evs η init = some (st 0)) (hN : l.length < N)
  (step : ∀ i c r, l.drop i = c :: r → i < l.length → l[i]? = some c →
   (body.ev fn N (η ++ st i) = some (.yld id (st (i + 1))) ∧ f (i + 1) r = f i (c :: r)) ∨ (body.ev fn N (η ++ st i) = some (f i (c :: r)) ∧ (f i (c :: r)).goes id = false))
  (stop : body.ev fn N (η ++ st l.length) = some (f l.length []) ∧ (f l.length []).goes id = false) :
  (T.loop id init body).ev fn N η = some (f 0 l) :=
 Ak8 (γ := Unit) l (fun i _ => st i) (fun i _ r => f i r) (fun _ _ => True) () h0 trivial hN (fun i _ c r h1 h2 h3 _ => by
  rcases step i c r h1 h2 h3 with ⟨a, b⟩ | h
  ·exact .inl ⟨(), a, trivial, b⟩
  ·exact .inr h) (fun _ _ => stop)

theorem w64 {x : Int} (h1 : -9223372036854775808 ≤ x) (h2 : x ≤ 9223372036854775807) : IntKind.i64.wrap x = x := IntWalk.i64_in x ⟨h1, h2⟩
theorem w8 {x : Int} (h1 : 0 ≤ x) (h2 : x ≤ 255) : IntKind.u8.wrap x = x := IntWalk.u8_in x ⟨h1, h2⟩
theorem wu64 {x : Int} (h1 : 0 ≤ x) (h2 : x ≤ 18446744073709551615) : IntKind.u64.wrap x = x := by
 simp [IntKind.wrap, IntKind.bits, IntKind.signed]; omega
theorem Lk3 {p : Prop} [Decidable p] (h : p) : decide p = true := decide_eq_true h
theorem Lk4 {p : Prop} [Decidable p] (h : ¬ p) : decide p = false := decide_eq_false h
theorem Js3 (k : IntKind) (x y : Int) : X.bin .add (.i k x) (.i k y) = some (.i k (k.wrap (x + y))) := by simp [X.bin, Av0]
theorem Jr3 (k : IntKind) (x y : Int) : X.bin .sub (.i k x) (.i k y) = some (.i k (k.wrap (x - y))) := by simp [X.bin, Av0]
theorem Jr7 (k : IntKind) (x y : Int) : X.bin .mul (.i k x) (.i k y) = some (.i k (k.wrap (x * y))) := by simp [X.bin, Av0]
theorem Jr5 (k : IntKind) (x y : Int) : X.bin .quo (.i k x) (.i k y) = if y = 0 then none else some (.i k (k.wrap (x.tdiv y))) := by simp [X.bin, Av0]
theorem Jr4 (k : IntKind) (x y : Int) : X.bin .rem (.i k x) (.i k y) = if y = 0 then none else some (.i k (x.tmod y)) := by simp [X.bin, Av0]
theorem Kd5 (k : IntKind) (x y : Int) (h : 0 ≤ x) (h' : 0 < y) : X.bin .quo (.i k x) (.i k y) = some (.i k (k.wrap (x / y))) := by
 rw [Jr5, if_neg (by omega), Int.tdiv_eq_ediv_of_nonneg h]
theorem Kd4 (k : IntKind) (x y : Int) (h : 0 ≤ x) (h' : 0 < y) : X.bin .rem (.i k x) (.i k y) = some (.i k (x % y)) := by
 rw [Jr4, if_neg (by omega), Int.tmod_eq_emod_of_nonneg h]
theorem Js2 (k : IntKind) (x y : Int) : X.bin .eql (.i k x) (.i k y) = some (.b (decide (x = y))) := by simp [X.bin, Av0]; rfl
theorem Jr6 (k : IntKind) (x y : Int) : X.bin .neq (.i k x) (.i k y) = some (.b (decide (x ≠ y))) := by
 simp [X.bin, Av0]; by_cases h : x = y <;> simp [h]
theorem Jr8 (k : IntKind) (x y : Int) : X.bin .lss (.i k x) (.i k y) = some (.b (decide (x < y))) := by simp [X.bin, Av0]
theorem Jr9 (k : IntKind) (x y : Int) : X.bin .leq (.i k x) (.i k y) = some (.b (decide (x ≤ y))) := by simp [X.bin, Av0]
theorem Js0 (k : IntKind) (x y : Int) : X.bin .gtr (.i k x) (.i k y) = some (.b (decide (y < x))) := by simp [X.bin, Av0]
theorem Js1 (k : IntKind) (x y : Int) : X.bin .geq (.i k x) (.i k y) = some (.b (decide (y ≤ x))) := by simp [X.bin, Av0]
theorem In5 (x y : List UInt8) (h : x.length + y.length ≤ 9223372036854775807) : X.bin .add (.s x) (.s y) = some (.s (x ++ y)) := by
 simp only [X.bin, Bp5]; rw [if_neg]; simp [IntKind.max, IntKind.bits, IntKind.signed]; omega
theorem In4 (x y : List UInt8) : X.bin .eql (.s x) (.s y) = some (.b (decide (x = y))) := by
 simp only [X.bin, Bp5]; by_cases h : x = y <;> simp [h]
theorem In1 (x y : List UInt8) : X.bin .neq (.s x) (.s y) = some (.b (decide (x ≠ y))) := by
 simp only [X.bin, Bp5]; by_cases h : x = y <;> simp [h]
theorem In2 (x y : List UInt8) : X.bin .lss (.s x) (.s y) = some (.b (Op.bytesLess x y)) := rfl
theorem In3 (x y : List UInt8) : X.bin .gtr (.s x) (.s y) = some (.b (!(Op.bytesLess x y || x == y))) := rfl
theorem Kq5 (x : Bool) : X.un .not (.b x) = some (.b (!x)) := rfl
theorem Jy3 (p : Prop) [Decidable p] : (!decide p) = decide (¬ p) := by by_cases h : p <;> simp [h]
theorem Ct8 (sz : Nat) (xs : List PV) (k : IntKind) (z : Int) (h : 0 ≤ z) : Ac8 sz (.l sz xs) (.i k z) = xs[z.toNat]? := by
 simp [Ac8, h]
theorem Lg5 (sz : Nat) (xs : List PV) : Aw9 (.l sz xs) = some (.i .i64 (xs.length : Int)) := rfl
theorem Kv3 (x : List UInt8) : At3 (.s x) = some (.i .i64 (x.length : Int)) := rfl
theorem Kv4 (x : List UInt8) (k : IntKind) (n : Int) (h : 0 ≤ n) : Bq7 (.s x) (.i k n) = (x[n.toNat]?).map fun c => .i .u8 (c.toNat : Int) := by
 simp [Bq7, h]
theorem Lx1 (x : List UInt8) (k k' : IntKind) (a b : Int) (h1 : 0 ≤ a) (h2 : a ≤ b) (h3 : b ≤ (x.length : Int)) : Fh8 (.s x) (.i k a) (.i k' b) = some (.s ((x.take b.toNat).drop a.toNat)) := by
 simp [Fh8, h1, h2, h3]
theorem Ig2 (sz : Nat) (x : List PV) (k k' : IntKind) (a b : Int) (h1 : 0 ≤ a) (h2 : a ≤ b) (h3 : b ≤ (x.length : Int)) : Ac7 sz (.l sz x) (.i k a) (.i k' b) = some (.l sz ((x.take b.toNat).drop a.toNat)) := by
 simp [Ac7, h1, h2, h3]
theorem Cm6 (sz : Nat) (xs ys : List PV) (h : xs.length + ys.length ≤ 1073741824) : Aw1 sz (.l sz xs) (.l sz ys) = some (.l sz (xs ++ ys)) := by
 simp [Aw1, LIM, h]
theorem Lq1 (sz : Nat) (xs : List PV) (y : PV) (h : xs.length + 1 ≤ 1073741824) : Aw1 sz (.l sz xs) (.l sz [y]) = some (.l sz (xs ++ [y])) := Cm6 sz xs [y] h
theorem Jz7 (sz : Nat) : Ap4 sz [] = some (.l sz []) := rfl
theorem Kv8 (x : List UInt8) : Af8 (.s x) = some (.s x) := rfl
theorem Kw0 (k : IntKind) (x : Int) : Af8 (.i k x) = some (.i k x) := rfl
theorem Kw2 (x : Bool) : Af8 (.b x) = some (.b x) := rfl
theorem Kv9 (sz : Nat) (x : List PV) : Af8 (.l sz x) = some (.l sz x) := rfl
theorem Lg3 (x : List UInt8) : Ap4 1 [.s x] = some (.l 1 [.s x]) := rfl
theorem Kd7 (x : List UInt8) : Aj6 0 (.s x) = some (.s x) := rfl
theorem Kd8 (k : IntKind) (x : Int) : Aj6 0 (.i k x) = some (.i k x) := rfl
theorem Kf0 (j : Nat) (cs : List PV) : Aj6 j (.a cs) = cs[j]? := rfl
theorem Lg1 (k : IntKind) (x y : Int) (h : x ≤ y) : mnPV (.i k x) (.i k y) = some (.i k x) := by simp only [mnPV, if_true]; rw [if_neg (by omega)]
theorem Lg2 (k : IntKind) (x y : Int) (h : y < x) : mnPV (.i k x) (.i k y) = some (.i k y) := by simp only [mnPV, if_true]; rw [if_pos h]
theorem Lg0 (k : IntKind) (x y : Int) (h : y ≤ x) : mxPV (.i k x) (.i k y) = some (.i k x) := by simp only [mxPV, if_true]; rw [if_neg (by omega)]
theorem Lf9 (k : IntKind) (x y : Int) (h : x < y) : mxPV (.i k x) (.i k y) = some (.i k y) := by simp only [mxPV, if_true]; rw [if_pos (by omega)]
theorem Lk7 (k k' : IntKind) (x : Int) : El1 k (.i k' x) = some (.i k (k.wrap x)) := rfl
theorem Ir0 (n : Nat) : ((n : Int)).toNat = n := Int.toNat_natCast n
theorem Cm3 (x : List UInt8) : Cm4 (.l 1 (Aq1 x)) = some (.s x) := by
 have : ∀ x : List UInt8, (x.map fun c => PV.i .u8 (c.toNat : Int)).mapM byteOf? = some x := by
  intro x
  induction x with
  | nil => rfl
  | cons c r ih =>
    have hc := c.toNat_lt
    have h1 : byteOf? (PV.i .u8 (c.toNat : Int)) = some c := by
     simp only [byteOf?]
     rw [if_pos (by omega)]
     simp
    simp [List.mapM_cons, h1, ih]
 simp [Cm4, Aq1, this]
theorem Lf7 (x : List UInt8) (h : x.length ≤ 1073741824) : Fk9 (.s x) = some (.l 1 (Aq1 x)) := by simp [Fk9, LIM, h]
theorem Cm1 (x : List UInt8) : (Aq1 x).length = x.length := by simp [Aq1]
theorem Lg4 (k : IntKind) (x : Int) : Ap4 1 [.i k x] = some (.l 1 [.i k x]) := rfl
theorem Fc3 (x y : Bool) : Ag9 false false [.b] (.b x) (.b y) = some (.b (x == y)) := by
 simp [Ag9, PV.scal, Av5, eqSc]
theorem Bl0 (x y : Bool) : Ag9 true false [.b] (.b x) (.b y) = some (.b (!(x == y))) := by
 simp [Ag9, PV.scal, Av5, eqSc]
theorem Jb9 (x y : PV) : As5 2 (.a [x, y]) = some (.a [x, y]) := rfl
theorem Ks7 (x : Bool) : PV.flat (.b x) = true := rfl
theorem Ks6 (k : IntKind) (x : Int) : PV.flat (.i k x) = true := rfl
theorem Ks4 (x : List UInt8) : PV.flat (.s x) = true := rfl
theorem Kd3 (η : List PV) (x : PV) : results false 1 η (some [x]) = some (η ++ [x]) := rfl
theorem Kd2 (η : List PV) (x y : PV) : results false 2 η (some [x, y]) = some (η ++ [x, y]) := rfl
theorem Kd1 (η : List PV) (x y z : PV) : results false 3 η (some [x, y, z]) = some (η ++ [x, y, z]) := rfl
theorem Kd0 (η : List PV) : results true 0 η (some []) = some (η ++ []) := rfl
theorem Kc9 (η : List PV) (x : PV) : results true 1 η (some [x]) = if x.flat = true then some (η ++ [x]) else none := by
 simp [results, PV.flat.flats]
theorem Kc8 (η : List PV) (x y : PV) : results true 2 η (some [x, y]) = if x.flat = true then (if y.flat = true then some (η ++ [x, y]) else none) else none := by
 simp only [results, Option.bind_some, PV.flat.flats]
 by_cases h : x.flat = true <;> by_cases h' : y.flat = true <;> simp [h, h']
theorem Kq6 (c : UInt8) (k : Nat) (hk : k < 256) : ((c.toNat : Int) = (k : Int)) ↔ c = UInt8.ofNat k := by
 constructor
 ·intro h
  have h' : c.toNat = k := by omega
  rw [← h']; simp
 ·rintro rfl
  simp; omega
end Go.X
namespace Go.X
open Go
theorem Aj3 {o : Option T} {t : T} (h : o.map T.slim = some t) : ∃ t0, o = some t0 ∧ t0.slim = t := Option.map_eq_some_iff.1 h
def FOK (P : Program) (sig : Nat → Option Nat) (f : Nat) (ft : FT) : Prop :=
 ∃ func H, P.funcs[f]? = some func ∧ (func.name == "runtime.NumGoroutine") = false ∧ Iw6 sig f func = ft.np ∧ func.params.size < TAG ∧ func.nfree = ft.nf ∧ ∃ t, xfun P sig f func H = some t ∧ t.slim = ft.t
def lkF : List (Nat × FT) → Nat → Option FT
 | [], _ => none
 | (k, t) :: r, f => if k = f then some t else lkF r f
def FOKs (P : Program) (sig : Nat → Option Nat) : List (Nat × FT) → Prop
 | [] => True
 | p :: r => FOK P sig p.1 p.2 ∧ FOKs P sig r
def BldL (P : Program) : List (Nat × Nat) → Prop
 | [] => True
 | p :: r => (match Ex7 (some p.2) with | some (T, k) => As9 P p.1 T k | none => True) ∧ BldL P r
theorem Iq0 {P : Program} : ∀ {l : List (Nat × Nat)}, BldL P l → Blds P (Gz2 l)
 | [], _ => fun f T k h => by simp [Gz2, Ex7] at h
 | p :: r, hl => fun f T k h => by
   simp only [Gz2] at h
   split at h
   ·rename_i e
    subst e
    have := hl.1
    rw [h] at this
    exact this
   ·exact Iq0 hl.2 f T k h
theorem In0 {P : Program} : BldL P [] := trivial
theorem Aq9 {P : Program} {p : Nat × Nat} {r : List (Nat × Nat)} (h : Ex7 (some p.2) = none) (hr : BldL P r) : BldL P (p :: r) := ⟨by rw [h]; trivial, hr⟩
theorem Ex6 {P : Program} {p : Nat × Nat} {r : List (Nat × Nat)} {T k : Nat} (h : Ex7 (some p.2) = some (T, k)) (hs : As9 P p.1 T k) (hr : BldL P r) : BldL P (p :: r) := ⟨by rw [h]; exact hs, hr⟩
theorem Fg9 {P : Program} {sig : Nat → Option Nat} : ∀ (l : List (Nat × FT)), FOKs P sig l → ∀ f ft, lkF l f = some ft → ∃ func H, P.funcs[f]? = some func ∧ (func.name == "runtime.NumGoroutine") = false ∧ Iw6 sig f func = ft.np ∧ func.params.size < TAG ∧ func.nfree = ft.nf ∧ ∃ t, xfun P sig f func H = some t ∧ t.slim = ft.t
 | [], _ => fun f ft h => by simp [lkF] at h
 | (k, t) :: r, hl => fun f ft h => by
   simp only [lkF] at h
   split at h
   ·rename_i e
    injection h with h
    subst h; subst e
    exact hl.1
   ·exact Fg9 r hl.2 f ft h
theorem Kv0 {P : Program} {sig : Nat → Option Nat} (l : List (Nat × FT)) (h : FOKs P sig l) (hB : Blds P sig) : Tab P sig (lkF l) := ⟨Fg9 l h, hB⟩
end Go.X
namespace Go.X
theorem Cs1 {α β : Type} (a : α) (f : α → Option β) : (some a).bind f = f a := by rw [Option.bind_some]
theorem Cs2 {α β : Type} (f : α → Option β) : (none : Option α).bind f = none := by rw [Option.bind_none]
theorem Fq5 {α β : Type} (a : α) (f : α → β) : (some a).map f = some (f a) := by rw [Option.map_some]
theorem Fq6 {α β : Type} (f : α → β) : (none : Option α).map f = none := by rw [Option.map_none]
theorem Bs8 {α : Type} (a : α) (l m : List α) : (a :: l) ++ m = a :: (l ++ m) := by rw [List.cons_append]
theorem Cb2 {α : Type} (m : List α) : [] ++ m = m := by rw [List.nil_append]
theorem Fq9 {α : Type} (a : α) (l : List α) (i : Nat) : (a :: l)[i + 1]? = l[i]? := by rw [List.getElem?_cons_succ]
theorem Fq8 {α : Type} (a : α) (l : List α) : (a :: l)[0]? = some a := by rw [List.getElem?_cons_zero]
theorem Fq7 {α : Type} (a : α) (l : List α) : (a :: l).length = l.length + 1 := by rw [List.length_cons]
theorem Fm6 {α : Type} : ([] : List α).length = 0 := by rw [List.length_nil]
theorem Fq4 {α : Type} (a : α) (n : Nat) : List.replicate (n + 1) a = a :: List.replicate n a := by rw [List.replicate_succ]
theorem Fq3 {α : Type} (a : α) : List.replicate 0 a = [] := by rw [List.replicate_zero]
theorem Fm8 {α β : Type} (f : α → β) (l : List α) (i : Nat) : (l.map f)[i]? = l[i]?.map f := by rw [List.getElem?_map]
theorem Fm7 {α β : Type} (f : α → β) (l : List α) : (l.map f).length = l.length := by rw [List.length_map]
set_option linter.defProp false
def EV := (And.intro @Cs1 (And.intro @Fq5 (And.intro @Cs2 (And.intro @Fq6 (And.intro @Bs8 (And.intro @Cb2 (And.intro @Fq9 (And.intro @Fq8 (And.intro @Bool.not_true (And.intro @Bool.not_false (And.intro @Fq7 (And.intro @Fm6 (And.intro @Fq4 (And.intro @Fq3 (And.intro @Fm8 (And.intro @Fm7 (And.intro @Bool.if_true_left (And.intro @Bool.if_false_right (And.intro @Bool.decide_eq_true (And.intro @Int.natCast_add (And.intro @Int.cast_ofNat_Int (And.intro @Nat.zero_add (And.intro @decide_eq_true_eq (And.intro @Bool.false_eq_true (And.intro @decide_true (And.intro @decide_false (And.intro @ev_v (And.intro @ev_c (And.intro @Lj3 (And.intro @Ls3 (And.intro @Kt8 (And.intro @Jd3 (And.intro @Kt1 (And.intro @Lj6 (And.intro @Lj0 (And.intro @Jd2 (And.intro @Kt9 (And.intro @ev_len (And.intro @Jd0 (And.intro @Jd1 (And.intro @Kt2 (And.intro @Kt6 (And.intro @Lj5 (And.intro @Kt7 (And.intro @Kt5 (And.intro @Kt3 (And.intro @Jd6 (And.intro @Lj4 (And.intro @Kt4 (And.intro @Lj1 (And.intro @Lj2 (And.intro @Ls5 (And.intro @Ls4 (And.intro @Jd5 (And.intro @Jd4 (And.intro @Jc9 (And.intro @Im3 (And.intro @Im9 (And.intro @Ik6 (And.intro @Ls9 (And.intro @Jq9 (And.intro @Iz3 (And.intro @Fg8 (And.intro @Fg3 (And.intro @Fc7 (And.intro @Dk6 (And.intro @Jf9 (And.intro @Jq8 (And.intro @Ks2 (And.intro @Jq7 (And.intro @Im8 (And.intro @Ik5 (And.intro @Ls8 (And.intro @Jq6 (And.intro @Jq5 (And.intro @Jv0 (And.intro @Iw9 (And.intro @Jt2 (And.intro @Jt1 (And.intro @w64 (And.intro @w8 (And.intro @wu64 (And.intro @Kd5 (And.intro @Kd4 (And.intro @Lk3 (And.intro @Lk4 (And.intro @Js3 (And.intro @Jr3 (And.intro @Jr7 (And.intro @Js2 (And.intro @Jr6 (And.intro @Jr8 (And.intro @Jr9 (And.intro @Js0 (And.intro @Js1 (And.intro @In5 (And.intro @In4 (And.intro @In1 (And.intro @In2 (And.intro @In3 (And.intro @Kq5 (And.intro @Jy3 (And.intro @Ct8 (And.intro @Lg5 (And.intro @Kv3 (And.intro @Kv4 (And.intro @Lx1 (And.intro @Ig2 (And.intro @Lq1 (And.intro @Cm6 (And.intro @Jz7 (And.intro @Lg3 (And.intro @Lg4 (And.intro @Cm3 (And.intro @Lf7 (And.intro @Kv8 (And.intro @Kw0 (And.intro @Kw2 (And.intro @Kv9 (And.intro @Kd7 (And.intro @Kd8 (And.intro @Kf0 (And.intro @Lg1 (And.intro @Lg2 (And.intro @Lg0 (And.intro @Lf9 (And.intro @Fc3 (And.intro @Bl0 (And.intro @Jb9 (And.intro @Lk7 (And.intro @Ir0 (And.intro @Ks7 (And.intro @Ks6 (And.intro @Ks4 (And.intro @Kd3 (And.intro @Kd2 (And.intro @Kd1 (And.intro @Kd0 (And.intro @Kc9 (And.intro @Kc8 (And.intro @Ih1 (And.intro @Ih0 (And.intro @Gf2 (And.intro @Ks1 (And.intro @Ks0 (And.intro @Kr9 (And.intro @if_true.{1} (And.intro @if_false.{1} (And.intro @ne_eq.{1} (And.intro @not_true (And.intro @not_false_eq_true @Bool.true_eq_false)))))))))))))))))))))))))))))))))))))))))))))))))))))))))))))))))))))))))))))))))))))))))))))))))))))))))))))))))))))))))))))))))))))))))))))))))))))))
end Go.X
namespace Go.X
end Go.X
