/- One operation. -/
import Derived.Test.YtbjmmfaolmclfaaGreatDoorIteratePlaysG2
import Derived.Test.YtbjmmfaolmclfaaGreatDoorIteratePlaysG0

set_option maxHeartbeats 1000000
set_option linter.unusedVariables false
set_option linter.unusedSimpArgs false
namespace Go.X
open Go Go.RowKit

section
variable {P : Program} {sig : Nat → Option Nat} {fn : Fns} {w0 : Fr} {Oe : Nat → Option Nat} {η : List PV} {σ : St} {a : Act} {tm : Array Value} {w : World} {β : Nat → Nat} {hv : Nat → Value} {O : Nat → Option Nat} {G : Option E} {o : Oper} {ws : List W}

theorem Al0 {r : Option (List W × SV)} {v : SV} {ε : Eff} (h : Cb1 r σ = some (ws, v, ε)) : r = some (ws, v) ∧ ε = effK σ := by
 unfold Cb1 at h
 obtain ⟨⟨a, b⟩, h1, h2⟩ := Option.map_eq_some_iff.1 h
 simp only [Prod.mk.injEq] at h2
 obtain ⟨rfl, rfl, rfl⟩ := h2
 exact ⟨h1, rfl⟩

theorem Dk5 (hC : Contract P sig fn) {c : Call} {x : Operand} {svs : List SV} {more : List Nat} {r : SV} {ε : Eff} {mk : Option E → Bool → List E → Nat → W} {η1 η2 ζ : List PV} {s : Nat} {r' : SV} {ε' : Eff} (ho : o.op = .call c) (hc : c.callee = .value x)
  (h : Rel w0 Oe η σ a.tmps w β hv O) (hG : GOk η G) (hargs : args P σ G c.args.toList c.argTypes.toList = some svs) (hcall : Bp4 P σ G o.type mk svs more = some (ws, r, ε))
  (hmk : ∀ flat es m, ws = [mk G flat es m] → (mk G flat es m).ev fn η1 = some η2 → ∃ vs f caps, E.evs η1 es = some vs ∧ results flat m η1 (fn f vs.length (vs ++ caps)) = some η2 ∧
   Kj2 P sig σ.n η o.type s f flat r ε r' ε' ∧
   ∀ O1, (view w O).Le (view w O1) → (∀ s, s ∈ more → Af3 ⟨η, view w O, β, hv, σ.m⟩ O1 s) → Tgt (view w O1) f caps (a.eval x))
  (hw : Ak9 fn η1 ws = some η2) (hη : η = η2 ++ ζ) (hn : η1.length = σ.n) : Step P o a w (Post w0 Oe η σ a.tmps ε' r') := by
 unfold Bp4 at hcall
 split at hcall
 ·cases hcall
 ·rename_i es ss hes
  dsimp only at hcall
  split at hcall
  ·cases hcall
  ·rename_i hsm
   split at hcall
   ·cases hcall
   rename_i hlt
   split at hcall
   ·cases hcall
   ·simp only [Option.some.injEq, Prod.mk.injEq] at hcall
    obtain ⟨rfl, rfl, rfl⟩ := hcall
    simp only [Ak9, Option.bind_eq_some_iff] at hw
    obtain ⟨η3, hw, he⟩ := hw
    injection he with he
    subst he
    obtain ⟨vs, f, caps, k1, k2, k3, k4⟩ := hmk _ _ _ rfl hw
    obtain ⟨rs, q1, q2, q3, q4⟩ := Ax9 k2
    subst q4
    have hvs : E.evs η es = some vs := by rw [hη, List.append_assoc]; exact E.evs_mono _ _ _ _ k1
    have hr : Aj5 ⟨η, view w O, β, hv, σ.m⟩ svs (c.args.map a.eval).toList := by
     have := As7 (ds := a.defers) (C := ⟨η, view w O, β, hv, σ.m⟩) hG rfl h.tmps hargs
     simpa using this
    refine Jf8 (s := s) hC (single := Ab7 P o.type) ho hc h hr hes hvs k4 q1 (by rw [(As6 hvs).1]; simpa using hlt) q2 q3 hη hn (fun h1 => ?_) (fun h1 => ?_) (ty := o.type) (fun h1 => ?_) k3
    ·unfold Ab7 at h1
     unfold Ah9
     split at h1
     ·cases h1
     ·rfl
    ·rw [h1] at hsm
     simpa using hsm
    ·unfold Ab7 at h1
     unfold Ah9
     split at h1
     ·cases h1
     ·rfl

theorem Ip4 (hC : Contract P sig fn) {own : List Nat} {s : Nat} {r : SV} {ε : Eff} (h : Rel w0 Oe η σ a.tmps w β hv O) (hG : GOk η G) (hx : xop P sig own σ G s o = some (ws, r, ε)) {η1 η2 ζ : List PV} (hw : Ak9 fn η1 ws = some η2) (hη : η = η2 ++ ζ) (hn : η1.length = σ.n) :
  Step P o a w (Post w0 Oe η σ a.tmps ε r) := by
 have hk : Chk η ws := fun x hx => Gh7 hw ⟨ζ, hη⟩ x hx
 unfold xop at hx
 dsimp only at hx
 split at hx
 ·-- move
  rename_i x ho
  obtain ⟨v, hv1, he⟩ := Option.map_eq_some_iff.1 hx
  simp only [Prod.mk.injEq] at he
  obtain ⟨rfl, rfl, rfl⟩ := he
  exact Gq6 (.inl ho) h hG hv1
 ·rename_i x ho
  obtain ⟨v, hv1, he⟩ := Option.map_eq_some_iff.1 hx
  simp only [Prod.mk.injEq] at he
  obtain ⟨rfl, rfl, rfl⟩ := he
  exact Gq6 (.inr ho) h hG hv1
 ·rename_i c x y ho
  split at hx
  ·rename_i ec hc
   split at hx
   ·rename_i ea eb h1 h2
    simp only [Option.some.injEq, Prod.mk.injEq] at hx
    obtain ⟨rfl, rfl, rfl⟩ := hx
    exact Jx6 ho h hG hc h1 h2 hk
   ·cases hx
  ·cases hx
 ·-- alloc
  rename_i t ho
  split at hx
  ·cases hx
  ·obtain ⟨cs, h1, he⟩ := Option.bind_eq_some_iff.1 hx
   split at he
   ·rename_i hns
    simp only [Option.some.injEq, Prod.mk.injEq] at he
    obtain ⟨rfl, rfl, rfl⟩ := he
    exact If3 ho h h1 hns
   ·cases he
 ·-- box
  rename_i t x ho
  split at hx
  ·cases hx
  ·split at hx
   ·rename_i ws' cs hb
    split at hx
    ·rename_i hns
     simp only [Option.some.injEq, Prod.mk.injEq] at hx
     obtain ⟨rfl, rfl, rfl⟩ := hx
     obtain ⟨sv, h1, h2⟩ := Option.bind_eq_some_iff.1 hb
     exact Kf8 ho h hG h1 h2 hns hk
    ·cases hx
   ·cases hx
 ·-- build
  rename_i t parts ho
  split at hx
  ·rename_i zs vs h1 h2
   split at hx
   ·rename_i ws' cs hf
    split at hx
    ·rename_i hc
     simp only [Option.some.injEq, Prod.mk.injEq] at hx
     obtain ⟨rfl, rfl, rfl⟩ := hx
     simp only [Bool.and_eq_true] at hc
     exact If2 ho h hG h1 h2 hf hc.2 hk (by split <;> simp)
    ·cases hx
   ·cases hx
  ·cases hx
 ·-- buildSlice
  rename_i t len parts ho
  split at hx
  ·rename_i e vs h1 h2
   split at hx
   ·cases hx
   ·rename_i hc
    simp only [Bool.or_eq_true, not_or, Bool.not_eq_true', Bool.not_eq_false, bne_iff_ne, ne_eq, Decidable.not_not, decide_eq_true_eq, Bool.not_eq_true, Option.isNone_iff_eq_none, decide_eq_false_iff_not] at hc
    obtain ⟨⟨⟨⟨_, hr⟩, hsm⟩, hsz⟩, hz⟩ := hc
    obtain ⟨zs, hz⟩ := Option.ne_none_iff_exists'.1 (by simpa using hz)
    have ht : P.underlying t = some (.slice e) := by
     unfold Ax5 at h1
     split at h1
     ·rename_i h; rw [h]; injection h1 with h1; rw [h1]
     ·cases h1
    split at hx
    ·rename_i ws' es ss h3 h4
     split at hx
     ·split at hx
      ·simp only [Option.some.injEq, Prod.mk.injEq] at hx
       obtain ⟨rfl, rfl, rfl⟩ := hx
       exact An9 (own := true) ho ht h hG hz h2 hr (by simpa using hsm) hsz h3 h4 hk (.inr ⟨rfl, rfl, rfl⟩)
      ·cases hx
     ·simp only [Option.some.injEq, Prod.mk.injEq] at hx
      obtain ⟨rfl, rfl, rfl⟩ := hx
      refine An9 (own := false) (s := s) ho ht h hG hz h2 hr (by simpa using hsm) hsz h3 h4 (fun x hx => ?_) (.inl ⟨rfl, rfl, rfl⟩)
      rcases List.mem_append.1 hx with hx | hx
      ·exact hk x (List.mem_append_left _ hx)
      ·simp only [List.mem_singleton, W.chk.injEq] at hx
       subst hx
       exact Chk.g1 (G := G) (fun y hy => hk y (List.mem_append_right _ hy)) hG
    ·cases hx
  ·cases hx
 ·-- load
  rename_i t x ho
  obtain ⟨h1, rfl⟩ := Al0 hx
  obtain ⟨p, h2, h3⟩ := Option.bind_eq_some_iff.1 h1
  exact Jx8 ho h hG h2 h3 hk
 ·-- store
  rename_i t x y ho
  split at hx
  ·cases hx
  ·split at hx
   ·rename_i p v h1 h2
    obtain ⟨⟨ws', ε'⟩, h3, he⟩ := Option.map_eq_some_iff.1 hx
    simp only [Prod.mk.injEq] at he
    obtain ⟨rfl, rfl, rfl⟩ := he
    exact Id7 ho h hG h1 h2 h3 hk
   ·cases hx
 ·-- nilCheck
  rename_i x ho
  split at hx
  all_goals first
   | (rename_i h1
      simp only [Option.some.injEq, Prod.mk.injEq] at hx
      obtain ⟨rfl, rfl, rfl⟩ := hx
      first
       | exact Az7 ho h hG h1 (.inl ⟨_, rfl, hk⟩)
       | exact Az7 ho h hG h1 (.inr (.inl ⟨_, _, rfl⟩))
       | exact Az7 ho h hG h1 (.inr (.inr (.inl ⟨_, _, rfl⟩)))
       | exact Az7 ho h hG h1 (.inr (.inr (.inr (.inl ⟨_, _, _, rfl⟩))))
       | exact Az7 ho h hG h1 (.inr (.inr (.inr (.inr ⟨_, _, rfl⟩)))))
   | cases hx
 ·-- binOp
  rename_i op xt x y yt ho
  split at hx
  ·rename_i ex hnq
   simp only [Option.some.injEq, Prod.mk.injEq] at hx
   obtain ⟨rfl, rfl, rfl⟩ := hx
   split at hnq
   ·rename_i hcond
    obtain ⟨rfl, hte, hnil⟩ := hcond
    obtain ⟨e, hte⟩ := Option.isSome_iff_exists.1 hte
    exact Jx7 ho hte hnil h hG hnq hk
   ·cases hnq
  split at hx
  ·rename_i ex ey h1 h2
   split at hx
   ·rename_i hag
    split at hx
    ·rename_i ts hts
     have hbt : tAgg P xt = false → P.underlying xt = some .bool := by
      intro h0
      rw [h0] at hag
      simp only [Bool.false_or, Gf5] at hag
      split at hag
      ·assumption
      ·cases hag
     split at hx
     ·split at hx
      ·cases hx
      ·rename_i hg
       simp only [Option.some.injEq, Prod.mk.injEq] at hx
       obtain ⟨rfl, rfl, rfl⟩ := hx
       exact Ir8 (neg := false) ho rfl rfl hts (by simpa using hg) hbt h hG h1 h2 hk
     ·split at hx
      ·cases hx
      ·rename_i hg
       simp only [Option.some.injEq, Prod.mk.injEq] at hx
       obtain ⟨rfl, rfl, rfl⟩ := hx
       exact Ir8 (neg := true) ho rfl rfl hts (by simpa using hg) hbt h hG h1 h2 hk
     ·cases hx
    ·cases hx
   ·simp only [Option.some.injEq, Prod.mk.injEq] at hx
    obtain ⟨rfl, rfl, rfl⟩ := hx
    exact Kg0 ho h hG h1 h2 hk
  ·cases hx
 ·-- unOp
  rename_i op t x ho
  obtain ⟨ex, h1, he⟩ := Option.map_eq_some_iff.1 hx
  simp only [Prod.mk.injEq] at he
  obtain ⟨rfl, rfl, rfl⟩ := he
  exact Lf8 ho h hG h1 hk
 ·-- convert
  rename_i src dst x ho
  split at hx
  ·rename_i k' k h1 h2
   obtain ⟨ex, h3, he⟩ := Option.map_eq_some_iff.1 hx
   simp only [Prod.mk.injEq] at he
   obtain ⟨rfl, rfl, rfl⟩ := he
   exact Jx9 ho h1 h2 h hG h3 hk
  ·rename_i h1 h2
   obtain ⟨ex, h3, he⟩ := Option.map_eq_some_iff.1 hx
   simp only [Prod.mk.injEq] at he
   obtain ⟨rfl, rfl, rfl⟩ := he
   exact If0 ho h1 h2 h hG h3 hk
  ·rename_i e h1 h2
   split at hx
   ·rename_i hu
    split at hx
    ·cases hx
    ·rename_i hfree
     obtain ⟨ex, h3, he⟩ := Option.map_eq_some_iff.1 hx
     simp only [Prod.mk.injEq] at he
     obtain ⟨rfl, rfl, rfl⟩ := he
     have hu' : P.underlying e = some (.int .u8) := by
      unfold Fb6 at hu
      split at hu
      ·assumption
      ·cases hu
     cases G with
     | some g => simp at hfree
     | none => exact Kf2 ho h1 h2 hu' h hG h3 hk
   ·cases hx
  ·rename_i e h1 h2
   split at hx
   ·rename_i hu
    split at hx
    ·rename_i ex ss hb
     simp only [Option.some.injEq, Prod.mk.injEq] at hx
     obtain ⟨rfl, rfl, rfl⟩ := hx
     obtain ⟨sv, h3, h4⟩ := Option.bind_eq_some_iff.1 hb
     have hu' : P.underlying e = some (.int .u8) := by
      unfold Fb6 at hu
      split at hu
      ·assumption
      ·cases hu
     exact Kg1 ho h1 h2 hu' h hG h3 h4 hk
    ·cases hx
   ·cases hx
  ·cases hx
 ·-- makeFunc
  rename_i f first captured ho
  split at hx
  ·rename_i hf
   obtain ⟨cs, h1, he⟩ := Option.map_eq_some_iff.1 hx
   simp only [Prod.mk.injEq] at he
   obtain ⟨rfl, rfl, rfl⟩ := he
   exact Cs6 ho hf h hG h1
  ·cases hx
 ·-- fieldAddr
  rename_i t x f ho
  split at hx
  ·rename_i off ft p h1 h2
   split at hx
   ·cases hx
   ·rename_i hz
    split at hx
    ·simp only [Option.some.injEq, Prod.mk.injEq] at hx
     obtain ⟨rfl, rfl, rfl⟩ := hx
     exact Ag0 ho h1 hz h hG h2 (.inl ⟨_, _, rfl, rfl⟩)
    ·simp only [Option.some.injEq, Prod.mk.injEq] at hx
     obtain ⟨rfl, rfl, rfl⟩ := hx
     exact Ag0 ho h1 hz h hG h2 (.inr (.inl ⟨_, _, rfl, rfl⟩))
    ·simp only [Option.some.injEq, Prod.mk.injEq] at hx
     obtain ⟨rfl, rfl, rfl⟩ := hx
     exact Ag0 ho h1 hz h hG h2 (.inr (.inr ⟨_, _, _, rfl, rfl⟩))
    ·simp only [Option.some.injEq, Prod.mk.injEq] at hx
     obtain ⟨rfl, rfl, rfl⟩ := hx
     exact By9 ho h1 hz h hG h2 hk
    ·cases hx
  ·cases hx
 ·-- field
  rename_i t x f ho
  split at hx
  ·rename_i off ft sv h1 h2
   obtain ⟨h3, rfl⟩ := Al0 hx
   exact Id9 ho h1 h hG h2 h3 hk
  ·cases hx
 ·-- indexAddr
  rename_i t x i ho
  split at hx
  ·rename_i e sv ei h1 h2 h3
   split at hx
   ·split at hx
    ·rename_i e' sz y ro hb
     split at hx
     ·rename_i hsz
      simp only [Option.some.injEq, Prod.mk.injEq] at hx
      obtain ⟨rfl, rfl, rfl⟩ := hx
      exact Cj0 ho h1 hsz h hG h2 hb h3 hk
     ·cases hx
    ·cases hx
   ·split at hx
    ·rename_i e' sz y ro hb
     split at hx
     ·rename_i hsz
      simp only [Option.some.injEq, Prod.mk.injEq] at hx
      obtain ⟨rfl, rfl, rfl⟩ := hx
      exact Bt9 ho h1 hsz h hG h2 hb h3 hk
     ·cases hx
    ·cases hx
   ·split at hx
    ·rename_i y hy
     split at hx
     ·cases hx
     ·rename_i hz
      simp only [Option.some.injEq, Prod.mk.injEq] at hx
      obtain ⟨rfl, rfl, rfl⟩ := hx
      exact Cb8 ho h1 hz h hG h2 hy h3 hk
    ·cases hx
  ·rename_i n e sv kk k h1 h2 h3
   split at hx
   ·rename_i hb
    split at hx
    ·simp only [Option.some.injEq, Prod.mk.injEq] at hx
     obtain ⟨rfl, rfl, rfl⟩ := hx
     exact Af1 ho h1 h hG h2 h3 hb (.inl ⟨_, _, rfl, rfl⟩)
    ·simp only [Option.some.injEq, Prod.mk.injEq] at hx
     obtain ⟨rfl, rfl, rfl⟩ := hx
     exact Af1 ho h1 h hG h2 h3 hb (.inr ⟨_, _, rfl, rfl⟩)
    ·cases hx
   ·cases hx
  ·cases hx
 ·-- index
  rename_i t x i ho
  split at hx
  ·rename_i ex ei h1 h2 h3
   simp only [Option.some.injEq, Prod.mk.injEq] at hx
   obtain ⟨rfl, rfl, rfl⟩ := hx
   exact Cb6 ho h1 h hG (by simp only [opdE, h2, Option.bind_some, SV.asE]) h3 hk
  ·rename_i n e sv kk k h1 h2 h3
   split at hx
   ·rename_i hb
    obtain ⟨h4, rfl⟩ := Al0 hx
    exact Cb7 ho h1 h hG h2 h3 hb h4 hk
   ·cases hx
  ·cases hx
 ·-- slice
  rename_i t x lo hi mx ho
  split at hx
  ·rename_i s0 h1
   split at h1
   ·exact Cs5 ho h hG h1 hx hk
   ·cases h1
  ·rename_i n y h1
   split at h1
   ·exact At5 ho h hG h1 (.inl rfl) hx hk
   ·cases h1
  ·rename_i n h1
   split at h1
   ·exact At5 ho h hG h1 (.inr ⟨rfl, rfl⟩) hx hk
   ·cases h1
  ·obtain ⟨sv, h1, h2⟩ := Option.bind_eq_some_iff.1 hx
   exact Id8 ho h hG h1 h2 hk
 ·-- extract
  rename_i x i ho
  split at hx
  ·rename_i xs h1
   obtain ⟨v, h2, he⟩ := Option.map_eq_some_iff.1 hx
   simp only [Prod.mk.injEq] at he
   obtain ⟨rfl, rfl, rfl⟩ := he
   exact Fy4 ho h hG h1 h2
  ·cases hx
 ·-- makeSlice
  rename_i t l c ho
  split at hx
  ·cases hx
  ·split at hx
   ·rename_i e n n' h1 h2 h3
    split at hx
    ·cases hx
    ·rename_i hc
     simp only [Bool.not_eq_true', Bool.not_eq_false] at hc
     split at hx
     ·rename_i zs hz
      split at hx
      ·rename_i z hz2
       split at hx
       ·rename_i h0
        simp only [Option.some.injEq, Prod.mk.injEq] at hx
        obtain ⟨rfl, rfl, rfl⟩ := hx
        exact Bt8 ho h1 h hG h2 h3 h0 hc hz hk
       ·split at hx
        ·cases hx
        ·rename_i hs
         simp only [Bool.not_eq_true', Bool.not_eq_false] at hs
         simp only [Option.some.injEq, Prod.mk.injEq] at hx
         obtain ⟨rfl, rfl, rfl⟩ := hx
         exact Cb5 ho h1 h hG h2 h3 hs hc hz hz2 hk
      ·cases hx
     ·cases hx
   ·cases hx
 ·-- makeMap
  rename_i t r0 ho
  split at hx
  ·cases hx
  ·rename_i hc
   simp only [Bool.or_eq_true, not_or, Bool.not_eq_true', Bool.not_eq_false, Bool.not_eq_true, Option.isSome_eq_false_iff, Option.isNone_iff_eq_none] at hc
   have hr0 : r0 = none := by cases r0 <;> simp_all
   subst hr0
   simp only [Option.some.injEq, Prod.mk.injEq] at hx
   obtain ⟨rfl, rfl, rfl⟩ := hx
   exact Fy3 ho h
 ·-- lookup
  rename_i t x k ho
  split at hx
  ·rename_i e sv ek h1 h2 h3
   obtain ⟨k', h4, h5⟩ := Cy9 h1
   split at hx
   ·rename_i em z h6 h7
    simp only [Option.some.injEq, Prod.mk.injEq] at hx
    obtain ⟨rfl, rfl, rfl⟩ := hx
    exact Gq7 ho h4 h5 h hG h2 h6 h3 h7 hk
   ·cases hx
  ·cases hx
 ·-- mapUpdate
  rename_i t x k y ho
  split at hx
  ·cases hx
  ·split at hx
   ·rename_i e s0 ek ey h1 h2 h3 h4
    obtain ⟨k', h5, h6⟩ := Cy9 h1
    split at hx
    ·rename_i em hb
     simp only [Option.some.injEq, Prod.mk.injEq] at hx
     obtain ⟨rfl, rfl, rfl⟩ := hx
     exact Cb4 ho h5 h6 h hG h2 hb h3 h4 hk
    ·cases hx
   ·cases hx
 ·-- call
  rename_i c ho
  split at hx
  ·rename_i hc
   split at hx
   ·rename_i x ha
    split at hx
    ·rename_i t ht
     obtain ⟨h1, rfl⟩ := Al0 hx
     obtain ⟨sv, h2, h3⟩ := Option.bind_eq_some_iff.1 h1
     exact Kf6 ho hc ha ht h hG h2 h3 hk
    ·cases hx
   ·cases hx
  ·rename_i hc
   split at hx
   ·rename_i x ha
    split at hx
    ·rename_i t ht
     split at hx
     ·rename_i n h1
      obtain ⟨h2, rfl⟩ := Al0 hx
      exact Ir9 ho hc ha ht h hG h1 (.inl ⟨_, rfl⟩) h2 hk
     ·rename_i n y h1
      obtain ⟨h2, rfl⟩ := Al0 hx
      exact Ir9 ho hc ha ht h hG h1 (.inr ⟨_, _, rfl⟩) h2 hk
     ·cases hx
    ·cases hx
   ·cases hx
  ·rename_i hc
   split at hx
   ·cases hx
   ·split at hx
    ·rename_i d x t t' ha hty
     split at hx
     ·rename_i ht
      subst ht
      split at hx
      ·rename_i sd sx h1 h2
       exact Gq8 ho hc ha hty h hG h1 h2 hx hk
      ·cases hx
     ·split at hx
      ·rename_i sd n e h1 h2 h3
       split at hx
       ·rename_i hu
        split at hx
        ·rename_i zs hz
         split at hx
         ·rename_i ze hze
          exact Fy5 ho hc ha hty h hG h1 h2 h3 hu hz hze hx hk
         ·cases hx
        ·cases hx
       ·cases hx
      ·cases hx
    ·cases hx
  ·rename_i hc
   split at hx
   ·rename_i x y ha
    split at hx
    ·rename_i ex ey h1 h2
     simp only [Option.some.injEq, Prod.mk.injEq] at hx
     obtain ⟨rfl, rfl, rfl⟩ := hx
     exact Kf4 ho hc ha h hG h1 h2 hk
    ·cases hx
   ·cases hx
  ·rename_i hc
   split at hx
   ·rename_i x y ha
    split at hx
    ·rename_i ex ey h1 h2
     simp only [Option.some.injEq, Prod.mk.injEq] at hx
     obtain ⟨rfl, rfl, rfl⟩ := hx
     exact Kf5 ho hc ha h hG h1 h2 hk
    ·cases hx
   ·cases hx
  ·rename_i hc
   split at hx
   ·rename_i x t ha hty
    obtain ⟨sv, h1, h2⟩ := Option.bind_eq_some_iff.1 hx
    exact If1 ho hc ha hty h hG h1 h2 hk
   ·cases hx
  ·-- a function that is known
   rename_i f hc
   split at hx
   ·rename_i T k hbl
    exact Kf9 hC ho hc hbl h hG hx hk
   split at hx
   ·rename_i e rr hmu
    exact Kf3 hC ho hc hmu h hG hx hw hη hn
   split at hx
   ·rename_i e hfa
    exact Kf7 hC ho hc hfa h hG hx hw hη hn
   split at hx
   ·rename_i ar has
    split at hx
    ·rename_i ws' r1 ε1 hcall
     have tgt : ∀ (r' : SV) (ε' : Eff), Kj2 P sig σ.n η o.type s f ((Ah9 P o.type).all (Iz5 P)) r1 ε1 r' ε' → Ak9 fn η1 ws' = some η2 → Step P o a w (Post w0 Oe η σ a.tmps ε' r') := by
      intro r' ε' hmode hw
      have hflat : ∀ flat es m, ws' = [.call G flat f es m] → flat = (Ah9 P o.type).all (Iz5 P) := by
       intro flat es m hws
       unfold Bp4 at hcall
       split at hcall
       ·cases hcall
       ·dsimp only at hcall
        split at hcall
        ·cases hcall
        ·split at hcall
         ·cases hcall
         ·split at hcall
          ·cases hcall
          ·simp only [Option.some.injEq, Prod.mk.injEq] at hcall
           rw [← hcall.1] at hws
           simp only [List.cons.injEq, W.call.injEq, and_true] at hws
           exact hws.2.1.symm
      refine Dk5 hC (s := s) ho hc h hG has hcall (fun flat es m hws hm => ?_) hw hη hn
      simp only [W.ev] at hm
      have hm2 := Bn5 (ζ := ζ) (η := η) hm hη (fun hh => by
       obtain ⟨vs, _, hh⟩ := Option.bind_eq_some_iff.1 hh
       obtain ⟨rs, _, _, _, h4⟩ := Ax9 hh
       exact ⟨rs, h4⟩) hG
      obtain ⟨vs, hvs, hres⟩ := Option.bind_eq_some_iff.1 hm2
      have hfl := hflat _ _ _ hws
      subst hfl
      exact ⟨vs, f, [], hvs, by simpa using hres, hmode, fun O1 _ _ => Tgt.static _ f⟩
     split at hx
     ·split at hx
      ·rename_i e hrk
       split at hx
       ·rename_i hcond
        simp only [Option.some.injEq, Prod.mk.injEq] at hx
        obtain ⟨rfl, rfl, rfl⟩ := hx
        exact tgt _ _ (.inr (.inl ⟨e, hrk, rfl, rfl⟩)) hw
       ·cases hx
      ·rename_i nl mask hrk
       split at hx
       ·rename_i hcond
        simp only [Bool.and_eq_true, Bool.not_eq_true'] at hcond
        simp only [Option.some.injEq, Prod.mk.injEq] at hx
        obtain ⟨rfl, rfl, rfl⟩ := hx
        rw [Av4] at hw
        obtain ⟨η3, hw1, hw2⟩ := Option.bind_eq_some_iff.1 hw
        have h32 : η3 = η2 := by
         have hall : ∀ (l : List W) (ζ0 ζ1 : List PV), (∀ x ∈ l, ∃ y, x = .chk y) → Ak9 fn ζ0 l = some ζ1 → ζ0 = ζ1 := by
          intro l
          induction l with
          | nil => intro ζ0 ζ1 _ h1; simpa [Ak9] using h1
          | cons x l ih =>
            intro ζ0 ζ1 h0 h1
            obtain ⟨y, rfl⟩ := h0 x (.head _)
            simp only [Ak9, W.ev, Option.bind_eq_some_iff, Option.map_eq_some_iff] at h1
            obtain ⟨ζ2, ⟨_, _, rfl⟩, h2⟩ := h1
            exact ih _ _ (fun x hx => h0 x (.tail _ hx)) h2
         refine hall _ _ _ (fun x hx => ?_) hw2
         rcases List.mem_cons.1 hx with rfl | hx
         ·exact ⟨_, rfl⟩
         ·have : ∀ (l : List TypeId) (j : Nat), ∀ x ∈ Ap8 P nl σ.n mask j l, ∃ y, x = .chk y := by
           intro l
           induction l with
           | nil => intro j x hx; simp [Ap8] at hx
           | cons t l ih =>
             intro j x hx
             simp only [Ap8, List.mem_append] at hx
             rcases hx with hx | hx
             ·split at hx
              ·simp at hx; exact ⟨_, hx⟩
              ·simp at hx
             ·exact ih _ x hx
          exact this _ _ x hx
        subst h32
        refine tgt _ _ (.inr (.inr ⟨nl, mask, hrk, hcond.2, hcond.1.2, rfl, rfl, hk _ (List.mem_append_right _ (.head _)), fun y hy => hk y (List.mem_append_right _ (.tail _ hy))⟩)) hw1
       ·cases hx
      ·cases hx
     ·simp only [Option.some.injEq, Prod.mk.injEq] at hx
      obtain ⟨rfl, rfl, rfl⟩ := hx
      exact tgt _ _ (.inl ⟨rfl, rfl⟩) hw
    ·cases hx
   ·cases hx
  ·-- a function value
   rename_i t hc
   have cloEv : ∀ {x : E} {flat : Bool} {es : List E} {m : Nat}, (W.clo G flat x es m).ev fn η1 = some η2 → ∃ vs f caps, E.evs η1 es = some vs ∧ x.ev η = some (.f f caps) ∧ results flat m η1 (fn f vs.length (vs ++ caps)) = some η2 := by
    intro x flat es m hm
    simp only [W.ev] at hm
    have hm2 := Bn5 (ζ := ζ) (η := η) hm hη (fun hh => by
     obtain ⟨q, _, hh⟩ := Option.bind_eq_some_iff.1 hh
     obtain ⟨vs, _, hh⟩ := Option.bind_eq_some_iff.1 hh
     split at hh
     ·obtain ⟨rs, _, _, _, h4⟩ := Ax9 hh
      exact ⟨rs, h4⟩
     ·cases hh) hG
    obtain ⟨q, hq, hh⟩ := Option.bind_eq_some_iff.1 hm2
    obtain ⟨vs, hvs, hh⟩ := Option.bind_eq_some_iff.1 hh
    cases q with
    | f f caps =>
      obtain ⟨rs, _, _, _, h4⟩ := Ax9 hh
      refine ⟨vs, f, caps, hvs, ?_, hh⟩
      rw [hη, h4, List.append_assoc]
      exact E.ev_mono _ _ _ _ hq
    | _ => simp at hh
   split at hx
   ·rename_i x ar h1 has
    have hr := Aq3 (ds := a.defers) (C := ⟨η, view w O, β, hv, σ.m⟩) hG rfl h1 h.tmps
    simp only [Aj1] at hr
    obtain ⟨p, hp, hpr⟩ := hr
    refine Dk5 hC (s := s) ho hc h hG has hx (fun flat es m _ hm => ?_) hw hη hn
    obtain ⟨vs, f, caps, k1, k2, k3⟩ := cloEv hm
    have hp' : x.ev η = some p := hp
    rw [k2] at hp'
    injection hp' with hp'
    subst hp'
    exact ⟨vs, f, caps, k1, k3, .inl ⟨rfl, rfl⟩, fun O1 hM _ => Tgt.of_rep (hpr.mono hM)⟩
   ·rename_i f0 cs ar h1 has
    split at hx
    ·rename_i x ss hto
     have hr := Aq3 (ds := a.defers) (C := ⟨η, view w O, β, hv, σ.m⟩) hG rfl h1 h.tmps
     refine Dk5 hC (s := s) ho hc h hG has hx (fun flat es m _ hm => ?_) hw hη hn
     obtain ⟨vs, f, caps, k1, k2, k3⟩ := cloEv hm
     refine ⟨vs, f, caps, k1, k3, .inl ⟨rfl, rfl⟩, fun O1 hM hop => ?_⟩
     obtain ⟨p, hp, hpr⟩ := Bq2 h hM 20 _ _ x ss hto hr hop
     rw [k2] at hp
     injection hp with hp
     subst hp
     exact Tgt.of_rep hpr
    ·cases hx
   ·cases hx
  ·cases hx
 ·cases hx
end
end Go.X
/- One operation with its guard; regions of a fixed order. -/
namespace Go.X
open Go Go.RowKit

theorem Blk.same_eq : ∀ {x y : Blk}, x.same y = true → x = y := by
 intro x y h
 cases x <;> cases y <;> simp only [Blk.same, Bool.and_eq_true, beq_iff_eq, Bool.false_eq_true] at h
 ·rw [h.1, SV.sames_eq _ _ h.2]
 ·rw [h.1.1.1, h.1.1.2, h.1.2, E.same_eq _ _ h.2]
 ·rw [h.1, E.same_eq _ _ h.2]
theorem Ef3 : ∀ {m m' : List (Nat × Blk)}, Cr4 m m' = true → m = m'
 | [], [], _ => rfl
 | [], _ :: _, h => by simp [Cr4] at h
 | _ :: _, [], h => by simp [Cr4] at h
 | (s, b) :: m, (s', b') :: m', h => by
   simp only [Cr4, Bool.and_eq_true, beq_iff_eq] at h
   rw [h.1.1, Blk.same_eq h.1.2, Ef3 h.2]

theorem W.ev_len {fn : Fns} {η η' : List PV} : ∀ {x : W}, x.ev fn η = some η' → η'.length = η.length + x.cnt := by
 have res : ∀ {flat : Bool} {m : Nat} {r : Option (List PV)}, results flat m η r = some η' → η'.length = η.length + m := by
  intro flat m r h
  obtain ⟨rs, _, h2, _, rfl⟩ := Ax9 h
  rw [List.length_append, h2]
 have gd : ∀ {m : Nat} {g : Option E} {r : Option (List PV)}, Aq7 η m g r = some η' → (r = some η' → η'.length = η.length + m) → η'.length = η.length + m := by
  intro m g r h hr
  unfold Aq7 at h
  split at h
  ·exact hr h
  ·simp only [Option.bind_eq_some_iff] at h
   obtain ⟨v, _, h⟩ := h
   split at h
   ·exact hr h
   ·injection h with h; rw [← h]; simp
   ·cases h
 intro x h
 cases x with
 | chk x =>
   simp only [W.ev, Option.map_eq_some_iff] at h
   obtain ⟨_, _, rfl⟩ := h
   simp [W.cnt]
 | call g flat f ar m =>
   simp only [W.ev] at h
   refine gd h fun h => ?_
   simp only [Option.bind_eq_some_iff] at h
   obtain ⟨vs, _, h⟩ := h
   exact res h
 | clo g flat c ar m =>
   simp only [W.ev] at h
   refine gd h fun h => ?_
   simp only [Option.bind_eq_some_iff] at h
   obtain ⟨q, _, vs, _, h⟩ := h
   split at h
   ·exact res h
   ·cases h
 | mcall f ar =>
   simp only [W.ev, Option.bind_eq_some_iff] at h
   obtain ⟨vs, _, h⟩ := h
   exact res h
theorem Bp1 {fn : Fns} : ∀ {ws : List W} {η η' : List PV}, Ak9 fn η ws = some η' → η'.length = η.length + wsN ws
 | [], η, η', h => by simp only [Ak9, Option.some.injEq] at h; simp [h, wsN]
 | x :: r, η, η', h => by
   simp only [Ak9, Option.bind_eq_some_iff] at h
   obtain ⟨η1, h1, h2⟩ := h
   rw [Bp1 h2, W.ev_len h1]
   simp only [wsN]; omega

theorem Ch9 {η : List PV} : ∀ {g : E} {p : PV}, g.isB = true → g.ev η = some p → ∃ b, p = .b b
 | .bin op x y, p, h, he => by
   simp only [E.ev, Option.bind_eq_some_iff] at he
   obtain ⟨a, _, b, _, he⟩ := he
   cases op <;> simp only [E.isB, Bool.false_eq_true] at h <;> (
    cases a <;> cases b <;> simp only [X.bin, Av0, Bp5] at he <;> first
     | (cases he; done)
     | (split at he <;> first | (injection he with he; exact ⟨_, he.symm⟩) | (cases he; done))
     | (injection he with he; exact ⟨_, he.symm⟩))
 | .un op x, p, h, he => by
   simp only [E.ev, Option.bind_eq_some_iff] at he
   obtain ⟨a, _, he⟩ := he
   cases op <;> simp only [E.isB, Bool.false_eq_true] at h
   cases a <;> simp only [X.un] at he <;> first
    | (cases he; done)
    | (injection he with he; exact ⟨_, he.symm⟩)
 | .eqs n g ts x y, p, h, he => by
   simp only [E.ev, Option.bind_eq_some_iff] at he
   obtain ⟨a, _, b, _, he⟩ := he
   unfold Ag9 at he
   split at he
   ·obtain ⟨r, _, he⟩ := Option.map_eq_some_iff.1 he
    exact ⟨_, he.symm⟩
   ·split at he
    ·obtain ⟨r, _, he⟩ := Option.map_eq_some_iff.1 he
     exact ⟨_, he.symm⟩
    ·cases he
   ·cases he
 | .c (.b b), p, h, he => by
   simp only [E.ev, Option.some.injEq] at he
   exact ⟨b, he.symm⟩
 | .ite g x y, p, h, he => by
   simp only [E.isB, Bool.and_eq_true] at h
   simp only [E.ev, Option.bind_eq_some_iff] at he
   obtain ⟨a, _, he⟩ := he
   split at he
   ·exact Ch9 h.1 he
   ·exact Ch9 h.2 he
   ·cases he
 | .c .u, p, h, _ | .c (.i ..), p, h, _ | .c (.s ..), p, h, _ | .c (.a ..), p, h, _ | .c (.l ..), p, h, _ | .c (.f ..), p, h, _ | .c (.m ..), p, h, _
 | .v .., p, h, _ | .proj .., p, h, _ | .sub .., p, h, _ | .agg .., p, h, _ | .fit .., p, h, _ | .scal .., p, h, _ | .idx .., p, h, _ | .len .., p, h, _ | .slen .., p, h, _ | .sidx .., p, h, _ | .ssl .., p, h, _ | .lsl .., p, h, _ | .app .., p, h, _
 | .lit .., p, h, _ | .rep .., p, h, _ | .set .., p, h, _ | .conv .., p, h, _ | .b2s .., p, h, _ | .s2b .., p, h, _ | .clo .., p, h, _ | .mn .., p, h, _ | .mx .., p, h, _ | .mget .., p, h, _ | .mset .., p, h, _ | .der .., p, h, _ | .mkp .., p, h, _ | .c (.pt ..), p, h, _ => by simp [E.isB] at h

section
variable {P : Program} {sig : Nat → Option Nat} {fn : Fns} {w0 : Fr} {Oe : Nat → Option Nat} {η : List PV} {σ : St} {a : Act} {tm : Array Value} {w : World} {β : Nat → Nat} {hv : Nat → Value} {O : Nat → Option Nat} {G : Option E} {o : Oper} {ws : List W} {ops : Array Oper}

theorem Gf7 {j : Nat} {want : Bool} {g : E} {tm : Array Value} {C : Cx} (hg : At9 σ ops j want = some g) (h : Aj5 C σ.t tm.toList) {b : Bool} (hb : g.ev C.η = some (.b b)) : (yielded ops tm j == some want) = b := by
 unfold At9 at hg
 split at hg
 ·rename_i g0 hd
  injection hg with hg; subst hg
  obtain ⟨t, ht, hs⟩ := Option.bind_eq_some_iff.1 hd
  obtain ⟨v, hv1, hv2⟩ := h.get t _ hs
  simp only [Aj1] at hv2
  obtain ⟨p, hp, hpr⟩ := hv2
  have hy : ((ops[j]?).bind (·.dst)).bind (tm[·]?) = some v := by rw [ht]; simpa using hv1
  unfold yielded
  rw [hy]
  cases want with
  | true =>
    simp only [if_true] at hb
    rw [hb] at hp; injection hp with hp; subst hp
    have := hpr.bool; subst this
    cases b <;> rfl
  | false =>
    simp only [Bool.false_eq_true, if_false, E.ev, hp, Option.bind_some] at hb
    cases p <;> simp [X.un] at hb
    have := hpr.bool; subst this
    subst hb
    rename_i x
    cases x <;> first | rfl | (cases b <;> rfl)
 ·rename_i g0 gg hd
  injection hg with hg; subst hg
  obtain ⟨t, ht, hs⟩ := Option.bind_eq_some_iff.1 hd
  obtain ⟨v, hv1, hv2⟩ := h.get t _ hs
  simp only [Aj1] at hv2
  obtain ⟨c, hc, h1, h2⟩ := hv2
  have hy : ((ops[j]?).bind (·.dst)).bind (tm[·]?) = some v := by rw [ht]; simpa using hv1
  unfold yielded
  rw [hy]
  cases c with
  | false =>
    have := h2 rfl; subst this
    simp only [E.ev, hc, Option.bind_some, Option.some.injEq, PV.b.injEq] at hb
    subst hb
    cases want <;> rfl
  | true =>
    obtain ⟨p, hp, hpr⟩ := h1 rfl
    simp only [E.ev, hc, Option.bind_some] at hb
    cases want with
    | true =>
      simp only [if_true] at hb
      rw [hb] at hp; injection hp with hp; subst hp
      have := hpr.bool; subst this
      cases b <;> rfl
    | false =>
      simp only [Bool.false_eq_true, if_false, E.ev, hp, Option.bind_some] at hb
      cases p <;> simp [X.un] at hb
      have := hpr.bool; subst this
      subst hb
      rename_i x
      cases x <;> first | rfl | (cases b <;> rfl)
 ·cases hg
theorem Dj1 {j : Nat} {want : Bool} {g : E} {tm : Array Value} {C : Cx} (hg : At9 σ ops j want = some g) (h : Aj5 C σ.t tm.toList) (hB : g.isB = true) : ∃ b, g.ev C.η = some (.b b) := by
 have not_ok : ∀ (x : E) p, x.isB = true → x.ev C.η = some p → ∃ b, (E.un .not x).ev C.η = some (.b b) := by
  intro x p hx hp
  obtain ⟨b, rfl⟩ := Ch9 hx hp
  exact ⟨!b, by simp only [E.ev, hp, Option.bind_some, X.un]⟩
 unfold At9 at hg
 split at hg
 ·rename_i g0 hd
  injection hg with hg; subst hg
  obtain ⟨t, ht, hs⟩ := Option.bind_eq_some_iff.1 hd
  obtain ⟨v, hv1, hv2⟩ := h.get t _ hs
  simp only [Aj1] at hv2
  obtain ⟨p, hp, hpr⟩ := hv2
  cases want with
  | true =>
    simp only [if_true] at hB ⊢
    obtain ⟨b, rfl⟩ := Ch9 hB hp
    exact ⟨b, hp⟩
  | false =>
    simp only [Bool.false_eq_true, if_false, E.isB] at hB ⊢
    exact not_ok _ p hB hp
 ·rename_i g0 gg hd
  injection hg with hg; subst hg
  obtain ⟨t, ht, hs⟩ := Option.bind_eq_some_iff.1 hd
  obtain ⟨v, hv1, hv2⟩ := h.get t _ hs
  simp only [Aj1] at hv2
  obtain ⟨c, hc, h1, h2⟩ := hv2
  simp only [E.isB, Bool.and_true] at hB
  cases c with
  | false => exact ⟨false, by simp only [E.ev, hc, Option.bind_some]⟩
  | true =>
    obtain ⟨p, hp, hpr⟩ := h1 rfl
    cases want with
    | true =>
      simp only [if_true] at hB ⊢
      obtain ⟨b, rfl⟩ := Ch9 hB hp
      exact ⟨b, by simp only [E.ev, hc, hp, Option.bind_some]⟩
    | false =>
      simp only [Bool.false_eq_true, if_false, E.isB] at hB ⊢
      obtain ⟨b, hb⟩ := not_ok _ p hB hp
      exact ⟨b, by rw [E.ev, hc]; exact hb⟩
 ·cases hg

theorem Bk9 {own : List Nat} {s : Nat} {sv : SV} {ε : Eff} (hx : An0 P sig own ops s o σ = some (ws, sv, ε)) {η1 η2 : List PV} (hw : Ak9 fn η1 ws = some η2) (hn : η1.length = σ.n) : η2.length = ε.n := by
 have := Bp1 hw
 unfold An0 at hx
 split at hx
 ·split at hx
  ·split at hx
   ·rename_i hc
    simp only [Option.some.injEq, Prod.mk.injEq] at hx
    obtain ⟨rfl, rfl, rfl⟩ := hx
    omega
   ·cases hx
  ·cases hx
 ·split at hx
  ·cases hx
  ·split at hx
   ·rename_i g _
    split at hx
    ·rename_i ws' sv' ε' _
     split at hx
     ·rename_i hc
      simp only [Option.some.injEq, Prod.mk.injEq] at hx
      obtain ⟨rfl, rfl, rfl⟩ := hx
      have : wsN ((if g.isB then [] else [.chk (.ite g (.c .u) (.c .u))]) ++ ws') = wsN ws' := by
       split <;> simp [wsN, W.cnt]
      omega
     ·cases hx
    ·cases hx
   ·cases hx

theorem Ec7 (hC : Contract P sig fn) {own : List Nat} {s : Nat} {sv : SV} {ε : Eff} (h : Rel w0 Oe η σ a.tmps w β hv O) (hx : An0 P sig own ops s o σ = some (ws, sv, ε)) {η1 η2 ζ : List PV} (hw : Ak9 fn η1 ws = some η2) (hη : η = η2 ++ ζ) (hn : η1.length = σ.n) :
  (Region.wanted o (yielded ops a.tmps) = true ∧ Step P o a w (Post w0 Oe η σ a.tmps ε sv)) ∨ (Region.wanted o (yielded ops a.tmps) = false ∧ Post w0 Oe η σ a.tmps ε sv undef w) := by
 unfold An0 at hx
 split at hx
 ·rename_i hg
  split at hx
  ·rename_i ws' sv' ε' hx'
   split at hx
   ·simp only [Option.some.injEq, Prod.mk.injEq] at hx
    obtain ⟨rfl, rfl, rfl⟩ := hx
    exact .inl ⟨by simp only [Region.wanted, hg], Ip4 hC h (fun g hg => by cases hg) hx' hw hη hn⟩
   ·cases hx
  ·cases hx
 ·rename_i j want hg
  split at hx
  ·cases hx
  ·split at hx
   ·rename_i g hgE
    split at hx
    ·rename_i ws' sv' ε' hx'
     split at hx
     ·rename_i hc
      obtain ⟨_, hm, hkl⟩ := hc
      simp only [Option.some.injEq, Prod.mk.injEq] at hx
      obtain ⟨rfl, rfl, rfl⟩ := hx
      have hm' := Ef3 hm
      have hkl' : ε'.kl = none := by simpa using hkl
      rw [Av4] at hw
      obtain ⟨η1', hw1, hw2⟩ := Option.bind_eq_some_iff.1 hw
      have hsame : η1' = η1 := by
       split at hw1
       ·simp only [Ak9, Option.some.injEq] at hw1; exact hw1.symm
       ·simp only [Ak9, W.ev, Option.bind_eq_some_iff, Option.map_eq_some_iff] at hw1
        obtain ⟨_, ⟨_, _, rfl⟩, h2⟩ := hw1
        injection h2 with h2; exact h2.symm
      subst hsame
      obtain ⟨ζ1, hζ1⟩ := Az3 hw2
      have hgb : ∃ b, g.ev η = some (.b b) := by
       by_cases hB : g.isB = true
       ·exact Dj1 (C := ⟨η, view w O, β, hv, σ.m⟩) hgE h.tmps hB
       ·rw [if_neg hB] at hw1
        simp only [Ak9, W.ev, Option.bind_eq_some_iff, Option.map_eq_some_iff] at hw1
        obtain ⟨_, ⟨q, hq, _⟩, _⟩ := hw1
        simp only [E.ev, Option.bind_eq_some_iff] at hq
        obtain ⟨p, hp, hq⟩ := hq
        split at hq
        ·exact ⟨true, by rw [hη, hζ1, List.append_assoc]; exact E.ev_mono _ _ _ _ hp⟩
        ·exact ⟨false, by rw [hη, hζ1, List.append_assoc]; exact E.ev_mono _ _ _ _ hp⟩
        ·cases hq
      obtain ⟨b, hb⟩ := hgb
      have hwant : Region.wanted o (yielded ops a.tmps) = b := by
       simp only [Region.wanted, hg]
       exact Gf7 (C := ⟨η, view w O, β, hv, σ.m⟩) hgE h.tmps hb
      cases b with
      | true =>
        refine .inl ⟨hwant, (Ip4 hC h (fun g' hg' => by injection hg' with hg'; subst hg'; exact hb) hx' hw2 hη hn).mono fun v w' hp => ?_⟩
        obtain ⟨β', hv', O', r1, r2⟩ := hp
        refine ⟨β', hv', O', r1, ?_⟩
        simp only [Aj1]
        exact ⟨true, hb, (fun _ => r2), fun h => by cases h⟩
      | false =>
        refine .inr ⟨hwant, β, hv, O, ?_, ?_⟩
        ·have : σ.eff ε' = σ.eff ⟨σ.m, ε'.n, none⟩ := by
          unfold St.eff; rw [hm', hkl']
         rw [this]
         exact h.setN _
        ·simp only [Aj1]
         exact ⟨false, hb, (fun h => by cases h), fun _ => trivial⟩
     ·cases hx
    ·cases hx
   ·cases hx

theorem Bh5 (a : Act) (d : Option Tmp) (v : Value) : (a.put d v).defers = a.defers := by cases d <;> rfl

theorem Cw6 {own : List Nat} {s : Nat} {sv : SV} {ε : Eff} (hx : An0 P sig own ops s o σ = some (ws, sv, ε)) : (o.dst == some 0 && isS0 sv) = false := by
 unfold An0 at hx
 split at hx
 ·split at hx
  ·split at hx
   ·rename_i hc
    simp only [Option.some.injEq, Prod.mk.injEq] at hx
    obtain ⟨rfl, rfl, rfl⟩ := hx
    exact hc.2
   ·cases hx
  ·cases hx
 ·split at hx
  ·cases hx
  ·split at hx
   ·split at hx
    ·split at hx
     ·simp only [Option.some.injEq, Prod.mk.injEq] at hx
      obtain ⟨rfl, rfl, rfl⟩ := hx
      simp [isS0]
     ·cases hx
    ·cases hx
   ·cases hx
theorem Post.rels {ε : Eff} {sv : SV} {v : Value} {w' : World} {d : Option Tmp} (h : Post w0 Oe η σ a.tmps ε sv v w') (hd : (d == some 0 && isS0 sv) = false) : Rels w0 Oe η ((σ.eff ε).set d sv) (a.put d v).tmps w' := by
 obtain ⟨β, hv, O, h1, h2⟩ := h
 exact ⟨β, hv, O, h1.setT d (ds := a.defers) h2 hd⟩

theorem Cz2 {Q : Exit → Act → World → Prop} {K : Act → World → Prop} {i : Nat} {R : Value → World → Prop} (hi : ops[i]? = some o)
  (h : (Region.wanted o (yielded ops a.tmps) = true ∧ Step P o a w R) ∨ (Region.wanted o (yielded ops a.tmps) = false ∧ R undef w)) (hK : ∀ v w', R v w' → K (a.put o.dst v) w') : wpOp P ops Q i K a w := by
 unfold wpOp
 simp only [hi]
 rcases h with ⟨h1, h2⟩ | ⟨h1, h2⟩
 ·rw [if_pos h1]
  exact .inl (h2.wp hK)
 ·rw [h1]
  simp only [Bool.false_eq_true, if_false]
  exact hK _ _ h2

theorem Ec5 {own : List Nat} {rid : Nat} : ∀ (l : List Oper) (i : Nat) (σ : St) (η1 η2 : List PV) (ws : List W) (σ' : St), xops P sig own ops rid l i σ = some (ws, σ') → Ak9 fn η1 ws = some η2 → η1.length = σ.n → η2.length = σ'.n
 | [], i, σ, η1, η2, ws, σ', hx, hw, hn => by
   simp only [xops, Option.some.injEq, Prod.mk.injEq] at hx
   obtain ⟨rfl, rfl⟩ := hx
   simp only [Ak9, Option.some.injEq] at hw
   subst hw; exact hn
 | o :: l, i, σ, η1, η2, ws, σ', hx, hw, hn => by
   simp only [xops] at hx
   split at hx
   ·rename_i ws1 sv ε hc
    obtain ⟨⟨ws2, σ2⟩, hrec, he⟩ := Option.map_eq_some_iff.1 hx
    simp only [Prod.mk.injEq] at he
    obtain ⟨rfl, rfl⟩ := he
    rw [Av4] at hw
    obtain ⟨η3, hw1, hw2⟩ := Option.bind_eq_some_iff.1 hw
    have hset : ((σ.eff ε).set o.dst sv).n = ε.n := by cases o.dst <;> rfl
    exact Ec5 l _ _ _ _ _ _ hrec hw2 (by rw [Bk9 hc hw1 hn, hset])
   ·cases hx

theorem Ff0 (hC : Contract P sig fn) {own : List Nat} {rid : Nat} {Q : Exit → Act → World → Prop} : ∀ (l : List Oper) (i : Nat) (σ : St) (a : Act) (w : World) (η1 η2 ζ : List PV) (ws : List W) (σ' : St), (∀ k o, l[k]? = some o → ops[i + k]? = some o) → Rels w0 Oe η σ a.tmps w →
  xops P sig own ops rid l i σ = some (ws, σ') → Ak9 fn η1 ws = some η2 → η = η2 ++ ζ → η1.length = σ.n → (∀ a' w', a'.defers = a.defers → Rels w0 Oe η σ' a'.tmps w' → Q .normal a' w') →
  wpOps P ops Q (List.range' i l.length) a w
 | [], i, σ, a, w, η1, η2, ζ, ws, σ', _, h, hx, hw, hη, hn, hQ => by
   simp only [xops, Option.some.injEq, Prod.mk.injEq] at hx
   obtain ⟨rfl, rfl⟩ := hx
   simp only [Ak9, Option.some.injEq] at hw
   subst hw
   exact hQ a w rfl h
 | o :: l, i, σ, a, w, η1, η2, ζ, ws, σ', hops, h, hx, hw, hη, hn, hQ => by
   simp only [xops] at hx
   split at hx
   ·rename_i ws1 sv ε hc
    obtain ⟨⟨ws2, σ2⟩, hrec, he⟩ := Option.map_eq_some_iff.1 hx
    simp only [Prod.mk.injEq] at he
    obtain ⟨rfl, rfl⟩ := he
    rw [Av4] at hw
    obtain ⟨η3, hw1, hw2⟩ := Option.bind_eq_some_iff.1 hw
    obtain ⟨ζ2, hζ2⟩ := Az3 hw2
    obtain ⟨β, hv, O, hrel⟩ := h
    have hlen := Bk9 hc hw1 hn
    have hstep := Ec7 hC hrel hc hw1 (ζ := ζ2 ++ ζ) (by rw [hη, hζ2, List.append_assoc]) hn
    have hi : ops[i]? = some o := by simpa using hops 0 o rfl
    have hset : ((σ.eff ε).set o.dst sv).n = ε.n := by cases o.dst <;> rfl
    have ih : ∀ v w', Post w0 Oe η σ a.tmps ε sv v w' → wpOps P ops Q (List.range' (i + 1) l.length) (a.put o.dst v) w' := fun v w' hp =>
     Ff0 hC l (i + 1) _ _ _ η3 η2 ζ ws2 σ2 (fun k o' hk => by have := hops (k + 1) o' (by simpa using hk); rwa [show i + (k + 1) = i + 1 + k by omega] at this) (hp.rels (Cw6 hc)) hrec hw2 hη (by rw [hlen, hset]) (fun a' w'' hd hr => hQ a' w'' (by rw [hd, Bh5]) hr)
    rw [List.length_cons, List.range'_succ, wpOps_cons]
    exact Cz2 hi hstep ih
   ·cases hx
end
end Go.X
/- What an operation's reckoning hangs on. -/
namespace Go.X
open Go Go.RowKit

section
variable {P : Program} {sig : Nat → Option Nat} {t t' : List SV} {m : List (Nat × Blk)} {n : Nat} {G : Option E} {o : Oper}

theorem Jk1 {l : List Operand} (h : ∀ x, x ∈ l → ∀ G ty, opd P ⟨t', m, n⟩ G ty x = opd P ⟨t, m, n⟩ G ty x) : ∀ ts : List TypeId, args P ⟨t', m, n⟩ G l ts = args P ⟨t, m, n⟩ G l ts := by
 induction l with
 | nil => intro ts; rfl
 | cons x l ih =>
   intro ts
   simp only [args]
   rw [h x (.head _), ih (fun y hy => h y (.tail _ hy))]
theorem Ir7 {tf : Nat → TypeId} {l : List (Nat × Operand)} (h : ∀ x, x ∈ l.map (·.2) → ∀ G ty, opd P ⟨t', m, n⟩ G ty x = opd P ⟨t, m, n⟩ G ty x) : opds P ⟨t', m, n⟩ G tf l = opds P ⟨t, m, n⟩ G tf l := by
 induction l with
 | nil => rfl
 | cons p l ih =>
   obtain ⟨i, x⟩ := p
   simp only [opds]
   rw [h x (by simp), ih (fun y hy => h y (by simp at hy ⊢; exact .inr hy))]

theorem Ik7 {x : Option Operand} {d : E} (h : ∀ y, x = some y → ∀ G ty, opd P ⟨t', m, n⟩ G ty y = opd P ⟨t, m, n⟩ G ty y) : Ac0 P ⟨t', m, n⟩ G x d = Ac0 P ⟨t, m, n⟩ G x d := by
 cases x with
 | none => rfl
 | some y => simp only [Ac0, opdE]; rw [h y rfl]

theorem Fl1 {ty : TypeId} {x : SV} {lo hi mx : Option Operand} (h1 : ∀ y, lo = some y → ∀ G ty, opd P ⟨t', m, n⟩ G ty y = opd P ⟨t, m, n⟩ G ty y) (h2 : ∀ y, hi = some y → ∀ G ty, opd P ⟨t', m, n⟩ G ty y = opd P ⟨t, m, n⟩ G ty y) (h3 : ∀ y, mx = some y → ∀ G ty, opd P ⟨t', m, n⟩ G ty y = opd P ⟨t, m, n⟩ G ty y) :
  Af6 P ⟨t', m, n⟩ G ty x lo hi mx = Af6 P ⟨t, m, n⟩ G ty x lo hi mx := by
 have e3 : ∀ y, mx = some y → opdE P ⟨t', m, n⟩ G 0 y = opdE P ⟨t, m, n⟩ G 0 y := fun y hy => by simp only [opdE]; rw [h3 y hy]
 unfold Af6
 simp only [Ik7 h1, Ik7 h2]
 cases mx with
 | none => rfl
 | some y => simp only [e3 y rfl]; rfl

theorem Ck7 {ty : TypeId} {k : Nat} {y : E} {lo hi mx : Option Operand} (h2 : ∀ y, hi = some y → ∀ G ty, opd P ⟨t', m, n⟩ G ty y = opd P ⟨t, m, n⟩ G ty y) : Aq8 P ⟨t', m, n⟩ G ty k y lo hi mx = Aq8 P ⟨t, m, n⟩ G ty k y lo hi mx := by
 cases hi with
 | none => unfold Aq8; cases lo <;> cases mx <;> cases Ax5 P ty <;> rfl
 | some z =>
   have e : opdE P ⟨t', m, n⟩ G 0 z = opdE P ⟨t, m, n⟩ G 0 z := by simp only [opdE]; rw [h2 z rfl]
   unfold Aq8
   cases lo <;> cases mx <;> cases Ax5 P ty <;> simp only [e] <;> rfl
theorem Kj3 {own : List Nat} {s : Nat} (h : ∀ x, x ∈ o.op.operands → ∀ G ty, opd P ⟨t', m, n⟩ G ty x = opd P ⟨t, m, n⟩ G ty x) : xop P sig own ⟨t', m, n⟩ G s o = xop P sig own ⟨t, m, n⟩ G s o := by
 have hE : ∀ x, x ∈ o.op.operands → ∀ G ty, opdE P ⟨t', m, n⟩ G ty x = opdE P ⟨t, m, n⟩ G ty x := fun x hx G ty => by simp only [opdE]; rw [h x hx]
 obtain ⟨dst, op, type, pos, after, guard⟩ := o
 simp only at h hE
 cases op <;> simp only [Op.operands] at h hE <;> unfold xop <;> simp only
 case move x => rw [h x (by simp)]; rfl
 case assign x => rw [h x (by simp)]; rfl
 case pick c x y => rw [hE c (by simp)]; simp only [hE x (by simp), hE y (by simp)]; try rfl
 case box ty x => rw [h x (by simp)]; try rfl
 case build ty ps => rw [Ir7 (fun x hx => h x (by simpa using hx))]; try rfl
 case buildSlice ty k ps => rw [Ir7 (fun x hx => h x (by simpa using hx))]; try rfl
 case load ty x => rw [h x (by simp)]; rfl
 case store ty x y => rw [h x (by simp), h y (by simp)]; rfl
 case nilCheck x => rw [h x (by simp)]; rfl
 case binOp op xt x y yt => rw [hE x (by simp), hE y (by simp), h x (by simp)]; rfl
 case unOp op ty x => rw [hE x (by simp)]; rfl
 case convert src dst x => rw [hE x (by simp), h x (by simp)]; rfl
 case makeFunc f first captured =>
  cases f <;> simp only
  rw [Jk1 (fun x hx => h x (by simp at hx ⊢; exact .inr hx))]; rfl
 case makeSlice ty x y => rw [hE x (by simp), hE y (by simp)]; try rfl
 case slice ty x lo hi mx =>
  have el : lo.map (opdE P ⟨t', m, n⟩ G 0) = lo.map (opdE P ⟨t, m, n⟩ G 0) := by
   cases lo with
   | none => rfl
   | some y => simp only [Option.map_some]; rw [hE y (by simp)]
  have eh : hi.map (opdE P ⟨t', m, n⟩ G 0) = hi.map (opdE P ⟨t, m, n⟩ G 0) := by
   cases hi with
   | none => rfl
   | some y => simp only [Option.map_some]; rw [hE y (by simp)]
  have e2 : ∀ sv, Af6 P ⟨t', m, n⟩ G ty sv lo hi mx = Af6 P ⟨t, m, n⟩ G ty sv lo hi mx := fun sv => Fl1 (fun y hy => h y (by subst hy; simp)) (fun y hy => h y (by subst hy; simp)) (fun y hy => h y (by subst hy; simp))
  rw [h x (by simp)]
  have e3 : ∀ k y, Aq8 P ⟨t', m, n⟩ G ty k y lo hi mx = Aq8 P ⟨t, m, n⟩ G ty k y lo hi mx := fun k y => Ck7 (fun y hy => h y (by subst hy; simp))
  simp only [el, eh, e2, e3]
  rfl
 case fieldAddr ty x f => rw [h x (by simp)]; rfl
 case field ty x f => rw [h x (by simp)]; rfl
 case indexAddr ty x i => rw [h x (by simp), hE i (by simp)]; rfl
 case index ty x i => rw [h x (by simp), hE i (by simp)]; rfl
 case extract x i => rw [h x (by simp)]; rfl
 case lookup ty x k ok =>
  cases ok <;> simp only
  rw [h x (by simp), hE k (by simp)]; try rfl
 case mapUpdate ty x k v => rw [h x (by simp), hE k (by simp), hE v (by simp)]; try rfl
 case call c =>
  have hargs : ∀ x, x ∈ c.args.toList → ∀ G ty, opd P ⟨t', m, n⟩ G ty x = opd P ⟨t, m, n⟩ G ty x := fun x hx => h x (by unfold Call.operands; cases c.callee <;> simp at hx ⊢ <;> simp [hx])
  have hargsE : ∀ x, x ∈ c.args.toList → ∀ G ty, opdE P ⟨t', m, n⟩ G ty x = opdE P ⟨t, m, n⟩ G ty x := fun x hx G ty => by simp only [opdE]; rw [hargs x hx]
  have hA := Jk1 (P := P) (G := G) hargs c.argTypes.toList
  split
  ·split
   ·rename_i x hx
    split
    ·rw [hargs x (by rw [hx]; simp)]; rfl
    ·rfl
   ·rfl
  ·split
   ·rename_i x hx
    split
    ·rw [hargs x (by rw [hx]; simp)]; rfl
    ·rfl
   ·rfl
  ·split
   ·rfl
   ·split
    ·rename_i d x _ _ hx _
     rw [hargs d (by rw [hx]; simp), hargs x (by rw [hx]; simp), hargsE x (by rw [hx]; simp)]; rfl
    ·rfl
  ·split
   ·rename_i x y hx
    rw [hargsE x (by rw [hx]; simp), hargsE y (by rw [hx]; simp)]; rfl
   ·rfl
  ·split
   ·rename_i x y hx
    rw [hargsE x (by rw [hx]; simp), hargsE y (by rw [hx]; simp)]; rfl
   ·rfl
  ·split
   ·rename_i x ty hx _
    rw [hargs x (by rw [hx]; simp)]; rfl
   ·rfl
  ·rw [hA]; rfl
  ·rename_i tm hc
   rw [hA, h (.tmp tm) (by unfold Call.operands; rw [hc]; simp)]; rfl
  ·rfl
 all_goals rfl

theorem Ih9 {ops : Array Oper} {j : Nat} {want : Bool} (h : ∀ d, (ops[j]?).bind (·.dst) = some d → t'[d]? = t[d]?) : At9 ⟨t', m, n⟩ ops j want = At9 ⟨t, m, n⟩ ops j want := by
 unfold At9
 cases hd : (ops[j]?).bind (·.dst) with
 | none => rfl
 | some d => simp only [Option.bind_some]; rw [h d hd]

theorem Jk3 {own : List Nat} {s : Nat} {ops : Array Oper} (h : ∀ d, d ∈ o.looksAt ops → t'[d]? = t[d]?) : An0 P sig own ops s o ⟨t', m, n⟩ = An0 P sig own ops s o ⟨t, m, n⟩ := by
 have hop : ∀ x, x ∈ o.op.operands → ∀ G ty, opd P ⟨t', m, n⟩ G ty x = opd P ⟨t, m, n⟩ G ty x := by
  intro x hx G ty
  cases x with
  | tmp d =>
    simp only [opd]
    rw [h d (List.mem_append_left _ (List.mem_filterMap.2 ⟨.tmp d, by simpa using hx, rfl⟩))]
  | _ => rfl
 unfold An0
 split
 ·rw [Kj3 hop]
 ·rename_i j want hg
  rw [Ih9 (t := t) (fun d hd => h d (List.mem_append_right _ (by rw [hg]; simp [hd])))]
  split
  ·rfl
  ·split
   ·rw [Kj3 hop]
   ·rfl
end
end Go.X
/- Regions of any order: the order does not matter. -/
namespace Go.X
open Go Go.RowKit

structure Vx where
 kl : Option Nat
 v : Option (Nat × SV)
def Ap6 (k : Option Nat) (t : List SV) : List SV := match k with | some s => SV.kills s t | none => t
def Ax1 (v : Vx) (t : List SV) : List SV := match v.v with | some (d, x) => (Ap6 v.kl t).set d x | none => Ap6 v.kl t
def tA (V : Nat → Vx) (L : Nat → Bool) (t0 : List SV) : Nat → List SV
 | 0 => t0
 | k + 1 => if L k then Ax1 (V k) (tA V L t0 k) else tA V L t0 k
def allL : Nat → Bool := fun _ => true

section
variable {V : Nat → Vx} {M : Nat → Option (List (Nat × Blk))} {L L' : Nat → Bool} {t0 : List SV} {m0 : List (Nat × Blk)} {n j : Nat}

theorem Ch3 (s : Nat) : ∀ t : List SV, (SV.kills s t).length = t.length
 | [] => rfl
 | x :: t => by simp [SV.kills, Ch3 s t]
theorem Ch4 (s : Nat) : ∀ (t : List SV) (d : Nat), (SV.kills s t)[d]? = t[d]?.map (SV.kill s)
 | [], d => by simp [SV.kills]
 | x :: t, 0 => by simp [SV.kills]
 | x :: t, d + 1 => by simpa [SV.kills] using Ch4 s t d
theorem Ap5 (k : Option Nat) (t : List SV) : (Ap6 k t).length = t.length := by
 cases k with
 | none => rfl
 | some s => exact Ch3 s t
theorem Ch5 {k : Option Nat} {t u : List SV} {d : Nat} (h : t[d]? = u[d]?) : (Ap6 k t)[d]? = (Ap6 k u)[d]? := by
 cases k with
 | none => exact h
 | some s => simp only [Ap6, Ch4, h]
theorem Fc9 (v : Vx) (t : List SV) : (Ax1 v t).length = t.length := by
 unfold Ax1; split
 ·rw [List.length_set, Ap5]
 ·rw [Ap5]
theorem Cm5 {v : Vx} {d : Nat} (hk : v.kl = none) (h : ∀ x, v.v ≠ some (d, x)) (t : List SV) : (Ax1 v t)[d]? = t[d]? := by
 obtain ⟨k, v⟩ := v
 simp only at hk h
 subst hk
 cases v with
 | none => rfl
 | some p =>
   obtain ⟨e, x⟩ := p
   have : e ≠ d := fun he => h x (by rw [he])
   simp only [Ax1, Ap6]
   rw [List.getElem?_set, if_neg this]
theorem Fd0 (v : Vx) {t u : List SV} {d : Nat} (hl : t.length = u.length) (h : t[d]? = u[d]?) : (Ax1 v t)[d]? = (Ax1 v u)[d]? := by
 unfold Ax1
 split
 ·rename_i e x _
  rw [List.getElem?_set, List.getElem?_set, Ap5, Ap5, hl]
  split
  ·rfl
  ·exact Ch5 h
 ·exact Ch5 h
theorem Ed8 (V : Nat → Vx) (L : Nat → Bool) (t0 : List SV) : ∀ k, (tA V L t0 k).length = t0.length
 | 0 => rfl
 | k + 1 => by
   simp only [tA]
   split
   ·rw [Fc9]; exact Ed8 V L t0 k
   ·exact Ed8 V L t0 k
theorem Jv4 {d : Nat} (hj : j ≤ n) (h : ∀ i x, i < n → (V i).v = some (d, x) → (L i = true ↔ i < j)) (hk : ∀ i, i < n → (V i).kl ≠ none → (L i = true ↔ i < j)) : (tA V L t0 n)[d]? = (tA V allL t0 j)[d]? := by
 have h1 : ∀ k, k ≤ j → (tA V L t0 k)[d]? = (tA V allL t0 k)[d]? := by
  intro k
  induction k with
  | zero => intro _; rfl
  | succ k ih =>
    intro hkj
    have ih := ih (by omega)
    simp only [tA, allL, if_true]
    have hlen : (tA V L t0 k).length = (tA V (fun _ => true) t0 k).length := by rw [Ed8, Ed8]
    by_cases hL : L k = true
    ·rw [if_pos hL]
     exact Fd0 _ hlen ih
    ·rw [if_neg hL]
     have hkl : (V k).kl = none := by
      cases hh : (V k).kl with
      | none => rfl
      | some s => exact absurd ((hk k (by omega) (by rw [hh]; simp)).2 (by omega)) hL
     have hv : ∀ x, (V k).v ≠ some (d, x) := fun x hx => hL ((h k x (by omega) hx).2 (by omega))
     rw [Cm5 hkl hv]
     exact ih
 have h2 : ∀ k, j ≤ k → k ≤ n → (tA V L t0 k)[d]? = (tA V L t0 j)[d]? := by
  intro k
  induction k with
  | zero => intro hk _; have : j = 0 := by omega
            subst this; rfl
  | succ k ih =>
    intro hkj hn
    by_cases he : j = k + 1
    ·subst he; rfl
    ·have ih := ih (by omega) (by omega)
     simp only [tA]
     split
     ·rename_i hl
      have hkl : (V k).kl = none := by
       cases hh : (V k).kl with
       | none => rfl
       | some s => have := (hk k (by omega) (by rw [hh]; simp)).1 hl; omega
      rw [Cm5 hkl (fun x hx => by have := (h k x (by omega) hx).1 hl; omega)]
      exact ih
     ·exact ih
 rw [h2 n hj (Nat.le_refl _), h1 j (Nat.le_refl _)]
theorem Ed9 (h : ∀ i, i < n → L i = L' i) : ∀ k, k ≤ n → tA V L t0 k = tA V L' t0 k := by
 intro k
 induction k with
 | zero => intro _; rfl
 | succ k ih => intro hk; simp only [tA]; rw [ih (by omega), h k (by omega)]
theorem Jv3 (h : ∀ i, i < n → L i = false) : ∀ k, k ≤ n → tA V L t0 k = t0 := by
 intro k
 induction k with
 | zero => intro _; rfl
 | succ k ih => intro hk; simp only [tA]; rw [ih (by omega), h k (by omega)]; rfl
theorem Kv1 (hj : j < n) (hL : L j = false) (hL' : ∀ i, L' i = if i = j then true else L i) (hkk : ∀ i, i < n → j < i → L i = true → (V j).kl = none ∧ (V i).kl = none) (h : ∀ i d x y, i < n → i ≠ j → j < i → L i = true → (V j).v = some (d, x) → (V i).v ≠ some (d, y)) : tA V L' t0 n = Ax1 (V j) (tA V L t0 n) := by
 have h1 : ∀ k, k ≤ j → tA V L' t0 k = tA V L t0 k := by
  intro k
  induction k with
  | zero => intro _; rfl
  | succ k ih =>
    intro hk
    simp only [tA]
    have e : L' k = L k := by rw [hL', if_neg (by omega)]
    rw [e, ih (by omega)]
 have h2 : ∀ k, j < k → k ≤ n → tA V L' t0 k = Ax1 (V j) (tA V L t0 k) := by
  intro k
  induction k with
  | zero => intro hk; omega
  | succ k ih =>
    intro hk hn
    simp only [tA]
    by_cases he : k = j
    ·subst he
     have e : L' k = true := by rw [hL', if_pos rfl]
     rw [e, hL, h1 k (Nat.le_refl _)]
     simp
    ·have e : L' k = L k := by rw [hL', if_neg he]
     rw [e, ih (by omega) (by omega)]
     split
     ·rename_i hl
      obtain ⟨k1, k2⟩ := hkk k (by omega) (by omega) hl
      unfold Ax1
      rw [k1, k2]
      simp only [Ap6]
      cases hvj : (V j).v with
      | none => rfl
      | some p =>
        cases hvk : (V k).v with
        | none => rfl
        | some q =>
          obtain ⟨d, x⟩ := p
          obtain ⟨e, y⟩ := q
          have hne : d ≠ e := fun hde => by
           subst hde
           exact h k d x y (by omega) he (by omega) hl hvj hvk
          simp only []
          rw [List.set_comm _ _ hne]
     ·rfl
 exact h2 n hj (Nat.le_refl _)
end

mutual
theorem SV.kill_comm (s s' : Nat) : ∀ x : SV, (x.kill s').kill s = (x.kill s).kill s'
 | .e _ | .nil _ | .lit _ _ | .und | .ip _ _ | .nilq _ => by simp only [SV.kill]
 | .may g x => by simp only [SV.kill, SV.kill_comm s s' x]
 | .bp k o => by simp only [SV.kill]; split <;> split <;> simp_all [SV.kill]
 | .ap k i o => by simp only [SV.kill]; split <;> split <;> simp_all [SV.kill]
 | .suf k i => by simp only [SV.kill]; split <;> split <;> simp_all [SV.kill]
 | .h k => by simp only [SV.kill]; split <;> split <;> simp_all [SV.kill]
 | .mh k => by simp only [SV.kill]; split <;> split <;> simp_all [SV.kill]
 | .slf k T => by simp only [SV.kill]; split <;> split <;> simp_all [SV.kill]
 | .tup xs => by simp only [SV.kill, SV.kills_comm s s' xs]
 | .ag xs => by simp only [SV.kill, SV.kills_comm s s' xs]
 | .clo g xs => by simp only [SV.kill, SV.kills_comm s s' xs]
theorem SV.kills_comm (s s' : Nat) : ∀ xs : List SV, SV.kills s (SV.kills s' xs) = SV.kills s' (SV.kills s xs)
 | [] => rfl
 | x :: xs => by simp only [SV.kills, SV.kill_comm s s' x, SV.kills_comm s s' xs]
end
theorem Ch2 (s : Nat) : ∀ (t : List SV) (d : Nat) (x : SV), SV.kills s (t.set d x) = (SV.kills s t).set d (x.kill s)
 | [], d, x => by simp [SV.kills]
 | y :: t, 0, x => by simp [SV.kills]
 | y :: t, d + 1, x => by simp [SV.kills, Ch2 s t d x]
theorem Eh3 {V : Nat → Vx} {L : Nat → Bool} {t0 : List SV} {s : Nat} (h0 : SV.kills s t0 = t0) (hv : ∀ k d x, L k = true → (V k).v = some (d, x) → x.kill s = x) : ∀ n, SV.kills s (tA V L t0 n) = tA V L t0 n
 | 0 => h0
 | n + 1 => by
   have ih := Eh3 h0 hv n
   simp only [tA]
   split
   ·rename_i hL
    have hk : SV.kills s (Ap6 (V n).kl (tA V L t0 n)) = Ap6 (V n).kl (tA V L t0 n) := by
     cases (V n).kl with
     | none => exact ih
     | some s' => simp only [Ap6]; rw [SV.kills_comm, ih]
    unfold Ax1
    split
    ·rename_i d x hvx
     rw [Ch2, hk, hv n d x hL hvx]
    ·exact hk
   ·exact ih
def Full (ops : Array Oper) (j : Nat) : Prop := (∀ i, i < j → ((ancL [] ops.toList).getD j 0).testBit i = true) ∧ ∀ i, j < i → i < ops.size → ((ancL [] ops.toList).getD i 0).testBit j = true
theorem Il0 {ops : Array Oper} {j : Nat} (h : Jb7 (ancL [] ops.toList) ops.size j = true) (hj : j < ops.size) : Full ops j := by
 unfold Jb7 at h
 rw [List.all_eq_true] at h
 refine ⟨fun i hi => ?_, fun i hi hn => ?_⟩
 ·have := h i (List.mem_range.2 (by omega))
  rwa [if_pos hi] at this
 ·have := h i (List.mem_range.2 hn)
  rwa [if_neg (by omega), if_pos hi] at this
theorem Bh7 {acc : List Nat} {i : Nat} : ∀ {ks : List Nat}, (Bv7 acc ks).testBit i = true → ∃ k, k ∈ ks ∧ (i = k ∨ (acc.getD k 0).testBit i = true)
 | [], h => by simp [Bv7] at h
 | k :: ks, h => by
   simp only [Bv7, Nat.testBit_or, Bool.or_eq_true, Nat.testBit_two_pow, decide_eq_true_eq] at h
   rcases h with h | h | h
   ·exact ⟨k, .head _, .inl h.symm⟩
   ·exact ⟨k, .head _, .inr h⟩
   ·obtain ⟨k', h1, h2⟩ := Bh7 h
    exact ⟨k', .tail _ h1, h2⟩
theorem El7 : ∀ (l : List Oper) (acc : List Nat), (∀ k, k < acc.length → (ancL acc l)[k]? = acc[k]?) ∧ ∀ (k : Nat) (o : Oper), l[k]? = some o → (ancL acc l)[acc.length + k]? = some (Bv7 ((ancL acc l).take (acc.length + k)) (eOns o))
 | [], acc => ⟨fun k _ => rfl, fun k o h => by simp at h⟩
 | o :: l, acc => by
   obtain ⟨h1, h2⟩ := El7 l (acc ++ [Bv7 acc (eOns o)])
   have hpre : ∀ k, k < acc.length → (ancL acc (o :: l))[k]? = acc[k]? := by
    intro k hk
    have := h1 k (by simp; omega)
    rw [List.getElem?_append_left hk] at this
    exact this
   refine ⟨hpre, fun k o' hk => ?_⟩
   cases k with
   | zero =>
     simp only [List.getElem?_cons_zero, Option.some.injEq] at hk
     subst hk
     have := h1 acc.length (by simp)
     rw [List.getElem?_append_right (Nat.le_refl _), Nat.sub_self] at this
     have htake : (ancL acc (o :: l)).take acc.length = acc := by
      apply List.ext_getElem?
      intro i
      rw [List.getElem?_take]
      split
      ·rename_i hi; exact hpre i hi
      ·rw [List.getElem?_eq_none (by omega)]
     rw [Nat.add_zero, htake]
     exact this
   | succ k =>
     have := h2 k o' (by simpa using hk)
     rw [List.length_append, List.length_singleton] at this
     rw [show acc.length + (k + 1) = acc.length + 1 + k by omega]
     exact this
theorem Bp8 {ops : List Oper} {L : Nat → Bool} (hcl : ∀ (j : Nat) (o : Oper), ops[j]? = some o → L j = true → ∀ k, k ∈ eOns o → L k = true) (hlt : ∀ (j : Nat) (o : Oper), ops[j]? = some o → ∀ k, k ∈ eOns o → k < j) :
  ∀ (N j : Nat) (o : Oper), j < N → ops[j]? = some o → (∀ k, k ∈ eOns o → L k = true) → ∀ i, ((ancL [] ops).getD j 0).testBit i = true → L i = true := by
 intro N
 induction N with
 | zero => intro j o hj; omega
 | succ N ih =>
   intro j o hj ho hk i hi
   have hget := (El7 ops []).2 j o ho
   simp only [List.length_nil, Nat.zero_add] at hget
   rw [List.getD_eq_getElem?_getD, hget, Option.getD_some] at hi
   obtain ⟨k, hk1, hk2⟩ := Bh7 hi
   have hkj := hlt j o ho k hk1
   rcases hk2 with rfl | hk2
   ·exact hk _ hk1
   ·have : ((ancL [] ops).take j).getD k 0 = (ancL [] ops).getD k 0 := by
     rw [List.getD_eq_getElem?_getD, List.getD_eq_getElem?_getD, List.getElem?_take, if_pos hkj]
    rw [this] at hk2
    have hko : ∃ o', ops[k]? = some o' := ⟨_, List.getElem?_eq_getElem (by have := (List.getElem?_eq_some_iff.1 ho).1; omega)⟩
    obtain ⟨o', ho'⟩ := hko
    exact ih k o' (by omega) ho' (hcl k o' ho' (hk k hk1)) i hk2
end Go.X
/- Regions of any order, on the machine. -/
namespace Go.X
open Go Go.RowKit

theorem Ef2 {x y : Option Blk} (h : Ic1 x y = true) : x = y := by
 cases x <;> cases y <;> simp only [Ic1, Bool.false_eq_true] at h
 ·rfl
 ·rw [Blk.same_eq h]
theorem Gz0 {m : List (Nat × Blk)} {s : Nat} {b : Blk} (h : mget m s = some b) : (s, b) ∈ m := by
 induction m with
 | nil => simp [mget] at h
 | cons p m ih =>
   obtain ⟨k, c⟩ := p
   simp only [mget] at h
   split at h
   ·rename_i e; subst e; injection h with h; subst h; exact .head _
   ·exact .tail _ (ih h)
theorem Jj9 {m m' : List (Nat × Blk)} (h : eqM m m' = true) (s : Nat) : mget m s = mget m' s := by
 simp only [eqM, Bool.and_eq_true, List.all_eq_true] at h
 cases h1 : mget m s with
 | some b => rw [← h1]; exact Ef2 (h.1 (s, b) (Gz0 h1))
 | none =>
   cases h2 : mget m' s with
   | none => rfl
   | some b =>
     have := Ef2 (h.2 (s, b) (Gz0 h2))
     rw [h1, h2] at this; cases this
theorem E.sameOpt_eq {x y : Option E} (h : E.sameOpt x y = true) : x = y := by
 cases x <;> cases y <;> simp only [E.sameOpt, Bool.false_eq_true] at h
 ·rfl
 ·rw [E.same_eq _ _ h]
theorem W.same_eq {x y : W} (h : x.same y = true) : x = y := by
 cases x <;> cases y <;> simp only [W.same, Bool.and_eq_true, beq_iff_eq, Bool.false_eq_true] at h
 ·rw [E.same_eq _ _ h]
 ·obtain ⟨⟨⟨⟨h1, h2⟩, h3⟩, h4⟩, h5⟩ := h
  rw [E.sameOpt_eq h1, h2, h3, E.sames_eq _ _ h4, h5]
 ·obtain ⟨⟨⟨⟨h1, h2⟩, h3⟩, h4⟩, h5⟩ := h
  rw [E.sameOpt_eq h1, h2, E.same_eq _ _ h3, E.sames_eq _ _ h4, h5]
 ·rw [h.1, E.sames_eq _ _ h.2]
theorem Cy0 : ∀ {x y : List W}, Bz5 x y = true → x = y
 | [], [], _ => rfl
 | a :: x, b :: y, h => by
   simp only [Bz5, Bool.and_eq_true] at h
   rw [W.same_eq h.1, Cy0 h.2]
 | [], _ :: _, h => by simp [Bz5] at h
 | _ :: _, [], h => by simp [Bz5] at h
theorem Bx6 (p : Nat → Bool) : ∀ l : List Nat, l.filter p ∈ subs l
 | [] => by simp [subs]
 | x :: l => by
   have ih := Bx6 p l
   simp only [List.filter_cons, subs, List.mem_append, List.mem_map]
   split
   ·exact .inr ⟨_, ih, rfl⟩
   ·exact .inl ih

section
variable {P : Program} {sig : Nat → Option Nat} {fn : Fns} {w0 : Fr} {Oe : Nat → Option Nat} {η : List PV} {ops : Array Oper}

theorem Cm0 (σ : St) (ε : Eff) (d : Option Tmp) (sv : SV) : ((σ.eff ε).set d sv).t = Ax1 ⟨ε.kl, d.map (fun d => (d, sv))⟩ σ.t := by
 cases d <;> cases h : ε.kl <;> simp [St.eff, St.set, Ax1, Ap6, h]
theorem Gh1 (σ : St) (ε : Eff) (d : Option Tmp) (sv : SV) : ((σ.eff ε).set d sv).m = ε.m := by
 cases d <;> rfl
def Ent.vx (e : Ent) : Vx := ⟨if e.tr then none else e.kl, e.o.dst.map fun d => (d, e.sv)⟩
def Vof (ents : List Ent) (k : Nat) : Vx := match ents[k]? with | some e => e.vx | none => ⟨none, none⟩
theorem Cp2 (V : Nat → Vx) (t0 : List SV) : ∀ k, tA V allL t0 (k + 1) = tA (fun j => V (j + 1)) allL (Ax1 (V 0) t0) k
 | 0 => by simp [tA, allL]
 | k + 1 => by
   have ih := Cp2 V t0 k
   rw [tA]
   simp only [allL, if_true]
   rw [show tA V allL t0 (k + 1) = _ from ih]
   simp [tA, allL]

theorem Fg6 {own : List Nat} {rid : Nat} : ∀ (l : List Oper) (i : Nat) (σ : St) (ents : List Ent) (σ' : St) (η1 η2 ζ : List PV), trcD P sig own ops rid l i σ = some (ents, σ') → Ak9 fn η1 (Gg9 ents) = some η2 → η = η2 ++ ζ → η1.length = σ.n →
  ents.length = l.length ∧ η2.length = σ'.n ∧ (∀ k e, ents[k]? = some e → l[k]? = some e.o ∧ e.t = tA (Vof ents) allL σ.t k ∧ ∃ η1 η2 ζ, Ak9 fn η1 e.ws = some η2 ∧ η = η2 ++ ζ ∧ η1.length = e.n) ∧ σ'.t = tA (Vof ents) allL σ.t ents.length
 | [], i, σ, ents, σ', η1, η2, ζ, hx, hw, hη, hn => by
   simp only [trcD, Option.some.injEq, Prod.mk.injEq] at hx
   obtain ⟨rfl, rfl⟩ := hx
   simp only [Gg9, Ak9, Option.some.injEq] at hw
   subst hw
   exact ⟨rfl, hn, fun k e h => by simp at h, rfl⟩
 | o :: l, i, σ, ents, σ', η1, η2, ζ, hx, hw, hη, hn => by
   simp only [trcD] at hx
   split at hx
   ·rename_i ws sv ε hc
    obtain ⟨⟨ents', σ2⟩, hrec, he⟩ := Option.map_eq_some_iff.1 hx
    simp only [Prod.mk.injEq] at he
    have hE0 : ∃ E0 : Ent, ents = E0 :: ents' ∧ E0.o = o ∧ E0.t = σ.t ∧ E0.n = σ.n ∧ E0.ws = ws ∧ E0.sv = sv ∧ E0.kl = ε.kl ∧ (E0.tr = true → ∀ s, ε.kl = some s → SV.kills s σ.t = σ.t) := by
     refine ⟨_, he.1.symm, rfl, rfl, rfl, rfl, rfl, rfl, fun htr s hs => ?_⟩
     simp only [hs] at htr
     exact SV.sames_eq _ _ htr
    obtain ⟨E0, rfl, rfl, k2, k3, rfl, rfl, k6, k7⟩ := hE0
    obtain ⟨_, rfl⟩ := he
    simp only [Gg9] at hw
    rw [Av4] at hw
    obtain ⟨η3, hw1, hw2⟩ := Option.bind_eq_some_iff.1 hw
    obtain ⟨ζ2, hζ2⟩ := Az3 hw2
    have hset : ((σ.eff ε).set E0.o.dst E0.sv).n = ε.n := by cases E0.o.dst <;> rfl
    have hlen := Bk9 hc hw1 hn
    obtain ⟨r1, r2, r3, r4⟩ := Fg6 l (i + 1) _ ents' σ2 η3 η2 ζ hrec hw2 hη (by rw [hlen, hset])
    have ht : ((σ.eff ε).set E0.o.dst E0.sv).t = Ax1 (Vof (E0 :: ents') 0) σ.t := by
     rw [Cm0]
     simp only [Vof, List.getElem?_cons_zero, Ent.vx]
     rw [k6]
     cases hk : ε.kl with
     | none => simp
     | some s =>
       cases htr : E0.tr with
       | true => simp only [if_true, Ax1, Ap6, k7 htr s hk]
       | false => simp
    have hV : (fun j => Vof (E0 :: ents') (j + 1)) = Vof ents' := by
     funext j; simp [Vof]
    refine ⟨by simp [r1], r2, fun k e hk => ?_, ?_⟩
    ·cases k with
     | zero =>
       simp only [List.getElem?_cons_zero, Option.some.injEq] at hk
       subst hk
       exact ⟨rfl, k2, η1, η3, ζ2 ++ ζ, hw1, by rw [hη, hζ2, List.append_assoc], by rw [k3]; exact hn⟩
     | succ k =>
       obtain ⟨q1, q2, q3⟩ := r3 k e (by simpa using hk)
       refine ⟨by simpa using q1, ?_, q3⟩
       rw [Cp2, hV, ← ht]; exact q2
    ·rw [List.length_cons, Cp2, hV, ← ht]; exact r4
   ·cases hx
theorem Az2 {own : List Nat} {rid : Nat} {B B' : Nat → Bool} : ∀ (ents : List Ent) (i : Nat) (m : List (Nat × Blk)), (∀ k, i ≤ k → k < i + ents.length → B k = B' k) → mBgo P sig own ops rid B ents i m = mBgo P sig own ops rid B' ents i m
 | [], _, _, _ => rfl
 | e :: r, i, m, h => by
   simp only [mBgo]
   rw [h i (Nat.le_refl _) (by simp)]
   have hr : ∀ m, mBgo P sig own ops rid B r (i + 1) m = mBgo P sig own ops rid B' r (i + 1) m := fun m => Az2 r (i + 1) m fun k h1 h2 => h k (by omega) (by simp; omega)
   split
   ·split
    ·exact hr _
    ·rfl
   ·exact hr m

def cnt (L : Nat → Bool) : Nat → Nat
 | 0 => 0
 | k + 1 => cnt L k + if L k then 0 else 1
theorem Gh6 {L L' : Nat → Bool} {j : Nat} (hL : L j = false) (hL' : ∀ i, L' i = if i = j then true else L i) : ∀ k, cnt L k = cnt L' k + if j < k then 1 else 0
 | 0 => by simp [cnt]
 | k + 1 => by
   have ih := Gh6 hL hL' k
   by_cases hk : k = j
   ·subst hk
    have e : L' k = true := by rw [hL', if_pos rfl]
    simp only [cnt, e, hL, if_true, Bool.false_eq_true, if_false]
    rw [if_neg (Nat.lt_irrefl k)] at ih
    rw [if_pos (Nat.lt_succ_self k)]
    omega
   ·have e : L' k = L k := by rw [hL', if_neg hk]
    simp only [cnt, e]
    by_cases hjk : j < k
    ·rw [if_pos hjk] at ih
     rw [if_pos (show j < k + 1 by omega)]
     omega
    ·rw [if_neg hjk] at ih
     rw [if_neg (show ¬ j < k + 1 by omega)]
     omega
theorem El2 {L : Nat → Bool} : ∀ k, cnt L k = 0 → ∀ i, i < k → L i = true
 | 0, _, i, hi => by omega
 | k + 1, h, i, hi => by
   simp only [cnt] at h
   by_cases hk : i = k
   ·subst hk
    cases hl : L i with
    | true => rfl
    | false => rw [hl] at h; simp at h
   ·exact El2 k (by omega) i (by omega)

theorem Jf3 (hC : Contract P sig fn) {own : List Nat} {rid : Nat} {Q : Exit → Act → World → Prop} {ds : List Deferred} {ents : List Ent} {σ σ' : St}
  (hd : Gh2 ops = true) (hlen : ents.length = ops.size) (hE : ∀ k e, ents[k]? = some e → ops[k]? = some e.o ∧ e.t = tA (Vof ents) allL σ.t k ∧ ∃ η1 η2 ζ, Ak9 fn η1 e.ws = some η2 ∧ η = η2 ++ ζ ∧ η1.length = e.n)
  (hfin : σ'.t = tA (Vof ents) allL σ.t ops.size) (hchk : Dk3 P sig own ops rid ents σ σ' = true) (hQ : ∀ a' w', a'.defers = ds → Rels w0 Oe η ⟨σ'.t, σ'.m, 0⟩ a'.tmps w' → Q .normal a' w') :
  ∀ (fuel : Nat) (listed : Array Bool) (a : Act) (w : World), listed.size = ops.size → cnt (fun i => listed.getD i false) ops.size ≤ fuel →
    (∀ (j : Nat) (o : Oper), ops[j]? = some o → listed.getD j false = true → ∀ k, k ∈ eOns o → listed.getD k false = true) → a.defers = ds →
    (∃ m, mBgo P sig own ops rid (fun k => efOf ents k && listed.getD k false) ents 0 σ.m = some m ∧ Rels w0 Oe η ⟨tA (Vof ents) (fun i => listed.getD i false) σ.t ops.size, m, 0⟩ a.tmps w) → wpAny P .any ops Q fuel listed a w := by
 have hop : ∀ j, j < ops.size → ∃ y, ops[j]? = some y ∧ Eh5 y.op = false ∧ (∀ k, k ∈ eOns y → k < j) ∧ ∀ i, i < j → ((ancL [] ops.toList).getD j 0).testBit i = true ∨ ∃ x, ops[i]? = some x ∧ x.apart ops y = true := by
  intro j hj
  unfold Gh2 at hd
  have h1 := (List.all_eq_true.1 hd) j (by simp [hj])
  split at h1
  ·rename_i y hy
   simp only [Bool.and_eq_true, Bool.not_eq_true', List.all_eq_true, decide_eq_true_eq, List.mem_range, Bool.or_eq_true] at h1
   refine ⟨y, hy, h1.1.1, fun k hk => h1.1.2 k hk, fun i hi => ?_⟩
   rcases h1.2 i hi with h2 | h2
   ·exact .inl h2
   ·right
    split at h2
    ·rename_i x hx; exact ⟨x, hx, h2⟩
    ·cases h2
  ·cases h1
 simp only [Dk3, Bool.and_eq_true, List.all_eq_true, List.mem_range] at hchk
 obtain ⟨hchk1, hchk2⟩ := hchk
 have hlt : ∀ (j : Nat) (o : Oper), ops.toList[j]? = some o → ∀ k, k ∈ eOns o → k < j := by
  intro j o ho k hk
  have ho' : ops[j]? = some o := by simpa using ho
  obtain ⟨y, hy, _, h2, _⟩ := hop j (Array.getElem?_eq_some_iff.1 ho').1
  rw [ho'] at hy; injection hy with hy; subst hy
  exact h2 k hk
 have hend : ∀ (listed : Array Bool) (a : Act) (w : World), (∀ i, i < ops.size → listed.getD i false = true) → a.defers = ds →
   (∃ m, mBgo P sig own ops rid (fun k => efOf ents k && listed.getD k false) ents 0 σ.m = some m ∧ Rels w0 Oe η ⟨tA (Vof ents) (fun i => listed.getD i false) σ.t ops.size, m, 0⟩ a.tmps w) → Q .normal a w := by
  rintro listed a w hl hds ⟨m, hm, β, hv, O, h⟩
  refine hQ a w hds ⟨β, hv, O, ?_⟩
  have c1 := Ed9 (V := Vof ents) (t0 := σ.t) (L := fun i => listed.getD i false) (L' := allL) (n := ops.size) hl
  rw [Az2 (B' := efOf ents) ents 0 σ.m (fun k _ hk => by rw [hl k (by omega), Bool.and_true])] at hm
  rw [hm] at hchk2
  have := h.eqm (m' := σ'.m) (n := 0) (fun s => Jj9 hchk2 s)
  rw [hfin, ← c1 _ (Nat.le_refl _)]
  exact this
 intro fuel
 induction fuel with
 | zero =>
   intro listed a w hsize hcnt hcl hds h
   have hl := El2 ops.size (by omega) (L := fun i => listed.getD i false)
   refine ⟨?_, hend listed a w hl hds h⟩
   refine List.eq_nil_iff_forall_not_mem.2 fun j hj => ?_
   rw [mem_ready] at hj
   obtain ⟨h0, o, ho, _⟩ := hj
   have hj' := (Array.getElem?_eq_some_iff.1 ho).1
   have := hl j hj'
   rw [Array.getD_eq_getD_getElem?, Array.getElem?_eq_getElem (by omega)] at h0 this
   simp only [Option.getD_some] at h0 this
   rw [h0] at this; cases this
 | succ fuel ih =>
   intro listed a w hsize hcnt hcl hds h
   let L : Nat → Bool := fun i => listed.getD i false
   refine ⟨fun hr => ?_, fun j hj => ?_⟩
   ·-- none is ready: all are listed
    refine hend listed a w (fun i hi => ?_) hds h
    have : ∀ N i, i < N → i < ops.size → L i = true := by
     intro N
     induction N with
     | zero => intro i hi; omega
     | succ N ihN =>
       intro i hi1 hi2
       refine Classical.byContradiction fun hne => ?_
       obtain ⟨y, hy, _, hk, _⟩ := hop i hi2
       have hmem : i ∈ Region.ready .any ops listed := by
        rw [mem_ready]
        refine ⟨?_, y, hy, fun e he hb => ?_⟩
        ·have : L i = false := by
          cases hh : L i with
          | false => rfl
          | true => exact absurd hh hne
         have h3 : listed.getD i false = false := this
         rw [Array.getD_eq_getD_getElem?, Array.getElem?_eq_getElem (by omega)] at h3 ⊢
         exact h3
        ·have hin : e.on ∈ eOns y := List.mem_map.2 ⟨e, List.mem_filter.2 ⟨by simpa using he, hb⟩, rfl⟩
         have := hk _ hin
         exact ihN e.on (by omega) (by omega)
       rw [hr] at hmem; simp at hmem
    exact this (i + 1) i (by omega) hi
   ·rw [mem_ready] at hj
    obtain ⟨h0, o, ho, hafter⟩ := hj
    have hj' : j < ops.size := (Array.getElem?_eq_some_iff.1 ho).1
    have hLj : L j = false := by
     show listed.getD j false = false
     rw [Array.getD_eq_getD_getElem?, Array.getElem?_eq_getElem (by omega)] at h0 ⊢
     exact h0
    obtain ⟨y, hy, hsel, hk, hpair⟩ := hop j hj'
    rw [ho] at hy; injection hy with hy; subst hy
    have hready : ∀ k, k ∈ eOns o → L k = true := by
     intro k hk1
     obtain ⟨e, he, rfl⟩ := List.mem_map.1 hk1
     obtain ⟨he1, he2⟩ := List.mem_filter.1 he
     exact hafter e (by simpa using he1) he2
    have hcl' : ∀ (j : Nat) (o : Oper), ops.toList[j]? = some o → L j = true → ∀ k, k ∈ eOns o → L k = true := fun j o ho hl => hcl j o (by simpa using ho) hl
    have hanc : ∀ i, ((ancL [] ops.toList).getD j 0).testBit i = true → L i = true := Bp8 hcl' hlt (j + 1) j o (by omega) (by simpa using ho) hready
    have hup : ∀ k, k < ops.size → L k = true → ∀ i, ((ancL [] ops.toList).getD k 0).testBit i = true → L i = true := by
     intro k hk hLk i hb
     obtain ⟨x, hx, _⟩ := hop k hk
     exact Bp8 hcl' hlt (k + 1) k x (by omega) (by simpa using hx) (fun z hz => hcl k x hx hLk z hz) i hb
    have hbehind : ∀ i, j < i → i < ops.size → L i = true → ∃ x, ops[i]? = some x ∧ o.apart ops x = true := by
     intro i hji hin hLi
     obtain ⟨x, hx, _, hxk, hxp⟩ := hop i hin
     rcases hxp j hji with hb | ⟨o', ho', h1⟩
     ·have := hup i hin hLi j hb
      rw [hLj] at this; cases this
     ·rw [ho] at ho'; injection ho' with ho'; subst ho'
      exact ⟨x, hx, h1⟩
    obtain ⟨e, he⟩ : ∃ e, ents[j]? = some e := ⟨_, List.getElem?_eq_getElem (by omega)⟩
    obtain ⟨heo, het, η1, η2, ζ, hw, hη, hn⟩ := hE j e he
    rw [ho] at heo; injection heo with heo; subst heo
    have hcj := hchk1 j (by omega)
    rw [he] at hcj
    simp only [Bool.and_eq_true, List.all_eq_true] at hcj
    obtain ⟨⟨_, hcY⟩, hcK⟩ := hcj
    have hVj : Vof ents j = e.vx := by simp only [Vof, he]
    have hefj : efOf ents j = e.ef := by simp only [efOf, he]
    have hVi : ∀ i d x, i < ops.size → (Vof ents i).v = some (d, x) → ∃ y, ops[i]? = some y ∧ y.dst = some d := by
     intro i d x hi hv
     obtain ⟨e', he'⟩ : ∃ e, ents[i]? = some e := ⟨_, List.getElem?_eq_getElem (by omega)⟩
     obtain ⟨h1, _⟩ := hE i e' he'
     simp only [Vof, he', Ent.vx] at hv
     obtain ⟨d', hd', hh⟩ := Option.map_eq_some_iff.1 hv
     simp only [Prod.mk.injEq] at hh
     exact ⟨e'.o, h1, by rw [hd', hh.1]⟩
    have hKi : ∀ i, i < ops.size → (Vof ents i).kl ≠ none → Full ops i := by
     intro i hi hv
     obtain ⟨e', he'⟩ : ∃ e, ents[i]? = some e := ⟨_, List.getElem?_eq_getElem (by omega)⟩
     have h1 := hchk1 i (by omega)
     rw [he'] at h1
     simp only [Bool.and_eq_true] at h1
     have h2 := h1.2
     simp only [Vof, he', Ent.vx] at hv
     unfold Gd9 at h2
     have htr : e'.tr = false := by
      cases hh : e'.tr with
      | false => rfl
      | true => rw [hh] at hv; simp at hv
     rw [htr] at h2
     simp only [Bool.not_false, if_true] at h2
     rw [hlen] at h2
     exact Il0 h2 hi
    have hfull : ∀ i, i < ops.size → i ≠ j → Full ops i → (L i = true ↔ i < j) := by
     intro i hi hne hf
     constructor
     ·intro hLi
      refine Classical.byContradiction fun hge => ?_
      have := hup i hi hLi j (hf.1 j (by omega))
      rw [hLj] at this; cases this
     ·intro hlt2
      exact hanc i (hf.2 j hlt2 hj')
    have hfullj : Full ops j → ∀ i, j < i → i < ops.size → L i = true → False := by
     intro hf i hji hi hLi
     have := hup i hi hLi j (hf.2 i hji hi)
     rw [hLj] at this; cases this
    have hlook : ∀ d, d ∈ e.o.looksAt ops → (tA (Vof ents) L σ.t ops.size)[d]? = e.t[d]? := by
     intro d hd
     rw [het]
     refine Jv4 (by omega) (fun i x hi hv => ?_) (fun i hi hv => ?_)
     ·obtain ⟨y, hy, hyd⟩ := hVi i d x hi hv
      constructor
      ·intro hLi
       refine Classical.byContradiction fun hge => ?_
       have hij : i ≠ j := fun e => by subst e; rw [hLj] at hLi; cases hLi
       obtain ⟨x', hx', hap⟩ := hbehind i (by omega) hi hLi
       rw [hy] at hx'; injection hx' with hx'; subst hx'
       exact (Oper.apart_spec hap).2.2 d hyd hd
      ·intro hlt
       rcases hpair i hlt with hb | ⟨x', hx', hap⟩
       ·exact hanc i hb
       ·rw [hy] at hx'; injection hx' with hx'; subst hx'
        exact absurd hd ((Oper.apart_spec hap).1 d hyd)
     ·by_cases hij : i = j
      ·subst hij
       exact ⟨fun hLi => (by rw [hLj] at hLi; cases hLi), fun h => by omega⟩
      ·exact hfull i hi hij (hKi i hi hv)
    obtain ⟨m, hm, β, hv, O, hrel⟩ := h
    let A := ancL [] ops.toList
    let U := (Jq4 A ents j).filter L
    let B : Nat → Bool := fun k => efOf ents k && ((A.getD j 0).testBit k || U.contains k)
    have hBL : ∀ k, k < ops.size → B k = (efOf ents k && L k) := by
     intro k hk
     show (efOf ents k && ((A.getD j 0).testBit k || U.contains k)) = (efOf ents k && L k)
     cases hef : efOf ents k with
     | false => rfl
     | true =>
       rw [Bool.true_and, Bool.true_and, Bool.eq_iff_iff]
       simp only [Bool.or_eq_true, List.contains_iff_mem]
       constructor
       ·rintro (h1 | h1)
        ·exact hanc k h1
        ·exact (List.mem_filter.1 h1).2
       ·intro hLk
        by_cases h1 : (A.getD j 0).testBit k = true
        ·exact .inl h1
        ·right
         refine List.mem_filter.2 ⟨List.mem_filter.2 ⟨List.mem_range.2 (by omega), ?_⟩, hLk⟩
         have h2 : (A.getD k 0).testBit j = false := by
          cases hh : (A.getD k 0).testBit j with
          | false => rfl
          | true => have := hup k hk hLk j hh; rw [hLj] at this; cases this
         have h3 : k ≠ j := fun e => by subst e; rw [hLj] at hLk; cases hLk
         simp only [Bool.not_eq_true] at h1
         show (efOf ents k && k != j && !(A.getD j 0).testBit k && !(A.getD k 0).testBit j) = true
         rw [hef, h1, h2]
         simp [h3]
    have hclo : Cq0 A ents B = true := by
     unfold Cq0
     rw [List.all_eq_true]
     intro k hk
     have hk' : k < ops.size := by rw [← hlen]; simpa using hk
     cases hb : B k with
     | false => rfl
     | true =>
       rw [Bool.not_true, Bool.false_or, List.all_eq_true]
       intro i hi
       have hi' : i < ops.size := by rw [← hlen]; simpa using hi
       rw [hBL k hk'] at hb
       simp only [Bool.and_eq_true] at hb
       cases hx : efOf ents i && (A.getD k 0).testBit i with
       | false => rfl
       | true =>
         simp only [Bool.and_eq_true] at hx
         rw [Bool.not_true, Bool.false_or, hBL i hi', hx.1, hup k hk' hb.2 i hx.2]; rfl
    have hcU := hcY U (Bx6 L _)
    unfold chkY at hcU
    have hcl2 : Cq0 (ancL [] ops.toList) ents (fun k => efOf ents k && (((ancL [] ops.toList).getD j 0).testBit k || U.contains k)) = true := hclo
    simp only [hcl2, Bool.not_true, Bool.false_eq_true, if_false] at hcU
    have hmB : mBgo P sig own ops rid (fun k => efOf ents k && (((ancL [] ops.toList).getD j 0).testBit k || U.contains k)) ents 0 σ.m = some m := by
     rw [← hm]
     exact Az2 ents 0 σ.m fun k _ hk => hBL k (by omega)
    rw [hmB] at hcU
    simp only at hcU
    split at hcU
    ·rename_i ws sv ε hcore
     simp only [Bool.and_eq_true, beq_iff_eq] at hcU
     obtain ⟨⟨⟨⟨hws, hsv⟩, hkl⟩, hmm⟩, hek⟩ := hcU
     have hws' := Cy0 hws
     have hsv' := SV.same_eq _ _ hsv
     subst hws'; subst hsv'
     have hcore' : An0 P sig own ops (rid * 4096 + j) e.o ⟨tA (Vof ents) L σ.t ops.size, m, e.n⟩ = some (e.ws, e.sv, ε) := by
      rw [← hcore]
      exact Jk3 hlook
     have hrel' : Rel w0 Oe η ⟨tA (Vof ents) L σ.t ops.size, m, e.n⟩ a.tmps w β hv O := hrel.setN e.n
     refine Cz2 ho (Ec7 hC hrel' hcore' hw hη hn) fun v w' hp => ?_
     obtain ⟨β', hv', O', hr2⟩ := hp.rels (d := e.o.dst) (Cw6 hcore')
     let L' : Nat → Bool := fun i => (listed.setIfInBounds j true).getD i false
     have hL' : ∀ i, L' i = if i = j then true else L i := by
      intro i
      show (listed.setIfInBounds j true).getD i false = _
      split
      ·rename_i he; subst he
       rw [Array.getD_eq_getD_getElem?, Array.getElem?_setIfInBounds_self_of_lt (by omega)]; rfl
      ·rename_i he
       exact getD_set_ne false (Ne.symm he)
     refine ih _ _ _ (by simpa using hsize) ?_ ?_ (by rw [Bh5]; exact hds) ?_
     ·have := Gh6 hLj hL' ops.size
      rw [if_pos hj'] at this
      have e1 : cnt L' ops.size = cnt (fun i => (listed.setIfInBounds j true).getD i false) ops.size := rfl
      have e2 : cnt L ops.size = cnt (fun i => listed.getD i false) ops.size := rfl
      omega
     ·intro i y hy hl k hk
      by_cases hij : i = j
      ·subst hij
       rw [ho] at hy; injection hy with hy; subst hy
       exact getD_set_true (hready k hk)
      ·rw [getD_set_ne false (Ne.symm hij)] at hl
       exact getD_set_true (hcl i y hy hl k hk)
     ·have e1 : tA (Vof ents) L' σ.t ops.size = Ax1 (Vof ents j) (tA (Vof ents) L σ.t ops.size) := Kv1 hj' hLj hL' (fun i hi hji hLi => ⟨by
       cases hh : (Vof ents j).kl with
       | none => rfl
       | some s => exact (hfullj (hKi j hj' (by rw [hh]; simp)) i hji hi hLi).elim, by
       cases hh : (Vof ents i).kl with
       | none => rfl
       | some s => have := (hfull i hi (by omega) (hKi i hi (by rw [hh]; simp))).1 hLi; omega⟩) fun i d x y hi hij hji hLi h1 h2 => by
       obtain ⟨x', hx', hap⟩ := hbehind i hji hi hLi
       obtain ⟨y', hy', hyd⟩ := hVi i d y hi h2
       rw [hx'] at hy'; injection hy' with hy'; subst hy'
       obtain ⟨o', ho', hod⟩ := hVi j d x hj' h1
       rw [ho] at ho'; injection ho' with ho'; subst ho'
       exact (Oper.apart_spec hap).2.1 d hod hyd
      have e4 : tA (Vof ents) L' σ.t ops.size = (((⟨tA (Vof ents) L σ.t ops.size, m, e.n⟩ : St).eff ε).set e.o.dst e.sv).t := by
       rw [e1, hVj, Cm0]
       simp only [Ent.vx]
       rw [hkl]
       cases htr : e.tr with
       | false => simp
       | true =>
         simp only [if_true]
         cases hk2 : e.kl with
         | none => rfl
         | some s =>
           unfold Gd9 at hcK
           rw [htr] at hcK
           simp only [Bool.not_true, Bool.false_eq_true, if_false, hk2, Bool.and_eq_true, List.all_eq_true, List.mem_range, Bool.or_eq_true, beq_iff_eq] at hcK
           obtain ⟨g1, g2⟩ := hcK
           have hkt := Eh3 (V := Vof ents) (L := fun k => L k && decide (k < ops.size)) (s := s) (SV.sames_eq _ _ g1) (fun k d x hLk hvk => by
            simp only [Bool.and_eq_true, decide_eq_true_eq] at hLk
            obtain ⟨hLk, hks⟩ := hLk
            obtain ⟨e', he'⟩ : ∃ e, ents[k]? = some e := ⟨_, List.getElem?_eq_getElem (by omega)⟩
            rcases g2 k (by omega) with (h1 | h1) | h1
            ·subst h1; rw [hLj] at hLk; cases hLk
            ·have := hup k hks hLk j h1; rw [hLj] at this; cases this
            ·rw [he'] at h1
             simp only [Vof, he', Ent.vx] at hvk
             obtain ⟨d', _, hh⟩ := Option.map_eq_some_iff.1 hvk
             simp only [Prod.mk.injEq] at hh
             rw [← hh.2]
             exact SV.same_eq _ _ h1) ops.size
           have hcg := Ed9 (V := Vof ents) (t0 := σ.t) (L := fun k => L k && decide (k < ops.size)) (L' := L) (n := ops.size) (fun i hi => by simp [hi]) ops.size (Nat.le_refl _)
           rw [hcg] at hkt
           simp only [Ax1, Ap6, hkt]
      have hmm' : ∃ m', mBgo P sig own ops rid (fun k => efOf ents k && L' k) ents 0 σ.m = some m' ∧ eqM ε.m m' = true := by
       split at hmm
       ·rename_i m' hm'
        refine ⟨m', ?_, hmm⟩
        cases hef : e.ef with
        | true =>
          rw [hef] at hm'
          simp only [if_true] at hm'
          rw [← hm']
          refine Az2 ents 0 σ.m fun k _ hk => ?_
          have hk' : k < ops.size := by omega
          show (efOf ents k && L' k) = (B k || k == j)
          rw [hBL k hk', hL']
          by_cases hkj : k = j
          ·subst hkj; simp [hefj, hef]
          ·simp [hkj]
        | false =>
          rw [hef] at hm'
          simp only [Bool.false_eq_true, if_false] at hm'
          rw [← hm', ← hm]
          refine Az2 ents 0 σ.m fun k _ hk => ?_
          show (efOf ents k && L' k) = (efOf ents k && L k)
          rw [hL']
          by_cases hkj : k = j
          ·subst hkj; simp [hefj, hef]
          ·simp [hkj]
       ·cases hmm
      obtain ⟨m', hm1, hm2⟩ := hmm'
      refine ⟨m', hm1, β', hv', O', ?_⟩
      have := hr2.eqm (m' := m') (n := 0) (fun s => by rw [Gh1]; exact Jj9 hm2 s)
      rw [← e4] at this
      exact this
    ·cases hcU

theorem Ec6 (hC : Contract P sig fn) {own : List Nat} {rid : Nat} {Q : Exit → Act → World → Prop} {σ σ' : St} {a : Act} {w : World} {η1 η2 ζ : List PV} {ws : List W} (h : Rels w0 Oe η σ a.tmps w)
  (hx : Jk2 P sig own ops rid σ = some (ws, σ')) (hw : Ak9 fn η1 ws = some η2) (hη : η = η2 ++ ζ) (hn : η1.length = σ.n) (hQ : ∀ a' w', a'.defers = a.defers → Rels w0 Oe η σ' a'.tmps w' → Q .normal a' w') :
  (Code.region rid ops true).wp P Q a w ∧ η2.length = σ'.n := by
 unfold Jk2 at hx
 split at hx
 ·rename_i hc
  simp only [Bool.and_eq_true] at hc
  split at hx
  ·rename_i σ1 _
   simp only at hx
   split at hx
   ·rename_i ents σ2 htr
    split at hx
    ·rename_i hchk
     simp only [Option.some.injEq, Prod.mk.injEq] at hx
     obtain ⟨rfl, rfl⟩ := hx
     obtain ⟨h1, h2, h3, h4⟩ := Fg6 (fn := fn) (η := η) (ops := ops) ops.toList 0 _ ents σ2 η1 η2 ζ htr hw hη hn
     have hl : ents.length = ops.size := by rw [h1]; simp
     refine ⟨wp_region_any hc.2 ?_, h2⟩
     obtain ⟨β, hv, O, hrel⟩ := h
     obtain ⟨O', hfrz, _⟩ := hrel.frz (Bv2 σ1.m) (n := σ.n)
     have hrel2 := hfrz.below (w' := w.drew) ((Blw.refl _ _).drew)
     rw [hl] at h4
     refine Jf3 (w0 := w0) (Oe := Oe) (η := η) hC (ds := a.defers) hc.1 hl (fun k e he => ?_) h4 hchk (fun a' w' hd hr => hQ a' w' hd ?_) ops.size (Array.replicate ops.size false) a _ (by simp) ?_ ?_ rfl ?_
     ·obtain ⟨q1, q2, q3⟩ := h3 k e he
      exact ⟨by simpa using q1, q2, q3⟩
     ·obtain ⟨β', hv', O', r⟩ := hr
      exact ⟨β', hv', O', r.setN σ2.n⟩
     ·have : ∀ (L : Nat → Bool) k, cnt L k ≤ k := by
       intro L k
       induction k with
       | zero => exact Nat.le_refl _
       | succ k ih => simp only [cnt]; split <;> omega
      exact this _ _
     ·intro j o ho hl
      have hj := (Array.getElem?_eq_some_iff.1 ho).1
      simp [hj] at hl
     ·have hno : ∀ i, i < ops.size → (Array.replicate ops.size false).getD i false = false := fun i hi => by simp [hi]
      have c1 := Jv3 (V := Vof ents) (t0 := σ.t) (L := fun i => (Array.replicate ops.size false).getD i false) hno
      refine ⟨frzM (Bv2 σ1.m) σ.m, ?_, β, hv, O', ?_⟩
      ·rw [Az2 (B' := fun _ => false) ents 0 _ (fun k _ hk => by rw [hno k (by omega), Bool.and_false])]
       have : ∀ (l : List Ent) (i : Nat) (m : List (Nat × Blk)), mBgo P sig own ops rid (fun _ => false) l i m = some m := by
        intro l
        induction l with
        | nil => intro i m; rfl
        | cons x l ih => intro i m; simp only [mBgo, Bool.false_eq_true, if_false]; exact ih _ _
       exact this _ _ _
      ·rw [c1 _ (Nat.le_refl _)]
       exact hrel2.setN 0
    ·cases hx
   ·cases hx
  ·cases hx
 ·cases hx
end
end Go.X
/- Where several ways come together. -/
namespace Go.X
open Go Go.RowKit

theorem Kt0 {η : List PV} {es : List E} {vs : List PV} (h : E.evs η es = some vs) {j : Nat} {e : E} (he : es[j]? = some e) : ∃ p, vs[j]? = some p ∧ e.ev η = some p := (As6 h).2 j e he

section
variable {η ζ vs : List PV} {es : List E} {n : Nat}

theorem Bq5 (hvs : E.evs (η ++ ζ) es = some vs) (hn : η.length = n) {x y : E} (h : subE es n x y = true) {p : PV} (hp : x.ev (η ++ ζ) = some p) : y.ev (η ++ vs) = some p := by
 have hh : ∀ k, k < n → (η ++ ζ)[k]? = (η ++ vs)[k]? := fun k hk => by rw [List.getElem?_append_left (by omega), List.getElem?_append_left (by omega)]
 unfold subE at h
 split at h
 ·rename_i k
  split at h
  ·rename_i hk
   split at h
   ·rename_i e he
    have := E.same_eq _ _ h
    subst this
    obtain ⟨q, hq, hq2⟩ := Kt0 hvs he
    rw [hp] at hq2; injection hq2 with hq2; subst hq2
    simp only [E.ev]
    rw [List.getElem?_append_right (by omega), hn]
    exact hq
   ·cases h
  ·rename_i hk
   have := E.same_eq _ _ h
   subst this
   rw [← E.ev_scp hh _ (by simp only [E.scp, decide_eq_true_eq]; omega)]
   exact hp
 ·simp only [Bool.and_eq_true] at h
  have := E.same_eq _ _ h.1
  subst this
  rw [← E.ev_scp hh _ h.2]; exact hp

structure Mv (C C' : Cx) (n : Nat) (R : List (Nat × SV)) : Prop where
 ev : ∀ x : E, x.scp n = true → x.ev C'.η = x.ev C.η
 M : C.M.Le C'.M
 at_ : ∀ s, Ay2 R s = none → C'.β s = C.β s ∧ C'.hv s = C.hv s
 arr : ∀ s e sz x ro xs, Ay2 R s = none → Ih3 C'.m s = true → mget C.m s = some (.arr e sz x ro) → x.ev C.η = some (.l sz xs) → ∃ e' x' ro', mget C'.m s = some (.arr e' sz x' ro') ∧ x'.ev C'.η = some (.l sz xs)

mutual
theorem Aj1.mv {C C' : Cx} {n : Nat} {R : List (Nat × SV)} (h : Mv C C' n R) : ∀ (x : SV) (v : Value), x.scp n = true → x.okM C'.m R = true → Aj1 C x v → Aj1 C' x v
 | .e x, v, hs, hk, hr => by
   simp only [Aj1, SV.scp] at hs hr ⊢
   obtain ⟨p, h1, h2⟩ := hr
   exact ⟨p, by rw [h.ev _ hs]; exact h1, h2.mono h.M⟩
 | .nil _, v, hs, hk, hr => by simpa only [Aj1] using hr
 | .lit sz x, v, hs, hk, hr => by
   simp only [Aj1, SV.scp] at hs hr ⊢
   obtain ⟨xs, a, h1, h2, h3⟩ := hr
   exact ⟨xs, a, by rw [h.ev _ hs]; exact h1, h2, h3.mono h.M⟩
 | .may g x, v, hs, hk, hr => by
   simp only [Aj1, SV.scp, SV.okM, Bool.and_eq_true] at hs hk hr ⊢
   obtain ⟨b, h1, h2, h3⟩ := hr
   exact ⟨b, by rw [h.ev _ hs.1]; exact h1, fun hb => Aj1.mv h x v hs.2 hk (h2 hb), h3⟩
 | .und, v, hs, hk, hr => by simp only [Aj1]
 | .bp s off, v, hs, hk, hr => by
   simp only [Aj1, SV.okM, Option.isNone_iff_eq_none] at hk hr ⊢
   rw [(h.at_ s hk).1]; exact hr
 | .ip x off, v, hs, hk, hr => by
   simp only [Aj1, SV.scp] at hs hr ⊢
   obtain ⟨p, h1, h2⟩ := hr
   exact ⟨p, by rw [h.ev _ hs]; exact h1, h2.mono h.M⟩
 | .ap s i off, v, hs, hk, hr => by
   simp only [Aj1, SV.scp, SV.okM, Bool.and_eq_true, Option.isNone_iff_eq_none] at hs hk hr ⊢
   obtain ⟨e, sz, x, ro, xs, k, iv, h1, h2, h3, h4, h5, h6⟩ := hr
   obtain ⟨e', x', ro', g1, g2⟩ := h.arr s e sz x ro xs hk.1 hk.2 h1 h2
   exact ⟨e', sz, x', ro', xs, k, iv, g1, g2, by rw [h.ev _ hs]; exact h3, h4, h5, by rw [(h.at_ s hk.1).1]; exact h6⟩
 | .suf s i, v, hs, hk, hr => by
   simp only [Aj1, SV.scp, SV.okM, Bool.and_eq_true, Option.isNone_iff_eq_none] at hs hk hr ⊢
   obtain ⟨e, sz, x, ro, xs, k, iv, h1, h2, h3, h4, h5, h6⟩ := hr
   obtain ⟨e', x', ro', g1, g2⟩ := h.arr s e sz x ro xs hk.1 hk.2 h1 h2
   exact ⟨e', sz, x', ro', xs, k, iv, g1, g2, by rw [h.ev _ hs]; exact h3, h4, h5, by rw [(h.at_ s hk.1).2]; exact h6⟩
 | .h s, v, hs, hk, hr => by
   simp only [Aj1, SV.okM, Option.isNone_iff_eq_none] at hk hr ⊢
   rw [(h.at_ s hk).2]; exact hr
 | .mh s, v, hs, hk, hr => by
   simp only [Aj1, SV.okM, Option.isNone_iff_eq_none] at hk hr ⊢
   rw [(h.at_ s hk).1]; exact hr
 | .slf s T, v, hs, hk, hr => by
   simp only [Aj1, SV.okM, Option.isNone_iff_eq_none] at hk hr ⊢
   rw [(h.at_ s hk).1]; exact hr
 | .nilq x, v, hs, hk, hr => by
   simp only [Aj1, SV.scp] at hs hr ⊢
   obtain ⟨sz, xs, b, h1, h2, h3⟩ := hr
   exact ⟨sz, xs, b, by rw [h.ev _ hs]; exact h1, h2, h3⟩
 | .tup xs, v, hs, hk, hr => by
   simp only [Aj1, SV.scp, SV.okM] at hs hk hr ⊢
   obtain ⟨us, h1, h2⟩ := hr
   exact ⟨us, h1, Aj5.mv h xs _ hs hk h2⟩
 | .ag xs, v, hs, hk, hr => by
   simp only [Aj1, SV.scp, SV.okM] at hs hk hr ⊢
   obtain ⟨us, h1, h2, h3⟩ := hr
   exact ⟨us, h1, h2, Aj5.mv h xs _ hs hk h3⟩
 | .clo g xs, v, hs, hk, hr => by
   simp only [Aj1, SV.scp, SV.okM] at hs hk hr ⊢
   obtain ⟨us, h1, h2⟩ := hr
   exact ⟨us, h1, Aj5.mv h xs _ hs hk h2⟩
theorem Aj5.mv {C C' : Cx} {n : Nat} {R : List (Nat × SV)} (h : Mv C C' n R) : ∀ (xs : List SV) (us : List Value), SV.scps n xs = true → SV.okMs C'.m R xs = true → Aj5 C xs us → Aj5 C' xs us
 | [], us, hs, hk, hr => by simpa only [Aj5] using hr
 | x :: xs, us, hs, hk, hr => by
   simp only [Aj5, SV.scps, SV.okMs, Bool.and_eq_true] at hs hk hr ⊢
   obtain ⟨v, r, rfl, h1, h2⟩ := hr
   exact ⟨v, r, rfl, Aj1.mv h x v hs.1 hk.1 h1, Aj5.mv h xs r hs.2 hk.2 h2⟩
end

theorem Iz9 {C C' : Cx} {R : List (Nat × SV)} (hvs : E.evs (η ++ ζ) es = some vs) (hn : η.length = n) (hC : C.η = η ++ ζ) (hC' : C'.η = η ++ vs) (hm : Mv C C' n R)
  (hR : ∀ s s', Ay2 R s = some (.h s') → C'.hv s = C.hv s') (hR2 : ∀ s z, Ay2 R s = some (.nil z) → C'.hv s = .slice none 0 0) {x y : SV} (h : Fk6 es n C'.m R x y = true) {v : Value} (hr : Aj1 C x v) : Aj1 C' y v := by
 unfold Fk6 at h
 split at h
 ·simp only [Aj1]
 ·rename_i y
  split at h
  ·rename_i e he
   obtain ⟨p, hp, hpr⟩ := SV.asE_ok he hr
   simp only [Aj1]
   rw [hC] at hp
   exact ⟨p, by rw [hC']; exact Bq5 hvs hn h hp, hpr.mono hm.M⟩
  ·cases h
 ·rename_i s
  simp only [Aj1]
  split at h
  ·rename_i s' hl
   split at h
   ·simp only [beq_iff_eq] at h; subst h
    simp only [Aj1] at hr
    rw [hR s _ hl]; exact hr
   ·cases h
  ·rename_i z hl
   split at h
   ·simp only [Aj1] at hr
    rw [hR2 s _ hl]; exact hr
   ·cases h
  ·cases h
  ·rename_i hl
   split at h
   ·simp only [beq_iff_eq] at h; subst h
    simp only [Aj1] at hr
    rw [(hm.at_ _ hl).2]; exact hr
   ·cases h
 ·simp only [Bool.and_eq_true] at h
  have := SV.same_eq _ _ h.1.1
  subst this
  exact Aj1.mv hm _ _ h.1.2 h.2 hr

theorem Bq4 {C C' : Cx} {R : List (Nat × SV)} (hvs : E.evs (η ++ ζ) es = some vs) (hn : η.length = n) (hC : C.η = η ++ ζ) (hC' : C'.η = η ++ vs) (hm : Mv C C' n R)
  (hR : ∀ s s', Ay2 R s = some (.h s') → C'.hv s = C.hv s') (hR2 : ∀ s z, Ay2 R s = some (.nil z) → C'.hv s = .slice none 0 0) : ∀ {xs ys : List SV}, Ab4 es n C'.m R xs ys = true → ∀ {us : List Value}, Aj5 C xs us → Aj5 C' ys us
 | [], [], _, us, hr => by simpa only [Aj5] using hr
 | x :: xs, y :: ys, h, us, hr => by
   simp only [Ab4, Bool.and_eq_true] at h
   simp only [Aj5] at hr ⊢
   obtain ⟨v, r, rfl, h1, h2⟩ := hr
   exact ⟨v, r, rfl, Iz9 hvs hn hC hC' hm hR hR2 h.1 h1, Bq4 hvs hn hC hC' hm hR hR2 h.2 h2⟩
 | [], _ :: _, h, _, _ => by simp [Ab4] at h
 | _ :: _, [], h, _, _ => by simp [Ab4] at h
end

theorem Ig1 {m : List (Nat × Blk)} {s : Nat} {b : Blk} (h : mget m s = some b) : (s, b) ∈ m := by
 induction m with
 | nil => simp [mget] at h
 | cons p m ih =>
   obtain ⟨k, b'⟩ := p
   simp only [mget] at h
   split at h
   ·rename_i hk; subst hk; injection h with h; subst h; exact .head _
   ·exact .tail _ (ih h)
theorem Al3 {R : List (Nat × SV)} {s s' : Nat} (h : Ay2 R s = some (.h s')) : s' ∈ gone R := by
 induction R with
 | nil => simp [Ay2] at h
 | cons p R ih =>
   obtain ⟨k, x⟩ := p
   simp only [Ay2] at h
   split at h
   ·injection h with h; subst h; simp [gone]
   ·have := ih h
    cases x <;> simp [gone, this]
theorem Fy6 {R : List (Nat × SV)} (hg : Cc2 (gone R) = true) {s1 s2 s' : Nat} (h1 : Ay2 R s1 = some (.h s')) (h2 : Ay2 R s2 = some (.h s')) : s1 = s2 := by
 induction R with
 | nil => simp [Ay2] at h1
 | cons p R ih =>
   obtain ⟨k, x⟩ := p
   simp only [Ay2] at h1 h2
   have hg' : Cc2 (gone R) = true := by
    cases x <;> simp only [gone, Cc2, Bool.and_eq_true] at hg <;> first | exact hg | exact hg.2
   by_cases hk1 : k = s1
   ·by_cases hk2 : k = s2
    ·rw [← hk1, ← hk2]
    ·rw [if_pos hk1] at h1
     rw [if_neg hk2] at h2
     injection h1 with h1; subst h1
     simp only [gone, Cc2, Bool.and_eq_true, Bool.not_eq_true', List.contains_eq_mem, decide_eq_false_iff_not] at hg
     exact absurd (Al3 h2) hg.1
   ·rw [if_neg hk1] at h1
    by_cases hk2 : k = s2
    ·rw [if_pos hk2] at h2
     injection h2 with h2; subst h2
     simp only [gone, Cc2, Bool.and_eq_true, Bool.not_eq_true', List.contains_eq_mem, decide_eq_false_iff_not] at hg
     exact absurd (Al3 h1) hg.1
    ·rw [if_neg hk2] at h2
     exact ih hg' h1 h2
end Go.X
/- A state that arrives where several ways come together. -/
namespace Go.X
open Go Go.RowKit

section
variable {w0 : Fr} {Oe : Nat → Option Nat} {η ζ vs : List PV} {es : List E} {n : Nat} {σ' σh : St} {tm : Array Value} {w : World} {β : Nat → Nat} {hv : Nat → Value} {O : Nat → Option Nat}

def renβ (R : List (Nat × SV)) (β : Nat → Nat) (s : Nat) : Nat := match Ay2 R s with | some (.h s') => β s' | some _ => 0 | none => β s
def renH (R : List (Nat × SV)) (hv : Nat → Value) (s : Nat) : Value := match Ay2 R s with | some (.h s') => hv s' | some _ => .slice none 0 0 | none => hv s

theorem Jv5 {es : List E} {n s' T' : Nat} {m : List (Nat × Blk)} {R : List (Nat × SV)} {xs ys : List SV} (h : Ab4 es n m R xs ys = true) (hy : ys[0]? = some (.slf s' T')) : xs[0]? = some (.slf s' T') := by
 cases ys with
 | nil => simp at hy
 | cons y ys =>
   simp only [List.getElem?_cons_zero, Option.some.injEq] at hy
   subst hy
   cases xs with
   | nil => simp [Ab4] at h
   | cons x xs =>
     simp only [Ab4, Fk6, Bool.and_eq_true] at h
     rw [SV.same_eq _ _ h.1.1.1]; rfl
theorem Bh1 {m : List (Nat × Blk)} {R : List (Nat × SV)} : ∀ {xs ys : List SV}, Ab4 es n m R xs ys = true → ∀ {j : Nat} {y : SV}, ys[j]? = some y → ∃ x, xs[j]? = some x ∧ Fk6 es n m R x y = true
 | [], [], _, j, y, hy => by simp at hy
 | x :: xs, y :: ys, h, j, z, hz => by
   simp only [Ab4, Bool.and_eq_true] at h
   cases j with
   | zero => simp at hz; subst hz; exact ⟨x, rfl, h.1⟩
   | succ j => simpa using Bh1 h.2 (j := j) (by simpa using hz)
 | [], _ :: _, h, _, _, _ => by simp [Ab4] at h
 | _ :: _, [], h, _, _, _ => by simp [Ab4] at h
theorem Bn2 {k : Nat} : ∀ {R : List (Nat × SV)}, (R.map (·.1)).contains k = false → Ay2 R k = none
 | [], _ => rfl
 | (a, x) :: R, h => by
   simp only [List.map_cons, List.contains_cons, Bool.or_eq_false_iff, beq_eq_false_iff_ne, ne_eq] at h
   simp only [Ay2]
   rw [if_neg (fun e => h.1 e.symm)]
   exact Bn2 h.2
theorem By2 {p : Pat} (h : Bj2 σ' σh n p = some es) (hvs : E.evs (η ++ ζ) es = some vs) (hn : η.length = n) (hr : Rels w0 Oe (η ++ ζ) σ' tm w) : Rels w0 Oe (η ++ vs) σh tm w ∧ (η ++ vs).length = σh.n := by
 unfold Bj2 at h
 split at h
 ·rename_i es' _
  dsimp only at h
  split at h
  ·rename_i hc
   injection h with h
   subst h
   simp only [Bool.and_eq_true, beq_iff_eq, List.all_eq_true, Bool.not_eq_true'] at hc
   obtain ⟨⟨⟨⟨⟨hT, hM⟩, hg⟩, _⟩, hS0⟩, hN⟩ := hc
   generalize rens σ' p.items = R at hT hM hg hS0
   obtain ⟨β, hv, O, rel⟩ := hr
   let C : Cx := ⟨η ++ ζ, view w O, β, hv, σ'.m⟩
   let C' : Cx := ⟨η ++ vs, view w O, renβ R β, renH R hv, σh.m⟩
   have hh : ∀ k, k < n → (η ++ vs)[k]? = (η ++ ζ)[k]? := fun k hk => by rw [List.getElem?_append_left (by omega), List.getElem?_append_left (by omega)]
   have hblk : ∀ s b, mget σh.m s = some b → Cy8 es' n σh.m R σ'.m s = true := fun s b hb => hM (s, b) (Ig1 hb)
   have hmv : Mv C C' n R := by
    refine ⟨fun x hx => E.ev_scp hh x hx, Vw.Le.refl _, fun s hs => ⟨by simp only [C', C, renβ, hs], by simp only [C', C, renH, hs]⟩, fun s e sz x ro xs hs ha hx hx2 => ?_⟩
    have ha' : Ih3 σh.m s = true := ha
    unfold Ih3 at ha'
    split at ha'
    ·rename_i e' sz' y ro' hb
     have hx' : mget σ'.m s = some (.arr e sz x ro) := hx
     have := hblk s _ hb
     unfold Cy8 at this
     rw [hs, hx', hb] at this
     simp only [Bool.and_eq_true, beq_iff_eq] at this
     obtain ⟨_, ⟨⟨h1, h2⟩, h3⟩, h4⟩ := this
     subst h2
     exact ⟨e', y, ro', hb, Bq5 hvs hn h4 hx2⟩
    ·cases ha'
   have hR1 : ∀ s s', Ay2 R s = some (.h s') → C'.hv s = C.hv s' := fun s s' hl => by simp only [C', C, renH, hl]
   have hR2 : ∀ s z, Ay2 R s = some (.nil z) → C'.hv s = .slice none 0 0 := fun s z hl => by simp only [C', renH, hl]
   have from_ : ∀ s b, mget σh.m s = some b → Has C' s b → ∃ s0 b0, mget σ'.m s0 = some b0 ∧ Has C s0 b0 ∧ renβ R β s = β s0 ∧ ((Ay2 R s = some (.h s0)) ∨ (Ay2 R s = none ∧ s0 = s ∧ s ∉ gone R)) := by
    intro s b hb hhas
    have := hblk s b hb
    unfold Cy8 at this
    split at this
    ·rename_i s' hl
     split at this
     ·rename_i e sz x e' sz' y h1 h2
      rw [hb] at h2
      injection h2 with h2
      subst h2
      have hhas' : Ak0 (renH R hv s) = some (renβ R β s) := hhas
      simp only [renH, renβ, hl] at hhas'
      exact ⟨s', _, h1, hhas', by simp only [renβ, hl], .inl hl⟩
     ·cases this
    ·rename_i z hl
     split at this
     ·rename_i e sz y h2
      rw [hb] at h2
      injection h2 with h2
      subst h2
      have hhas' : Ak0 (renH R hv s) = some (renβ R β s) := hhas
      simp only [renH, hl, Ak0] at hhas'
      cases hhas'
     ·cases this
    ·cases this
    ·rename_i hl
     simp only [Bool.and_eq_true, Bool.not_eq_true', List.contains_eq_mem, decide_eq_false_iff_not] at this
     obtain ⟨hgs, this⟩ := this
     split at this
     ·rename_i xs ro ys ro' h1 h2
      exact ⟨s, _, h1, trivial, by simp only [renβ, hl], .inr ⟨hl, rfl, hgs⟩⟩
     ·rename_i e sz x ro e' sz' y ro' h1 h2
      rw [hb] at h2
      injection h2 with h2
      subst h2
      have hhas' : Ak0 (renH R hv s) = some (renβ R β s) := hhas
      simp only [renH, renβ, hl] at hhas'
      exact ⟨s, _, h1, hhas', by simp only [renβ, hl], .inr ⟨hl, rfl, hgs⟩⟩
     ·rename_i x ro y ro' h1 h2
      exact ⟨s, _, h1, trivial, by simp only [renβ, hl], .inr ⟨hl, rfl, hgs⟩⟩
     ·cases this
   have evs_len : vs.length = es'.length := (As6 hvs).1
   refine ⟨⟨renβ R β, renH R hv, O, rel.bel, rel.ext, rel.out, Bq4 hvs hn rfl rfl hmv hR1 hR2 hT rel.tmps, fun s b hb => ?_, fun s1 s2 b1 b2 h1 h2 h12 k1 k2 => ?_, fun v hv0 ht => ?_⟩, by rw [List.length_append, hn, evs_len, hN]⟩
   ·have := hblk s b hb
    unfold Cy8 at this
    have copy : ∀ s' e sz x ro y, mget σ'.m s' = some (.arr e sz x ro) → subE es' n x y = true → renβ R β s = β s' → renH R hv s = hv s' → Ad2 C' w O w0.ok s (.arr e sz y ro) := by
     intro s' e sz x ro y h1 h2 h3 h4
     obtain ⟨q0, xs, us, q1, q2, q3, q4⟩ := rel.mem s' _ h1
     refine ⟨q0, xs, us, Bq5 hvs hn h2 q1, ?_, q3, ?_⟩
     ·show Own w w0.ok e sz (renH R hv s) xs.length us
      rw [h4]; exact q2
     ·intro g hg'
      have hg2 : Ak0 (renH R hv s) = some g := hg'
      rw [h4] at hg2
      obtain ⟨q5, q6⟩ := q4 g hg2
      exact ⟨by show g = renβ R β s; rw [h3]; exact q5, q6⟩
    split at this
    ·rename_i s' hl
     split at this
     ·rename_i e sz x e' sz' y h1 h2
      rw [hb] at h2
      injection h2 with h2
      subst h2
      simp only [Bool.and_eq_true, beq_iff_eq] at this
      obtain ⟨⟨rfl, rfl⟩, h3⟩ := this
      exact copy s' e sz x false y h1 h3 (by simp only [renβ, hl]) (by simp only [renH, hl])
     ·cases this
    ·rename_i z hl
     split at this
     ·rename_i e sz y h2
      rw [hb] at h2
      injection h2 with h2
      subst h2
      simp only [Bool.and_eq_true, decide_eq_true_eq] at this
      refine ⟨this.1, [], [], Bq5 (p := .l sz []) hvs hn this.2 rfl, ?_, fun i x hx => by simp at hx, fun g hg' => ?_⟩
      ·show Own w w0.ok e sz (renH R hv s) 0 []
       simp only [renH, hl]
       exact ⟨by simp, .inl ⟨none, rfl, rfl⟩⟩
      ·have hg2 : Ak0 (renH R hv s) = some g := hg'
       simp only [renH, hl, Ak0] at hg2
       cases hg2
     ·cases this
    ·cases this
    ·rename_i hl
     simp only [Bool.and_eq_true] at this
     obtain ⟨_, this⟩ := this
     split at this
     ·rename_i xs ro ys ro' h1 h2
      rw [hb] at h2
      injection h2 with h2
      subst h2
      simp only [Bool.and_eq_true, beq_iff_eq] at this
      obtain ⟨rfl, h3⟩ := this
      obtain ⟨q1, q2, us, T, q3, q4, q5, q6⟩ := rel.mem s _ h1
      have hβ : renβ R β s = β s := by simp only [renβ, hl]
      refine ⟨by show w0.ok (renβ R β s); rw [hβ]; exact q1, fun hro => by show O (renβ R β s) = _; rw [hβ]; exact q2 hro, us, T, by show w.heap[renβ R β s]? = _; rw [hβ]; exact q3, q4, ?_, fun s' T' hh => q6 s' T' (Jv5 h3 hh)⟩
      exact Bq4 hvs hn rfl rfl hmv hR1 hR2 h3 q5
     ·rename_i e sz x ro e' sz' y ro' h1 h2
      rw [hb] at h2
      injection h2 with h2
      subst h2
      simp only [Bool.and_eq_true, beq_iff_eq] at this
      obtain ⟨⟨⟨rfl, rfl⟩, rfl⟩, h3⟩ := this
      exact copy s e sz x ro y h1 h3 (by simp only [renβ, hl]) (by simp only [renH, hl])
     ·rename_i x ro y ro' h1 h2
      rw [hb] at h2
      injection h2 with h2
      subst h2
      simp only [Bool.and_eq_true, beq_iff_eq] at this
      obtain ⟨rfl, h3⟩ := this
      obtain ⟨q1, q2, qs, ents, clock, q3, q4, q5⟩ := rel.mem s _ h1
      have hβ : renβ R β s = β s := by simp only [renβ, hl]
      exact ⟨by show w0.ok (renβ R β s); rw [hβ]; exact q1, fun hro => by show O (renβ R β s) = _; rw [hβ]; exact q2 hro, qs, ents, clock, Bq5 hvs hn h3 q3, by show w.heap[renβ R β s]? = _; rw [hβ]; exact q4, q5⟩
     ·cases this
   ·obtain ⟨s1', c1, m1, p1, q1, r1⟩ := from_ s1 b1 h1 k1
    obtain ⟨s2', c2, m2, p2, q2, r2⟩ := from_ s2 b2 h2 k2
    rw [q1, q2]
    refine rel.inj s1' s2' c1 c2 m1 m2 (fun he => ?_) p1 p2
    subst he
    rcases r1 with r1 | ⟨_, r1, r1'⟩ <;> rcases r2 with r2 | ⟨_, r2, r2'⟩
    ·exact h12 (Fy6 hg r1 r2)
    ·exact r2' (by rw [← r2]; exact Al3 r1)
    ·exact r1' (by rw [← r1]; exact Al3 r2)
    ·exact h12 (by rw [← r1, ← r2])
   ·obtain ⟨x, hx, hs⟩ := Bh1 hT ht
    have hno : Ay2 R S0 = none := Bn2 hS0
    simp only [Fk6, hno] at hs
    split at hs
    ·rename_i s'
     simp only [beq_iff_eq] at hs
     subst hs
     exact rel.t0 v hv0 hx
    ·cases hs
  ·cases h
 ·cases h
end
end Go.X
/- Code. -/
namespace Go.X
open Go Go.RowKit

theorem Ay4 {fn : Fns} {N id : Nat} : ∀ (t : T) (η : List PV) (vs : List PV), t.yields id = false → t.ev fn N η = some (.yld id vs) → False
 | .w x k, η, vs, h, he => by
   simp only [T.ev, Option.bind_eq_some_iff] at he
   obtain ⟨η', _, he⟩ := he
   exact Ay4 k η' vs h he
 | .ite c t e, η, vs, h, he => by
   simp only [T.yields, Bool.or_eq_false_iff] at h
   simp only [T.ev, Option.bind_eq_some_iff] at he
   obtain ⟨r, _, he⟩ := he
   split at he
   ·exact Ay4 t η vs h.1 he
   ·exact Ay4 e η vs h.2 he
   ·cases he
 | .ret es, η, vs, h, he => by
   simp only [T.ev, Option.map_eq_some_iff] at he
   obtain ⟨_, _, he⟩ := he
   cases he
 | .yld j es, η, vs, h, he => by
   simp only [T.ev, Option.map_eq_some_iff] at he
   obtain ⟨_, _, he⟩ := he
   injection he with h1 h2
   simp only [T.yields, beq_eq_false_iff_ne, ne_eq] at h
   exact h h1
 | .blk j b k, η, vs, h, he => by
   simp only [T.yields, Bool.or_eq_false_iff] at h
   simp only [T.ev, Option.bind_eq_some_iff] at he
   obtain ⟨o, ho, he⟩ := he
   split at he
   ·rename_i j' us
    split at he
    ·exact Ay4 k _ vs h.2 he
    ·injection he with he
     injection he with h1 h2
     subst h1
     exact Ay4 b η us h.1 ho
   ·cases he
 | .loop j es b, η, vs, h, he => by
   simp only [T.ev, Option.bind_eq_some_iff] at he
   obtain ⟨st, _, he⟩ := he
   have key : ∀ m st, Ax7 (fun vs => b.ev fn N (η ++ vs)) j m st = some (.yld id vs) → False := by
    intro m
    induction m with
    | zero => intro st h; simp [Ax7] at h
    | succ m ih =>
      intro st hr
      simp only [Ax7, Option.bind_eq_some_iff] at hr
      obtain ⟨o, ho, hr⟩ := hr
      split at hr
      ·rename_i j' us
       split at hr
       ·exact ih _ hr
       ·injection hr with hr
        injection hr with h1 h2
        subst h1
        exact Ay4 b _ us h ho
      ·cases hr
   exact key N st he

theorem Ef0 {fn : Fns} {N : Nat} {η : List PV} {o : Out} : ∀ {t : T}, t.ev fn N η = some o → t.strip.ev fn N η = some o
 | .w (.chk x) k, h => by
   simp only [T.ev, W.ev, Option.bind_eq_some_iff, Option.map_eq_some_iff] at h
   obtain ⟨η', ⟨_, _, rfl⟩, h⟩ := h
   simp only [T.strip]
   exact Ef0 h
 | .w (.call ..) k, h | .w (.clo ..) k, h | .w (.mcall ..) k, h | .ite .., h | .ret .., h | .yld .., h | .blk .., h | .loop .., h => h
theorem If6 {fn : Fns} {N : Nat} {η : List PV} {o : Out} {ex : E} {ta tb : T} {sz : Nat} (h : Jy6 ex ta tb = true) (hex : ex.ev η = some (.l sz [])) (hb : tb.ev fn N η = some o) : ta.ev fn N η = some o := by
 have hb' := Ef0 hb
 unfold Jy6 at h
 split at h
 ·rename_i sz1 s1 s2 y heq
  simp only [Bool.and_eq_true, beq_iff_eq] at h
  obtain ⟨⟨rfl, rfl⟩, h3⟩ := h
  have := E.same_eq _ _ h3
  subst this
  rw [heq] at hb'
  simp only [T.ev, E.evs, E.ev, hex, Option.bind_some, Aw1] at hb'
  split at hb'
  ·rename_i hc
   obtain ⟨_, rfl, _⟩ := hc
   simpa [T.ev, E.evs, E.ev] using hb'
  ·simp at hb'
 ·cases h
theorem Bh9 {id : Nat} {r : Option T} {t : T} (h : Cc3 id r = some t) : r = some t ∧ t.yields id = false := by
 unfold Cc3 at h
 obtain ⟨u, h1, h2⟩ := Option.bind_eq_some_iff.1 h
 split at h2
 ·cases h2
 ·rename_i hy
  injection h2 with h2
  subst h2
  exact ⟨h1, by simpa using hy⟩

theorem Fg2 {P : Program} {Q : Exit → Act → World → Prop} {a : Act} {w : World} {c : Code} {n : Nat} (I : Nat → Act → World → Prop) (h₀ : I n a w)
  (round : ∀ n a w, I n a w → c.wp P (Exit.then (fun a' w' => ∃ m, m < n ∧ I m a' w') Q) a w) : (Code.loop c).wp P Q a w := by
 intro b k cs
 have key : ∀ n a w, I n a w → ∃ e a' w', Q e a' w' ∧ Arrives P (lone (b.at a (.code c :: .inLoop c :: k)) cs w) b k cs e a' w' := by
  intro n
  induction n using Nat.strongRecOn with
  | _ n ih =>
    intro a w hI
    obtain ⟨e, a₁, w₁, hq, harr⟩ := round n a w hI b (.inLoop c :: k) cs
    cases e with
    | normal =>
      obtain ⟨m, hlt, hI₁⟩ := hq
      obtain ⟨e₂, a₂, w₂, hq₂, harr₂⟩ := ih m hlt a₁ w₁ hI₁
      exact ⟨e₂, a₂, w₂, hq₂, .of_steps (Steps.trans harr (.one step_inLoop)) harr₂⟩
    | exit id => exact ⟨_, a₁, w₁, hq, .pass (x := .inLoop c) rfl (fun _ _ => .inl (by simp)) harr⟩
    | goto l => exact ⟨_, a₁, w₁, hq, .pass (x := .inLoop c) rfl (fun _ _ => .inl (by simp)) harr⟩
    | ret => exact ⟨_, a₁, w₁, hq, .pass (x := .inLoop c) rfl (fun _ _ => .inl (by simp)) harr⟩
    | panic ch => exact ⟨_, a₁, w₁, hq, .pass (x := .inLoop c) rfl (fun _ _ => .inl (by simp)) harr⟩
    | outgrown => exact ⟨_, a₁, w₁, hq, .pass (x := .inLoop c) rfl (fun _ _ => .inl (by simp)) harr⟩
 obtain ⟨e, a', w', hq, harr⟩ := key n a w h₀
 exact ⟨e, a', w', hq, .of_steps (.one step_loop) harr⟩

def SX.exit' : SX → Exit
 | .normal => .normal
 | .exit b => .exit b
 | .ret => .ret

section
variable {P : Program} {sig : Nat → Option Nat} {fn : Fns} {w0 : Fr} {Oe : Nat → Option Nat} {N : Nat}

def KOk (fn : Fns) (N : Nat) (w0 : Fr) (Oe : Nat → Option Nat) (k : K) (η : List PV) (o : Out) (ds : List Deferred) (Q : Exit → Act → World → Prop) : Prop :=
 ∀ x σ' T' η' ζ a' w', k x σ' = some T' → T'.ev fn N η' = some o → η' = η ++ ζ → η'.length = σ'.n → Rels w0 Oe η' σ' a'.tmps w' → a'.defers = ds → Q x.exit' a' w'
theorem KOk.ext {k : K} {η ζ : List PV} {o : Out} {ds : List Deferred} {Q : Exit → Act → World → Prop} (h : KOk fn N w0 Oe k η o ds Q) : KOk fn N w0 Oe k (η ++ ζ) o ds Q :=
 fun x σ' T' η' ζ' a' w' h1 h2 h3 h4 h5 h6 => h x σ' T' η' (ζ ++ ζ') a' w' h1 h2 (by rw [h3, List.append_assoc]) h4 h5 h6

theorem Rels.env {η : List PV} {σ : St} {tm : Array Value} {w : World} (h : Rels w0 Oe η σ tm w) (ζ : List PV) : Rels w0 Oe (η ++ ζ) σ tm w := by
 obtain ⟨β, hv, O, h⟩ := h
 exact ⟨β, hv, O, h.env ζ⟩

theorem Jk0 {p : Pat} {σ σh : St} {k : K} {η : List PV} {o : Out} {ds : List Deferred} {Q : Exit → Act → World → Prop} {d : Nat} {body tk : T} (hev : (T.blk d body tk).ev fn N η = some o) (hn : η.length = σ.n)
  (htk : k .normal σh = some tk) (hk : KOk fn N w0 Oe k η o ds Q) :
  ∃ o1, body.ev fn N η = some o1 ∧ ∀ (x : SX) (σ' : St) (T' : T) (η' ζ : List PV) (a' : Act) (w' : World),
    ((∃ y, (Bj2 σ' σh σ.n p).map (.yld d) = some T' ∧ x = y ∧ y = .normal) ∨ Cc3 d (k x σ') = some T') → T'.ev fn N η' = some o1 → η' = η ++ ζ → η'.length = σ'.n → Rels w0 Oe η' σ' a'.tmps w' → a'.defers = ds → Q x.exit' a' w' := by
 simp only [T.ev, Option.bind_eq_some_iff] at hev
 obtain ⟨o1, ho1, hev⟩ := hev
 refine ⟨o1, ho1, fun x σ' T' η' ζ a' w' h1 h2 h3 h4 h5 h6 => ?_⟩
 rcases h1 with ⟨y, h1, rfl, rfl⟩ | h1
 ·obtain ⟨es, ha, rfl⟩ := Option.map_eq_some_iff.1 h1
  simp only [T.ev, Option.map_eq_some_iff] at h2
  obtain ⟨vs, hvs, rfl⟩ := h2
  simp only [if_true] at hev
  subst h3
  obtain ⟨g1, g2⟩ := By2 ha hvs hn h5
  exact hk .normal σh tk (η ++ vs) vs a' w' htk hev rfl g2 g1 h6
 ·obtain ⟨h1, hy⟩ := Bh9 h1
  have : o1 = o := by
   split at hev
   ·rename_i j vs
    split at hev
    ·rename_i hj; subst hj; exact (Ay4 T' η' vs hy h2).elim
    ·injection hev
   ·injection hev
  subst this
  exact hk x σ' T' η' ζ a' w' h1 h2 h3 h4 h5 h6

theorem Ar7 (hC : Contract P sig fn) {H : Hints} : ∀ (c : Code) (lb d : Nat) (σ : St) (k : K) (t : T) (η : List PV) (o : Out) (a : Act) (w : World) (Q : Exit → Act → World → Prop), sx P sig H c lb d σ k = some t → t.ev fn N η = some o → η.length = σ.n → Rels w0 Oe η σ a.tmps w →
  KOk fn N w0 Oe k η o a.defers Q → c.wp P Q a w
 | .skip, lb, d, σ, k, t, η, o, a, w, Q, hs, he, hn, hr, hk => by
   simp only [sx] at hs
   exact wp_skip (hk .normal σ t η [] a w hs he (by simp) hn hr rfl)
 | .exit id, lb, d, σ, k, t, η, o, a, w, Q, hs, he, hn, hr, hk => by
   simp only [sx] at hs
   exact wp_exit (hk (.exit id) σ t η [] a w hs he (by simp) hn hr rfl)
 | .ret, lb, d, σ, k, t, η, o, a, w, Q, hs, he, hn, hr, hk => by
   simp only [sx] at hs
   exact wp_ret (hk .ret σ t η [] a w hs he (by simp) hn hr rfl)
 | .region id ops draw, lb, d, σ, k, t, η, o, a, w, Q, hs, he, hn, hr, hk => by
   simp only [sx] at hs
   split at hs
   ·rename_i ws σ' hx
    obtain ⟨t', hk', rfl⟩ := Option.map_eq_some_iff.1 hs
    rw [Ed5] at he
    obtain ⟨η2, hw, he⟩ := Option.bind_eq_some_iff.1 he
    obtain ⟨ζ, rfl⟩ := Az3 hw
    cases draw with
    | true =>
      simp only [if_true] at hx
      refine (Ec6 (w0 := w0) (Oe := Oe) hC (hr.env ζ) hx hw (ζ := []) (by simp) hn (Q := Q) (fun a' w' hd hr' => ?_)).1
      have hlen := (Ec6 (w0 := w0) (Oe := Oe) (a := a) (w := w) (Q := fun _ _ _ => True) hC (hr.env ζ) hx hw (ζ := []) (by simp) hn (fun _ _ _ _ => trivial)).2
      exact hk .normal σ' t' _ ζ a' w' hk' he rfl hlen hr' hd
    | false =>
      simp only [Bool.false_eq_true, if_false] at hx
      refine wp_region ?_
      have := Ff0 (w0 := w0) (Oe := Oe) hC (Q := Q) ops.toList 0 σ a w η (η ++ ζ) [] ws σ' (fun k o hk => by simpa using hk) (hr.env ζ) hx hw (by simp) hn (fun a' w' hd hr' => hk .normal σ' t' _ ζ a' w' hk' he rfl (Ec5 _ _ _ _ _ _ _ hx hw hn) hr' hd)
      rw [List.range_eq_range']
      simpa using this
   ·split at hs
    ·injection hs with hs
     subst hs
     simp [T.bot, T.ev, E.evs, E.ev, PV.scal] at he
    ·cases hs
 | .seq x y, lb, d, σ, k, t, η, o, a, w, Q, hs, he, hn, hr, hk => by
   simp only [sx] at hs
   refine wp_seq (Ar7 hC x lb d σ _ t η o a w _ hs he hn hr fun z σ' T' η' ζ a' w' h1 h2 h3 h4 h5 h6 => ?_)
   cases z with
   | normal =>
     simp only at h1
     show y.wp P Q a' w'
     refine Ar7 hC y lb d σ' k T' η' o a' w' Q h1 h2 h4 h5 ?_
     rw [h6, h3]; exact hk.ext
   | exit b => exact hk _ σ' T' η' ζ a' w' h1 h2 h3 h4 h5 h6
   | ret => exact hk _ σ' T' η' ζ a' w' h1 h2 h3 h4 h5 h6
 | .cond c x y, lb, d, σ, k, t, η, o, a, w, Q, hs, he, hn, hr, hk => by
   have hbool : ∀ ec, opdE P σ none 0 c = some ec → ∀ b, ec.ev η = some (.b b) → a.eval c = .bool b := by
    intro ec hec b hb
    obtain ⟨β, hv, O, rel⟩ := hr
    obtain ⟨p, hp, hpr⟩ := Ak7 (ds := a.defers) (C := ⟨η, view w O, β, hv, σ.m⟩) (G := none) (fun g hg => by cases hg) rfl hec rel.tmps
    have hp' : ec.ev η = some p := hp
    rw [hb] at hp'; injection hp' with hp'; subst hp'
    exact hpr.bool
   have plain : ∀ ec ta tb, opdE P σ none 0 c = some ec → ∀ (k' : K) (d' : Nat) (o' : Out), sx P sig H x lb d' σ k' = some ta → sx P sig H y lb d' σ k' = some tb → (T.ite ec ta tb).ev fn N η = some o' → KOk fn N w0 Oe k' η o' a.defers Q → (Code.cond c x y).wp P Q a w := by
    intro ec ta tb hec k' d' o' hta htb he' hk'
    simp only [T.ev, Option.bind_eq_some_iff] at he'
    obtain ⟨r, hr', he'⟩ := he'
    split at he'
    ·exact wp_cond_true (hbool ec hec true hr') (Ar7 hC x lb d' σ k' ta η o' a w Q hta he' hn hr hk')
    ·exact wp_cond_false (hbool ec hec false hr') (Ar7 hC y lb d' σ k' tb η o' a w Q htb he' hn hr hk')
    ·cases he'
   simp only [sx] at hs
   split at hs
   ·rename_i hec
    exact wp_cond_true (hbool _ hec true rfl) (Ar7 hC x lb d σ k t η o a w Q hs he hn hr hk)
   ·rename_i hec
    exact wp_cond_false (hbool _ hec false rfl) (Ar7 hC y lb d σ k t η o a w Q hs he hn hr hk)
   ·rename_i ec _ _ hec
    split at hs
    ·split at hs
     ·rename_i ta tb hta htb
      injection hs with hs
      subst hs
      exact plain ec ta tb hec k d o hta htb he hk
     ·cases hs
    ·rename_i p _
     split at hs
     ·cases hs
     ·rename_i σh _
      split at hs
      ·rename_i ta tb tk hta htb htk
       injection hs with hs
       subst hs
       obtain ⟨o1, ho1, hgo⟩ := Jk0 (p := p) he hn htk hk
       refine plain ec ta tb hec _ (d + 1) o1 hta htb ho1 fun z σ' T' η' ζ a' w' h1 h2 h3 h4 h5 h6 => hgo z σ' T' η' ζ a' w' ?_ h2 h3 h4 h5 h6
       cases z with
       | normal => exact .inl ⟨.normal, h1, rfl, rfl⟩
       | exit b => exact .inr h1
       | ret => exact .inr h1
      ·cases hs
   ·split at hs
    ·rename_i ex hq
     split at hs
     ·rename_i ta tb hta htb
      split at hs
      ·rename_i hnil
       injection hs with hs
       subst hs
       obtain ⟨sz, xs, b, hex, hcb, hxs⟩ : ∃ sz xs b, ex.ev η = some (.l sz xs) ∧ a.eval c = .bool b ∧ (b = true → xs = []) := by
        obtain ⟨β, hv, O, rel⟩ := hr
        have hr0 := Aq3 (ds := a.defers) (C := ⟨η, view w O, β, hv, σ.m⟩) (G := none) (fun g hg => by cases hg) rfl hq rel.tmps
        simpa only [Aj1] using hr0
       cases b with
       | true =>
         rw [hxs rfl] at hex
         exact wp_cond_true hcb (Ar7 hC x lb d σ k ta η o a w Q hta (If6 hnil hex he) hn hr hk)
       | false => exact wp_cond_false hcb (Ar7 hC y lb d σ k _ η o a w Q htb he hn hr hk)
      ·cases hs
     ·cases hs
    ·cases hs
 | .block id c, lb, d, σ, k, t, η, o, a, w, Q, hs, he, hn, hr, hk => by
   simp only [sx] at hs
   split at hs
   ·refine wp_block (Ar7 hC c id d σ _ t η o a w _ hs he hn hr fun z σ' T' η' ζ a' w' h1 h2 h3 h4 h5 h6 => ?_)
    cases z with
    | normal => exact hk .normal σ' T' η' ζ a' w' h1 h2 h3 h4 h5 h6
    | exit b =>
      simp only at h1
      simp only [SX.exit', Exit.inBlock]
      by_cases hb : b = id
      ·rw [if_pos hb] at h1 ⊢
       exact hk .normal σ' T' η' ζ a' w' h1 h2 h3 h4 h5 h6
      ·rw [if_neg hb] at h1 ⊢
       exact hk (.exit b) σ' T' η' ζ a' w' h1 h2 h3 h4 h5 h6
    | ret => exact hk .ret σ' T' η' ζ a' w' h1 h2 h3 h4 h5 h6
   ·rename_i p _
    split at hs
    ·cases hs
    ·rename_i σh _
     split at hs
     ·rename_i tc tk htc htk
      injection hs with hs
      subst hs
      obtain ⟨o1, ho1, hgo⟩ := Jk0 (p := p) he hn htk hk
      refine wp_block (Ar7 hC c id (d + 1) σ _ tc η o1 a w _ htc ho1 hn hr fun z σ' T' η' ζ a' w' h1 h2 h3 h4 h5 h6 => ?_)
      cases z with
      | normal => exact hgo .normal σ' T' η' ζ a' w' (.inl ⟨.normal, h1, rfl, rfl⟩) h2 h3 h4 h5 h6
      | exit b =>
        simp only at h1
        simp only [SX.exit', Exit.inBlock]
        by_cases hb : b = id
        ·rw [if_pos hb] at h1 ⊢
         exact hgo .normal σ' T' η' ζ a' w' (.inl ⟨.normal, h1, rfl, rfl⟩) h2 h3 h4 h5 h6
        ·rw [if_neg hb] at h1 ⊢
         exact hgo (.exit b) σ' T' η' ζ a' w' (.inr h1) h2 h3 h4 h5 h6
      | ret => exact hgo .ret σ' T' η' ζ a' w' (.inr h1) h2 h3 h4 h5 h6
     ·cases hs
 | .loop c, lb, d, σ, k, t, η, o, a, w, Q, hs, he, hn, hr, hk => by
   simp only [sx] at hs
   split at hs
   ·cases hs
   ·rename_i p _
    split at hs
    ·cases hs
    ·rename_i σh _
     split at hs
     ·rename_i es tb ha htb
      injection hs with hs
      subst hs
      simp only [T.ev, Option.bind_eq_some_iff] at he
      obtain ⟨st, hst, he⟩ := he
      have h0 := By2 (η := η) (ζ := []) (vs := st) ha (by simpa using hst) hn (by simpa using hr)
      refine Fg2 (n := N) (fun m a' w' => ∃ st, Ax7 (fun vs => tb.ev fn N (η ++ vs)) d m st = some o ∧ Rels w0 Oe (η ++ st) σh a'.tmps w' ∧ (η ++ st).length = σh.n ∧ a'.defers = a.defers) ⟨st, he, h0.1, h0.2, rfl⟩ ?_
      rintro m a1 w1 ⟨st1, hround, hr1, hn1, hd1⟩
      cases m with
      | zero => simp [Ax7] at hround
      | succ m =>
        simp only [Ax7, Option.bind_eq_some_iff] at hround
        obtain ⟨o1, ho1, hround⟩ := hround
        refine Ar7 hC c lb (d + 1) σh _ tb (η ++ st1) o1 a1 w1 _ htb ho1 hn1 hr1 fun z σ' T' η' ζ a' w' h1 h2 h3 h4 h5 h6 => ?_
        have other : Cc3 d (k z σ') = some T' → Q z.exit' a' w' := by
         intro h1
         obtain ⟨h1, hy⟩ := Bh9 h1
         have : o1 = o := by
          split at hround
          ·rename_i j vs
           split at hround
           ·rename_i hj; subst hj; exact (Ay4 T' η' vs hy h2).elim
           ·injection hround
          ·injection hround
         subst this
         exact hk z σ' T' η' (st1 ++ ζ) a' w' h1 h2 (by rw [h3, List.append_assoc]) h4 h5 (by rw [h6, hd1])
        cases z with
        | normal =>
          simp only at h1
          obtain ⟨es1, ha1, rfl⟩ := Option.map_eq_some_iff.1 h1
          simp only [T.ev, Option.map_eq_some_iff] at h2
          obtain ⟨vs, hvs, rfl⟩ := h2
          simp only [if_true] at hround
          rw [List.append_assoc] at h3
          subst h3
          obtain ⟨g1, g2⟩ := By2 ha1 hvs hn h5
          exact ⟨m, Nat.lt_succ_self m, vs, hround, g1, g2, by rw [h6, hd1]⟩
        | exit b => exact other h1
        | ret => exact other h1
     ·cases hs
 | .scope .., lb, d, σ, k, t, η, o, a, w, Q, hs, _, _, _, _ => by simp [sx] at hs
 | .label .., lb, d, σ, k, t, η, o, a, w, Q, hs, _, _, _, _ => by simp [sx] at hs
 | .goto .., lb, d, σ, k, t, η, o, a, w, Q, hs, _, _, _, _ => by simp [sx] at hs
 | .rangeFunc .., lb, d, σ, k, t, η, o, a, w, Q, hs, _, _, _, _ => by simp [sx] at hs
 | .refuse .., lb, d, σ, k, t, η, o, a, w, Q, hs, _, _, _, _ => by simp [sx] at hs
end
end Go.X
/- Residual programs without the checks that what follows makes by itself. -/
namespace Go.X
open Go

def E.triv : E → Bool
 | .c _ => true
 | _ => false
mutual
def cov (a : E) : E → Bool
 | .v n => E.same a (.v n) || a.triv
 | .c x => E.same a (.c x) || a.triv
 | .bin op x y => E.same a (.bin op x y) || a.triv || cov a x || cov a y
 | .un op x => E.same a (.un op x) || a.triv || cov a x
 | .ite g x y => a.triv || cov a g || (cov a x && cov a y) || E.same a (.ite g x y) ||
    (match a with
     | .ite (.un .not h) p q => (h.same g && cov p y && cov q x) || ((E.un .not h).same g && cov p x && cov q y)
     | .ite h p q => h.same g && cov p x && cov q y
     | _ => false)
 | .proj j x => E.same a (.proj j x) || a.triv || cov a x
 | .sub o n x => E.same a (.sub o n x) || a.triv || cov a x
 | .agg xs => E.same a (.agg xs) || a.triv || covs a xs
 | .fit n x => E.same a (.fit n x) || a.triv || cov a x
 | .scal x => E.same a (.scal x) || a.triv || cov a x
 | .idx sz x i => E.same a (.idx sz x i) || a.triv || cov a x || cov a i
 | .len x => E.same a (.len x) || a.triv || cov a x
 | .slen x => E.same a (.slen x) || a.triv || cov a x
 | .sidx x i => E.same a (.sidx x i) || a.triv || cov a x || cov a i
 | .ssl x lo hi => E.same a (.ssl x lo hi) || a.triv || cov a x || cov a lo || cov a hi
 | .lsl sz x lo hi => E.same a (.lsl sz x lo hi) || a.triv || cov a x || cov a lo || cov a hi
 | .app sz x y => E.same a (.app sz x y) || a.triv || cov a x || cov a y
 | .lit sz xs => E.same a (.lit sz xs) || a.triv || covs a xs
 | .rep sz n z => E.same a (.rep sz n z) || a.triv || cov a n || cov a z
 | .set sz x i off vs => E.same a (.set sz x i off vs) || a.triv || cov a x || cov a i || covs a vs
 | .conv k x => E.same a (.conv k x) || a.triv || cov a x
 | .b2s x => E.same a (.b2s x) || a.triv || cov a x
 | .s2b x => E.same a (.s2b x) || a.triv || cov a x
 | .eqs n g ts x y => E.same a (.eqs n g ts x y) || a.triv || cov a x || cov a y
 | .clo g caps => E.same a (.clo g caps) || a.triv || covs a caps
 | .mn x y => E.same a (.mn x y) || a.triv || cov a x || cov a y
 | .mx x y => E.same a (.mx x y) || a.triv || cov a x || cov a y
 | .mget x k z => E.same a (.mget x k z) || a.triv || cov a x || cov a k || cov a z
 | .mset x k v => E.same a (.mset x k v) || a.triv || cov a x || cov a k || cov a v
 | .der x => E.same a (.der x) || a.triv || cov a x
 | .mkp o x => E.same a (.mkp o x) || a.triv || cov a x
def covs (a : E) : List E → Bool
 | [] => false
 | x :: xs => cov a x || covs a xs
end

theorem Aq0 {a : E} {η : List PV} (h : a.triv = true) : (a.ev η).isSome = true := by
 cases a <;> simp [E.triv] at h
 simp [E.ev]
theorem Ak1 {a b : E} {η : List PV} {p : PV} (h : E.same a b = true) (e : b.ev η = some p) : (a.ev η).isSome = true := by
 rw [E.same_eq _ _ h, e]; rfl
mutual
theorem Ak3 {η : List PV} (a : E) : ∀ (b : E) (p : PV), cov a b = true → b.ev η = some p → (a.ev η).isSome = true
 | .v n, p, h, e => by
   simp only [cov, Bool.or_eq_true] at h
   rcases h with h | h
   ·exact Ak1 h e
   ·exact Aq0 h
 | .c x, p, h, e => by
   simp only [cov, Bool.or_eq_true] at h
   rcases h with h | h
   ·exact Ak1 h e
   ·exact Aq0 h
 | .bin op x y, p, h, e => by
   simp only [cov, Bool.or_eq_true] at h
   rcases h with ((h | h) | h) | h
   ·exact Ak1 h e
   ·exact Aq0 h
   ·simp only [E.ev] at e; obtain ⟨q0, hq0, e0⟩ := Option.bind_eq_some_iff.1 e; exact Ak3 a x _ h hq0
   ·simp only [E.ev] at e; obtain ⟨q0, hq0, e0⟩ := Option.bind_eq_some_iff.1 e; obtain ⟨q1, hq1, e1⟩ := Option.bind_eq_some_iff.1 e0; exact Ak3 a y _ h hq1
 | .un op x, p, h, e => by
   simp only [cov, Bool.or_eq_true] at h
   rcases h with (h | h) | h
   ·exact Ak1 h e
   ·exact Aq0 h
   ·simp only [E.ev] at e; obtain ⟨q0, hq0, e0⟩ := Option.bind_eq_some_iff.1 e; exact Ak3 a x _ h hq0
 | .ite g x y, p, h, e => by
   have e0 := e
   simp only [E.ev] at e
   obtain ⟨r, hg, e1⟩ := Option.bind_eq_some_iff.1 e
   have key : ∀ (h' p' q' : E), (∀ b, g.ev η = some (.b b) → h'.ev η = some (.b b)) → cov p' x = true → cov q' y = true → ((E.ite h' p' q').ev η).isSome = true := by
    intro h' p' q' hh hp hq
    simp only [E.ev]
    split at e1
    ·rw [hh true hg]; simp only [Option.bind_some]; exact Ak3 p' x _ hp e1
    ·rw [hh false hg]; simp only [Option.bind_some]; exact Ak3 q' y _ hq e1
    ·cases e1
   have keyN : ∀ (h' p' q' : E), (∀ b, g.ev η = some (.b b) → h'.ev η = some (.b b)) → cov p' y = true → cov q' x = true → ((E.ite (.un .not h') p' q').ev η).isSome = true := by
    intro h' p' q' hh hp hq
    simp only [E.ev]
    split at e1
    ·rw [hh true hg]; simp only [Option.bind_some, X.un, Bool.not_true]; exact Ak3 q' x _ hq e1
    ·rw [hh false hg]; simp only [Option.bind_some, X.un, Bool.not_false]; exact Ak3 p' y _ hp e1
    ·cases e1
   simp only [cov, Bool.or_eq_true] at h
   rcases h with (((h | h) | h) | h) | h
   ·exact Aq0 h
   ·exact Ak3 a g _ h hg
   ·simp only [Bool.and_eq_true] at h
    split at e1
    ·exact Ak3 a x _ h.1 e1
    ·exact Ak3 a y _ h.2 e1
    ·cases e1
   ·exact Ak1 h e0
   ·split at h
    ·simp only [Bool.or_eq_true, Bool.and_eq_true] at h
     rcases h with h | h
     ·exact keyN _ _ _ (fun b hb => by rw [E.same_eq _ _ h.1.1]; exact hb) h.1.2 h.2
     ·exact key _ _ _ (fun b hb => by rw [E.same_eq _ _ h.1.1]; exact hb) h.1.2 h.2
    ·simp only [Bool.and_eq_true] at h
     exact key _ _ _ (fun b hb => by rw [E.same_eq _ _ h.1.1]; exact hb) h.1.2 h.2
    ·cases h
 | .proj j x, p, h, e => by
   simp only [cov, Bool.or_eq_true] at h
   rcases h with (h | h) | h
   ·exact Ak1 h e
   ·exact Aq0 h
   ·simp only [E.ev] at e; obtain ⟨q0, hq0, e0⟩ := Option.bind_eq_some_iff.1 e; exact Ak3 a x _ h hq0
 | .sub o n x, p, h, e => by
   simp only [cov, Bool.or_eq_true] at h
   rcases h with (h | h) | h
   ·exact Ak1 h e
   ·exact Aq0 h
   ·simp only [E.ev] at e; obtain ⟨q0, hq0, e0⟩ := Option.bind_eq_some_iff.1 e; exact Ak3 a x _ h hq0
 | .agg xs, p, h, e => by
   simp only [cov, Bool.or_eq_true] at h
   rcases h with (h | h) | h
   ·exact Ak1 h e
   ·exact Aq0 h
   ·simp only [E.ev] at e; obtain ⟨q0, hq0, e0⟩ := Option.map_eq_some_iff.1 e; exact Az8 a xs _ h hq0
 | .fit n x, p, h, e => by
   simp only [cov, Bool.or_eq_true] at h
   rcases h with (h | h) | h
   ·exact Ak1 h e
   ·exact Aq0 h
   ·simp only [E.ev] at e; obtain ⟨q0, hq0, e0⟩ := Option.bind_eq_some_iff.1 e; exact Ak3 a x _ h hq0
 | .scal x, p, h, e => by
   simp only [cov, Bool.or_eq_true] at h
   rcases h with (h | h) | h
   ·exact Ak1 h e
   ·exact Aq0 h
   ·simp only [E.ev] at e; obtain ⟨q0, hq0, e0⟩ := Option.bind_eq_some_iff.1 e; exact Ak3 a x _ h hq0
 | .idx sz x i, p, h, e => by
   simp only [cov, Bool.or_eq_true] at h
   rcases h with ((h | h) | h) | h
   ·exact Ak1 h e
   ·exact Aq0 h
   ·simp only [E.ev] at e; obtain ⟨q0, hq0, e0⟩ := Option.bind_eq_some_iff.1 e; exact Ak3 a x _ h hq0
   ·simp only [E.ev] at e; obtain ⟨q0, hq0, e0⟩ := Option.bind_eq_some_iff.1 e; obtain ⟨q1, hq1, e1⟩ := Option.bind_eq_some_iff.1 e0; exact Ak3 a i _ h hq1
 | .len x, p, h, e => by
   simp only [cov, Bool.or_eq_true] at h
   rcases h with (h | h) | h
   ·exact Ak1 h e
   ·exact Aq0 h
   ·simp only [E.ev] at e; obtain ⟨q0, hq0, e0⟩ := Option.bind_eq_some_iff.1 e; exact Ak3 a x _ h hq0
 | .slen x, p, h, e => by
   simp only [cov, Bool.or_eq_true] at h
   rcases h with (h | h) | h
   ·exact Ak1 h e
   ·exact Aq0 h
   ·simp only [E.ev] at e; obtain ⟨q0, hq0, e0⟩ := Option.bind_eq_some_iff.1 e; exact Ak3 a x _ h hq0
 | .sidx x i, p, h, e => by
   simp only [cov, Bool.or_eq_true] at h
   rcases h with ((h | h) | h) | h
   ·exact Ak1 h e
   ·exact Aq0 h
   ·simp only [E.ev] at e; obtain ⟨q0, hq0, e0⟩ := Option.bind_eq_some_iff.1 e; exact Ak3 a x _ h hq0
   ·simp only [E.ev] at e; obtain ⟨q0, hq0, e0⟩ := Option.bind_eq_some_iff.1 e; obtain ⟨q1, hq1, e1⟩ := Option.bind_eq_some_iff.1 e0; exact Ak3 a i _ h hq1
 | .ssl x lo hi, p, h, e => by
   simp only [cov, Bool.or_eq_true] at h
   rcases h with (((h | h) | h) | h) | h
   ·exact Ak1 h e
   ·exact Aq0 h
   ·simp only [E.ev] at e; obtain ⟨q0, hq0, e0⟩ := Option.bind_eq_some_iff.1 e; exact Ak3 a x _ h hq0
   ·simp only [E.ev] at e; obtain ⟨q0, hq0, e0⟩ := Option.bind_eq_some_iff.1 e; obtain ⟨q1, hq1, e1⟩ := Option.bind_eq_some_iff.1 e0; exact Ak3 a lo _ h hq1
   ·simp only [E.ev] at e; obtain ⟨q0, hq0, e0⟩ := Option.bind_eq_some_iff.1 e; obtain ⟨q1, hq1, e1⟩ := Option.bind_eq_some_iff.1 e0; obtain ⟨q2, hq2, e2⟩ := Option.bind_eq_some_iff.1 e1; exact Ak3 a hi _ h hq2
 | .lsl sz x lo hi, p, h, e => by
   simp only [cov, Bool.or_eq_true] at h
   rcases h with (((h | h) | h) | h) | h
   ·exact Ak1 h e
   ·exact Aq0 h
   ·simp only [E.ev] at e; obtain ⟨q0, hq0, e0⟩ := Option.bind_eq_some_iff.1 e; exact Ak3 a x _ h hq0
   ·simp only [E.ev] at e; obtain ⟨q0, hq0, e0⟩ := Option.bind_eq_some_iff.1 e; obtain ⟨q1, hq1, e1⟩ := Option.bind_eq_some_iff.1 e0; exact Ak3 a lo _ h hq1
   ·simp only [E.ev] at e; obtain ⟨q0, hq0, e0⟩ := Option.bind_eq_some_iff.1 e; obtain ⟨q1, hq1, e1⟩ := Option.bind_eq_some_iff.1 e0; obtain ⟨q2, hq2, e2⟩ := Option.bind_eq_some_iff.1 e1; exact Ak3 a hi _ h hq2
 | .app sz x y, p, h, e => by
   simp only [cov, Bool.or_eq_true] at h
   rcases h with ((h | h) | h) | h
   ·exact Ak1 h e
   ·exact Aq0 h
   ·simp only [E.ev] at e; obtain ⟨q0, hq0, e0⟩ := Option.bind_eq_some_iff.1 e; exact Ak3 a x _ h hq0
   ·simp only [E.ev] at e; obtain ⟨q0, hq0, e0⟩ := Option.bind_eq_some_iff.1 e; obtain ⟨q1, hq1, e1⟩ := Option.bind_eq_some_iff.1 e0; exact Ak3 a y _ h hq1
 | .lit sz xs, p, h, e => by
   simp only [cov, Bool.or_eq_true] at h
   rcases h with (h | h) | h
   ·exact Ak1 h e
   ·exact Aq0 h
   ·simp only [E.ev] at e; obtain ⟨q0, hq0, e0⟩ := Option.bind_eq_some_iff.1 e; exact Az8 a xs _ h hq0
 | .rep sz n z, p, h, e => by
   simp only [cov, Bool.or_eq_true] at h
   rcases h with ((h | h) | h) | h
   ·exact Ak1 h e
   ·exact Aq0 h
   ·simp only [E.ev] at e; obtain ⟨q0, hq0, e0⟩ := Option.bind_eq_some_iff.1 e; exact Ak3 a n _ h hq0
   ·simp only [E.ev] at e; obtain ⟨q0, hq0, e0⟩ := Option.bind_eq_some_iff.1 e; obtain ⟨q1, hq1, e1⟩ := Option.bind_eq_some_iff.1 e0; exact Ak3 a z _ h hq1
 | .set sz x i off vs, p, h, e => by
   simp only [cov, Bool.or_eq_true] at h
   rcases h with (((h | h) | h) | h) | h
   ·exact Ak1 h e
   ·exact Aq0 h
   ·simp only [E.ev] at e; obtain ⟨q0, hq0, e0⟩ := Option.bind_eq_some_iff.1 e; exact Ak3 a x _ h hq0
   ·simp only [E.ev] at e; obtain ⟨q0, hq0, e0⟩ := Option.bind_eq_some_iff.1 e; obtain ⟨q1, hq1, e1⟩ := Option.bind_eq_some_iff.1 e0; exact Ak3 a i _ h hq1
   ·simp only [E.ev] at e; obtain ⟨q0, hq0, e0⟩ := Option.bind_eq_some_iff.1 e; obtain ⟨q1, hq1, e1⟩ := Option.bind_eq_some_iff.1 e0; obtain ⟨q2, hq2, e2⟩ := Option.bind_eq_some_iff.1 e1; exact Az8 a vs _ h hq2
 | .conv k x, p, h, e => by
   simp only [cov, Bool.or_eq_true] at h
   rcases h with (h | h) | h
   ·exact Ak1 h e
   ·exact Aq0 h
   ·simp only [E.ev] at e; obtain ⟨q0, hq0, e0⟩ := Option.bind_eq_some_iff.1 e; exact Ak3 a x _ h hq0
 | .b2s x, p, h, e => by
   simp only [cov, Bool.or_eq_true] at h
   rcases h with (h | h) | h
   ·exact Ak1 h e
   ·exact Aq0 h
   ·simp only [E.ev] at e; obtain ⟨q0, hq0, e0⟩ := Option.bind_eq_some_iff.1 e; exact Ak3 a x _ h hq0
 | .s2b x, p, h, e => by
   simp only [cov, Bool.or_eq_true] at h
   rcases h with (h | h) | h
   ·exact Ak1 h e
   ·exact Aq0 h
   ·simp only [E.ev] at e; obtain ⟨q0, hq0, e0⟩ := Option.bind_eq_some_iff.1 e; exact Ak3 a x _ h hq0
 | .eqs n g ts x y, p, h, e => by
   simp only [cov, Bool.or_eq_true] at h
   rcases h with ((h | h) | h) | h
   ·exact Ak1 h e
   ·exact Aq0 h
   ·simp only [E.ev] at e; obtain ⟨q0, hq0, e0⟩ := Option.bind_eq_some_iff.1 e; exact Ak3 a x _ h hq0
   ·simp only [E.ev] at e; obtain ⟨q0, hq0, e0⟩ := Option.bind_eq_some_iff.1 e; obtain ⟨q1, hq1, e1⟩ := Option.bind_eq_some_iff.1 e0; exact Ak3 a y _ h hq1
 | .clo g caps, p, h, e => by
   simp only [cov, Bool.or_eq_true] at h
   rcases h with (h | h) | h
   ·exact Ak1 h e
   ·exact Aq0 h
   ·simp only [E.ev] at e; obtain ⟨q0, hq0, e0⟩ := Option.map_eq_some_iff.1 e; exact Az8 a caps _ h hq0
 | .mn x y, p, h, e => by
   simp only [cov, Bool.or_eq_true] at h
   rcases h with ((h | h) | h) | h
   ·exact Ak1 h e
   ·exact Aq0 h
   ·simp only [E.ev] at e; obtain ⟨q0, hq0, e0⟩ := Option.bind_eq_some_iff.1 e; exact Ak3 a x _ h hq0
   ·simp only [E.ev] at e; obtain ⟨q0, hq0, e0⟩ := Option.bind_eq_some_iff.1 e; obtain ⟨q1, hq1, e1⟩ := Option.bind_eq_some_iff.1 e0; exact Ak3 a y _ h hq1
 | .mx x y, p, h, e => by
   simp only [cov, Bool.or_eq_true] at h
   rcases h with ((h | h) | h) | h
   ·exact Ak1 h e
   ·exact Aq0 h
   ·simp only [E.ev] at e; obtain ⟨q0, hq0, e0⟩ := Option.bind_eq_some_iff.1 e; exact Ak3 a x _ h hq0
   ·simp only [E.ev] at e; obtain ⟨q0, hq0, e0⟩ := Option.bind_eq_some_iff.1 e; obtain ⟨q1, hq1, e1⟩ := Option.bind_eq_some_iff.1 e0; exact Ak3 a y _ h hq1
 | .mget x k z, p, h, e => by
   simp only [cov, Bool.or_eq_true] at h
   rcases h with (((h | h) | h) | h) | h
   ·exact Ak1 h e
   ·exact Aq0 h
   ·simp only [E.ev] at e; obtain ⟨q0, hq0, e0⟩ := Option.bind_eq_some_iff.1 e; exact Ak3 a x _ h hq0
   ·simp only [E.ev] at e; obtain ⟨q0, hq0, e0⟩ := Option.bind_eq_some_iff.1 e; obtain ⟨q1, hq1, e1⟩ := Option.bind_eq_some_iff.1 e0; exact Ak3 a k _ h hq1
   ·simp only [E.ev] at e; obtain ⟨q0, hq0, e0⟩ := Option.bind_eq_some_iff.1 e; obtain ⟨q1, hq1, e1⟩ := Option.bind_eq_some_iff.1 e0; obtain ⟨q2, hq2, e2⟩ := Option.bind_eq_some_iff.1 e1; exact Ak3 a z _ h hq2
 | .mset x k v, p, h, e => by
   simp only [cov, Bool.or_eq_true] at h
   rcases h with (((h | h) | h) | h) | h
   ·exact Ak1 h e
   ·exact Aq0 h
   ·simp only [E.ev] at e; obtain ⟨q0, hq0, e0⟩ := Option.bind_eq_some_iff.1 e; exact Ak3 a x _ h hq0
   ·simp only [E.ev] at e; obtain ⟨q0, hq0, e0⟩ := Option.bind_eq_some_iff.1 e; obtain ⟨q1, hq1, e1⟩ := Option.bind_eq_some_iff.1 e0; exact Ak3 a k _ h hq1
   ·simp only [E.ev] at e; obtain ⟨q0, hq0, e0⟩ := Option.bind_eq_some_iff.1 e; obtain ⟨q1, hq1, e1⟩ := Option.bind_eq_some_iff.1 e0; obtain ⟨q2, hq2, e2⟩ := Option.bind_eq_some_iff.1 e1; exact Ak3 a v _ h hq2
 | .der x, p, h, e | .mkp _ x, p, h, e => by
   simp only [cov, Bool.or_eq_true] at h
   rcases h with (h | h) | h
   ·exact Ak1 h e
   ·exact Aq0 h
   ·simp only [E.ev] at e; obtain ⟨q0, hq0, e0⟩ := Option.bind_eq_some_iff.1 e; exact Ak3 a x _ h hq0
theorem Az8 {η : List PV} (a : E) : ∀ (bs : List E) (ps : List PV), covs a bs = true → E.evs η bs = some ps → (a.ev η).isSome = true
 | [], ps, h, e => by simp [covs] at h
 | b :: bs, ps, h, e => by
   simp only [covs, Bool.or_eq_true] at h
   simp only [E.evs] at e
   obtain ⟨q, hq, e1⟩ := Option.bind_eq_some_iff.1 e
   obtain ⟨qs, hqs, e2⟩ := Option.map_eq_some_iff.1 e1
   rcases h with h | h
   ·exact Ak3 a b _ h hq
   ·exact Az8 a bs _ h hqs
end

def Ay9 (a : E) : T → Bool
 | .w (.chk x) k => cov a x || Ay9 a k
 | .w (.call none _ _ ar _) _ => covs a ar
 | .w (.call (some g) _ _ _ _) _ => cov a g
 | .w (.clo none _ c ar _) _ => cov a c || covs a ar
 | .w (.clo (some g) _ _ _ _) _ => cov a g
 | .w (.mcall _ ar) _ => covs a ar
 | .ite c t e => cov a c || (Ay9 a t && Ay9 a e)
 | .ret es => covs a es
 | .yld _ es => covs a es
 | .blk _ body _ => Ay9 a body
 | .loop _ init _ => covs a init
theorem Ag5 {fn : Fns} {N : Nat} {η : List PV} (a : E) : ∀ (t : T) (o : Out), Ay9 a t = true → t.ev fn N η = some o → (a.ev η).isSome = true
 | .w (.chk x) k, o, h, e => by
   simp only [Ay9, Bool.or_eq_true] at h
   simp only [T.ev, W.ev] at e
   obtain ⟨η', h1, h2⟩ := Option.bind_eq_some_iff.1 e
   obtain ⟨p, hp, rfl⟩ := Option.map_eq_some_iff.1 h1
   rcases h with h | h
   ·exact Ak3 a x _ h hp
   ·exact Ag5 a k _ h h2
 | .w (.call none fl f ar m) k, o, h, e => by
   simp only [Ay9] at h
   simp only [T.ev, W.ev, Aq7] at e
   obtain ⟨η', h1, h2⟩ := Option.bind_eq_some_iff.1 e
   obtain ⟨p, hp, _⟩ := Option.bind_eq_some_iff.1 h1
   exact Az8 a ar _ h hp
 | .w (.call (some g) fl f ar m) k, o, h, e => by
   simp only [Ay9] at h
   simp only [T.ev, W.ev, Aq7] at e
   obtain ⟨η', h1, h2⟩ := Option.bind_eq_some_iff.1 e
   obtain ⟨p, hp, _⟩ := Option.bind_eq_some_iff.1 h1
   exact Ak3 a g _ h hp
 | .w (.clo none fl c ar m) k, o, h, e => by
   simp only [Ay9, Bool.or_eq_true] at h
   simp only [T.ev, W.ev, Aq7] at e
   obtain ⟨η', h1, h2⟩ := Option.bind_eq_some_iff.1 e
   obtain ⟨p, hp, h3⟩ := Option.bind_eq_some_iff.1 h1
   obtain ⟨q, hq, _⟩ := Option.bind_eq_some_iff.1 h3
   rcases h with h | h
   ·exact Ak3 a c _ h hp
   ·exact Az8 a ar _ h hq
 | .w (.clo (some g) fl c ar m) k, o, h, e => by
   simp only [Ay9] at h
   simp only [T.ev, W.ev, Aq7] at e
   obtain ⟨η', h1, h2⟩ := Option.bind_eq_some_iff.1 e
   obtain ⟨p, hp, _⟩ := Option.bind_eq_some_iff.1 h1
   exact Ak3 a g _ h hp
 | .w (.mcall f ar) k, o, h, e => by
   simp only [Ay9] at h
   simp only [T.ev, W.ev] at e
   obtain ⟨η', h1, h2⟩ := Option.bind_eq_some_iff.1 e
   obtain ⟨p, hp, _⟩ := Option.bind_eq_some_iff.1 h1
   exact Az8 a ar _ h hp
 | .ite c t f, o, h, e => by
   simp only [Ay9, Bool.or_eq_true, Bool.and_eq_true] at h
   simp only [T.ev] at e
   obtain ⟨r, h1, h2⟩ := Option.bind_eq_some_iff.1 e
   rcases h with h | h
   ·exact Ak3 a c _ h h1
   ·split at h2
    ·exact Ag5 a t _ h.1 h2
    ·exact Ag5 a f _ h.2 h2
    ·cases h2
 | .ret es, o, h, e => by
   simp only [Ay9] at h
   simp only [T.ev] at e
   obtain ⟨ps, hp, _⟩ := Option.map_eq_some_iff.1 e
   exact Az8 a es _ h hp
 | .yld id es, o, h, e => by
   simp only [Ay9] at h
   simp only [T.ev] at e
   obtain ⟨ps, hp, _⟩ := Option.map_eq_some_iff.1 e
   exact Az8 a es _ h hp
 | .blk id body k, o, h, e => by
   simp only [Ay9] at h
   simp only [T.ev] at e
   obtain ⟨o1, h1, _⟩ := Option.bind_eq_some_iff.1 e
   exact Ag5 a body _ h h1
 | .loop id init body, o, h, e => by
   simp only [Ay9] at h
   simp only [T.ev] at e
   obtain ⟨ps, hp, _⟩ := Option.bind_eq_some_iff.1 e
   exact Az8 a init _ h hp

def T.slim : T → T
 | .w (.chk x) k => if Ay9 x k.slim then k.slim else .w (.chk x) k.slim
 | .w x k => .w x k.slim
 | .ite c t e => .ite c t.slim e.slim
 | .ret es => .ret es
 | .yld id es => .yld id es
 | .blk id body k => .blk id body.slim k.slim
 | .loop id init body => .loop id init body.slim
theorem Ax8 {fn : Fns} {N : Nat} : ∀ (t : T) (η : List PV), t.slim.ev fn N η = t.ev fn N η
 | .w (.chk x) k, η => by
   simp only [T.slim]
   split
   ·rename_i h
    rw [Ax8 k η]
    simp only [T.ev, W.ev]
    cases hx : x.ev η with
    | some p => rfl
    | none =>
      cases hk : k.ev fn N η with
      | none => rfl
      | some o =>
        rw [← Ax8 k η] at hk
        have := Ag5 x k.slim o h hk
        rw [hx] at this; cases this
   ·simp only [T.ev, W.ev]
    cases hx : x.ev η with
    | some p => exact Ax8 k η
    | none => rfl
 | .w (.call g fl f ar m) k, η => by
   simp only [T.slim, T.ev]
   congr 1; funext η'; exact Ax8 k η'
 | .w (.clo g fl c ar m) k, η => by
   simp only [T.slim, T.ev]
   congr 1; funext η'; exact Ax8 k η'
 | .w (.mcall f ar) k, η => by
   simp only [T.slim, T.ev]
   congr 1; funext η'; exact Ax8 k η'
 | .ite c t e, η => by
   simp only [T.slim, T.ev, Ax8 t η, Ax8 e η]
 | .ret es, η => rfl
 | .yld id es, η => rfl
 | .blk id body k, η => by
   simp only [T.slim, T.ev, Ax8 body η]
   congr 1; funext o
   cases o with
   | ret vs => rfl
   | yld j vs => simp only [Ax8 k (η ++ vs)]
 | .loop id init body, η => by
   simp only [T.slim, T.ev]
   congr 1; funext st
   have : (fun vs => body.slim.ev fn N (η ++ vs)) = fun vs => body.ev fn N (η ++ vs) := by funext vs; exact Ax8 body (η ++ vs)
   rw [this]
end Go.X
