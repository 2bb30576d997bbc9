/- One operation with its guard; regions of a fixed order. -/
import Derived.Test.YtfkfaliipkpcdaaGreatDoorLookupRespondsG2
import Derived.Test.YtfkfaliipkpcdaaGreatDoorLookupRespondsG0
import Derived.Lib.Bytealg
set_option maxHeartbeats 1000000
set_option linter.unusedVariables false
set_option linter.unusedSimpArgs false
namespace Go.X
open Go Go.RowKit

theorem Blk.same_eq : ∀ {x y : Blk}, x.same y = true → x = y := by
 intro x y h
 cases x <;> cases y <;> simp only [Blk.same, Bool.and_eq_true, beq_iff_eq, Bool.false_eq_true] at h
 ·rw [h.1, SV.sames_eq _ _ h.2]
 ·rw [h.1.1.1, h.1.1.2, h.1.2, E.same_eq _ _ h.2]
 ·rw [h.1, E.same_eq _ _ h.2]
theorem Fg9 : ∀ {m m' : List (Nat × Blk)}, Dr0 m m' = true → m = m'
 | [], [], _ => rfl
 | [], _ :: _, h => by simp [Dr0] at h
 | _ :: _, [], h => by simp [Dr0] at h
 | (s, b) :: m, (s', b') :: m', h => by
   simp only [Dr0, Bool.and_eq_true, beq_iff_eq] at h
   rw [h.1.1, Blk.same_eq h.1.2, Fg9 h.2]

theorem W.ev_len {fn : Fns} {η η' : List PV} : ∀ {x : W}, x.ev fn η = some η' → η'.length = η.length + x.cnt := by
 have res : ∀ {flat : Bool} {m : Nat} {r : Option (List PV)}, results flat m η r = some η' → η'.length = η.length + m := by
  intro flat m r h
  obtain ⟨rs, _, h2, _, rfl⟩ := Ay5 h
  rw [List.length_append, h2]
 have gd : ∀ {m : Nat} {g : Option E} {r : Option (List PV)}, Av7 η m g r = some η' → (r = some η' → η'.length = η.length + m) → η'.length = η.length + m := by
  intro m g r h hr
  unfold Av7 at h
  split at h
  ·exact hr h
  ·simp only [Option.bind_eq_some_iff] at h
   obtain ⟨v, _, h⟩ := h
   split at h
   ·exact hr h
   ·injection h with h; rw [← h]; simp
   ·cases h
 intro x h
 cases x with
 | chk x =>
   simp only [W.ev, Option.map_eq_some_iff] at h
   obtain ⟨_, _, rfl⟩ := h
   simp [W.cnt]
 | call g flat f ar m =>
   simp only [W.ev] at h
   refine gd h fun h => ?_
   simp only [Option.bind_eq_some_iff] at h
   obtain ⟨vs, _, h⟩ := h
   exact res h
 | clo g flat c ar m =>
   simp only [W.ev] at h
   refine gd h fun h => ?_
   simp only [Option.bind_eq_some_iff] at h
   obtain ⟨q, _, vs, _, h⟩ := h
   split at h
   ·exact res h
   ·cases h
 | mcall f ar =>
   simp only [W.ev, Option.bind_eq_some_iff] at h
   obtain ⟨vs, _, h⟩ := h
   exact res h
theorem Cq4 {fn : Fns} : ∀ {ws : List W} {η η' : List PV}, Ak9 fn η ws = some η' → η'.length = η.length + wsN ws
 | [], η, η', h => by simp only [Ak9, Option.some.injEq] at h; simp [h, wsN]
 | x :: r, η, η', h => by
   simp only [Ak9, Option.bind_eq_some_iff] at h
   obtain ⟨η1, h1, h2⟩ := h
   rw [Cq4 h2, W.ev_len h1]
   simp only [wsN]; omega

theorem Dh2 {η : List PV} : ∀ {g : E} {p : PV}, g.isB = true → g.ev η = some p → ∃ b, p = .b b
 | .bin op x y, p, h, he => by
   simp only [E.ev, Option.bind_eq_some_iff] at he
   obtain ⟨a, _, b, _, he⟩ := he
   cases op <;> simp only [E.isB, Bool.false_eq_true] at h <;> (
    cases a <;> cases b <;> simp only [X.bin, Aw5, Cq9] at he <;> first
     | (cases he; done)
     | (split at he <;> first | (injection he with he; exact ⟨_, he.symm⟩) | (cases he; done))
     | (injection he with he; exact ⟨_, he.symm⟩))
 | .un op x, p, h, he => by
   simp only [E.ev, Option.bind_eq_some_iff] at he
   obtain ⟨a, _, he⟩ := he
   cases op <;> simp only [E.isB, Bool.false_eq_true] at h
   cases a <;> simp only [X.un] at he <;> first
    | (cases he; done)
    | (injection he with he; exact ⟨_, he.symm⟩)
 | .eqs n g ts x y, p, h, he => by
   simp only [E.ev, Option.bind_eq_some_iff] at he
   obtain ⟨a, _, b, _, he⟩ := he
   unfold Am9 at he
   split at he
   ·obtain ⟨r, _, he⟩ := Option.map_eq_some_iff.1 he
    exact ⟨_, he.symm⟩
   ·split at he
    ·obtain ⟨r, _, he⟩ := Option.map_eq_some_iff.1 he
     exact ⟨_, he.symm⟩
    ·cases he
   ·cases he
 | .c (.b b), p, h, he => by
   simp only [E.ev, Option.some.injEq] at he
   exact ⟨b, he.symm⟩
 | .ite g x y, p, h, he => by
   simp only [E.isB, Bool.and_eq_true] at h
   simp only [E.ev, Option.bind_eq_some_iff] at he
   obtain ⟨a, _, he⟩ := he
   split at he
   ·exact Dh2 h.1 he
   ·exact Dh2 h.2 he
   ·cases he
 | .c .u, p, h, _ | .c (.i ..), p, h, _ | .c (.s ..), p, h, _ | .c (.a ..), p, h, _ | .c (.l ..), p, h, _ | .c (.f ..), p, h, _ | .c (.m ..), p, h, _
 | .v .., p, h, _ | .proj .., p, h, _ | .sub .., p, h, _ | .agg .., p, h, _ | .fit .., p, h, _ | .scal .., p, h, _ | .idx .., p, h, _ | .len .., p, h, _ | .slen .., p, h, _ | .sidx .., p, h, _ | .ssl .., p, h, _ | .lsl .., p, h, _ | .app .., p, h, _
 | .lit .., p, h, _ | .rep .., p, h, _ | .set .., p, h, _ | .conv .., p, h, _ | .b2s .., p, h, _ | .s2b .., p, h, _ | .clo .., p, h, _ | .mn .., p, h, _ | .mx .., p, h, _ | .mget .., p, h, _ | .mset .., p, h, _ | .der .., p, h, _ | .mkp .., p, h, _ | .c (.pt ..), p, h, _ => by simp [E.isB] at h

section
variable {P : Program} {sig : Nat → Option Nat} {fn : Fns} {w0 : Fr} {Oe : Nat → Option Nat} {η : List PV} {σ : St} {a : Act} {tm : Array Value} {w : World} {β : Nat → Nat} {hv : Nat → Value} {O : Nat → Option Nat} {G : Option E} {o : Oper} {ws : List W} {ops : Array Oper}

theorem Hm0 {j : Nat} {want : Bool} {g : E} {tm : Array Value} {C : Cx} (hg : Bx3 σ ops j want = some g) (h : Aj6 C σ.t tm.toList) {b : Bool} (hb : g.ev C.η = some (.b b)) : (yielded ops tm j == some want) = b := by
 unfold Bx3 at hg
 split at hg
 ·rename_i g0 hd
  injection hg with hg; subst hg
  obtain ⟨t, ht, hs⟩ := Option.bind_eq_some_iff.1 hd
  obtain ⟨v, hv1, hv2⟩ := h.get t _ hs
  simp only [Aj2] at hv2
  obtain ⟨p, hp, hpr⟩ := hv2
  have hy : ((ops[j]?).bind (·.dst)).bind (tm[·]?) = some v := by rw [ht]; simpa using hv1
  unfold yielded
  rw [hy]
  cases want with
  | true =>
    simp only [if_true] at hb
    rw [hb] at hp; injection hp with hp; subst hp
    have := hpr.bool; subst this
    cases b <;> rfl
  | false =>
    simp only [Bool.false_eq_true, if_false, E.ev, hp, Option.bind_some] at hb
    cases p <;> simp [X.un] at hb
    have := hpr.bool; subst this
    subst hb
    rename_i x
    cases x <;> first | rfl | (cases b <;> rfl)
 ·rename_i g0 gg hd
  injection hg with hg; subst hg
  obtain ⟨t, ht, hs⟩ := Option.bind_eq_some_iff.1 hd
  obtain ⟨v, hv1, hv2⟩ := h.get t _ hs
  simp only [Aj2] at hv2
  obtain ⟨c, hc, h1, h2⟩ := hv2
  have hy : ((ops[j]?).bind (·.dst)).bind (tm[·]?) = some v := by rw [ht]; simpa using hv1
  unfold yielded
  rw [hy]
  cases c with
  | false =>
    have := h2 rfl; subst this
    simp only [E.ev, hc, Option.bind_some, Option.some.injEq, PV.b.injEq] at hb
    subst hb
    cases want <;> rfl
  | true =>
    obtain ⟨p, hp, hpr⟩ := h1 rfl
    simp only [E.ev, hc, Option.bind_some] at hb
    cases want with
    | true =>
      simp only [if_true] at hb
      rw [hb] at hp; injection hp with hp; subst hp
      have := hpr.bool; subst this
      cases b <;> rfl
    | false =>
      simp only [Bool.false_eq_true, if_false, E.ev, hp, Option.bind_some] at hb
      cases p <;> simp [X.un] at hb
      have := hpr.bool; subst this
      subst hb
      rename_i x
      cases x <;> first | rfl | (cases b <;> rfl)
 ·cases hg
theorem Ej0 {j : Nat} {want : Bool} {g : E} {tm : Array Value} {C : Cx} (hg : Bx3 σ ops j want = some g) (h : Aj6 C σ.t tm.toList) (hB : g.isB = true) : ∃ b, g.ev C.η = some (.b b) := by
 have not_ok : ∀ (x : E) p, x.isB = true → x.ev C.η = some p → ∃ b, (E.un .not x).ev C.η = some (.b b) := by
  intro x p hx hp
  obtain ⟨b, rfl⟩ := Dh2 hx hp
  exact ⟨!b, by simp only [E.ev, hp, Option.bind_some, X.un]⟩
 unfold Bx3 at hg
 split at hg
 ·rename_i g0 hd
  injection hg with hg; subst hg
  obtain ⟨t, ht, hs⟩ := Option.bind_eq_some_iff.1 hd
  obtain ⟨v, hv1, hv2⟩ := h.get t _ hs
  simp only [Aj2] at hv2
  obtain ⟨p, hp, hpr⟩ := hv2
  cases want with
  | true =>
    simp only [if_true] at hB ⊢
    obtain ⟨b, rfl⟩ := Dh2 hB hp
    exact ⟨b, hp⟩
  | false =>
    simp only [Bool.false_eq_true, if_false, E.isB] at hB ⊢
    exact not_ok _ p hB hp
 ·rename_i g0 gg hd
  injection hg with hg; subst hg
  obtain ⟨t, ht, hs⟩ := Option.bind_eq_some_iff.1 hd
  obtain ⟨v, hv1, hv2⟩ := h.get t _ hs
  simp only [Aj2] at hv2
  obtain ⟨c, hc, h1, h2⟩ := hv2
  simp only [E.isB, Bool.and_true] at hB
  cases c with
  | false => exact ⟨false, by simp only [E.ev, hc, Option.bind_some]⟩
  | true =>
    obtain ⟨p, hp, hpr⟩ := h1 rfl
    cases want with
    | true =>
      simp only [if_true] at hB ⊢
      obtain ⟨b, rfl⟩ := Dh2 hB hp
      exact ⟨b, by simp only [E.ev, hc, hp, Option.bind_some]⟩
    | false =>
      simp only [Bool.false_eq_true, if_false, E.isB] at hB ⊢
      obtain ⟨b, hb⟩ := not_ok _ p hB hp
      exact ⟨b, by rw [E.ev, hc]; exact hb⟩
 ·cases hg

theorem Bb0 {own : List Nat} {s : Nat} {sv : SV} {ε : Eff} (hx : At2 P sig own ops s o σ = some (ws, sv, ε)) {η1 η2 : List PV} (hw : Ak9 fn η1 ws = some η2) (hn : η1.length = σ.n) : η2.length = ε.n := by
 have := Cq4 hw
 unfold At2 at hx
 split at hx
 ·split at hx
  ·split at hx
   ·rename_i hc
    simp only [Option.some.injEq, Prod.mk.injEq] at hx
    obtain ⟨rfl, rfl, rfl⟩ := hx
    omega
   ·cases hx
  ·cases hx
 ·split at hx
  ·cases hx
  ·split at hx
   ·rename_i g _
    split at hx
    ·rename_i ws' sv' ε' _
     split at hx
     ·rename_i hc
      simp only [Option.some.injEq, Prod.mk.injEq] at hx
      obtain ⟨rfl, rfl, rfl⟩ := hx
      have : wsN ((if g.isB then [] else [.chk (.ite g (.c .u) (.c .u))]) ++ ws') = wsN ws' := by
       split <;> simp [wsN, W.cnt]
      omega
     ·cases hx
    ·cases hx
   ·cases hx

theorem Fg2 (hC : Contract P sig fn) {own : List Nat} {s : Nat} {sv : SV} {ε : Eff} (h : Rel w0 Oe η σ a.tmps w β hv O) (hx : At2 P sig own ops s o σ = some (ws, sv, ε)) {η1 η2 ζ : List PV} (hw : Ak9 fn η1 ws = some η2) (hη : η = η2 ++ ζ) (hn : η1.length = σ.n) :
  (Region.wanted o (yielded ops a.tmps) = true ∧ Step P o a w (Post w0 Oe η σ a.tmps ε sv)) ∨ (Region.wanted o (yielded ops a.tmps) = false ∧ Post w0 Oe η σ a.tmps ε sv undef w) := by
 unfold At2 at hx
 split at hx
 ·rename_i hg
  split at hx
  ·rename_i ws' sv' ε' hx'
   split at hx
   ·simp only [Option.some.injEq, Prod.mk.injEq] at hx
    obtain ⟨rfl, rfl, rfl⟩ := hx
    exact .inl ⟨by simp only [Region.wanted, hg], Kc9 hC h (fun g hg => by cases hg) hx' hw hη hn⟩
   ·cases hx
  ·cases hx
 ·rename_i j want hg
  split at hx
  ·cases hx
  ·split at hx
   ·rename_i g hgE
    split at hx
    ·rename_i ws' sv' ε' hx'
     split at hx
     ·rename_i hc
      obtain ⟨_, hm, hkl⟩ := hc
      simp only [Option.some.injEq, Prod.mk.injEq] at hx
      obtain ⟨rfl, rfl, rfl⟩ := hx
      have hm' := Fg9 hm
      have hkl' : ε'.kl = none := by simpa using hkl
      rw [Aw6] at hw
      obtain ⟨η1', hw1, hw2⟩ := Option.bind_eq_some_iff.1 hw
      have hsame : η1' = η1 := by
       split at hw1
       ·simp only [Ak9, Option.some.injEq] at hw1; exact hw1.symm
       ·simp only [Ak9, W.ev, Option.bind_eq_some_iff, Option.map_eq_some_iff] at hw1
        obtain ⟨_, ⟨_, _, rfl⟩, h2⟩ := hw1
        injection h2 with h2; exact h2.symm
      subst hsame
      obtain ⟨ζ1, hζ1⟩ := Ac3 hw2
      have hgb : ∃ b, g.ev η = some (.b b) := by
       by_cases hB : g.isB = true
       ·exact Ej0 (C := ⟨η, view w O, β, hv, σ.m⟩) hgE h.tmps hB
       ·rw [if_neg hB] at hw1
        simp only [Ak9, W.ev, Option.bind_eq_some_iff, Option.map_eq_some_iff] at hw1
        obtain ⟨_, ⟨q, hq, _⟩, _⟩ := hw1
        simp only [E.ev, Option.bind_eq_some_iff] at hq
        obtain ⟨p, hp, hq⟩ := hq
        split at hq
        ·exact ⟨true, by rw [hη, hζ1, List.append_assoc]; exact E.ev_mono _ _ _ _ hp⟩
        ·exact ⟨false, by rw [hη, hζ1, List.append_assoc]; exact E.ev_mono _ _ _ _ hp⟩
        ·cases hq
      obtain ⟨b, hb⟩ := hgb
      have hwant : Region.wanted o (yielded ops a.tmps) = b := by
       simp only [Region.wanted, hg]
       exact Hm0 (C := ⟨η, view w O, β, hv, σ.m⟩) hgE h.tmps hb
      cases b with
      | true =>
        refine .inl ⟨hwant, (Kc9 hC h (fun g' hg' => by injection hg' with hg'; subst hg'; exact hb) hx' hw2 hη hn).mono fun v w' hp => ?_⟩
        obtain ⟨β', hv', O', r1, r2⟩ := hp
        refine ⟨β', hv', O', r1, ?_⟩
        simp only [Aj2]
        exact ⟨true, hb, (fun _ => r2), fun h => by cases h⟩
      | false =>
        refine .inr ⟨hwant, β, hv, O, ?_, ?_⟩
        ·have : σ.eff ε' = σ.eff ⟨σ.m, ε'.n, none⟩ := by
          unfold St.eff; rw [hm', hkl']
         rw [this]
         exact h.setN _
        ·simp only [Aj2]
         exact ⟨false, hb, (fun h => by cases h), fun _ => trivial⟩
     ·cases hx
    ·cases hx
   ·cases hx

theorem Bt9 (a : Act) (d : Option Tmp) (v : Value) : (a.put d v).defers = a.defers := by cases d <;> rfl

theorem Dw6 {own : List Nat} {s : Nat} {sv : SV} {ε : Eff} (hx : At2 P sig own ops s o σ = some (ws, sv, ε)) : (o.dst == some 0 && isS0 sv) = false := by
 unfold At2 at hx
 split at hx
 ·split at hx
  ·split at hx
   ·rename_i hc
    simp only [Option.some.injEq, Prod.mk.injEq] at hx
    obtain ⟨rfl, rfl, rfl⟩ := hx
    exact hc.2
   ·cases hx
  ·cases hx
 ·split at hx
  ·cases hx
  ·split at hx
   ·split at hx
    ·split at hx
     ·simp only [Option.some.injEq, Prod.mk.injEq] at hx
      obtain ⟨rfl, rfl, rfl⟩ := hx
      simp [isS0]
     ·cases hx
    ·cases hx
   ·cases hx
theorem Post.rels {ε : Eff} {sv : SV} {v : Value} {w' : World} {d : Option Tmp} (h : Post w0 Oe η σ a.tmps ε sv v w') (hd : (d == some 0 && isS0 sv) = false) : Rels w0 Oe η ((σ.eff ε).set d sv) (a.put d v).tmps w' := by
 obtain ⟨β, hv, O, h1, h2⟩ := h
 exact ⟨β, hv, O, h1.setT d (ds := a.defers) h2 hd⟩

theorem Dy9 {Q : Exit → Act → World → Prop} {K : Act → World → Prop} {i : Nat} {R : Value → World → Prop} (hi : ops[i]? = some o)
  (h : (Region.wanted o (yielded ops a.tmps) = true ∧ Step P o a w R) ∨ (Region.wanted o (yielded ops a.tmps) = false ∧ R undef w)) (hK : ∀ v w', R v w' → K (a.put o.dst v) w') : wpOp P ops Q i K a w := by
 unfold wpOp
 simp only [hi]
 rcases h with ⟨h1, h2⟩ | ⟨h1, h2⟩
 ·rw [if_pos h1]
  exact .inl (h2.wp hK)
 ·rw [h1]
  simp only [Bool.false_eq_true, if_false]
  exact hK _ _ h2

theorem Fg0 {own : List Nat} {rid : Nat} : ∀ (l : List Oper) (i : Nat) (σ : St) (η1 η2 : List PV) (ws : List W) (σ' : St), xops P sig own ops rid l i σ = some (ws, σ') → Ak9 fn η1 ws = some η2 → η1.length = σ.n → η2.length = σ'.n
 | [], i, σ, η1, η2, ws, σ', hx, hw, hn => by
   simp only [xops, Option.some.injEq, Prod.mk.injEq] at hx
   obtain ⟨rfl, rfl⟩ := hx
   simp only [Ak9, Option.some.injEq] at hw
   subst hw; exact hn
 | o :: l, i, σ, η1, η2, ws, σ', hx, hw, hn => by
   simp only [xops] at hx
   split at hx
   ·rename_i ws1 sv ε hc
    obtain ⟨⟨ws2, σ2⟩, hrec, he⟩ := Option.map_eq_some_iff.1 hx
    simp only [Prod.mk.injEq] at he
    obtain ⟨rfl, rfl⟩ := he
    rw [Aw6] at hw
    obtain ⟨η3, hw1, hw2⟩ := Option.bind_eq_some_iff.1 hw
    have hset : ((σ.eff ε).set o.dst sv).n = ε.n := by cases o.dst <;> rfl
    exact Fg0 l _ _ _ _ _ _ hrec hw2 (by rw [Bb0 hc hw1 hn, hset])
   ·cases hx

theorem Gm1 (hC : Contract P sig fn) {own : List Nat} {rid : Nat} {Q : Exit → Act → World → Prop} : ∀ (l : List Oper) (i : Nat) (σ : St) (a : Act) (w : World) (η1 η2 ζ : List PV) (ws : List W) (σ' : St), (∀ k o, l[k]? = some o → ops[i + k]? = some o) → Rels w0 Oe η σ a.tmps w →
  xops P sig own ops rid l i σ = some (ws, σ') → Ak9 fn η1 ws = some η2 → η = η2 ++ ζ → η1.length = σ.n → (∀ a' w', a'.defers = a.defers → Rels w0 Oe η σ' a'.tmps w' → Q .normal a' w') →
  wpOps P ops Q (List.range' i l.length) a w
 | [], i, σ, a, w, η1, η2, ζ, ws, σ', _, h, hx, hw, hη, hn, hQ => by
   simp only [xops, Option.some.injEq, Prod.mk.injEq] at hx
   obtain ⟨rfl, rfl⟩ := hx
   simp only [Ak9, Option.some.injEq] at hw
   subst hw
   exact hQ a w rfl h
 | o :: l, i, σ, a, w, η1, η2, ζ, ws, σ', hops, h, hx, hw, hη, hn, hQ => by
   simp only [xops] at hx
   split at hx
   ·rename_i ws1 sv ε hc
    obtain ⟨⟨ws2, σ2⟩, hrec, he⟩ := Option.map_eq_some_iff.1 hx
    simp only [Prod.mk.injEq] at he
    obtain ⟨rfl, rfl⟩ := he
    rw [Aw6] at hw
    obtain ⟨η3, hw1, hw2⟩ := Option.bind_eq_some_iff.1 hw
    obtain ⟨ζ2, hζ2⟩ := Ac3 hw2
    obtain ⟨β, hv, O, hrel⟩ := h
    have hlen := Bb0 hc hw1 hn
    have hstep := Fg2 hC hrel hc hw1 (ζ := ζ2 ++ ζ) (by rw [hη, hζ2, List.append_assoc]) hn
    have hi : ops[i]? = some o := by simpa using hops 0 o rfl
    have hset : ((σ.eff ε).set o.dst sv).n = ε.n := by cases o.dst <;> rfl
    have ih : ∀ v w', Post w0 Oe η σ a.tmps ε sv v w' → wpOps P ops Q (List.range' (i + 1) l.length) (a.put o.dst v) w' := fun v w' hp =>
     Gm1 hC l (i + 1) _ _ _ η3 η2 ζ ws2 σ2 (fun k o' hk => by have := hops (k + 1) o' (by simpa using hk); rwa [show i + (k + 1) = i + 1 + k by omega] at this) (hp.rels (Dw6 hc)) hrec hw2 hη (by rw [hlen, hset]) (fun a' w'' hd hr => hQ a' w'' (by rw [hd, Bt9]) hr)
    rw [List.length_cons, List.range'_succ, wpOps_cons]
    exact Dy9 hi hstep ih
   ·cases hx
end
end Go.X
/- What an operation's reckoning hangs on. -/
namespace Go.X
open Go Go.RowKit

section
variable {P : Program} {sig : Nat → Option Nat} {t t' : List SV} {m : List (Nat × Blk)} {n : Nat} {G : Option E} {o : Oper}

theorem Kn5 {l : List Operand} (h : ∀ x, x ∈ l → ∀ G ty, opd P ⟨t', m, n⟩ G ty x = opd P ⟨t, m, n⟩ G ty x) : ∀ ts : List TypeId, args P ⟨t', m, n⟩ G l ts = args P ⟨t, m, n⟩ G l ts := by
 induction l with
 | nil => intro ts; rfl
 | cons x l ih =>
   intro ts
   simp only [args]
   rw [h x (.head _), ih (fun y hy => h y (.tail _ hy))]
theorem Kf2 {tf : Nat → TypeId} {l : List (Nat × Operand)} (h : ∀ x, x ∈ l.map (·.2) → ∀ G ty, opd P ⟨t', m, n⟩ G ty x = opd P ⟨t, m, n⟩ G ty x) : opds P ⟨t', m, n⟩ G tf l = opds P ⟨t, m, n⟩ G tf l := by
 induction l with
 | nil => rfl
 | cons p l ih =>
   obtain ⟨i, x⟩ := p
   simp only [opds]
   rw [h x (by simp), ih (fun y hy => h y (by simp at hy ⊢; exact .inr hy))]

theorem Jf0 {x : Option Operand} {d : E} (h : ∀ y, x = some y → ∀ G ty, opd P ⟨t', m, n⟩ G ty y = opd P ⟨t, m, n⟩ G ty y) : Ad5 P ⟨t', m, n⟩ G x d = Ad5 P ⟨t, m, n⟩ G x d := by
 cases x with
 | none => rfl
 | some y => simp only [Ad5, opdE]; rw [h y rfl]

theorem Gr0 {ty : TypeId} {x : SV} {lo hi mx : Option Operand} (h1 : ∀ y, lo = some y → ∀ G ty, opd P ⟨t', m, n⟩ G ty y = opd P ⟨t, m, n⟩ G ty y) (h2 : ∀ y, hi = some y → ∀ G ty, opd P ⟨t', m, n⟩ G ty y = opd P ⟨t, m, n⟩ G ty y) (h3 : ∀ y, mx = some y → ∀ G ty, opd P ⟨t', m, n⟩ G ty y = opd P ⟨t, m, n⟩ G ty y) :
  Al9 P ⟨t', m, n⟩ G ty x lo hi mx = Al9 P ⟨t, m, n⟩ G ty x lo hi mx := by
 have e3 : ∀ y, mx = some y → opdE P ⟨t', m, n⟩ G 0 y = opdE P ⟨t, m, n⟩ G 0 y := fun y hy => by simp only [opdE]; rw [h3 y hy]
 unfold Al9
 simp only [Jf0 h1, Jf0 h2]
 cases mx with
 | none => rfl
 | some y => simp only [e3 y rfl]; rfl

theorem Cz3 {ty : TypeId} {k : Nat} {y : E} {lo hi mx : Option Operand} (h2 : ∀ y, hi = some y → ∀ G ty, opd P ⟨t', m, n⟩ G ty y = opd P ⟨t, m, n⟩ G ty y) : Av2 P ⟨t', m, n⟩ G ty k y lo hi mx = Av2 P ⟨t, m, n⟩ G ty k y lo hi mx := by
 cases hi with
 | none => unfold Av2; cases lo <;> cases mx <;> cases Ac5 P ty <;> rfl
 | some z =>
   have e : opdE P ⟨t', m, n⟩ G 0 z = opdE P ⟨t, m, n⟩ G 0 z := by simp only [opdE]; rw [h2 z rfl]
   unfold Av2
   cases lo <;> cases mx <;> cases Ac5 P ty <;> simp only [e] <;> rfl
theorem Lf4 {own : List Nat} {s : Nat} (h : ∀ x, x ∈ o.op.operands → ∀ G ty, opd P ⟨t', m, n⟩ G ty x = opd P ⟨t, m, n⟩ G ty x) : xop P sig own ⟨t', m, n⟩ G s o = xop P sig own ⟨t, m, n⟩ G s o := by
 have hE : ∀ x, x ∈ o.op.operands → ∀ G ty, opdE P ⟨t', m, n⟩ G ty x = opdE P ⟨t, m, n⟩ G ty x := fun x hx G ty => by simp only [opdE]; rw [h x hx]
 obtain ⟨dst, op, type, pos, after, guard⟩ := o
 simp only at h hE
 cases op <;> simp only [Op.operands] at h hE <;> unfold xop <;> simp only
 case move x => rw [h x (by simp)]; rfl
 case assign x => rw [h x (by simp)]; rfl
 case pick c x y => rw [hE c (by simp)]; simp only [hE x (by simp), hE y (by simp)]; try rfl
 case box ty x => rw [h x (by simp)]; try rfl
 case build ty ps => rw [Kf2 (fun x hx => h x (by simpa using hx))]; try rfl
 case buildSlice ty k ps => rw [Kf2 (fun x hx => h x (by simpa using hx))]; try rfl
 case load ty x => rw [h x (by simp)]; rfl
 case store ty x y => rw [h x (by simp), h y (by simp)]; rfl
 case nilCheck x => rw [h x (by simp)]; rfl
 case binOp op xt x y yt => rw [hE x (by simp), hE y (by simp), h x (by simp)]; rfl
 case unOp op ty x => rw [hE x (by simp)]; rfl
 case convert src dst x => rw [hE x (by simp), h x (by simp)]; rfl
 case makeFunc f first captured =>
  cases f <;> simp only
  rw [Kn5 (fun x hx => h x (by simp at hx ⊢; exact .inr hx))]; rfl
 case makeSlice ty x y => rw [hE x (by simp), hE y (by simp)]; try rfl
 case slice ty x lo hi mx =>
  have el : lo.map (opdE P ⟨t', m, n⟩ G 0) = lo.map (opdE P ⟨t, m, n⟩ G 0) := by
   cases lo with
   | none => rfl
   | some y => simp only [Option.map_some]; rw [hE y (by simp)]
  have eh : hi.map (opdE P ⟨t', m, n⟩ G 0) = hi.map (opdE P ⟨t, m, n⟩ G 0) := by
   cases hi with
   | none => rfl
   | some y => simp only [Option.map_some]; rw [hE y (by simp)]
  have e2 : ∀ sv, Al9 P ⟨t', m, n⟩ G ty sv lo hi mx = Al9 P ⟨t, m, n⟩ G ty sv lo hi mx := fun sv => Gr0 (fun y hy => h y (by subst hy; simp)) (fun y hy => h y (by subst hy; simp)) (fun y hy => h y (by subst hy; simp))
  rw [h x (by simp)]
  have e3 : ∀ k y, Av2 P ⟨t', m, n⟩ G ty k y lo hi mx = Av2 P ⟨t, m, n⟩ G ty k y lo hi mx := fun k y => Cz3 (fun y hy => h y (by subst hy; simp))
  simp only [el, eh, e2, e3]
  rfl
 case fieldAddr ty x f => rw [h x (by simp)]; rfl
 case field ty x f => rw [h x (by simp)]; rfl
 case indexAddr ty x i => rw [h x (by simp), hE i (by simp)]; rfl
 case index ty x i => rw [h x (by simp), hE i (by simp)]; rfl
 case extract x i => rw [h x (by simp)]; rfl
 case lookup ty x k ok =>
  cases ok <;> simp only
  rw [h x (by simp), hE k (by simp)]; try rfl
 case mapUpdate ty x k v => rw [h x (by simp), hE k (by simp), hE v (by simp)]; try rfl
 case call c =>
  have hargs : ∀ x, x ∈ c.args.toList → ∀ G ty, opd P ⟨t', m, n⟩ G ty x = opd P ⟨t, m, n⟩ G ty x := fun x hx => h x (by unfold Call.operands; cases c.callee <;> simp at hx ⊢ <;> simp [hx])
  have hargsE : ∀ x, x ∈ c.args.toList → ∀ G ty, opdE P ⟨t', m, n⟩ G ty x = opdE P ⟨t, m, n⟩ G ty x := fun x hx G ty => by simp only [opdE]; rw [hargs x hx]
  have hA := Kn5 (P := P) (G := G) hargs c.argTypes.toList
  split
  ·split
   ·rename_i x hx
    split
    ·rw [hargs x (by rw [hx]; simp)]; rfl
    ·rfl
   ·rfl
  ·split
   ·rename_i x hx
    split
    ·rw [hargs x (by rw [hx]; simp)]; rfl
    ·rfl
   ·rfl
  ·split
   ·rfl
   ·split
    ·rename_i d x _ _ hx _
     rw [hargs d (by rw [hx]; simp), hargs x (by rw [hx]; simp)]; rfl
    ·rfl
  ·split
   ·rename_i x y hx
    rw [hargsE x (by rw [hx]; simp), hargsE y (by rw [hx]; simp)]; rfl
   ·rfl
  ·split
   ·rename_i x y hx
    rw [hargsE x (by rw [hx]; simp), hargsE y (by rw [hx]; simp)]; rfl
   ·rfl
  ·split
   ·rename_i x ty hx _
    rw [hargs x (by rw [hx]; simp)]; rfl
   ·rfl
  ·rw [hA]; rfl
  ·rename_i tm hc
   rw [hA, h (.tmp tm) (by unfold Call.operands; rw [hc]; simp)]; rfl
  ·rfl
 all_goals rfl

theorem Ky0 {ops : Array Oper} {j : Nat} {want : Bool} (h : ∀ d, (ops[j]?).bind (·.dst) = some d → t'[d]? = t[d]?) : Bx3 ⟨t', m, n⟩ ops j want = Bx3 ⟨t, m, n⟩ ops j want := by
 unfold Bx3
 cases hd : (ops[j]?).bind (·.dst) with
 | none => rfl
 | some d => simp only [Option.bind_some]; rw [h d hd]

theorem Kn8 {own : List Nat} {s : Nat} {ops : Array Oper} (h : ∀ d, d ∈ o.looksAt ops → t'[d]? = t[d]?) : At2 P sig own ops s o ⟨t', m, n⟩ = At2 P sig own ops s o ⟨t, m, n⟩ := by
 have hop : ∀ x, x ∈ o.op.operands → ∀ G ty, opd P ⟨t', m, n⟩ G ty x = opd P ⟨t, m, n⟩ G ty x := by
  intro x hx G ty
  cases x with
  | tmp d =>
    simp only [opd]
    rw [h d (List.mem_append_left _ (List.mem_filterMap.2 ⟨.tmp d, by simpa using hx, rfl⟩))]
  | _ => rfl
 unfold At2
 split
 ·rw [Lf4 hop]
 ·rename_i j want hg
  rw [Ky0 (t := t) (fun d hd => h d (List.mem_append_right _ (by rw [hg]; simp [hd])))]
  split
  ·rfl
  ·split
   ·rw [Lf4 hop]
   ·rfl
end
end Go.X
/- Regions of any order: the order does not matter. -/
namespace Go.X
open Go Go.RowKit

structure Vx where
 kl : Option Nat
 v : Option (Nat × SV)
def Bk4 (k : Option Nat) (t : List SV) : List SV := match k with | some s => SV.kills s t | none => t
def Ay2 (v : Vx) (t : List SV) : List SV := match v.v with | some (d, x) => (Bk4 v.kl t).set d x | none => Bk4 v.kl t
def tA (V : Nat → Vx) (L : Nat → Bool) (t0 : List SV) : Nat → List SV
 | 0 => t0
 | k + 1 => if L k then Ay2 (V k) (tA V L t0 k) else tA V L t0 k
def allL : Nat → Bool := fun _ => true

section
variable {V : Nat → Vx} {M : Nat → Option (List (Nat × Blk))} {L L' : Nat → Bool} {t0 : List SV} {m0 : List (Nat × Blk)} {n j : Nat}

theorem Dg6 (s : Nat) : ∀ t : List SV, (SV.kills s t).length = t.length
 | [] => rfl
 | x :: t => by simp [SV.kills, Dg6 s t]
theorem Dg7 (s : Nat) : ∀ (t : List SV) (d : Nat), (SV.kills s t)[d]? = t[d]?.map (SV.kill s)
 | [], d => by simp [SV.kills]
 | x :: t, 0 => by simp [SV.kills]
 | x :: t, d + 1 => by simpa [SV.kills] using Dg7 s t d
theorem Bk3 (k : Option Nat) (t : List SV) : (Bk4 k t).length = t.length := by
 cases k with
 | none => rfl
 | some s => exact Dg6 s t
theorem Dg8 {k : Option Nat} {t u : List SV} {d : Nat} (h : t[d]? = u[d]?) : (Bk4 k t)[d]? = (Bk4 k u)[d]? := by
 cases k with
 | none => exact h
 | some s => simp only [Bk4, Dg7, h]
theorem Gl1 (v : Vx) (t : List SV) : (Ay2 v t).length = t.length := by
 unfold Ay2; split
 ·rw [List.length_set, Bk3]
 ·rw [Bk3]
theorem Dl9 {v : Vx} {d : Nat} (hk : v.kl = none) (h : ∀ x, v.v ≠ some (d, x)) (t : List SV) : (Ay2 v t)[d]? = t[d]? := by
 obtain ⟨k, v⟩ := v
 simp only at hk h
 subst hk
 cases v with
 | none => rfl
 | some p =>
   obtain ⟨e, x⟩ := p
   have : e ≠ d := fun he => h x (by rw [he])
   simp only [Ay2, Bk4]
   rw [List.getElem?_set, if_neg this]
theorem Gl2 (v : Vx) {t u : List SV} {d : Nat} (hl : t.length = u.length) (h : t[d]? = u[d]?) : (Ay2 v t)[d]? = (Ay2 v u)[d]? := by
 unfold Ay2
 split
 ·rename_i e x _
  rw [List.getElem?_set, List.getElem?_set, Bk3, Bk3, hl]
  split
  ·rfl
  ·exact Dg8 h
 ·exact Dg8 h
theorem Fg5 (V : Nat → Vx) (L : Nat → Bool) (t0 : List SV) : ∀ k, (tA V L t0 k).length = t0.length
 | 0 => rfl
 | k + 1 => by
   simp only [tA]
   split
   ·rw [Gl1]; exact Fg5 V L t0 k
   ·exact Fg5 V L t0 k
theorem Kr8 {d : Nat} (hj : j ≤ n) (h : ∀ i x, i < n → (V i).v = some (d, x) → (L i = true ↔ i < j)) (hk : ∀ i, i < n → (V i).kl ≠ none → (L i = true ↔ i < j)) : (tA V L t0 n)[d]? = (tA V allL t0 j)[d]? := by
 have h1 : ∀ k, k ≤ j → (tA V L t0 k)[d]? = (tA V allL t0 k)[d]? := by
  intro k
  induction k with
  | zero => intro _; rfl
  | succ k ih =>
    intro hkj
    have ih := ih (by omega)
    simp only [tA, allL, if_true]
    have hlen : (tA V L t0 k).length = (tA V (fun _ => true) t0 k).length := by rw [Fg5, Fg5]
    by_cases hL : L k = true
    ·rw [if_pos hL]
     exact Gl2 _ hlen ih
    ·rw [if_neg hL]
     have hkl : (V k).kl = none := by
      cases hh : (V k).kl with
      | none => rfl
      | some s => exact absurd ((hk k (by omega) (by rw [hh]; simp)).2 (by omega)) hL
     have hv : ∀ x, (V k).v ≠ some (d, x) := fun x hx => hL ((h k x (by omega) hx).2 (by omega))
     rw [Dl9 hkl hv]
     exact ih
 have h2 : ∀ k, j ≤ k → k ≤ n → (tA V L t0 k)[d]? = (tA V L t0 j)[d]? := by
  intro k
  induction k with
  | zero => intro hk _; have : j = 0 := by omega
            subst this; rfl
  | succ k ih =>
    intro hkj hn
    by_cases he : j = k + 1
    ·subst he; rfl
    ·have ih := ih (by omega) (by omega)
     simp only [tA]
     split
     ·rename_i hl
      have hkl : (V k).kl = none := by
       cases hh : (V k).kl with
       | none => rfl
       | some s => have := (hk k (by omega) (by rw [hh]; simp)).1 hl; omega
      rw [Dl9 hkl (fun x hx => by have := (h k x (by omega) hx).1 hl; omega)]
      exact ih
     ·exact ih
 rw [h2 n hj (Nat.le_refl _), h1 j (Nat.le_refl _)]
theorem Fg6 (h : ∀ i, i < n → L i = L' i) : ∀ k, k ≤ n → tA V L t0 k = tA V L' t0 k := by
 intro k
 induction k with
 | zero => intro _; rfl
 | succ k ih => intro hk; simp only [tA]; rw [ih (by omega), h k (by omega)]
theorem Kr7 (h : ∀ i, i < n → L i = false) : ∀ k, k ≤ n → tA V L t0 k = t0 := by
 intro k
 induction k with
 | zero => intro _; rfl
 | succ k ih => intro hk; simp only [tA]; rw [ih (by omega), h k (by omega)]; rfl
theorem Lm2 (hj : j < n) (hL : L j = false) (hL' : ∀ i, L' i = if i = j then true else L i) (hkk : ∀ i, i < n → j < i → L i = true → (V j).kl = none ∧ (V i).kl = none) (h : ∀ i d x y, i < n → i ≠ j → j < i → L i = true → (V j).v = some (d, x) → (V i).v ≠ some (d, y)) : tA V L' t0 n = Ay2 (V j) (tA V L t0 n) := by
 have h1 : ∀ k, k ≤ j → tA V L' t0 k = tA V L t0 k := by
  intro k
  induction k with
  | zero => intro _; rfl
  | succ k ih =>
    intro hk
    simp only [tA]
    have e : L' k = L k := by rw [hL', if_neg (by omega)]
    rw [e, ih (by omega)]
 have h2 : ∀ k, j < k → k ≤ n → tA V L' t0 k = Ay2 (V j) (tA V L t0 k) := by
  intro k
  induction k with
  | zero => intro hk; omega
  | succ k ih =>
    intro hk hn
    simp only [tA]
    by_cases he : k = j
    ·subst he
     have e : L' k = true := by rw [hL', if_pos rfl]
     rw [e, hL, h1 k (Nat.le_refl _)]
     simp
    ·have e : L' k = L k := by rw [hL', if_neg he]
     rw [e, ih (by omega) (by omega)]
     split
     ·rename_i hl
      obtain ⟨k1, k2⟩ := hkk k (by omega) (by omega) hl
      unfold Ay2
      rw [k1, k2]
      simp only [Bk4]
      cases hvj : (V j).v with
      | none => rfl
      | some p =>
        cases hvk : (V k).v with
        | none => rfl
        | some q =>
          obtain ⟨d, x⟩ := p
          obtain ⟨e, y⟩ := q
          have hne : d ≠ e := fun hde => by
           subst hde
           exact h k d x y (by omega) he (by omega) hl hvj hvk
          simp only []
          rw [List.set_comm _ _ hne]
     ·rfl
 exact h2 n hj (Nat.le_refl _)
end

mutual
theorem SV.kill_comm (s s' : Nat) : ∀ x : SV, (x.kill s').kill s = (x.kill s).kill s'
 | .e _ | .nil _ | .lit _ _ | .und | .ip _ _ | .nilq _ => by simp only [SV.kill]
 | .may g x => by simp only [SV.kill, SV.kill_comm s s' x]
 | .bp k o => by simp only [SV.kill]; split <;> split <;> simp_all [SV.kill]
 | .ap k i o => by simp only [SV.kill]; split <;> split <;> simp_all [SV.kill]
 | .suf k i => by simp only [SV.kill]; split <;> split <;> simp_all [SV.kill]
 | .h k => by simp only [SV.kill]; split <;> split <;> simp_all [SV.kill]
 | .mh k => by simp only [SV.kill]; split <;> split <;> simp_all [SV.kill]
 | .slf k T => by simp only [SV.kill]; split <;> split <;> simp_all [SV.kill]
 | .tup xs => by simp only [SV.kill, SV.kills_comm s s' xs]
 | .ag xs => by simp only [SV.kill, SV.kills_comm s s' xs]
 | .clo g xs => by simp only [SV.kill, SV.kills_comm s s' xs]
theorem SV.kills_comm (s s' : Nat) : ∀ xs : List SV, SV.kills s (SV.kills s' xs) = SV.kills s' (SV.kills s xs)
 | [] => rfl
 | x :: xs => by simp only [SV.kills, SV.kill_comm s s' x, SV.kills_comm s s' xs]
end
theorem Dg5 (s : Nat) : ∀ (t : List SV) (d : Nat) (x : SV), SV.kills s (t.set d x) = (SV.kills s t).set d (x.kill s)
 | [], d, x => by simp [SV.kills]
 | y :: t, 0, x => by simp [SV.kills]
 | y :: t, d + 1, x => by simp [SV.kills, Dg5 s t d x]
theorem Fm2 {V : Nat → Vx} {L : Nat → Bool} {t0 : List SV} {s : Nat} (h0 : SV.kills s t0 = t0) (hv : ∀ k d x, L k = true → (V k).v = some (d, x) → x.kill s = x) : ∀ n, SV.kills s (tA V L t0 n) = tA V L t0 n
 | 0 => h0
 | n + 1 => by
   have ih := Fm2 h0 hv n
   simp only [tA]
   split
   ·rename_i hL
    have hk : SV.kills s (Bk4 (V n).kl (tA V L t0 n)) = Bk4 (V n).kl (tA V L t0 n) := by
     cases (V n).kl with
     | none => exact ih
     | some s' => simp only [Bk4]; rw [SV.kills_comm, ih]
    unfold Ay2
    split
    ·rename_i d x hvx
     rw [Dg5, hk, hv n d x hL hvx]
    ·exact hk
   ·exact ih
def Full (ops : Array Oper) (j : Nat) : Prop := (∀ i, i < j → ((ancL [] ops.toList).getD j 0).testBit i = true) ∧ ∀ i, j < i → i < ops.size → ((ancL [] ops.toList).getD i 0).testBit j = true
theorem Ky2 {ops : Array Oper} {j : Nat} (h : Lv5 (ancL [] ops.toList) ops.size j = true) (hj : j < ops.size) : Full ops j := by
 unfold Lv5 at h
 rw [List.all_eq_true] at h
 refine ⟨fun i hi => ?_, fun i hi hn => ?_⟩
 ·have := h i (List.mem_range.2 (by omega))
  rwa [if_pos hi] at this
 ·have := h i (List.mem_range.2 hn)
  rwa [if_neg (by omega), if_pos hi] at this
theorem Cj2 {acc : List Nat} {i : Nat} : ∀ {ks : List Nat}, (Bd9 acc ks).testBit i = true → ∃ k, k ∈ ks ∧ (i = k ∨ (acc.getD k 0).testBit i = true)
 | [], h => by simp [Bd9] at h
 | k :: ks, h => by
   simp only [Bd9, Nat.testBit_or, Bool.or_eq_true, Nat.testBit_two_pow, decide_eq_true_eq] at h
   rcases h with h | h | h
   ·exact ⟨k, .head _, .inl h.symm⟩
   ·exact ⟨k, .head _, .inr h⟩
   ·obtain ⟨k', h1, h2⟩ := Cj2 h
    exact ⟨k', .tail _ h1, h2⟩
theorem Fs0 : ∀ (l : List Oper) (acc : List Nat), (∀ k, k < acc.length → (ancL acc l)[k]? = acc[k]?) ∧ ∀ (k : Nat) (o : Oper), l[k]? = some o → (ancL acc l)[acc.length + k]? = some (Bd9 ((ancL acc l).take (acc.length + k)) (eOns o))
 | [], acc => ⟨fun k _ => rfl, fun k o h => by simp at h⟩
 | o :: l, acc => by
   obtain ⟨h1, h2⟩ := Fs0 l (acc ++ [Bd9 acc (eOns o)])
   have hpre : ∀ k, k < acc.length → (ancL acc (o :: l))[k]? = acc[k]? := by
    intro k hk
    have := h1 k (by simp; omega)
    rw [List.getElem?_append_left hk] at this
    exact this
   refine ⟨hpre, fun k o' hk => ?_⟩
   cases k with
   | zero =>
     simp only [List.getElem?_cons_zero, Option.some.injEq] at hk
     subst hk
     have := h1 acc.length (by simp)
     rw [List.getElem?_append_right (Nat.le_refl _), Nat.sub_self] at this
     have htake : (ancL acc (o :: l)).take acc.length = acc := by
      apply List.ext_getElem?
      intro i
      rw [List.getElem?_take]
      split
      ·rename_i hi; exact hpre i hi
      ·rw [List.getElem?_eq_none (by omega)]
     rw [Nat.add_zero, htake]
     exact this
   | succ k =>
     have := h2 k o' (by simpa using hk)
     rw [List.length_append, List.length_singleton] at this
     rw [show acc.length + (k + 1) = acc.length + 1 + k by omega]
     exact this
theorem Cv1 {ops : List Oper} {L : Nat → Bool} (hcl : ∀ (j : Nat) (o : Oper), ops[j]? = some o → L j = true → ∀ k, k ∈ eOns o → L k = true) (hlt : ∀ (j : Nat) (o : Oper), ops[j]? = some o → ∀ k, k ∈ eOns o → k < j) :
  ∀ (N j : Nat) (o : Oper), j < N → ops[j]? = some o → (∀ k, k ∈ eOns o → L k = true) → ∀ i, ((ancL [] ops).getD j 0).testBit i = true → L i = true := by
 intro N
 induction N with
 | zero => intro j o hj; omega
 | succ N ih =>
   intro j o hj ho hk i hi
   have hget := (Fs0 ops []).2 j o ho
   simp only [List.length_nil, Nat.zero_add] at hget
   rw [List.getD_eq_getElem?_getD, hget, Option.getD_some] at hi
   obtain ⟨k, hk1, hk2⟩ := Cj2 hi
   have hkj := hlt j o ho k hk1
   rcases hk2 with rfl | hk2
   ·exact hk _ hk1
   ·have : ((ancL [] ops).take j).getD k 0 = (ancL [] ops).getD k 0 := by
     rw [List.getD_eq_getElem?_getD, List.getD_eq_getElem?_getD, List.getElem?_take, if_pos hkj]
    rw [this] at hk2
    have hko : ∃ o', ops[k]? = some o' := ⟨_, List.getElem?_eq_getElem (by have := (List.getElem?_eq_some_iff.1 ho).1; omega)⟩
    obtain ⟨o', ho'⟩ := hko
    exact ih k o' (by omega) ho' (hcl k o' ho' (hk k hk1)) i hk2
end Go.X
/- Regions of any order, on the machine. -/
namespace Go.X
open Go Go.RowKit

theorem Fg8 {x y : Option Blk} (h : Kj5 x y = true) : x = y := by
 cases x <;> cases y <;> simp only [Kj5, Bool.false_eq_true] at h
 ·rfl
 ·rw [Blk.same_eq h]
theorem Hf1 {m : List (Nat × Blk)} {s : Nat} {b : Blk} (h : mget m s = some b) : (s, b) ∈ m := by
 induction m with
 | nil => simp [mget] at h
 | cons p m ih =>
   obtain ⟨k, c⟩ := p
   simp only [mget] at h
   split at h
   ·rename_i e; subst e; injection h with h; subst h; exact .head _
   ·exact .tail _ (ih h)
theorem Kn0 {m m' : List (Nat × Blk)} (h : eqM m m' = true) (s : Nat) : mget m s = mget m' s := by
 simp only [eqM, Bool.and_eq_true, List.all_eq_true] at h
 cases h1 : mget m s with
 | some b => rw [← h1]; exact Fg8 (h.1 (s, b) (Hf1 h1))
 | none =>
   cases h2 : mget m' s with
   | none => rfl
   | some b =>
     have := Fg8 (h.2 (s, b) (Hf1 h2))
     rw [h1, h2] at this; cases this
theorem E.sameOpt_eq {x y : Option E} (h : E.sameOpt x y = true) : x = y := by
 cases x <;> cases y <;> simp only [E.sameOpt, Bool.false_eq_true] at h
 ·rfl
 ·rw [E.same_eq _ _ h]
theorem W.same_eq {x y : W} (h : x.same y = true) : x = y := by
 cases x <;> cases y <;> simp only [W.same, Bool.and_eq_true, beq_iff_eq, Bool.false_eq_true] at h
 ·rw [E.same_eq _ _ h]
 ·obtain ⟨⟨⟨⟨h1, h2⟩, h3⟩, h4⟩, h5⟩ := h
  rw [E.sameOpt_eq h1, h2, h3, E.sames_eq _ _ h4, h5]
 ·obtain ⟨⟨⟨⟨h1, h2⟩, h3⟩, h4⟩, h5⟩ := h
  rw [E.sameOpt_eq h1, h2, E.same_eq _ _ h3, E.sames_eq _ _ h4, h5]
 ·rw [h.1, E.sames_eq _ _ h.2]
theorem Dx6 : ∀ {x y : List W}, Bm5 x y = true → x = y
 | [], [], _ => rfl
 | a :: x, b :: y, h => by
   simp only [Bm5, Bool.and_eq_true] at h
   rw [W.same_eq h.1, Dx6 h.2]
 | [], _ :: _, h => by simp [Bm5] at h
 | _ :: _, [], h => by simp [Bm5] at h
theorem Bg8 (p : Nat → Bool) : ∀ l : List Nat, l.filter p ∈ subs l
 | [] => by simp [subs]
 | x :: l => by
   have ih := Bg8 p l
   simp only [List.filter_cons, subs, List.mem_append, List.mem_map]
   split
   ·exact .inr ⟨_, ih, rfl⟩
   ·exact .inl ih

section
variable {P : Program} {sig : Nat → Option Nat} {fn : Fns} {w0 : Fr} {Oe : Nat → Option Nat} {η : List PV} {ops : Array Oper}

theorem Dh8 (σ : St) (ε : Eff) (d : Option Tmp) (sv : SV) : ((σ.eff ε).set d sv).t = Ay2 ⟨ε.kl, d.map (fun d => (d, sv))⟩ σ.t := by
 cases d <;> cases h : ε.kl <;> simp [St.eff, St.set, Ay2, Bk4, h]
theorem Hn1 (σ : St) (ε : Eff) (d : Option Tmp) (sv : SV) : ((σ.eff ε).set d sv).m = ε.m := by
 cases d <;> rfl
def Ent.vx (e : Ent) : Vx := ⟨if e.tr then none else e.kl, e.o.dst.map fun d => (d, e.sv)⟩
def Vof (ents : List Ent) (k : Nat) : Vx := match ents[k]? with | some e => e.vx | none => ⟨none, none⟩
theorem Dp2 (V : Nat → Vx) (t0 : List SV) : ∀ k, tA V allL t0 (k + 1) = tA (fun j => V (j + 1)) allL (Ay2 (V 0) t0) k
 | 0 => by simp [tA, allL]
 | k + 1 => by
   have ih := Dp2 V t0 k
   rw [tA]
   simp only [allL, if_true]
   rw [show tA V allL t0 (k + 1) = _ from ih]
   simp [tA, allL]

theorem Gp2 {own : List Nat} {rid : Nat} : ∀ (l : List Oper) (i : Nat) (σ : St) (ents : List Ent) (σ' : St) (η1 η2 ζ : List PV), trcD P sig own ops rid l i σ = some (ents, σ') → Ak9 fn η1 (Hm8 ents) = some η2 → η = η2 ++ ζ → η1.length = σ.n →
  ents.length = l.length ∧ η2.length = σ'.n ∧ (∀ k e, ents[k]? = some e → l[k]? = some e.o ∧ e.t = tA (Vof ents) allL σ.t k ∧ ∃ η1 η2 ζ, Ak9 fn η1 e.ws = some η2 ∧ η = η2 ++ ζ ∧ η1.length = e.n) ∧ σ'.t = tA (Vof ents) allL σ.t ents.length
 | [], i, σ, ents, σ', η1, η2, ζ, hx, hw, hη, hn => by
   simp only [trcD, Option.some.injEq, Prod.mk.injEq] at hx
   obtain ⟨rfl, rfl⟩ := hx
   simp only [Hm8, Ak9, Option.some.injEq] at hw
   subst hw
   exact ⟨rfl, hn, fun k e h => by simp at h, rfl⟩
 | o :: l, i, σ, ents, σ', η1, η2, ζ, hx, hw, hη, hn => by
   simp only [trcD] at hx
   split at hx
   ·rename_i ws sv ε hc
    obtain ⟨⟨ents', σ2⟩, hrec, he⟩ := Option.map_eq_some_iff.1 hx
    simp only [Prod.mk.injEq] at he
    have hE0 : ∃ E0 : Ent, ents = E0 :: ents' ∧ E0.o = o ∧ E0.t = σ.t ∧ E0.n = σ.n ∧ E0.ws = ws ∧ E0.sv = sv ∧ E0.kl = ε.kl ∧ (E0.tr = true → ∀ s, ε.kl = some s → SV.kills s σ.t = σ.t) := by
     refine ⟨_, he.1.symm, rfl, rfl, rfl, rfl, rfl, rfl, fun htr s hs => ?_⟩
     simp only [hs] at htr
     exact SV.sames_eq _ _ htr
    obtain ⟨E0, rfl, rfl, k2, k3, rfl, rfl, k6, k7⟩ := hE0
    obtain ⟨_, rfl⟩ := he
    simp only [Hm8] at hw
    rw [Aw6] at hw
    obtain ⟨η3, hw1, hw2⟩ := Option.bind_eq_some_iff.1 hw
    obtain ⟨ζ2, hζ2⟩ := Ac3 hw2
    have hset : ((σ.eff ε).set E0.o.dst E0.sv).n = ε.n := by cases E0.o.dst <;> rfl
    have hlen := Bb0 hc hw1 hn
    obtain ⟨r1, r2, r3, r4⟩ := Gp2 l (i + 1) _ ents' σ2 η3 η2 ζ hrec hw2 hη (by rw [hlen, hset])
    have ht : ((σ.eff ε).set E0.o.dst E0.sv).t = Ay2 (Vof (E0 :: ents') 0) σ.t := by
     rw [Dh8]
     simp only [Vof, List.getElem?_cons_zero, Ent.vx]
     rw [k6]
     cases hk : ε.kl with
     | none => simp
     | some s =>
       cases htr : E0.tr with
       | true => simp only [if_true, Ay2, Bk4, k7 htr s hk]
       | false => simp
    have hV : (fun j => Vof (E0 :: ents') (j + 1)) = Vof ents' := by
     funext j; simp [Vof]
    refine ⟨by simp [r1], r2, fun k e hk => ?_, ?_⟩
    ·cases k with
     | zero =>
       simp only [List.getElem?_cons_zero, Option.some.injEq] at hk
       subst hk
       exact ⟨rfl, k2, η1, η3, ζ2 ++ ζ, hw1, by rw [hη, hζ2, List.append_assoc], by rw [k3]; exact hn⟩
     | succ k =>
       obtain ⟨q1, q2, q3⟩ := r3 k e (by simpa using hk)
       refine ⟨by simpa using q1, ?_, q3⟩
       rw [Dp2, hV, ← ht]; exact q2
    ·rw [List.length_cons, Dp2, hV, ← ht]; exact r4
   ·cases hx
theorem Ac2 {own : List Nat} {rid : Nat} {B B' : Nat → Bool} : ∀ (ents : List Ent) (i : Nat) (m : List (Nat × Blk)), (∀ k, i ≤ k → k < i + ents.length → B k = B' k) → mBgo P sig own ops rid B ents i m = mBgo P sig own ops rid B' ents i m
 | [], _, _, _ => rfl
 | e :: r, i, m, h => by
   simp only [mBgo]
   rw [h i (Nat.le_refl _) (by simp)]
   have hr : ∀ m, mBgo P sig own ops rid B r (i + 1) m = mBgo P sig own ops rid B' r (i + 1) m := fun m => Ac2 r (i + 1) m fun k h1 h2 => h k (by omega) (by simp; omega)
   split
   ·split
    ·exact hr _
    ·rfl
   ·exact hr m

def cnt (L : Nat → Bool) : Nat → Nat
 | 0 => 0
 | k + 1 => cnt L k + if L k then 0 else 1
theorem Hn9 {L L' : Nat → Bool} {j : Nat} (hL : L j = false) (hL' : ∀ i, L' i = if i = j then true else L i) : ∀ k, cnt L k = cnt L' k + if j < k then 1 else 0
 | 0 => by simp [cnt]
 | k + 1 => by
   have ih := Hn9 hL hL' k
   by_cases hk : k = j
   ·subst hk
    have e : L' k = true := by rw [hL', if_pos rfl]
    simp only [cnt, e, hL, if_true, Bool.false_eq_true, if_false]
    rw [if_neg (Nat.lt_irrefl k)] at ih
    rw [if_pos (Nat.lt_succ_self k)]
    omega
   ·have e : L' k = L k := by rw [hL', if_neg hk]
    simp only [cnt, e]
    by_cases hjk : j < k
    ·rw [if_pos hjk] at ih
     rw [if_pos (show j < k + 1 by omega)]
     omega
    ·rw [if_neg hjk] at ih
     rw [if_neg (show ¬ j < k + 1 by omega)]
     omega
theorem Fn7 {L : Nat → Bool} : ∀ k, cnt L k = 0 → ∀ i, i < k → L i = true
 | 0, _, i, hi => by omega
 | k + 1, h, i, hi => by
   simp only [cnt] at h
   by_cases hk : i = k
   ·subst hk
    cases hl : L i with
    | true => rfl
    | false => rw [hl] at h; simp at h
   ·exact Fn7 k (by omega) i (by omega)

theorem Lx8 (hC : Contract P sig fn) {own : List Nat} {rid : Nat} {Q : Exit → Act → World → Prop} {ds : List Deferred} {ents : List Ent} {σ σ' : St}
  (hd : Hn2 ops = true) (hlen : ents.length = ops.size) (hE : ∀ k e, ents[k]? = some e → ops[k]? = some e.o ∧ e.t = tA (Vof ents) allL σ.t k ∧ ∃ η1 η2 ζ, Ak9 fn η1 e.ws = some η2 ∧ η = η2 ++ ζ ∧ η1.length = e.n)
  (hfin : σ'.t = tA (Vof ents) allL σ.t ops.size) (hchk : Ek2 P sig own ops rid ents σ σ' = true) (hQ : ∀ a' w', a'.defers = ds → Rels w0 Oe η ⟨σ'.t, σ'.m, 0⟩ a'.tmps w' → Q .normal a' w') :
  ∀ (fuel : Nat) (listed : Array Bool) (a : Act) (w : World), listed.size = ops.size → cnt (fun i => listed.getD i false) ops.size ≤ fuel →
    (∀ (j : Nat) (o : Oper), ops[j]? = some o → listed.getD j false = true → ∀ k, k ∈ eOns o → listed.getD k false = true) → a.defers = ds →
    (∃ m, mBgo P sig own ops rid (fun k => efOf ents k && listed.getD k false) ents 0 σ.m = some m ∧ Rels w0 Oe η ⟨tA (Vof ents) (fun i => listed.getD i false) σ.t ops.size, m, 0⟩ a.tmps w) → wpAny P .any ops Q fuel listed a w := by
 have hop : ∀ j, j < ops.size → ∃ y, ops[j]? = some y ∧ Fm4 y.op = false ∧ (∀ k, k ∈ eOns y → k < j) ∧ ∀ i, i < j → ((ancL [] ops.toList).getD j 0).testBit i = true ∨ ∃ x, ops[i]? = some x ∧ x.apart ops y = true := by
  intro j hj
  unfold Hn2 at hd
  have h1 := (List.all_eq_true.1 hd) j (by simp [hj])
  split at h1
  ·rename_i y hy
   simp only [Bool.and_eq_true, Bool.not_eq_true', List.all_eq_true, decide_eq_true_eq, List.mem_range, Bool.or_eq_true] at h1
   refine ⟨y, hy, h1.1.1, fun k hk => h1.1.2 k hk, fun i hi => ?_⟩
   rcases h1.2 i hi with h2 | h2
   ·exact .inl h2
   ·right
    split at h2
    ·rename_i x hx; exact ⟨x, hx, h2⟩
    ·cases h2
  ·cases h1
 simp only [Ek2, Bool.and_eq_true, List.all_eq_true, List.mem_range] at hchk
 obtain ⟨hchk1, hchk2⟩ := hchk
 have hlt : ∀ (j : Nat) (o : Oper), ops.toList[j]? = some o → ∀ k, k ∈ eOns o → k < j := by
  intro j o ho k hk
  have ho' : ops[j]? = some o := by simpa using ho
  obtain ⟨y, hy, _, h2, _⟩ := hop j (Array.getElem?_eq_some_iff.1 ho').1
  rw [ho'] at hy; injection hy with hy; subst hy
  exact h2 k hk
 have hend : ∀ (listed : Array Bool) (a : Act) (w : World), (∀ i, i < ops.size → listed.getD i false = true) → a.defers = ds →
   (∃ m, mBgo P sig own ops rid (fun k => efOf ents k && listed.getD k false) ents 0 σ.m = some m ∧ Rels w0 Oe η ⟨tA (Vof ents) (fun i => listed.getD i false) σ.t ops.size, m, 0⟩ a.tmps w) → Q .normal a w := by
  rintro listed a w hl hds ⟨m, hm, β, hv, O, h⟩
  refine hQ a w hds ⟨β, hv, O, ?_⟩
  have c1 := Fg6 (V := Vof ents) (t0 := σ.t) (L := fun i => listed.getD i false) (L' := allL) (n := ops.size) hl
  rw [Ac2 (B' := efOf ents) ents 0 σ.m (fun k _ hk => by rw [hl k (by omega), Bool.and_true])] at hm
  rw [hm] at hchk2
  have := h.eqm (m' := σ'.m) (n := 0) (fun s => Kn0 hchk2 s)
  rw [hfin, ← c1 _ (Nat.le_refl _)]
  exact this
 intro fuel
 induction fuel with
 | zero =>
   intro listed a w hsize hcnt hcl hds h
   have hl := Fn7 ops.size (by omega) (L := fun i => listed.getD i false)
   refine ⟨?_, hend listed a w hl hds h⟩
   refine List.eq_nil_iff_forall_not_mem.2 fun j hj => ?_
   rw [mem_ready] at hj
   obtain ⟨h0, o, ho, _⟩ := hj
   have hj' := (Array.getElem?_eq_some_iff.1 ho).1
   have := hl j hj'
   rw [Array.getD_eq_getD_getElem?, Array.getElem?_eq_getElem (by omega)] at h0 this
   simp only [Option.getD_some] at h0 this
   rw [h0] at this; cases this
 | succ fuel ih =>
   intro listed a w hsize hcnt hcl hds h
   let L : Nat → Bool := fun i => listed.getD i false
   refine ⟨fun hr => ?_, fun j hj => ?_⟩
   ·-- none is ready: all are listed
    refine hend listed a w (fun i hi => ?_) hds h
    have : ∀ N i, i < N → i < ops.size → L i = true := by
     intro N
     induction N with
     | zero => intro i hi; omega
     | succ N ihN =>
       intro i hi1 hi2
       refine Classical.byContradiction fun hne => ?_
       obtain ⟨y, hy, _, hk, _⟩ := hop i hi2
       have hmem : i ∈ Region.ready .any ops listed := by
        rw [mem_ready]
        refine ⟨?_, y, hy, fun e he hb => ?_⟩
        ·have : L i = false := by
          cases hh : L i with
          | false => rfl
          | true => exact absurd hh hne
         have h3 : listed.getD i false = false := this
         rw [Array.getD_eq_getD_getElem?, Array.getElem?_eq_getElem (by omega)] at h3 ⊢
         exact h3
        ·have hin : e.on ∈ eOns y := List.mem_map.2 ⟨e, List.mem_filter.2 ⟨by simpa using he, hb⟩, rfl⟩
         have := hk _ hin
         exact ihN e.on (by omega) (by omega)
       rw [hr] at hmem; simp at hmem
    exact this (i + 1) i (by omega) hi
   ·rw [mem_ready] at hj
    obtain ⟨h0, o, ho, hafter⟩ := hj
    have hj' : j < ops.size := (Array.getElem?_eq_some_iff.1 ho).1
    have hLj : L j = false := by
     show listed.getD j false = false
     rw [Array.getD_eq_getD_getElem?, Array.getElem?_eq_getElem (by omega)] at h0 ⊢
     exact h0
    obtain ⟨y, hy, hsel, hk, hpair⟩ := hop j hj'
    rw [ho] at hy; injection hy with hy; subst hy
    have hready : ∀ k, k ∈ eOns o → L k = true := by
     intro k hk1
     obtain ⟨e, he, rfl⟩ := List.mem_map.1 hk1
     obtain ⟨he1, he2⟩ := List.mem_filter.1 he
     exact hafter e (by simpa using he1) he2
    have hcl' : ∀ (j : Nat) (o : Oper), ops.toList[j]? = some o → L j = true → ∀ k, k ∈ eOns o → L k = true := fun j o ho hl => hcl j o (by simpa using ho) hl
    have hanc : ∀ i, ((ancL [] ops.toList).getD j 0).testBit i = true → L i = true := Cv1 hcl' hlt (j + 1) j o (by omega) (by simpa using ho) hready
    have hup : ∀ k, k < ops.size → L k = true → ∀ i, ((ancL [] ops.toList).getD k 0).testBit i = true → L i = true := by
     intro k hk hLk i hb
     obtain ⟨x, hx, _⟩ := hop k hk
     exact Cv1 hcl' hlt (k + 1) k x (by omega) (by simpa using hx) (fun z hz => hcl k x hx hLk z hz) i hb
    have hbehind : ∀ i, j < i → i < ops.size → L i = true → ∃ x, ops[i]? = some x ∧ o.apart ops x = true := by
     intro i hji hin hLi
     obtain ⟨x, hx, _, hxk, hxp⟩ := hop i hin
     rcases hxp j hji with hb | ⟨o', ho', h1⟩
     ·have := hup i hin hLi j hb
      rw [hLj] at this; cases this
     ·rw [ho] at ho'; injection ho' with ho'; subst ho'
      exact ⟨x, hx, h1⟩
    obtain ⟨e, he⟩ : ∃ e, ents[j]? = some e := ⟨_, List.getElem?_eq_getElem (by omega)⟩
    obtain ⟨heo, het, η1, η2, ζ, hw, hη, hn⟩ := hE j e he
    rw [ho] at heo; injection heo with heo; subst heo
    have hcj := hchk1 j (by omega)
    rw [he] at hcj
    simp only [Bool.and_eq_true, List.all_eq_true] at hcj
    obtain ⟨⟨_, hcY⟩, hcK⟩ := hcj
    have hVj : Vof ents j = e.vx := by simp only [Vof, he]
    have hefj : efOf ents j = e.ef := by simp only [efOf, he]
    have hVi : ∀ i d x, i < ops.size → (Vof ents i).v = some (d, x) → ∃ y, ops[i]? = some y ∧ y.dst = some d := by
     intro i d x hi hv
     obtain ⟨e', he'⟩ : ∃ e, ents[i]? = some e := ⟨_, List.getElem?_eq_getElem (by omega)⟩
     obtain ⟨h1, _⟩ := hE i e' he'
     simp only [Vof, he', Ent.vx] at hv
     obtain ⟨d', hd', hh⟩ := Option.map_eq_some_iff.1 hv
     simp only [Prod.mk.injEq] at hh
     exact ⟨e'.o, h1, by rw [hd', hh.1]⟩
    have hKi : ∀ i, i < ops.size → (Vof ents i).kl ≠ none → Full ops i := by
     intro i hi hv
     obtain ⟨e', he'⟩ : ∃ e, ents[i]? = some e := ⟨_, List.getElem?_eq_getElem (by omega)⟩
     have h1 := hchk1 i (by omega)
     rw [he'] at h1
     simp only [Bool.and_eq_true] at h1
     have h2 := h1.2
     simp only [Vof, he', Ent.vx] at hv
     unfold Hl0 at h2
     have htr : e'.tr = false := by
      cases hh : e'.tr with
      | false => rfl
      | true => rw [hh] at hv; simp at hv
     rw [htr] at h2
     simp only [Bool.not_false, if_true] at h2
     rw [hlen] at h2
     exact Ky2 h2 hi
    have hfull : ∀ i, i < ops.size → i ≠ j → Full ops i → (L i = true ↔ i < j) := by
     intro i hi hne hf
     constructor
     ·intro hLi
      refine Classical.byContradiction fun hge => ?_
      have := hup i hi hLi j (hf.1 j (by omega))
      rw [hLj] at this; cases this
     ·intro hlt2
      exact hanc i (hf.2 j hlt2 hj')
    have hfullj : Full ops j → ∀ i, j < i → i < ops.size → L i = true → False := by
     intro hf i hji hi hLi
     have := hup i hi hLi j (hf.2 i hji hi)
     rw [hLj] at this; cases this
    have hlook : ∀ d, d ∈ e.o.looksAt ops → (tA (Vof ents) L σ.t ops.size)[d]? = e.t[d]? := by
     intro d hd
     rw [het]
     refine Kr8 (by omega) (fun i x hi hv => ?_) (fun i hi hv => ?_)
     ·obtain ⟨y, hy, hyd⟩ := hVi i d x hi hv
      constructor
      ·intro hLi
       refine Classical.byContradiction fun hge => ?_
       have hij : i ≠ j := fun e => by subst e; rw [hLj] at hLi; cases hLi
       obtain ⟨x', hx', hap⟩ := hbehind i (by omega) hi hLi
       rw [hy] at hx'; injection hx' with hx'; subst hx'
       exact (Oper.apart_spec hap).2.2 d hyd hd
      ·intro hlt
       rcases hpair i hlt with hb | ⟨x', hx', hap⟩
       ·exact hanc i hb
       ·rw [hy] at hx'; injection hx' with hx'; subst hx'
        exact absurd hd ((Oper.apart_spec hap).1 d hyd)
     ·by_cases hij : i = j
      ·subst hij
       exact ⟨fun hLi => (by rw [hLj] at hLi; cases hLi), fun h => by omega⟩
      ·exact hfull i hi hij (hKi i hi hv)
    obtain ⟨m, hm, β, hv, O, hrel⟩ := h
    let A := ancL [] ops.toList
    let U := (Kp8 A ents j).filter L
    let B : Nat → Bool := fun k => efOf ents k && ((A.getD j 0).testBit k || U.contains k)
    have hBL : ∀ k, k < ops.size → B k = (efOf ents k && L k) := by
     intro k hk
     show (efOf ents k && ((A.getD j 0).testBit k || U.contains k)) = (efOf ents k && L k)
     cases hef : efOf ents k with
     | false => rfl
     | true =>
       rw [Bool.true_and, Bool.true_and, Bool.eq_iff_iff]
       simp only [Bool.or_eq_true, List.contains_iff_mem]
       constructor
       ·rintro (h1 | h1)
        ·exact hanc k h1
        ·exact (List.mem_filter.1 h1).2
       ·intro hLk
        by_cases h1 : (A.getD j 0).testBit k = true
        ·exact .inl h1
        ·right
         refine List.mem_filter.2 ⟨List.mem_filter.2 ⟨List.mem_range.2 (by omega), ?_⟩, hLk⟩
         have h2 : (A.getD k 0).testBit j = false := by
          cases hh : (A.getD k 0).testBit j with
          | false => rfl
          | true => have := hup k hk hLk j hh; rw [hLj] at this; cases this
         have h3 : k ≠ j := fun e => by subst e; rw [hLj] at hLk; cases hLk
         simp only [Bool.not_eq_true] at h1
         show (efOf ents k && k != j && !(A.getD j 0).testBit k && !(A.getD k 0).testBit j) = true
         rw [hef, h1, h2]
         simp [h3]
    have hclo : Cb4 A ents B = true := by
     unfold Cb4
     rw [List.all_eq_true]
     intro k hk
     have hk' : k < ops.size := by rw [← hlen]; simpa using hk
     cases hb : B k with
     | false => rfl
     | true =>
       rw [Bool.not_true, Bool.false_or, List.all_eq_true]
       intro i hi
       have hi' : i < ops.size := by rw [← hlen]; simpa using hi
       rw [hBL k hk'] at hb
       simp only [Bool.and_eq_true] at hb
       cases hx : efOf ents i && (A.getD k 0).testBit i with
       | false => rfl
       | true =>
         simp only [Bool.and_eq_true] at hx
         rw [Bool.not_true, Bool.false_or, hBL i hi', hx.1, hup k hk' hb.2 i hx.2]; rfl
    have hcU := hcY U (Bg8 L _)
    unfold chkY at hcU
    have hcl2 : Cb4 (ancL [] ops.toList) ents (fun k => efOf ents k && (((ancL [] ops.toList).getD j 0).testBit k || U.contains k)) = true := hclo
    simp only [hcl2, Bool.not_true, Bool.false_eq_true, if_false] at hcU
    have hmB : mBgo P sig own ops rid (fun k => efOf ents k && (((ancL [] ops.toList).getD j 0).testBit k || U.contains k)) ents 0 σ.m = some m := by
     rw [← hm]
     exact Ac2 ents 0 σ.m fun k _ hk => hBL k (by omega)
    rw [hmB] at hcU
    simp only at hcU
    split at hcU
    ·rename_i ws sv ε hcore
     simp only [Bool.and_eq_true, beq_iff_eq] at hcU
     obtain ⟨⟨⟨⟨hws, hsv⟩, hkl⟩, hmm⟩, hek⟩ := hcU
     have hws' := Dx6 hws
     have hsv' := SV.same_eq _ _ hsv
     subst hws'; subst hsv'
     have hcore' : At2 P sig own ops (rid * 4096 + j) e.o ⟨tA (Vof ents) L σ.t ops.size, m, e.n⟩ = some (e.ws, e.sv, ε) := by
      rw [← hcore]
      exact Kn8 hlook
     have hrel' : Rel w0 Oe η ⟨tA (Vof ents) L σ.t ops.size, m, e.n⟩ a.tmps w β hv O := hrel.setN e.n
     refine Dy9 ho (Fg2 hC hrel' hcore' hw hη hn) fun v w' hp => ?_
     obtain ⟨β', hv', O', hr2⟩ := hp.rels (d := e.o.dst) (Dw6 hcore')
     let L' : Nat → Bool := fun i => (listed.setIfInBounds j true).getD i false
     have hL' : ∀ i, L' i = if i = j then true else L i := by
      intro i
      show (listed.setIfInBounds j true).getD i false = _
      split
      ·rename_i he; subst he
       rw [Array.getD_eq_getD_getElem?, Array.getElem?_setIfInBounds_self_of_lt (by omega)]; rfl
      ·rename_i he
       exact getD_set_ne false (Ne.symm he)
     refine ih _ _ _ (by simpa using hsize) ?_ ?_ (by rw [Bt9]; exact hds) ?_
     ·have := Hn9 hLj hL' ops.size
      rw [if_pos hj'] at this
      have e1 : cnt L' ops.size = cnt (fun i => (listed.setIfInBounds j true).getD i false) ops.size := rfl
      have e2 : cnt L ops.size = cnt (fun i => listed.getD i false) ops.size := rfl
      omega
     ·intro i y hy hl k hk
      by_cases hij : i = j
      ·subst hij
       rw [ho] at hy; injection hy with hy; subst hy
       exact getD_set_true (hready k hk)
      ·rw [getD_set_ne false (Ne.symm hij)] at hl
       exact getD_set_true (hcl i y hy hl k hk)
     ·have e1 : tA (Vof ents) L' σ.t ops.size = Ay2 (Vof ents j) (tA (Vof ents) L σ.t ops.size) := Lm2 hj' hLj hL' (fun i hi hji hLi => ⟨by
       cases hh : (Vof ents j).kl with
       | none => rfl
       | some s => exact (hfullj (hKi j hj' (by rw [hh]; simp)) i hji hi hLi).elim, by
       cases hh : (Vof ents i).kl with
       | none => rfl
       | some s => have := (hfull i hi (by omega) (hKi i hi (by rw [hh]; simp))).1 hLi; omega⟩) fun i d x y hi hij hji hLi h1 h2 => by
       obtain ⟨x', hx', hap⟩ := hbehind i hji hi hLi
       obtain ⟨y', hy', hyd⟩ := hVi i d y hi h2
       rw [hx'] at hy'; injection hy' with hy'; subst hy'
       obtain ⟨o', ho', hod⟩ := hVi j d x hj' h1
       rw [ho] at ho'; injection ho' with ho'; subst ho'
       exact (Oper.apart_spec hap).2.1 d hod hyd
      have e4 : tA (Vof ents) L' σ.t ops.size = (((⟨tA (Vof ents) L σ.t ops.size, m, e.n⟩ : St).eff ε).set e.o.dst e.sv).t := by
       rw [e1, hVj, Dh8]
       simp only [Ent.vx]
       rw [hkl]
       cases htr : e.tr with
       | false => simp
       | true =>
         simp only [if_true]
         cases hk2 : e.kl with
         | none => rfl
         | some s =>
           unfold Hl0 at hcK
           rw [htr] at hcK
           simp only [Bool.not_true, Bool.false_eq_true, if_false, hk2, Bool.and_eq_true, List.all_eq_true, List.mem_range, Bool.or_eq_true, beq_iff_eq] at hcK
           obtain ⟨g1, g2⟩ := hcK
           have hkt := Fm2 (V := Vof ents) (L := fun k => L k && decide (k < ops.size)) (s := s) (SV.sames_eq _ _ g1) (fun k d x hLk hvk => by
            simp only [Bool.and_eq_true, decide_eq_true_eq] at hLk
            obtain ⟨hLk, hks⟩ := hLk
            obtain ⟨e', he'⟩ : ∃ e, ents[k]? = some e := ⟨_, List.getElem?_eq_getElem (by omega)⟩
            rcases g2 k (by omega) with (h1 | h1) | h1
            ·subst h1; rw [hLj] at hLk; cases hLk
            ·have := hup k hks hLk j h1; rw [hLj] at this; cases this
            ·rw [he'] at h1
             simp only [Vof, he', Ent.vx] at hvk
             obtain ⟨d', _, hh⟩ := Option.map_eq_some_iff.1 hvk
             simp only [Prod.mk.injEq] at hh
             rw [← hh.2]
             exact SV.same_eq _ _ h1) ops.size
           have hcg := Fg6 (V := Vof ents) (t0 := σ.t) (L := fun k => L k && decide (k < ops.size)) (L' := L) (n := ops.size) (fun i hi => by simp [hi]) ops.size (Nat.le_refl _)
           rw [hcg] at hkt
           simp only [Ay2, Bk4, hkt]
      have hmm' : ∃ m', mBgo P sig own ops rid (fun k => efOf ents k && L' k) ents 0 σ.m = some m' ∧ eqM ε.m m' = true := by
       split at hmm
       ·rename_i m' hm'
        refine ⟨m', ?_, hmm⟩
        cases hef : e.ef with
        | true =>
          rw [hef] at hm'
          simp only [if_true] at hm'
          rw [← hm']
          refine Ac2 ents 0 σ.m fun k _ hk => ?_
          have hk' : k < ops.size := by omega
          show (efOf ents k && L' k) = (B k || k == j)
          rw [hBL k hk', hL']
          by_cases hkj : k = j
          ·subst hkj; simp [hefj, hef]
          ·simp [hkj]
        | false =>
          rw [hef] at hm'
          simp only [Bool.false_eq_true, if_false] at hm'
          rw [← hm', ← hm]
          refine Ac2 ents 0 σ.m fun k _ hk => ?_
          show (efOf ents k && L' k) = (efOf ents k && L k)
          rw [hL']
          by_cases hkj : k = j
          ·subst hkj; simp [hefj, hef]
          ·simp [hkj]
       ·cases hmm
      obtain ⟨m', hm1, hm2⟩ := hmm'
      refine ⟨m', hm1, β', hv', O', ?_⟩
      have := hr2.eqm (m' := m') (n := 0) (fun s => by rw [Hn1]; exact Kn0 hm2 s)
      rw [← e4] at this
      exact this
    ·cases hcU

theorem Fg1 (hC : Contract P sig fn) {own : List Nat} {rid : Nat} {Q : Exit → Act → World → Prop} {σ σ' : St} {a : Act} {w : World} {η1 η2 ζ : List PV} {ws : List W} (h : Rels w0 Oe η σ a.tmps w)
  (hx : Kn7 P sig own ops rid σ = some (ws, σ')) (hw : Ak9 fn η1 ws = some η2) (hη : η = η2 ++ ζ) (hn : η1.length = σ.n) (hQ : ∀ a' w', a'.defers = a.defers → Rels w0 Oe η σ' a'.tmps w' → Q .normal a' w') :
  (Code.region rid ops true).wp P Q a w ∧ η2.length = σ'.n := by
 unfold Kn7 at hx
 split at hx
 ·rename_i hc
  simp only [Bool.and_eq_true] at hc
  split at hx
  ·rename_i σ1 _
   simp only at hx
   split at hx
   ·rename_i ents σ2 htr
    split at hx
    ·rename_i hchk
     simp only [Option.some.injEq, Prod.mk.injEq] at hx
     obtain ⟨rfl, rfl⟩ := hx
     obtain ⟨h1, h2, h3, h4⟩ := Gp2 (fn := fn) (η := η) (ops := ops) ops.toList 0 _ ents σ2 η1 η2 ζ htr hw hη hn
     have hl : ents.length = ops.size := by rw [h1]; simp
     refine ⟨wp_region_any hc.2 ?_, h2⟩
     obtain ⟨β, hv, O, hrel⟩ := h
     obtain ⟨O', hfrz, _⟩ := hrel.frz (Bc9 σ1.m) (n := σ.n)
     have hrel2 := hfrz.below (w' := w.drew) ((Blw.refl _ _).drew)
     rw [hl] at h4
     refine Lx8 (w0 := w0) (Oe := Oe) (η := η) hC (ds := a.defers) hc.1 hl (fun k e he => ?_) h4 hchk (fun a' w' hd hr => hQ a' w' hd ?_) ops.size (Array.replicate ops.size false) a _ (by simp) ?_ ?_ rfl ?_
     ·obtain ⟨q1, q2, q3⟩ := h3 k e he
      exact ⟨by simpa using q1, q2, q3⟩
     ·obtain ⟨β', hv', O', r⟩ := hr
      exact ⟨β', hv', O', r.setN σ2.n⟩
     ·have : ∀ (L : Nat → Bool) k, cnt L k ≤ k := by
       intro L k
       induction k with
       | zero => exact Nat.le_refl _
       | succ k ih => simp only [cnt]; split <;> omega
      exact this _ _
     ·intro j o ho hl
      have hj := (Array.getElem?_eq_some_iff.1 ho).1
      simp [hj] at hl
     ·have hno : ∀ i, i < ops.size → (Array.replicate ops.size false).getD i false = false := fun i hi => by simp [hi]
      have c1 := Kr7 (V := Vof ents) (t0 := σ.t) (L := fun i => (Array.replicate ops.size false).getD i false) hno
      refine ⟨frzM (Bc9 σ1.m) σ.m, ?_, β, hv, O', ?_⟩
      ·rw [Ac2 (B' := fun _ => false) ents 0 _ (fun k _ hk => by rw [hno k (by omega), Bool.and_false])]
       have : ∀ (l : List Ent) (i : Nat) (m : List (Nat × Blk)), mBgo P sig own ops rid (fun _ => false) l i m = some m := by
        intro l
        induction l with
        | nil => intro i m; rfl
        | cons x l ih => intro i m; simp only [mBgo, Bool.false_eq_true, if_false]; exact ih _ _
       exact this _ _ _
      ·rw [c1 _ (Nat.le_refl _)]
       exact hrel2.setN 0
    ·cases hx
   ·cases hx
  ·cases hx
 ·cases hx
end
end Go.X
/- Where several ways come together. -/
namespace Go.X
open Go Go.RowKit

theorem Mc4 {η : List PV} {es : List E} {vs : List PV} (h : E.evs η es = some vs) {j : Nat} {e : E} (he : es[j]? = some e) : ∃ p, vs[j]? = some p ∧ e.ev η = some p := (Bw2 h).2 j e he

section
variable {η ζ vs : List PV} {es : List E} {n : Nat}

theorem Bb9 (hvs : E.evs (η ++ ζ) es = some vs) (hn : η.length = n) {x y : E} (h : subE es n x y = true) {p : PV} (hp : x.ev (η ++ ζ) = some p) : y.ev (η ++ vs) = some p := by
 have hh : ∀ k, k < n → (η ++ ζ)[k]? = (η ++ vs)[k]? := fun k hk => by rw [List.getElem?_append_left (by omega), List.getElem?_append_left (by omega)]
 unfold subE at h
 split at h
 ·rename_i k
  split at h
  ·rename_i hk
   split at h
   ·rename_i e he
    have := E.same_eq _ _ h
    subst this
    obtain ⟨q, hq, hq2⟩ := Mc4 hvs he
    rw [hp] at hq2; injection hq2 with hq2; subst hq2
    simp only [E.ev]
    rw [List.getElem?_append_right (by omega), hn]
    exact hq
   ·cases h
  ·rename_i hk
   have := E.same_eq _ _ h
   subst this
   rw [← E.ev_scp hh _ (by simp only [E.scp, decide_eq_true_eq]; omega)]
   exact hp
 ·simp only [Bool.and_eq_true] at h
  have := E.same_eq _ _ h.1
  subst this
  rw [← E.ev_scp hh _ h.2]; exact hp

structure Mv (C C' : Cx) (n : Nat) (R : List (Nat × SV)) : Prop where
 ev : ∀ x : E, x.scp n = true → x.ev C'.η = x.ev C.η
 M : C.M.Le C'.M
 at_ : ∀ s, Ay9 R s = none → C'.β s = C.β s ∧ C'.hv s = C.hv s
 arr : ∀ s e sz x ro xs, Ay9 R s = none → Kx6 C'.m s = true → mget C.m s = some (.arr e sz x ro) → x.ev C.η = some (.l sz xs) → ∃ e' x' ro', mget C'.m s = some (.arr e' sz x' ro') ∧ x'.ev C'.η = some (.l sz xs)

mutual
theorem Aj2.mv {C C' : Cx} {n : Nat} {R : List (Nat × SV)} (h : Mv C C' n R) : ∀ (x : SV) (v : Value), x.scp n = true → x.okM C'.m R = true → Aj2 C x v → Aj2 C' x v
 | .e x, v, hs, hk, hr => by
   simp only [Aj2, SV.scp] at hs hr ⊢
   obtain ⟨p, h1, h2⟩ := hr
   exact ⟨p, by rw [h.ev _ hs]; exact h1, h2.mono h.M⟩
 | .nil _, v, hs, hk, hr => by simpa only [Aj2] using hr
 | .lit sz x, v, hs, hk, hr => by
   simp only [Aj2, SV.scp] at hs hr ⊢
   obtain ⟨xs, a, h1, h2, h3⟩ := hr
   exact ⟨xs, a, by rw [h.ev _ hs]; exact h1, h2, h3.mono h.M⟩
 | .may g x, v, hs, hk, hr => by
   simp only [Aj2, SV.scp, SV.okM, Bool.and_eq_true] at hs hk hr ⊢
   obtain ⟨b, h1, h2, h3⟩ := hr
   exact ⟨b, by rw [h.ev _ hs.1]; exact h1, fun hb => Aj2.mv h x v hs.2 hk (h2 hb), h3⟩
 | .und, v, hs, hk, hr => by simp only [Aj2]
 | .bp s off, v, hs, hk, hr => by
   simp only [Aj2, SV.okM, Option.isNone_iff_eq_none] at hk hr ⊢
   rw [(h.at_ s hk).1]; exact hr
 | .ip x off, v, hs, hk, hr => by
   simp only [Aj2, SV.scp] at hs hr ⊢
   obtain ⟨p, h1, h2⟩ := hr
   exact ⟨p, by rw [h.ev _ hs]; exact h1, h2.mono h.M⟩
 | .ap s i off, v, hs, hk, hr => by
   simp only [Aj2, SV.scp, SV.okM, Bool.and_eq_true, Option.isNone_iff_eq_none] at hs hk hr ⊢
   obtain ⟨e, sz, x, ro, xs, k, iv, h1, h2, h3, h4, h5, h6⟩ := hr
   obtain ⟨e', x', ro', g1, g2⟩ := h.arr s e sz x ro xs hk.1 hk.2 h1 h2
   exact ⟨e', sz, x', ro', xs, k, iv, g1, g2, by rw [h.ev _ hs]; exact h3, h4, h5, by rw [(h.at_ s hk.1).1]; exact h6⟩
 | .suf s i, v, hs, hk, hr => by
   simp only [Aj2, SV.scp, SV.okM, Bool.and_eq_true, Option.isNone_iff_eq_none] at hs hk hr ⊢
   obtain ⟨e, sz, x, ro, xs, k, iv, h1, h2, h3, h4, h5, h6⟩ := hr
   obtain ⟨e', x', ro', g1, g2⟩ := h.arr s e sz x ro xs hk.1 hk.2 h1 h2
   exact ⟨e', sz, x', ro', xs, k, iv, g1, g2, by rw [h.ev _ hs]; exact h3, h4, h5, by rw [(h.at_ s hk.1).2]; exact h6⟩
 | .h s, v, hs, hk, hr => by
   simp only [Aj2, SV.okM, Option.isNone_iff_eq_none] at hk hr ⊢
   rw [(h.at_ s hk).2]; exact hr
 | .mh s, v, hs, hk, hr => by
   simp only [Aj2, SV.okM, Option.isNone_iff_eq_none] at hk hr ⊢
   rw [(h.at_ s hk).1]; exact hr
 | .slf s T, v, hs, hk, hr => by
   simp only [Aj2, SV.okM, Option.isNone_iff_eq_none] at hk hr ⊢
   rw [(h.at_ s hk).1]; exact hr
 | .nilq x, v, hs, hk, hr => by
   simp only [Aj2, SV.scp] at hs hr ⊢
   obtain ⟨sz, xs, b, h1, h2, h3⟩ := hr
   exact ⟨sz, xs, b, by rw [h.ev _ hs]; exact h1, h2, h3⟩
 | .tup xs, v, hs, hk, hr => by
   simp only [Aj2, SV.scp, SV.okM] at hs hk hr ⊢
   obtain ⟨us, h1, h2⟩ := hr
   exact ⟨us, h1, Aj6.mv h xs _ hs hk h2⟩
 | .ag xs, v, hs, hk, hr => by
   simp only [Aj2, SV.scp, SV.okM] at hs hk hr ⊢
   obtain ⟨us, h1, h2, h3⟩ := hr
   exact ⟨us, h1, h2, Aj6.mv h xs _ hs hk h3⟩
 | .clo g xs, v, hs, hk, hr => by
   simp only [Aj2, SV.scp, SV.okM] at hs hk hr ⊢
   obtain ⟨us, h1, h2⟩ := hr
   exact ⟨us, h1, Aj6.mv h xs _ hs hk h2⟩
theorem Aj6.mv {C C' : Cx} {n : Nat} {R : List (Nat × SV)} (h : Mv C C' n R) : ∀ (xs : List SV) (us : List Value), SV.scps n xs = true → SV.okMs C'.m R xs = true → Aj6 C xs us → Aj6 C' xs us
 | [], us, hs, hk, hr => by simpa only [Aj6] using hr
 | x :: xs, us, hs, hk, hr => by
   simp only [Aj6, SV.scps, SV.okMs, Bool.and_eq_true] at hs hk hr ⊢
   obtain ⟨v, r, rfl, h1, h2⟩ := hr
   exact ⟨v, r, rfl, Aj2.mv h x v hs.1 hk.1 h1, Aj6.mv h xs r hs.2 hk.2 h2⟩
end

theorem Jt2 {C C' : Cx} {R : List (Nat × SV)} (hvs : E.evs (η ++ ζ) es = some vs) (hn : η.length = n) (hC : C.η = η ++ ζ) (hC' : C'.η = η ++ vs) (hm : Mv C C' n R)
  (hR : ∀ s s', Ay9 R s = some (.h s') → C'.hv s = C.hv s') (hR2 : ∀ s z, Ay9 R s = some (.nil z) → C'.hv s = .slice none 0 0) {x y : SV} (h : Gy4 es n C'.m R x y = true) {v : Value} (hr : Aj2 C x v) : Aj2 C' y v := by
 unfold Gy4 at h
 split at h
 ·simp only [Aj2]
 ·rename_i y
  split at h
  ·rename_i e he
   obtain ⟨p, hp, hpr⟩ := SV.asE_ok he hr
   simp only [Aj2]
   rw [hC] at hp
   exact ⟨p, by rw [hC']; exact Bb9 hvs hn h hp, hpr.mono hm.M⟩
  ·cases h
 ·rename_i s
  simp only [Aj2]
  split at h
  ·rename_i s' hl
   split at h
   ·simp only [beq_iff_eq] at h; subst h
    simp only [Aj2] at hr
    rw [hR s _ hl]; exact hr
   ·cases h
  ·rename_i z hl
   split at h
   ·simp only [Aj2] at hr
    rw [hR2 s _ hl]; exact hr
   ·cases h
  ·cases h
  ·rename_i hl
   split at h
   ·simp only [beq_iff_eq] at h; subst h
    simp only [Aj2] at hr
    rw [(hm.at_ _ hl).2]; exact hr
   ·cases h
 ·simp only [Bool.and_eq_true] at h
  have := SV.same_eq _ _ h.1.1
  subst this
  exact Aj2.mv hm _ _ h.1.2 h.2 hr

theorem Bb8 {C C' : Cx} {R : List (Nat × SV)} (hvs : E.evs (η ++ ζ) es = some vs) (hn : η.length = n) (hC : C.η = η ++ ζ) (hC' : C'.η = η ++ vs) (hm : Mv C C' n R)
  (hR : ∀ s s', Ay9 R s = some (.h s') → C'.hv s = C.hv s') (hR2 : ∀ s z, Ay9 R s = some (.nil z) → C'.hv s = .slice none 0 0) : ∀ {xs ys : List SV}, Ad1 es n C'.m R xs ys = true → ∀ {us : List Value}, Aj6 C xs us → Aj6 C' ys us
 | [], [], _, us, hr => by simpa only [Aj6] using hr
 | x :: xs, y :: ys, h, us, hr => by
   simp only [Ad1, Bool.and_eq_true] at h
   simp only [Aj6] at hr ⊢
   obtain ⟨v, r, rfl, h1, h2⟩ := hr
   exact ⟨v, r, rfl, Jt2 hvs hn hC hC' hm hR hR2 h.1 h1, Bb8 hvs hn hC hC' hm hR hR2 h.2 h2⟩
 | [], _ :: _, h, _, _ => by simp [Ad1] at h
 | _ :: _, [], h, _, _ => by simp [Ad1] at h
end

theorem Kw2 {m : List (Nat × Blk)} {s : Nat} {b : Blk} (h : mget m s = some b) : (s, b) ∈ m := by
 induction m with
 | nil => simp [mget] at h
 | cons p m ih =>
   obtain ⟨k, b'⟩ := p
   simp only [mget] at h
   split at h
   ·rename_i hk; subst hk; injection h with h; subst h; exact .head _
   ·exact .tail _ (ih h)
theorem Ap5 {R : List (Nat × SV)} {s s' : Nat} (h : Ay9 R s = some (.h s')) : s' ∈ gone R := by
 induction R with
 | nil => simp [Ay9] at h
 | cons p R ih =>
   obtain ⟨k, x⟩ := p
   simp only [Ay9] at h
   split at h
   ·injection h with h; subst h; simp [gone]
   ·have := ih h
    cases x <;> simp [gone, this]
theorem Gd3 {R : List (Nat × SV)} (hg : Dc1 (gone R) = true) {s1 s2 s' : Nat} (h1 : Ay9 R s1 = some (.h s')) (h2 : Ay9 R s2 = some (.h s')) : s1 = s2 := by
 induction R with
 | nil => simp [Ay9] at h1
 | cons p R ih =>
   obtain ⟨k, x⟩ := p
   simp only [Ay9] at h1 h2
   have hg' : Dc1 (gone R) = true := by
    cases x <;> simp only [gone, Dc1, Bool.and_eq_true] at hg <;> first | exact hg | exact hg.2
   by_cases hk1 : k = s1
   ·by_cases hk2 : k = s2
    ·rw [← hk1, ← hk2]
    ·rw [if_pos hk1] at h1
     rw [if_neg hk2] at h2
     injection h1 with h1; subst h1
     simp only [gone, Dc1, Bool.and_eq_true, Bool.not_eq_true', List.contains_eq_mem, decide_eq_false_iff_not] at hg
     exact absurd (Ap5 h2) hg.1
   ·rw [if_neg hk1] at h1
    by_cases hk2 : k = s2
    ·rw [if_pos hk2] at h2
     injection h2 with h2; subst h2
     simp only [gone, Dc1, Bool.and_eq_true, Bool.not_eq_true', List.contains_eq_mem, decide_eq_false_iff_not] at hg
     exact absurd (Ap5 h1) hg.1
    ·rw [if_neg hk2] at h2
     exact ih hg' h1 h2
end Go.X
/- A state that arrives where several ways come together. -/
namespace Go.X
open Go Go.RowKit

section
variable {w0 : Fr} {Oe : Nat → Option Nat} {η ζ vs : List PV} {es : List E} {n : Nat} {σ' σh : St} {tm : Array Value} {w : World} {β : Nat → Nat} {hv : Nat → Value} {O : Nat → Option Nat}

def renβ (R : List (Nat × SV)) (β : Nat → Nat) (s : Nat) : Nat := match Ay9 R s with | some (.h s') => β s' | some _ => 0 | none => β s
def renH (R : List (Nat × SV)) (hv : Nat → Value) (s : Nat) : Value := match Ay9 R s with | some (.h s') => hv s' | some _ => .slice none 0 0 | none => hv s

theorem Kr9 {es : List E} {n s' T' : Nat} {m : List (Nat × Blk)} {R : List (Nat × SV)} {xs ys : List SV} (h : Ad1 es n m R xs ys = true) (hy : ys[0]? = some (.slf s' T')) : xs[0]? = some (.slf s' T') := by
 cases ys with
 | nil => simp at hy
 | cons y ys =>
   simp only [List.getElem?_cons_zero, Option.some.injEq] at hy
   subst hy
   cases xs with
   | nil => simp [Ad1] at h
   | cons x xs =>
     simp only [Ad1, Gy4, Bool.and_eq_true] at h
     rw [SV.same_eq _ _ h.1.1.1]; rfl
theorem Bt2 {m : List (Nat × Blk)} {R : List (Nat × SV)} : ∀ {xs ys : List SV}, Ad1 es n m R xs ys = true → ∀ {j : Nat} {y : SV}, ys[j]? = some y → ∃ x, xs[j]? = some x ∧ Gy4 es n m R x y = true
 | [], [], _, j, y, hy => by simp at hy
 | x :: xs, y :: ys, h, j, z, hz => by
   simp only [Ad1, Bool.and_eq_true] at h
   cases j with
   | zero => simp at hz; subst hz; exact ⟨x, rfl, h.1⟩
   | succ j => simpa using Bt2 h.2 (j := j) (by simpa using hz)
 | [], _ :: _, h, _, _, _ => by simp [Ad1] at h
 | _ :: _, [], h, _, _, _ => by simp [Ad1] at h
theorem Ck8 {k : Nat} : ∀ {R : List (Nat × SV)}, (R.map (·.1)).contains k = false → Ay9 R k = none
 | [], _ => rfl
 | (a, x) :: R, h => by
   simp only [List.map_cons, List.contains_cons, Bool.or_eq_false_iff, beq_eq_false_iff_ne, ne_eq] at h
   simp only [Ay9]
   rw [if_neg (fun e => h.1 e.symm)]
   exact Ck8 h.2
theorem Bh5 {p : Pat} (h : Bx7 σ' σh n p = some es) (hvs : E.evs (η ++ ζ) es = some vs) (hn : η.length = n) (hr : Rels w0 Oe (η ++ ζ) σ' tm w) : Rels w0 Oe (η ++ vs) σh tm w ∧ (η ++ vs).length = σh.n := by
 unfold Bx7 at h
 split at h
 ·rename_i es' _
  dsimp only at h
  split at h
  ·rename_i hc
   injection h with h
   subst h
   simp only [Bool.and_eq_true, beq_iff_eq, List.all_eq_true, Bool.not_eq_true'] at hc
   obtain ⟨⟨⟨⟨⟨hT, hM⟩, hg⟩, _⟩, hS0⟩, hN⟩ := hc
   generalize rens σ' p.items = R at hT hM hg hS0
   obtain ⟨β, hv, O, rel⟩ := hr
   let C : Cx := ⟨η ++ ζ, view w O, β, hv, σ'.m⟩
   let C' : Cx := ⟨η ++ vs, view w O, renβ R β, renH R hv, σh.m⟩
   have hh : ∀ k, k < n → (η ++ vs)[k]? = (η ++ ζ)[k]? := fun k hk => by rw [List.getElem?_append_left (by omega), List.getElem?_append_left (by omega)]
   have hblk : ∀ s b, mget σh.m s = some b → Dy5 es' n σh.m R σ'.m s = true := fun s b hb => hM (s, b) (Kw2 hb)
   have hmv : Mv C C' n R := by
    refine ⟨fun x hx => E.ev_scp hh x hx, Vw.Le.refl _, fun s hs => ⟨by simp only [C', C, renβ, hs], by simp only [C', C, renH, hs]⟩, fun s e sz x ro xs hs ha hx hx2 => ?_⟩
    have ha' : Kx6 σh.m s = true := ha
    unfold Kx6 at ha'
    split at ha'
    ·rename_i e' sz' y ro' hb
     have hx' : mget σ'.m s = some (.arr e sz x ro) := hx
     have := hblk s _ hb
     unfold Dy5 at this
     rw [hs, hx', hb] at this
     simp only [Bool.and_eq_true, beq_iff_eq] at this
     obtain ⟨_, ⟨⟨h1, h2⟩, h3⟩, h4⟩ := this
     subst h2
     exact ⟨e', y, ro', hb, Bb9 hvs hn h4 hx2⟩
    ·cases ha'
   have hR1 : ∀ s s', Ay9 R s = some (.h s') → C'.hv s = C.hv s' := fun s s' hl => by simp only [C', C, renH, hl]
   have hR2 : ∀ s z, Ay9 R s = some (.nil z) → C'.hv s = .slice none 0 0 := fun s z hl => by simp only [C', renH, hl]
   have from_ : ∀ s b, mget σh.m s = some b → Has C' s b → ∃ s0 b0, mget σ'.m s0 = some b0 ∧ Has C s0 b0 ∧ renβ R β s = β s0 ∧ ((Ay9 R s = some (.h s0)) ∨ (Ay9 R s = none ∧ s0 = s ∧ s ∉ gone R)) := by
    intro s b hb hhas
    have := hblk s b hb
    unfold Dy5 at this
    split at this
    ·rename_i s' hl
     split at this
     ·rename_i e sz x e' sz' y h1 h2
      rw [hb] at h2
      injection h2 with h2
      subst h2
      have hhas' : Aj9 (renH R hv s) = some (renβ R β s) := hhas
      simp only [renH, renβ, hl] at hhas'
      exact ⟨s', _, h1, hhas', by simp only [renβ, hl], .inl hl⟩
     ·cases this
    ·rename_i z hl
     split at this
     ·rename_i e sz y h2
      rw [hb] at h2
      injection h2 with h2
      subst h2
      have hhas' : Aj9 (renH R hv s) = some (renβ R β s) := hhas
      simp only [renH, hl, Aj9] at hhas'
      cases hhas'
     ·cases this
    ·cases this
    ·rename_i hl
     simp only [Bool.and_eq_true, Bool.not_eq_true', List.contains_eq_mem, decide_eq_false_iff_not] at this
     obtain ⟨hgs, this⟩ := this
     split at this
     ·rename_i xs ro ys ro' h1 h2
      exact ⟨s, _, h1, trivial, by simp only [renβ, hl], .inr ⟨hl, rfl, hgs⟩⟩
     ·rename_i e sz x ro e' sz' y ro' h1 h2
      rw [hb] at h2
      injection h2 with h2
      subst h2
      have hhas' : Aj9 (renH R hv s) = some (renβ R β s) := hhas
      simp only [renH, renβ, hl] at hhas'
      exact ⟨s, _, h1, hhas', by simp only [renβ, hl], .inr ⟨hl, rfl, hgs⟩⟩
     ·rename_i x ro y ro' h1 h2
      exact ⟨s, _, h1, trivial, by simp only [renβ, hl], .inr ⟨hl, rfl, hgs⟩⟩
     ·cases this
   have evs_len : vs.length = es'.length := (Bw2 hvs).1
   refine ⟨⟨renβ R β, renH R hv, O, rel.bel, rel.ext, rel.out, Bb8 hvs hn rfl rfl hmv hR1 hR2 hT rel.tmps, fun s b hb => ?_, fun s1 s2 b1 b2 h1 h2 h12 k1 k2 => ?_, fun v hv0 ht => ?_⟩, by rw [List.length_append, hn, evs_len, hN]⟩
   ·have := hblk s b hb
    unfold Dy5 at this
    have copy : ∀ s' e sz x ro y, mget σ'.m s' = some (.arr e sz x ro) → subE es' n x y = true → renβ R β s = β s' → renH R hv s = hv s' → Ag3 C' w O w0.ok s (.arr e sz y ro) := by
     intro s' e sz x ro y h1 h2 h3 h4
     obtain ⟨q0, xs, us, q1, q2, q3, q4⟩ := rel.mem s' _ h1
     refine ⟨q0, xs, us, Bb9 hvs hn h2 q1, ?_, q3, ?_⟩
     ·show Own w w0.ok e sz (renH R hv s) xs.length us
      rw [h4]; exact q2
     ·intro g hg'
      have hg2 : Aj9 (renH R hv s) = some g := hg'
      rw [h4] at hg2
      obtain ⟨q5, q6⟩ := q4 g hg2
      exact ⟨by show g = renβ R β s; rw [h3]; exact q5, q6⟩
    split at this
    ·rename_i s' hl
     split at this
     ·rename_i e sz x e' sz' y h1 h2
      rw [hb] at h2
      injection h2 with h2
      subst h2
      simp only [Bool.and_eq_true, beq_iff_eq] at this
      obtain ⟨⟨rfl, rfl⟩, h3⟩ := this
      exact copy s' e sz x false y h1 h3 (by simp only [renβ, hl]) (by simp only [renH, hl])
     ·cases this
    ·rename_i z hl
     split at this
     ·rename_i e sz y h2
      rw [hb] at h2
      injection h2 with h2
      subst h2
      simp only [Bool.and_eq_true, decide_eq_true_eq] at this
      refine ⟨this.1, [], [], Bb9 (p := .l sz []) hvs hn this.2 rfl, ?_, fun i x hx => by simp at hx, fun g hg' => ?_⟩
      ·show Own w w0.ok e sz (renH R hv s) 0 []
       simp only [renH, hl]
       exact ⟨by simp, .inl ⟨none, rfl, rfl⟩⟩
      ·have hg2 : Aj9 (renH R hv s) = some g := hg'
       simp only [renH, hl, Aj9] at hg2
       cases hg2
     ·cases this
    ·cases this
    ·rename_i hl
     simp only [Bool.and_eq_true] at this
     obtain ⟨_, this⟩ := this
     split at this
     ·rename_i xs ro ys ro' h1 h2
      rw [hb] at h2
      injection h2 with h2
      subst h2
      simp only [Bool.and_eq_true, beq_iff_eq] at this
      obtain ⟨rfl, h3⟩ := this
      obtain ⟨q1, q2, us, T, q3, q4, q5, q6⟩ := rel.mem s _ h1
      have hβ : renβ R β s = β s := by simp only [renβ, hl]
      refine ⟨by show w0.ok (renβ R β s); rw [hβ]; exact q1, fun hro => by show O (renβ R β s) = _; rw [hβ]; exact q2 hro, us, T, by show w.heap[renβ R β s]? = _; rw [hβ]; exact q3, q4, ?_, fun s' T' hh => q6 s' T' (Kr9 h3 hh)⟩
      exact Bb8 hvs hn rfl rfl hmv hR1 hR2 h3 q5
     ·rename_i e sz x ro e' sz' y ro' h1 h2
      rw [hb] at h2
      injection h2 with h2
      subst h2
      simp only [Bool.and_eq_true, beq_iff_eq] at this
      obtain ⟨⟨⟨rfl, rfl⟩, rfl⟩, h3⟩ := this
      exact copy s e sz x ro y h1 h3 (by simp only [renβ, hl]) (by simp only [renH, hl])
     ·rename_i x ro y ro' h1 h2
      rw [hb] at h2
      injection h2 with h2
      subst h2
      simp only [Bool.and_eq_true, beq_iff_eq] at this
      obtain ⟨rfl, h3⟩ := this
      obtain ⟨q1, q2, qs, ents, clock, q3, q4, q5⟩ := rel.mem s _ h1
      have hβ : renβ R β s = β s := by simp only [renβ, hl]
      exact ⟨by show w0.ok (renβ R β s); rw [hβ]; exact q1, fun hro => by show O (renβ R β s) = _; rw [hβ]; exact q2 hro, qs, ents, clock, Bb9 hvs hn h3 q3, by show w.heap[renβ R β s]? = _; rw [hβ]; exact q4, q5⟩
     ·cases this
   ·obtain ⟨s1', c1, m1, p1, q1, r1⟩ := from_ s1 b1 h1 k1
    obtain ⟨s2', c2, m2, p2, q2, r2⟩ := from_ s2 b2 h2 k2
    rw [q1, q2]
    refine rel.inj s1' s2' c1 c2 m1 m2 (fun he => ?_) p1 p2
    subst he
    rcases r1 with r1 | ⟨_, r1, r1'⟩ <;> rcases r2 with r2 | ⟨_, r2, r2'⟩
    ·exact h12 (Gd3 hg r1 r2)
    ·exact r2' (by rw [← r2]; exact Ap5 r1)
    ·exact r1' (by rw [← r1]; exact Ap5 r2)
    ·exact h12 (by rw [← r1, ← r2])
   ·obtain ⟨x, hx, hs⟩ := Bt2 hT ht
    have hno : Ay9 R S0 = none := Ck8 hS0
    simp only [Gy4, hno] at hs
    split at hs
    ·rename_i s'
     simp only [beq_iff_eq] at hs
     subst hs
     exact rel.t0 v hv0 hx
    ·cases hs
  ·cases h
 ·cases h
end
end Go.X
/- Code. -/
namespace Go.X
open Go Go.RowKit

theorem Az4 {fn : Fns} {N id : Nat} : ∀ (t : T) (η : List PV) (vs : List PV), t.yields id = false → t.ev fn N η = some (.yld id vs) → False
 | .w x k, η, vs, h, he => by
   simp only [T.ev, Option.bind_eq_some_iff] at he
   obtain ⟨η', _, he⟩ := he
   exact Az4 k η' vs h he
 | .ite c t e, η, vs, h, he => by
   simp only [T.yields, Bool.or_eq_false_iff] at h
   simp only [T.ev, Option.bind_eq_some_iff] at he
   obtain ⟨r, _, he⟩ := he
   split at he
   ·exact Az4 t η vs h.1 he
   ·exact Az4 e η vs h.2 he
   ·cases he
 | .ret es, η, vs, h, he => by
   simp only [T.ev, Option.map_eq_some_iff] at he
   obtain ⟨_, _, he⟩ := he
   cases he
 | .yld j es, η, vs, h, he => by
   simp only [T.ev, Option.map_eq_some_iff] at he
   obtain ⟨_, _, he⟩ := he
   injection he with h1 h2
   simp only [T.yields, beq_eq_false_iff_ne, ne_eq] at h
   exact h h1
 | .blk j b k, η, vs, h, he => by
   simp only [T.yields, Bool.or_eq_false_iff] at h
   simp only [T.ev, Option.bind_eq_some_iff] at he
   obtain ⟨o, ho, he⟩ := he
   split at he
   ·rename_i j' us
    split at he
    ·exact Az4 k _ vs h.2 he
    ·injection he with he
     injection he with h1 h2
     subst h1
     exact Az4 b η us h.1 ho
   ·cases he
 | .loop j es b, η, vs, h, he => by
   simp only [T.ev, Option.bind_eq_some_iff] at he
   obtain ⟨st, _, he⟩ := he
   have key : ∀ m st, Ax2 (fun vs => b.ev fn N (η ++ vs)) j m st = some (.yld id vs) → False := by
    intro m
    induction m with
    | zero => intro st h; simp [Ax2] at h
    | succ m ih =>
      intro st hr
      simp only [Ax2, Option.bind_eq_some_iff] at hr
      obtain ⟨o, ho, hr⟩ := hr
      split at hr
      ·rename_i j' us
       split at hr
       ·exact ih _ hr
       ·injection hr with hr
        injection hr with h1 h2
        subst h1
        exact Az4 b _ us h ho
      ·cases hr
   exact key N st he

theorem Fg7 {fn : Fns} {N : Nat} {η : List PV} {o : Out} : ∀ {t : T}, t.ev fn N η = some o → t.strip.ev fn N η = some o
 | .w (.chk x) k, h => by
   simp only [T.ev, W.ev, Option.bind_eq_some_iff, Option.map_eq_some_iff] at h
   obtain ⟨η', ⟨_, _, rfl⟩, h⟩ := h
   simp only [T.strip]
   exact Fg7 h
 | .w (.call ..) k, h | .w (.clo ..) k, h | .w (.mcall ..) k, h | .ite .., h | .ret .., h | .yld .., h | .blk .., h | .loop .., h => h
theorem Kv8 {fn : Fns} {N : Nat} {η : List PV} {o : Out} {ex : E} {ta tb : T} {sz : Nat} (h : Lk4 ex ta tb = true) (hex : ex.ev η = some (.l sz [])) (hb : tb.ev fn N η = some o) : ta.ev fn N η = some o := by
 have hb' := Fg7 hb
 unfold Lk4 at h
 split at h
 ·rename_i sz1 s1 s2 y heq
  simp only [Bool.and_eq_true, beq_iff_eq] at h
  obtain ⟨⟨rfl, rfl⟩, h3⟩ := h
  have := E.same_eq _ _ h3
  subst this
  rw [heq] at hb'
  simp only [T.ev, E.evs, E.ev, hex, Option.bind_some, Ac1] at hb'
  split at hb'
  ·rename_i hc
   obtain ⟨_, rfl, _⟩ := hc
   simpa [T.ev, E.evs, E.ev] using hb'
  ·simp at hb'
 ·cases h
theorem Cj4 {id : Nat} {r : Option T} {t : T} (h : Dc2 id r = some t) : r = some t ∧ t.yields id = false := by
 unfold Dc2 at h
 obtain ⟨u, h1, h2⟩ := Option.bind_eq_some_iff.1 h
 split at h2
 ·cases h2
 ·rename_i hy
  injection h2 with h2
  subst h2
  exact ⟨h1, by simpa using hy⟩

theorem Gn8 {P : Program} {Q : Exit → Act → World → Prop} {a : Act} {w : World} {c : Code} {n : Nat} (I : Nat → Act → World → Prop) (h₀ : I n a w)
  (round : ∀ n a w, I n a w → c.wp P (Exit.then (fun a' w' => ∃ m, m < n ∧ I m a' w') Q) a w) : (Code.loop c).wp P Q a w := by
 intro b k cs
 have key : ∀ n a w, I n a w → ∃ e a' w', Q e a' w' ∧ Arrives P (lone (b.at a (.code c :: .inLoop c :: k)) cs w) b k cs e a' w' := by
  intro n
  induction n using Nat.strongRecOn with
  | _ n ih =>
    intro a w hI
    obtain ⟨e, a₁, w₁, hq, harr⟩ := round n a w hI b (.inLoop c :: k) cs
    cases e with
    | normal =>
      obtain ⟨m, hlt, hI₁⟩ := hq
      obtain ⟨e₂, a₂, w₂, hq₂, harr₂⟩ := ih m hlt a₁ w₁ hI₁
      exact ⟨e₂, a₂, w₂, hq₂, .of_steps (Steps.trans harr (.one step_inLoop)) harr₂⟩
    | exit id => exact ⟨_, a₁, w₁, hq, .pass (x := .inLoop c) rfl (fun _ _ => .inl (by simp)) harr⟩
    | goto l => exact ⟨_, a₁, w₁, hq, .pass (x := .inLoop c) rfl (fun _ _ => .inl (by simp)) harr⟩
    | ret => exact ⟨_, a₁, w₁, hq, .pass (x := .inLoop c) rfl (fun _ _ => .inl (by simp)) harr⟩
    | panic ch => exact ⟨_, a₁, w₁, hq, .pass (x := .inLoop c) rfl (fun _ _ => .inl (by simp)) harr⟩
    | outgrown => exact ⟨_, a₁, w₁, hq, .pass (x := .inLoop c) rfl (fun _ _ => .inl (by simp)) harr⟩
 obtain ⟨e, a', w', hq, harr⟩ := key n a w h₀
 exact ⟨e, a', w', hq, .of_steps (.one step_loop) harr⟩

def SX.exit' : SX → Exit
 | .normal => .normal
 | .exit b => .exit b
 | .ret => .ret

section
variable {P : Program} {sig : Nat → Option Nat} {fn : Fns} {w0 : Fr} {Oe : Nat → Option Nat} {N : Nat}

def KOk (fn : Fns) (N : Nat) (w0 : Fr) (Oe : Nat → Option Nat) (k : K) (η : List PV) (o : Out) (ds : List Deferred) (Q : Exit → Act → World → Prop) : Prop :=
 ∀ x σ' T' η' ζ a' w', k x σ' = some T' → T'.ev fn N η' = some o → η' = η ++ ζ → η'.length = σ'.n → Rels w0 Oe η' σ' a'.tmps w' → a'.defers = ds → Q x.exit' a' w'
theorem KOk.ext {k : K} {η ζ : List PV} {o : Out} {ds : List Deferred} {Q : Exit → Act → World → Prop} (h : KOk fn N w0 Oe k η o ds Q) : KOk fn N w0 Oe k (η ++ ζ) o ds Q :=
 fun x σ' T' η' ζ' a' w' h1 h2 h3 h4 h5 h6 => h x σ' T' η' (ζ ++ ζ') a' w' h1 h2 (by rw [h3, List.append_assoc]) h4 h5 h6

theorem Rels.env {η : List PV} {σ : St} {tm : Array Value} {w : World} (h : Rels w0 Oe η σ tm w) (ζ : List PV) : Rels w0 Oe (η ++ ζ) σ tm w := by
 obtain ⟨β, hv, O, h⟩ := h
 exact ⟨β, hv, O, h.env ζ⟩

theorem Kn3 {p : Pat} {σ σh : St} {k : K} {η : List PV} {o : Out} {ds : List Deferred} {Q : Exit → Act → World → Prop} {d : Nat} {body tk : T} (hev : (T.blk d body tk).ev fn N η = some o) (hn : η.length = σ.n)
  (htk : k .normal σh = some tk) (hk : KOk fn N w0 Oe k η o ds Q) :
  ∃ o1, body.ev fn N η = some o1 ∧ ∀ (x : SX) (σ' : St) (T' : T) (η' ζ : List PV) (a' : Act) (w' : World),
    ((∃ y, (Bx7 σ' σh σ.n p).map (.yld d) = some T' ∧ x = y ∧ y = .normal) ∨ Dc2 d (k x σ') = some T') → T'.ev fn N η' = some o1 → η' = η ++ ζ → η'.length = σ'.n → Rels w0 Oe η' σ' a'.tmps w' → a'.defers = ds → Q x.exit' a' w' := by
 simp only [T.ev, Option.bind_eq_some_iff] at hev
 obtain ⟨o1, ho1, hev⟩ := hev
 refine ⟨o1, ho1, fun x σ' T' η' ζ a' w' h1 h2 h3 h4 h5 h6 => ?_⟩
 rcases h1 with ⟨y, h1, rfl, rfl⟩ | h1
 ·obtain ⟨es, ha, rfl⟩ := Option.map_eq_some_iff.1 h1
  simp only [T.ev, Option.map_eq_some_iff] at h2
  obtain ⟨vs, hvs, rfl⟩ := h2
  simp only [if_true] at hev
  subst h3
  obtain ⟨g1, g2⟩ := Bh5 ha hvs hn h5
  exact hk .normal σh tk (η ++ vs) vs a' w' htk hev rfl g2 g1 h6
 ·obtain ⟨h1, hy⟩ := Cj4 h1
  have : o1 = o := by
   split at hev
   ·rename_i j vs
    split at hev
    ·rename_i hj; subst hj; exact (Az4 T' η' vs hy h2).elim
    ·injection hev
   ·injection hev
  subst this
  exact hk x σ' T' η' ζ a' w' h1 h2 h3 h4 h5 h6

theorem Bv1 (hC : Contract P sig fn) {H : Hints} : ∀ (c : Code) (lb d : Nat) (σ : St) (k : K) (t : T) (η : List PV) (o : Out) (a : Act) (w : World) (Q : Exit → Act → World → Prop), sx P sig H c lb d σ k = some t → t.ev fn N η = some o → η.length = σ.n → Rels w0 Oe η σ a.tmps w →
  KOk fn N w0 Oe k η o a.defers Q → c.wp P Q a w
 | .skip, lb, d, σ, k, t, η, o, a, w, Q, hs, he, hn, hr, hk => by
   simp only [sx] at hs
   exact wp_skip (hk .normal σ t η [] a w hs he (by simp) hn hr rfl)
 | .exit id, lb, d, σ, k, t, η, o, a, w, Q, hs, he, hn, hr, hk => by
   simp only [sx] at hs
   exact wp_exit (hk (.exit id) σ t η [] a w hs he (by simp) hn hr rfl)
 | .ret, lb, d, σ, k, t, η, o, a, w, Q, hs, he, hn, hr, hk => by
   simp only [sx] at hs
   exact wp_ret (hk .ret σ t η [] a w hs he (by simp) hn hr rfl)
 | .region id ops draw, lb, d, σ, k, t, η, o, a, w, Q, hs, he, hn, hr, hk => by
   simp only [sx] at hs
   split at hs
   ·rename_i ws σ' hx
    obtain ⟨t', hk', rfl⟩ := Option.map_eq_some_iff.1 hs
    rw [Fg3] at he
    obtain ⟨η2, hw, he⟩ := Option.bind_eq_some_iff.1 he
    obtain ⟨ζ, rfl⟩ := Ac3 hw
    cases draw with
    | true =>
      simp only [if_true] at hx
      refine (Fg1 (w0 := w0) (Oe := Oe) hC (hr.env ζ) hx hw (ζ := []) (by simp) hn (Q := Q) (fun a' w' hd hr' => ?_)).1
      have hlen := (Fg1 (w0 := w0) (Oe := Oe) (a := a) (w := w) (Q := fun _ _ _ => True) hC (hr.env ζ) hx hw (ζ := []) (by simp) hn (fun _ _ _ _ => trivial)).2
      exact hk .normal σ' t' _ ζ a' w' hk' he rfl hlen hr' hd
    | false =>
      simp only [Bool.false_eq_true, if_false] at hx
      refine wp_region ?_
      have := Gm1 (w0 := w0) (Oe := Oe) hC (Q := Q) ops.toList 0 σ a w η (η ++ ζ) [] ws σ' (fun k o hk => by simpa using hk) (hr.env ζ) hx hw (by simp) hn (fun a' w' hd hr' => hk .normal σ' t' _ ζ a' w' hk' he rfl (Fg0 _ _ _ _ _ _ _ hx hw hn) hr' hd)
      rw [List.range_eq_range']
      simpa using this
   ·split at hs
    ·injection hs with hs
     subst hs
     simp [T.bot, T.ev, E.evs, E.ev, PV.scal] at he
    ·cases hs
 | .seq x y, lb, d, σ, k, t, η, o, a, w, Q, hs, he, hn, hr, hk => by
   simp only [sx] at hs
   refine wp_seq (Bv1 hC x lb d σ _ t η o a w _ hs he hn hr fun z σ' T' η' ζ a' w' h1 h2 h3 h4 h5 h6 => ?_)
   cases z with
   | normal =>
     simp only at h1
     show y.wp P Q a' w'
     refine Bv1 hC y lb d σ' k T' η' o a' w' Q h1 h2 h4 h5 ?_
     rw [h6, h3]; exact hk.ext
   | exit b => exact hk _ σ' T' η' ζ a' w' h1 h2 h3 h4 h5 h6
   | ret => exact hk _ σ' T' η' ζ a' w' h1 h2 h3 h4 h5 h6
 | .cond c x y, lb, d, σ, k, t, η, o, a, w, Q, hs, he, hn, hr, hk => by
   have hbool : ∀ ec, opdE P σ none 0 c = some ec → ∀ b, ec.ev η = some (.b b) → a.eval c = .bool b := by
    intro ec hec b hb
    obtain ⟨β, hv, O, rel⟩ := hr
    obtain ⟨p, hp, hpr⟩ := Ak6 (ds := a.defers) (C := ⟨η, view w O, β, hv, σ.m⟩) (G := none) (fun g hg => by cases hg) rfl hec rel.tmps
    have hp' : ec.ev η = some p := hp
    rw [hb] at hp'; injection hp' with hp'; subst hp'
    exact hpr.bool
   have plain : ∀ ec ta tb, opdE P σ none 0 c = some ec → ∀ (k' : K) (d' : Nat) (o' : Out), sx P sig H x lb d' σ k' = some ta → sx P sig H y lb d' σ k' = some tb → (T.ite ec ta tb).ev fn N η = some o' → KOk fn N w0 Oe k' η o' a.defers Q → (Code.cond c x y).wp P Q a w := by
    intro ec ta tb hec k' d' o' hta htb he' hk'
    simp only [T.ev, Option.bind_eq_some_iff] at he'
    obtain ⟨r, hr', he'⟩ := he'
    split at he'
    ·exact wp_cond_true (hbool ec hec true hr') (Bv1 hC x lb d' σ k' ta η o' a w Q hta he' hn hr hk')
    ·exact wp_cond_false (hbool ec hec false hr') (Bv1 hC y lb d' σ k' tb η o' a w Q htb he' hn hr hk')
    ·cases he'
   simp only [sx] at hs
   split at hs
   ·rename_i hec
    exact wp_cond_true (hbool _ hec true rfl) (Bv1 hC x lb d σ k t η o a w Q hs he hn hr hk)
   ·rename_i hec
    exact wp_cond_false (hbool _ hec false rfl) (Bv1 hC y lb d σ k t η o a w Q hs he hn hr hk)
   ·rename_i ec _ _ hec
    split at hs
    ·split at hs
     ·rename_i ta tb hta htb
      injection hs with hs
      subst hs
      exact plain ec ta tb hec k d o hta htb he hk
     ·cases hs
    ·rename_i p _
     split at hs
     ·cases hs
     ·rename_i σh _
      split at hs
      ·rename_i ta tb tk hta htb htk
       injection hs with hs
       subst hs
       obtain ⟨o1, ho1, hgo⟩ := Kn3 (p := p) he hn htk hk
       refine plain ec ta tb hec _ (d + 1) o1 hta htb ho1 fun z σ' T' η' ζ a' w' h1 h2 h3 h4 h5 h6 => hgo z σ' T' η' ζ a' w' ?_ h2 h3 h4 h5 h6
       cases z with
       | normal => exact .inl ⟨.normal, h1, rfl, rfl⟩
       | exit b => exact .inr h1
       | ret => exact .inr h1
      ·cases hs
   ·split at hs
    ·rename_i ex hq
     split at hs
     ·rename_i ta tb hta htb
      split at hs
      ·rename_i hnil
       injection hs with hs
       subst hs
       obtain ⟨sz, xs, b, hex, hcb, hxs⟩ : ∃ sz xs b, ex.ev η = some (.l sz xs) ∧ a.eval c = .bool b ∧ (b = true → xs = []) := by
        obtain ⟨β, hv, O, rel⟩ := hr
        have hr0 := Aq4 (ds := a.defers) (C := ⟨η, view w O, β, hv, σ.m⟩) (G := none) (fun g hg => by cases hg) rfl hq rel.tmps
        simpa only [Aj2] using hr0
       cases b with
       | true =>
         rw [hxs rfl] at hex
         exact wp_cond_true hcb (Bv1 hC x lb d σ k ta η o a w Q hta (Kv8 hnil hex he) hn hr hk)
       | false => exact wp_cond_false hcb (Bv1 hC y lb d σ k _ η o a w Q htb he hn hr hk)
      ·cases hs
     ·cases hs
    ·cases hs
 | .block id c, lb, d, σ, k, t, η, o, a, w, Q, hs, he, hn, hr, hk => by
   simp only [sx] at hs
   split at hs
   ·refine wp_block (Bv1 hC c id d σ _ t η o a w _ hs he hn hr fun z σ' T' η' ζ a' w' h1 h2 h3 h4 h5 h6 => ?_)
    cases z with
    | normal => exact hk .normal σ' T' η' ζ a' w' h1 h2 h3 h4 h5 h6
    | exit b =>
      simp only at h1
      simp only [SX.exit', Exit.inBlock]
      by_cases hb : b = id
      ·rw [if_pos hb] at h1 ⊢
       exact hk .normal σ' T' η' ζ a' w' h1 h2 h3 h4 h5 h6
      ·rw [if_neg hb] at h1 ⊢
       exact hk (.exit b) σ' T' η' ζ a' w' h1 h2 h3 h4 h5 h6
    | ret => exact hk .ret σ' T' η' ζ a' w' h1 h2 h3 h4 h5 h6
   ·rename_i p _
    split at hs
    ·cases hs
    ·rename_i σh _
     split at hs
     ·rename_i tc tk htc htk
      injection hs with hs
      subst hs
      obtain ⟨o1, ho1, hgo⟩ := Kn3 (p := p) he hn htk hk
      refine wp_block (Bv1 hC c id (d + 1) σ _ tc η o1 a w _ htc ho1 hn hr fun z σ' T' η' ζ a' w' h1 h2 h3 h4 h5 h6 => ?_)
      cases z with
      | normal => exact hgo .normal σ' T' η' ζ a' w' (.inl ⟨.normal, h1, rfl, rfl⟩) h2 h3 h4 h5 h6
      | exit b =>
        simp only at h1
        simp only [SX.exit', Exit.inBlock]
        by_cases hb : b = id
        ·rw [if_pos hb] at h1 ⊢
         exact hgo .normal σ' T' η' ζ a' w' (.inl ⟨.normal, h1, rfl, rfl⟩) h2 h3 h4 h5 h6
        ·rw [if_neg hb] at h1 ⊢
         exact hgo (.exit b) σ' T' η' ζ a' w' (.inr h1) h2 h3 h4 h5 h6
      | ret => exact hgo .ret σ' T' η' ζ a' w' (.inr h1) h2 h3 h4 h5 h6
     ·cases hs
 | .loop c, lb, d, σ, k, t, η, o, a, w, Q, hs, he, hn, hr, hk => by
   simp only [sx] at hs
   split at hs
   ·cases hs
   ·rename_i p _
    split at hs
    ·cases hs
    ·rename_i σh _
     split at hs
     ·rename_i es tb ha htb
      injection hs with hs
      subst hs
      simp only [T.ev, Option.bind_eq_some_iff] at he
      obtain ⟨st, hst, he⟩ := he
      have h0 := Bh5 (η := η) (ζ := []) (vs := st) ha (by simpa using hst) hn (by simpa using hr)
      refine Gn8 (n := N) (fun m a' w' => ∃ st, Ax2 (fun vs => tb.ev fn N (η ++ vs)) d m st = some o ∧ Rels w0 Oe (η ++ st) σh a'.tmps w' ∧ (η ++ st).length = σh.n ∧ a'.defers = a.defers) ⟨st, he, h0.1, h0.2, rfl⟩ ?_
      rintro m a1 w1 ⟨st1, hround, hr1, hn1, hd1⟩
      cases m with
      | zero => simp [Ax2] at hround
      | succ m =>
        simp only [Ax2, Option.bind_eq_some_iff] at hround
        obtain ⟨o1, ho1, hround⟩ := hround
        refine Bv1 hC c lb (d + 1) σh _ tb (η ++ st1) o1 a1 w1 _ htb ho1 hn1 hr1 fun z σ' T' η' ζ a' w' h1 h2 h3 h4 h5 h6 => ?_
        have other : Dc2 d (k z σ') = some T' → Q z.exit' a' w' := by
         intro h1
         obtain ⟨h1, hy⟩ := Cj4 h1
         have : o1 = o := by
          split at hround
          ·rename_i j vs
           split at hround
           ·rename_i hj; subst hj; exact (Az4 T' η' vs hy h2).elim
           ·injection hround
          ·injection hround
         subst this
         exact hk z σ' T' η' (st1 ++ ζ) a' w' h1 h2 (by rw [h3, List.append_assoc]) h4 h5 (by rw [h6, hd1])
        cases z with
        | normal =>
          simp only at h1
          obtain ⟨es1, ha1, rfl⟩ := Option.map_eq_some_iff.1 h1
          simp only [T.ev, Option.map_eq_some_iff] at h2
          obtain ⟨vs, hvs, rfl⟩ := h2
          simp only [if_true] at hround
          rw [List.append_assoc] at h3
          subst h3
          obtain ⟨g1, g2⟩ := Bh5 ha1 hvs hn h5
          exact ⟨m, Nat.lt_succ_self m, vs, hround, g1, g2, by rw [h6, hd1]⟩
        | exit b => exact other h1
        | ret => exact other h1
     ·cases hs
 | .scope .., lb, d, σ, k, t, η, o, a, w, Q, hs, _, _, _, _ => by simp [sx] at hs
 | .label .., lb, d, σ, k, t, η, o, a, w, Q, hs, _, _, _, _ => by simp [sx] at hs
 | .goto .., lb, d, σ, k, t, η, o, a, w, Q, hs, _, _, _, _ => by simp [sx] at hs
 | .rangeFunc .., lb, d, σ, k, t, η, o, a, w, Q, hs, _, _, _, _ => by simp [sx] at hs
 | .refuse .., lb, d, σ, k, t, η, o, a, w, Q, hs, _, _, _, _ => by simp [sx] at hs
end
end Go.X
/- Residual programs without the checks that what follows makes by itself. -/
namespace Go.X
open Go

def E.triv : E → Bool
 | .c _ => true
 | _ => false
mutual
def cov (a : E) : E → Bool
 | .v n => E.same a (.v n) || a.triv
 | .c x => E.same a (.c x) || a.triv
 | .bin op x y => E.same a (.bin op x y) || a.triv || cov a x || cov a y
 | .un op x => E.same a (.un op x) || a.triv || cov a x
 | .ite g x y => a.triv || cov a g || (cov a x && cov a y) || E.same a (.ite g x y) ||
    (match a with
     | .ite (.un .not h) p q => (h.same g && cov p y && cov q x) || ((E.un .not h).same g && cov p x && cov q y)
     | .ite h p q => h.same g && cov p x && cov q y
     | _ => false)
 | .proj j x => E.same a (.proj j x) || a.triv || cov a x
 | .sub o n x => E.same a (.sub o n x) || a.triv || cov a x
 | .agg xs => E.same a (.agg xs) || a.triv || covs a xs
 | .fit n x => E.same a (.fit n x) || a.triv || cov a x
 | .scal x => E.same a (.scal x) || a.triv || cov a x
 | .idx sz x i => E.same a (.idx sz x i) || a.triv || cov a x || cov a i
 | .len x => E.same a (.len x) || a.triv || cov a x
 | .slen x => E.same a (.slen x) || a.triv || cov a x
 | .sidx x i => E.same a (.sidx x i) || a.triv || cov a x || cov a i
 | .ssl x lo hi => E.same a (.ssl x lo hi) || a.triv || cov a x || cov a lo || cov a hi
 | .lsl sz x lo hi => E.same a (.lsl sz x lo hi) || a.triv || cov a x || cov a lo || cov a hi
 | .app sz x y => E.same a (.app sz x y) || a.triv || cov a x || cov a y
 | .lit sz xs => E.same a (.lit sz xs) || a.triv || covs a xs
 | .rep sz n z => E.same a (.rep sz n z) || a.triv || cov a n || cov a z
 | .set sz x i off vs => E.same a (.set sz x i off vs) || a.triv || cov a x || cov a i || covs a vs
 | .conv k x => E.same a (.conv k x) || a.triv || cov a x
 | .b2s x => E.same a (.b2s x) || a.triv || cov a x
 | .s2b x => E.same a (.s2b x) || a.triv || cov a x
 | .eqs n g ts x y => E.same a (.eqs n g ts x y) || a.triv || cov a x || cov a y
 | .clo g caps => E.same a (.clo g caps) || a.triv || covs a caps
 | .mn x y => E.same a (.mn x y) || a.triv || cov a x || cov a y
 | .mx x y => E.same a (.mx x y) || a.triv || cov a x || cov a y
 | .mget x k z => E.same a (.mget x k z) || a.triv || cov a x || cov a k || cov a z
 | .mset x k v => E.same a (.mset x k v) || a.triv || cov a x || cov a k || cov a v
 | .der x => E.same a (.der x) || a.triv || cov a x
 | .mkp o x => E.same a (.mkp o x) || a.triv || cov a x
def covs (a : E) : List E → Bool
 | [] => false
 | x :: xs => cov a x || covs a xs
end

theorem Aq0 {a : E} {η : List PV} (h : a.triv = true) : (a.ev η).isSome = true := by
 cases a <;> simp [E.triv] at h
 simp [E.ev]
theorem Ak2 {a b : E} {η : List PV} {p : PV} (h : E.same a b = true) (e : b.ev η = some p) : (a.ev η).isSome = true := by
 rw [E.same_eq _ _ h, e]; rfl
mutual
theorem Ak3 {η : List PV} (a : E) : ∀ (b : E) (p : PV), cov a b = true → b.ev η = some p → (a.ev η).isSome = true
 | .v n, p, h, e => by
   simp only [cov, Bool.or_eq_true] at h
   rcases h with h | h
   ·exact Ak2 h e
   ·exact Aq0 h
 | .c x, p, h, e => by
   simp only [cov, Bool.or_eq_true] at h
   rcases h with h | h
   ·exact Ak2 h e
   ·exact Aq0 h
 | .bin op x y, p, h, e => by
   simp only [cov, Bool.or_eq_true] at h
   rcases h with ((h | h) | h) | h
   ·exact Ak2 h e
   ·exact Aq0 h
   ·simp only [E.ev] at e; obtain ⟨q0, hq0, e0⟩ := Option.bind_eq_some_iff.1 e; exact Ak3 a x _ h hq0
   ·simp only [E.ev] at e; obtain ⟨q0, hq0, e0⟩ := Option.bind_eq_some_iff.1 e; obtain ⟨q1, hq1, e1⟩ := Option.bind_eq_some_iff.1 e0; exact Ak3 a y _ h hq1
 | .un op x, p, h, e => by
   simp only [cov, Bool.or_eq_true] at h
   rcases h with (h | h) | h
   ·exact Ak2 h e
   ·exact Aq0 h
   ·simp only [E.ev] at e; obtain ⟨q0, hq0, e0⟩ := Option.bind_eq_some_iff.1 e; exact Ak3 a x _ h hq0
 | .ite g x y, p, h, e => by
   have e0 := e
   simp only [E.ev] at e
   obtain ⟨r, hg, e1⟩ := Option.bind_eq_some_iff.1 e
   have key : ∀ (h' p' q' : E), (∀ b, g.ev η = some (.b b) → h'.ev η = some (.b b)) → cov p' x = true → cov q' y = true → ((E.ite h' p' q').ev η).isSome = true := by
    intro h' p' q' hh hp hq
    simp only [E.ev]
    split at e1
    ·rw [hh true hg]; simp only [Option.bind_some]; exact Ak3 p' x _ hp e1
    ·rw [hh false hg]; simp only [Option.bind_some]; exact Ak3 q' y _ hq e1
    ·cases e1
   have keyN : ∀ (h' p' q' : E), (∀ b, g.ev η = some (.b b) → h'.ev η = some (.b b)) → cov p' y = true → cov q' x = true → ((E.ite (.un .not h') p' q').ev η).isSome = true := by
    intro h' p' q' hh hp hq
    simp only [E.ev]
    split at e1
    ·rw [hh true hg]; simp only [Option.bind_some, X.un, Bool.not_true]; exact Ak3 q' x _ hq e1
    ·rw [hh false hg]; simp only [Option.bind_some, X.un, Bool.not_false]; exact Ak3 p' y _ hp e1
    ·cases e1
   simp only [cov, Bool.or_eq_true] at h
   rcases h with (((h | h) | h) | h) | h
   ·exact Aq0 h
   ·exact Ak3 a g _ h hg
   ·simp only [Bool.and_eq_true] at h
    split at e1
    ·exact Ak3 a x _ h.1 e1
    ·exact Ak3 a y _ h.2 e1
    ·cases e1
   ·exact Ak2 h e0
   ·split at h
    ·simp only [Bool.or_eq_true, Bool.and_eq_true] at h
     rcases h with h | h
     ·exact keyN _ _ _ (fun b hb => by rw [E.same_eq _ _ h.1.1]; exact hb) h.1.2 h.2
     ·exact key _ _ _ (fun b hb => by rw [E.same_eq _ _ h.1.1]; exact hb) h.1.2 h.2
    ·simp only [Bool.and_eq_true] at h
     exact key _ _ _ (fun b hb => by rw [E.same_eq _ _ h.1.1]; exact hb) h.1.2 h.2
    ·cases h
 | .proj j x, p, h, e => by
   simp only [cov, Bool.or_eq_true] at h
   rcases h with (h | h) | h
   ·exact Ak2 h e
   ·exact Aq0 h
   ·simp only [E.ev] at e; obtain ⟨q0, hq0, e0⟩ := Option.bind_eq_some_iff.1 e; exact Ak3 a x _ h hq0
 | .sub o n x, p, h, e => by
   simp only [cov, Bool.or_eq_true] at h
   rcases h with (h | h) | h
   ·exact Ak2 h e
   ·exact Aq0 h
   ·simp only [E.ev] at e; obtain ⟨q0, hq0, e0⟩ := Option.bind_eq_some_iff.1 e; exact Ak3 a x _ h hq0
 | .agg xs, p, h, e => by
   simp only [cov, Bool.or_eq_true] at h
   rcases h with (h | h) | h
   ·exact Ak2 h e
   ·exact Aq0 h
   ·simp only [E.ev] at e; obtain ⟨q0, hq0, e0⟩ := Option.map_eq_some_iff.1 e; exact Ac8 a xs _ h hq0
 | .fit n x, p, h, e => by
   simp only [cov, Bool.or_eq_true] at h
   rcases h with (h | h) | h
   ·exact Ak2 h e
   ·exact Aq0 h
   ·simp only [E.ev] at e; obtain ⟨q0, hq0, e0⟩ := Option.bind_eq_some_iff.1 e; exact Ak3 a x _ h hq0
 | .scal x, p, h, e => by
   simp only [cov, Bool.or_eq_true] at h
   rcases h with (h | h) | h
   ·exact Ak2 h e
   ·exact Aq0 h
   ·simp only [E.ev] at e; obtain ⟨q0, hq0, e0⟩ := Option.bind_eq_some_iff.1 e; exact Ak3 a x _ h hq0
 | .idx sz x i, p, h, e => by
   simp only [cov, Bool.or_eq_true] at h
   rcases h with ((h | h) | h) | h
   ·exact Ak2 h e
   ·exact Aq0 h
   ·simp only [E.ev] at e; obtain ⟨q0, hq0, e0⟩ := Option.bind_eq_some_iff.1 e; exact Ak3 a x _ h hq0
   ·simp only [E.ev] at e; obtain ⟨q0, hq0, e0⟩ := Option.bind_eq_some_iff.1 e; obtain ⟨q1, hq1, e1⟩ := Option.bind_eq_some_iff.1 e0; exact Ak3 a i _ h hq1
 | .len x, p, h, e => by
   simp only [cov, Bool.or_eq_true] at h
   rcases h with (h | h) | h
   ·exact Ak2 h e
   ·exact Aq0 h
   ·simp only [E.ev] at e; obtain ⟨q0, hq0, e0⟩ := Option.bind_eq_some_iff.1 e; exact Ak3 a x _ h hq0
 | .slen x, p, h, e => by
   simp only [cov, Bool.or_eq_true] at h
   rcases h with (h | h) | h
   ·exact Ak2 h e
   ·exact Aq0 h
   ·simp only [E.ev] at e; obtain ⟨q0, hq0, e0⟩ := Option.bind_eq_some_iff.1 e; exact Ak3 a x _ h hq0
 | .sidx x i, p, h, e => by
   simp only [cov, Bool.or_eq_true] at h
   rcases h with ((h | h) | h) | h
   ·exact Ak2 h e
   ·exact Aq0 h
   ·simp only [E.ev] at e; obtain ⟨q0, hq0, e0⟩ := Option.bind_eq_some_iff.1 e; exact Ak3 a x _ h hq0
   ·simp only [E.ev] at e; obtain ⟨q0, hq0, e0⟩ := Option.bind_eq_some_iff.1 e; obtain ⟨q1, hq1, e1⟩ := Option.bind_eq_some_iff.1 e0; exact Ak3 a i _ h hq1
 | .ssl x lo hi, p, h, e => by
   simp only [cov, Bool.or_eq_true] at h
   rcases h with (((h | h) | h) | h) | h
   ·exact Ak2 h e
   ·exact Aq0 h
   ·simp only [E.ev] at e; obtain ⟨q0, hq0, e0⟩ := Option.bind_eq_some_iff.1 e; exact Ak3 a x _ h hq0
   ·simp only [E.ev] at e; obtain ⟨q0, hq0, e0⟩ := Option.bind_eq_some_iff.1 e; obtain ⟨q1, hq1, e1⟩ := Option.bind_eq_some_iff.1 e0; exact Ak3 a lo _ h hq1
   ·simp only [E.ev] at e; obtain ⟨q0, hq0, e0⟩ := Option.bind_eq_some_iff.1 e; obtain ⟨q1, hq1, e1⟩ := Option.bind_eq_some_iff.1 e0; obtain ⟨q2, hq2, e2⟩ := Option.bind_eq_some_iff.1 e1; exact Ak3 a hi _ h hq2
 | .lsl sz x lo hi, p, h, e => by
   simp only [cov, Bool.or_eq_true] at h
   rcases h with (((h | h) | h) | h) | h
   ·exact Ak2 h e
   ·exact Aq0 h
   ·simp only [E.ev] at e; obtain ⟨q0, hq0, e0⟩ := Option.bind_eq_some_iff.1 e; exact Ak3 a x _ h hq0
   ·simp only [E.ev] at e; obtain ⟨q0, hq0, e0⟩ := Option.bind_eq_some_iff.1 e; obtain ⟨q1, hq1, e1⟩ := Option.bind_eq_some_iff.1 e0; exact Ak3 a lo _ h hq1
   ·simp only [E.ev] at e; obtain ⟨q0, hq0, e0⟩ := Option.bind_eq_some_iff.1 e; obtain ⟨q1, hq1, e1⟩ := Option.bind_eq_some_iff.1 e0; obtain ⟨q2, hq2, e2⟩ := Option.bind_eq_some_iff.1 e1; exact Ak3 a hi _ h hq2
 | .app sz x y, p, h, e => by
   simp only [cov, Bool.or_eq_true] at h
   rcases h with ((h | h) | h) | h
   ·exact Ak2 h e
   ·exact Aq0 h
   ·simp only [E.ev] at e; obtain ⟨q0, hq0, e0⟩ := Option.bind_eq_some_iff.1 e; exact Ak3 a x _ h hq0
   ·simp only [E.ev] at e; obtain ⟨q0, hq0, e0⟩ := Option.bind_eq_some_iff.1 e; obtain ⟨q1, hq1, e1⟩ := Option.bind_eq_some_iff.1 e0; exact Ak3 a y _ h hq1
 | .lit sz xs, p, h, e => by
   simp only [cov, Bool.or_eq_true] at h
   rcases h with (h | h) | h
   ·exact Ak2 h e
   ·exact Aq0 h
   ·simp only [E.ev] at e; obtain ⟨q0, hq0, e0⟩ := Option.bind_eq_some_iff.1 e; exact Ac8 a xs _ h hq0
 | .rep sz n z, p, h, e => by
   simp only [cov, Bool.or_eq_true] at h
   rcases h with ((h | h) | h) | h
   ·exact Ak2 h e
   ·exact Aq0 h
   ·simp only [E.ev] at e; obtain ⟨q0, hq0, e0⟩ := Option.bind_eq_some_iff.1 e; exact Ak3 a n _ h hq0
   ·simp only [E.ev] at e; obtain ⟨q0, hq0, e0⟩ := Option.bind_eq_some_iff.1 e; obtain ⟨q1, hq1, e1⟩ := Option.bind_eq_some_iff.1 e0; exact Ak3 a z _ h hq1
 | .set sz x i off vs, p, h, e => by
   simp only [cov, Bool.or_eq_true] at h
   rcases h with (((h | h) | h) | h) | h
   ·exact Ak2 h e
   ·exact Aq0 h
   ·simp only [E.ev] at e; obtain ⟨q0, hq0, e0⟩ := Option.bind_eq_some_iff.1 e; exact Ak3 a x _ h hq0
   ·simp only [E.ev] at e; obtain ⟨q0, hq0, e0⟩ := Option.bind_eq_some_iff.1 e; obtain ⟨q1, hq1, e1⟩ := Option.bind_eq_some_iff.1 e0; exact Ak3 a i _ h hq1
   ·simp only [E.ev] at e; obtain ⟨q0, hq0, e0⟩ := Option.bind_eq_some_iff.1 e; obtain ⟨q1, hq1, e1⟩ := Option.bind_eq_some_iff.1 e0; obtain ⟨q2, hq2, e2⟩ := Option.bind_eq_some_iff.1 e1; exact Ac8 a vs _ h hq2
 | .conv k x, p, h, e => by
   simp only [cov, Bool.or_eq_true] at h
   rcases h with (h | h) | h
   ·exact Ak2 h e
   ·exact Aq0 h
   ·simp only [E.ev] at e; obtain ⟨q0, hq0, e0⟩ := Option.bind_eq_some_iff.1 e; exact Ak3 a x _ h hq0
 | .b2s x, p, h, e => by
   simp only [cov, Bool.or_eq_true] at h
   rcases h with (h | h) | h
   ·exact Ak2 h e
   ·exact Aq0 h
   ·simp only [E.ev] at e; obtain ⟨q0, hq0, e0⟩ := Option.bind_eq_some_iff.1 e; exact Ak3 a x _ h hq0
 | .s2b x, p, h, e => by
   simp only [cov, Bool.or_eq_true] at h
   rcases h with (h | h) | h
   ·exact Ak2 h e
   ·exact Aq0 h
   ·simp only [E.ev] at e; obtain ⟨q0, hq0, e0⟩ := Option.bind_eq_some_iff.1 e; exact Ak3 a x _ h hq0
 | .eqs n g ts x y, p, h, e => by
   simp only [cov, Bool.or_eq_true] at h
   rcases h with ((h | h) | h) | h
   ·exact Ak2 h e
   ·exact Aq0 h
   ·simp only [E.ev] at e; obtain ⟨q0, hq0, e0⟩ := Option.bind_eq_some_iff.1 e; exact Ak3 a x _ h hq0
   ·simp only [E.ev] at e; obtain ⟨q0, hq0, e0⟩ := Option.bind_eq_some_iff.1 e; obtain ⟨q1, hq1, e1⟩ := Option.bind_eq_some_iff.1 e0; exact Ak3 a y _ h hq1
 | .clo g caps, p, h, e => by
   simp only [cov, Bool.or_eq_true] at h
   rcases h with (h | h) | h
   ·exact Ak2 h e
   ·exact Aq0 h
   ·simp only [E.ev] at e; obtain ⟨q0, hq0, e0⟩ := Option.map_eq_some_iff.1 e; exact Ac8 a caps _ h hq0
 | .mn x y, p, h, e => by
   simp only [cov, Bool.or_eq_true] at h
   rcases h with ((h | h) | h) | h
   ·exact Ak2 h e
   ·exact Aq0 h
   ·simp only [E.ev] at e; obtain ⟨q0, hq0, e0⟩ := Option.bind_eq_some_iff.1 e; exact Ak3 a x _ h hq0
   ·simp only [E.ev] at e; obtain ⟨q0, hq0, e0⟩ := Option.bind_eq_some_iff.1 e; obtain ⟨q1, hq1, e1⟩ := Option.bind_eq_some_iff.1 e0; exact Ak3 a y _ h hq1
 | .mx x y, p, h, e => by
   simp only [cov, Bool.or_eq_true] at h
   rcases h with ((h | h) | h) | h
   ·exact Ak2 h e
   ·exact Aq0 h
   ·simp only [E.ev] at e; obtain ⟨q0, hq0, e0⟩ := Option.bind_eq_some_iff.1 e; exact Ak3 a x _ h hq0
   ·simp only [E.ev] at e; obtain ⟨q0, hq0, e0⟩ := Option.bind_eq_some_iff.1 e; obtain ⟨q1, hq1, e1⟩ := Option.bind_eq_some_iff.1 e0; exact Ak3 a y _ h hq1
 | .mget x k z, p, h, e => by
   simp only [cov, Bool.or_eq_true] at h
   rcases h with (((h | h) | h) | h) | h
   ·exact Ak2 h e
   ·exact Aq0 h
   ·simp only [E.ev] at e; obtain ⟨q0, hq0, e0⟩ := Option.bind_eq_some_iff.1 e; exact Ak3 a x _ h hq0
   ·simp only [E.ev] at e; obtain ⟨q0, hq0, e0⟩ := Option.bind_eq_some_iff.1 e; obtain ⟨q1, hq1, e1⟩ := Option.bind_eq_some_iff.1 e0; exact Ak3 a k _ h hq1
   ·simp only [E.ev] at e; obtain ⟨q0, hq0, e0⟩ := Option.bind_eq_some_iff.1 e; obtain ⟨q1, hq1, e1⟩ := Option.bind_eq_some_iff.1 e0; obtain ⟨q2, hq2, e2⟩ := Option.bind_eq_some_iff.1 e1; exact Ak3 a z _ h hq2
 | .mset x k v, p, h, e => by
   simp only [cov, Bool.or_eq_true] at h
   rcases h with (((h | h) | h) | h) | h
   ·exact Ak2 h e
   ·exact Aq0 h
   ·simp only [E.ev] at e; obtain ⟨q0, hq0, e0⟩ := Option.bind_eq_some_iff.1 e; exact Ak3 a x _ h hq0
   ·simp only [E.ev] at e; obtain ⟨q0, hq0, e0⟩ := Option.bind_eq_some_iff.1 e; obtain ⟨q1, hq1, e1⟩ := Option.bind_eq_some_iff.1 e0; exact Ak3 a k _ h hq1
   ·simp only [E.ev] at e; obtain ⟨q0, hq0, e0⟩ := Option.bind_eq_some_iff.1 e; obtain ⟨q1, hq1, e1⟩ := Option.bind_eq_some_iff.1 e0; obtain ⟨q2, hq2, e2⟩ := Option.bind_eq_some_iff.1 e1; exact Ak3 a v _ h hq2
 | .der x, p, h, e | .mkp _ x, p, h, e => by
   simp only [cov, Bool.or_eq_true] at h
   rcases h with (h | h) | h
   ·exact Ak2 h e
   ·exact Aq0 h
   ·simp only [E.ev] at e; obtain ⟨q0, hq0, e0⟩ := Option.bind_eq_some_iff.1 e; exact Ak3 a x _ h hq0
theorem Ac8 {η : List PV} (a : E) : ∀ (bs : List E) (ps : List PV), covs a bs = true → E.evs η bs = some ps → (a.ev η).isSome = true
 | [], ps, h, e => by simp [covs] at h
 | b :: bs, ps, h, e => by
   simp only [covs, Bool.or_eq_true] at h
   simp only [E.evs] at e
   obtain ⟨q, hq, e1⟩ := Option.bind_eq_some_iff.1 e
   obtain ⟨qs, hqs, e2⟩ := Option.map_eq_some_iff.1 e1
   rcases h with h | h
   ·exact Ak3 a b _ h hq
   ·exact Ac8 a bs _ h hqs
end

def Az8 (a : E) : T → Bool
 | .w (.chk x) k => cov a x || Az8 a k
 | .w (.call none _ _ ar _) _ => covs a ar
 | .w (.call (some g) _ _ _ _) _ => cov a g
 | .w (.clo none _ c ar _) _ => cov a c || covs a ar
 | .w (.clo (some g) _ _ _ _) _ => cov a g
 | .w (.mcall _ ar) _ => covs a ar
 | .ite c t e => cov a c || (Az8 a t && Az8 a e)
 | .ret es => covs a es
 | .yld _ es => covs a es
 | .blk _ body _ => Az8 a body
 | .loop _ init _ => covs a init
theorem Am7 {fn : Fns} {N : Nat} {η : List PV} (a : E) : ∀ (t : T) (o : Out), Az8 a t = true → t.ev fn N η = some o → (a.ev η).isSome = true
 | .w (.chk x) k, o, h, e => by
   simp only [Az8, Bool.or_eq_true] at h
   simp only [T.ev, W.ev] at e
   obtain ⟨η', h1, h2⟩ := Option.bind_eq_some_iff.1 e
   obtain ⟨p, hp, rfl⟩ := Option.map_eq_some_iff.1 h1
   rcases h with h | h
   ·exact Ak3 a x _ h hp
   ·exact Am7 a k _ h h2
 | .w (.call none fl f ar m) k, o, h, e => by
   simp only [Az8] at h
   simp only [T.ev, W.ev, Av7] at e
   obtain ⟨η', h1, h2⟩ := Option.bind_eq_some_iff.1 e
   obtain ⟨p, hp, _⟩ := Option.bind_eq_some_iff.1 h1
   exact Ac8 a ar _ h hp
 | .w (.call (some g) fl f ar m) k, o, h, e => by
   simp only [Az8] at h
   simp only [T.ev, W.ev, Av7] at e
   obtain ⟨η', h1, h2⟩ := Option.bind_eq_some_iff.1 e
   obtain ⟨p, hp, _⟩ := Option.bind_eq_some_iff.1 h1
   exact Ak3 a g _ h hp
 | .w (.clo none fl c ar m) k, o, h, e => by
   simp only [Az8, Bool.or_eq_true] at h
   simp only [T.ev, W.ev, Av7] at e
   obtain ⟨η', h1, h2⟩ := Option.bind_eq_some_iff.1 e
   obtain ⟨p, hp, h3⟩ := Option.bind_eq_some_iff.1 h1
   obtain ⟨q, hq, _⟩ := Option.bind_eq_some_iff.1 h3
   rcases h with h | h
   ·exact Ak3 a c _ h hp
   ·exact Ac8 a ar _ h hq
 | .w (.clo (some g) fl c ar m) k, o, h, e => by
   simp only [Az8] at h
   simp only [T.ev, W.ev, Av7] at e
   obtain ⟨η', h1, h2⟩ := Option.bind_eq_some_iff.1 e
   obtain ⟨p, hp, _⟩ := Option.bind_eq_some_iff.1 h1
   exact Ak3 a g _ h hp
 | .w (.mcall f ar) k, o, h, e => by
   simp only [Az8] at h
   simp only [T.ev, W.ev] at e
   obtain ⟨η', h1, h2⟩ := Option.bind_eq_some_iff.1 e
   obtain ⟨p, hp, _⟩ := Option.bind_eq_some_iff.1 h1
   exact Ac8 a ar _ h hp
 | .ite c t f, o, h, e => by
   simp only [Az8, Bool.or_eq_true, Bool.and_eq_true] at h
   simp only [T.ev] at e
   obtain ⟨r, h1, h2⟩ := Option.bind_eq_some_iff.1 e
   rcases h with h | h
   ·exact Ak3 a c _ h h1
   ·split at h2
    ·exact Am7 a t _ h.1 h2
    ·exact Am7 a f _ h.2 h2
    ·cases h2
 | .ret es, o, h, e => by
   simp only [Az8] at h
   simp only [T.ev] at e
   obtain ⟨ps, hp, _⟩ := Option.map_eq_some_iff.1 e
   exact Ac8 a es _ h hp
 | .yld id es, o, h, e => by
   simp only [Az8] at h
   simp only [T.ev] at e
   obtain ⟨ps, hp, _⟩ := Option.map_eq_some_iff.1 e
   exact Ac8 a es _ h hp
 | .blk id body k, o, h, e => by
   simp only [Az8] at h
   simp only [T.ev] at e
   obtain ⟨o1, h1, _⟩ := Option.bind_eq_some_iff.1 e
   exact Am7 a body _ h h1
 | .loop id init body, o, h, e => by
   simp only [Az8] at h
   simp only [T.ev] at e
   obtain ⟨ps, hp, _⟩ := Option.bind_eq_some_iff.1 e
   exact Ac8 a init _ h hp

def T.slim : T → T
 | .w (.chk x) k => if Az8 x k.slim then k.slim else .w (.chk x) k.slim
 | .w x k => .w x k.slim
 | .ite c t e => .ite c t.slim e.slim
 | .ret es => .ret es
 | .yld id es => .yld id es
 | .blk id body k => .blk id body.slim k.slim
 | .loop id init body => .loop id init body.slim
theorem Ay3 {fn : Fns} {N : Nat} : ∀ (t : T) (η : List PV), t.slim.ev fn N η = t.ev fn N η
 | .w (.chk x) k, η => by
   simp only [T.slim]
   split
   ·rename_i h
    rw [Ay3 k η]
    simp only [T.ev, W.ev]
    cases hx : x.ev η with
    | some p => rfl
    | none =>
      cases hk : k.ev fn N η with
      | none => rfl
      | some o =>
        rw [← Ay3 k η] at hk
        have := Am7 x k.slim o h hk
        rw [hx] at this; cases this
   ·simp only [T.ev, W.ev]
    cases hx : x.ev η with
    | some p => exact Ay3 k η
    | none => rfl
 | .w (.call g fl f ar m) k, η => by
   simp only [T.slim, T.ev]
   congr 1; funext η'; exact Ay3 k η'
 | .w (.clo g fl c ar m) k, η => by
   simp only [T.slim, T.ev]
   congr 1; funext η'; exact Ay3 k η'
 | .w (.mcall f ar) k, η => by
   simp only [T.slim, T.ev]
   congr 1; funext η'; exact Ay3 k η'
 | .ite c t e, η => by
   simp only [T.slim, T.ev, Ay3 t η, Ay3 e η]
 | .ret es, η => rfl
 | .yld id es, η => rfl
 | .blk id body k, η => by
   simp only [T.slim, T.ev, Ay3 body η]
   congr 1; funext o
   cases o with
   | ret vs => rfl
   | yld j vs => simp only [Ay3 k (η ++ vs)]
 | .loop id init body, η => by
   simp only [T.slim, T.ev]
   congr 1; funext st
   have : (fun vs => body.slim.ev fn N (η ++ vs)) = fun vs => body.ev fn N (η ++ vs) := by funext vs; exact Ay3 body (η ++ vs)
   rw [this]
end Go.X
/- Functions. -/
namespace Go.X
open Go Go.RowKit

section
variable {P : Program} {sig : Nat → Option Nat} {fn : Fns} {w0 : Fr} {Oe : Nat → Option Nat} {N : Nat}

theorem Jt4 {func : Func} {args : List PV} {w : World} {O : Nat → Option Nat} {cargs : Array Value} (hg : Given w O func.params.size args cargs) (hl : args.length = func.params.size + func.nfree) (ht : func.params.size + func.nfree ≤ func.ntmps) {fa : Option Nat} (hfa : ∀ e, fa = some e → ∃ xs b, args[0]? = some (.l (Aj0 P e) xs) ∧ cargs[0]? = some (.slice b xs.length xs.length)) :
  Rels ⟨w, none⟩ O args (Bj1 P none fa func) (cargs ++ Array.replicate (func.ntmps - cargs.size) undef) w := by
 refine ⟨fun _ => 0, fun _ => undef, O, Bel.refl ⟨w, none⟩, fun _ _ _ => rfl, hg.out, ?_, fun s b hs => by simp [Bj1, mget] at hs, fun s s' b b' hs => by simp [Bj1, mget] at hs, fun v hv => by cases hv⟩
 have hsz := hg.size
 refine Aj6.mk (by simp [Bj1]; omega) fun j x v hx hv => ?_
 simp only [Bj1, Option.isSome_none, Bool.false_eq_true, false_and, if_false] at hx
 rw [List.append_assoc] at hx
 by_cases h1 : j < func.params.size
 ·rw [List.getElem?_append_left (by simpa using h1)] at hx
  simp only [List.getElem?_map, Option.map_eq_some_iff] at hx
  obtain ⟨k, hk, rfl⟩ := hx
  rw [List.getElem?_range h1] at hk; injection hk with hk; subst hk
  have hp : args[j]? = some args[j] := List.getElem?_eq_getElem (by omega)
  rw [Array.getElem?_toList, Array.getElem?_append_left (by omega)] at hv
  have hval := hg.val j _ v h1 hp hv
  have plain : Aj2 ⟨args, view w O, fun _ => 0, fun _ => undef, (Bj1 P none fa func).m⟩ (.e (.v j)) v := by
   simp only [Aj2, E.ev]
   exact ⟨args[j], hp, hval⟩
  by_cases hj0 : j = 0
  ·rw [if_pos hj0]
   cases fa with
   | none => exact plain
   | some e =>
     obtain ⟨xs, b, h5, h6⟩ := hfa e rfl
     subst hj0
     rw [hp] at h5
     injection h5 with h5
     rw [hv] at h6
     injection h6 with h6
     simp only [Aj2, E.ev]
     exact ⟨xs, b, by rw [hp, h5], h6, by rw [← h5]; exact hval⟩
  ·rw [if_neg hj0]; exact plain
 ·rw [List.getElem?_append_right (by simpa using Nat.le_of_not_lt h1)] at hx
  simp only [List.length_map, List.length_range] at hx
  by_cases h2 : j < func.params.size + func.nfree
  ·rw [List.getElem?_append_left (by simp; omega)] at hx
   simp only [List.getElem?_map, Option.map_eq_some_iff] at hx
   obtain ⟨k, hk, rfl⟩ := hx
   rw [List.getElem?_range (by omega)] at hk; injection hk with hk; subst hk
   simp only [Aj2, E.ev, List.drop_zero]
   have hjj : func.params.size + (j - func.params.size) = j := by omega
   rw [hjj]
   have hp : args[j]? = some args[j] := List.getElem?_eq_getElem (by omega)
   refine ⟨args[j], hp, hg.cap j _ v (by omega) hp ?_⟩
   rw [Array.getElem?_toList, Array.getElem?_append_left (by omega)] at hv
   exact hv
  ·rw [List.getElem?_append_right (by simp; omega), List.getElem?_replicate] at hx
   split at hx
   ·injection hx with hx; subst hx; simp only [Aj2]
   ·cases hx

theorem Own.mono' {B B' : Nat → Prop} {w : World} {e size n : Nat} {v : Value} {xs : List Value} (h : Own w B e size v n xs) (hb : ∀ g, Aj9 v = some g → B' g) : Own w B' e size v n xs := by
 refine ⟨h.1, ?_⟩
 rcases h.2 with h1 | ⟨g, cap, cur, h1, h2, h3, h4⟩
 ·exact .inl h1
 ·exact .inr ⟨g, cap, cur, h1, h2, hb g (by rw [h1]; simp only [Aj9, if_neg (show ¬ cap = 0 by omega)]), h4⟩
theorem Gp7 {func : Func} {e : Nat} {r : Bool} {args : List PV} {w : World} {O : Nat → Option Nat} {cargs : Array Value} {v0 : Value} {xs : List PV} {us : List Value} (hg : GivenM P e w O func.params.size args cargs v0 xs us) (hl : args.length = func.params.size + func.nfree) (ht : func.params.size + func.nfree ≤ func.ntmps) :
  Rels ⟨w, some v0⟩ O args (Bj1 P (some (e, r)) none func) (cargs ++ Array.replicate (func.ntmps - cargs.size) undef) w := by
 have hsz := hg.size
 have hpos := hg.pos
 have hmem : ∀ s b, mget (Bj1 P (some (e, r)) none func).m s = some b → s = S0 ∧ b = .arr e (Aj0 P e) (.v 0) false := by
  intro s b hs
  simp only [Bj1, mget] at hs
  split at hs
  ·rename_i h1; injection hs with hs; exact ⟨h1.symm, hs.symm⟩
  ·cases hs
 have harg : ∀ v, (cargs ++ Array.replicate (func.ntmps - cargs.size) undef)[0]? = some v → v = v0 := by
  intro v hv
  rw [Array.getElem?_append_left (by omega), hg.arg] at hv
  injection hv with hv; exact hv.symm
 refine ⟨fun _ => (Aj9 v0).getD 0, fun _ => v0, O, Bel.refl ⟨w, some v0⟩, fun _ _ _ => rfl, hg.out, ?_, fun s b hs => ?_, fun s s' b b' hs hs' hne => ?_, fun v hv _ => ?_⟩
 ·refine Aj6.mk (by simp [Bj1]; omega) fun j x v hx hv => ?_
  simp only [Bj1, Option.isSome_some, true_and] at hx
  rw [List.append_assoc] at hx
  by_cases h1 : j < func.params.size
  ·rw [List.getElem?_append_left (by simpa using h1)] at hx
   simp only [List.getElem?_map, Option.map_eq_some_iff] at hx
   obtain ⟨k, hk, rfl⟩ := hx
   rw [List.getElem?_range h1] at hk; injection hk with hk; subst hk
   by_cases hj : j = 0
   ·subst hj
    simp only [if_true, Aj2]
    exact harg v (by rw [← Array.getElem?_toList]; exact hv)
   ·simp only [if_neg hj, Aj2, E.ev]
    have hp : args[j]? = some args[j] := List.getElem?_eq_getElem (by omega)
    refine ⟨args[j], hp, hg.val j _ v (by omega) h1 hp ?_⟩
    rw [Array.getElem?_toList, Array.getElem?_append_left (by omega)] at hv
    exact hv
  ·rw [List.getElem?_append_right (by simpa using Nat.le_of_not_lt h1)] at hx
   simp only [List.length_map, List.length_range] at hx
   by_cases h2 : j < func.params.size + func.nfree
   ·rw [List.getElem?_append_left (by simp; omega)] at hx
    simp only [List.getElem?_map, Option.map_eq_some_iff] at hx
    obtain ⟨k, hk, rfl⟩ := hx
    rw [List.getElem?_range (by omega)] at hk; injection hk with hk; subst hk
    simp only [Aj2, E.ev, List.drop_zero]
    have hjj : func.params.size + (j - func.params.size) = j := by omega
    rw [hjj]
    have hp : args[j]? = some args[j] := List.getElem?_eq_getElem (by omega)
    refine ⟨args[j], hp, hg.cap j _ v (by omega) hp ?_⟩
    rw [Array.getElem?_toList, Array.getElem?_append_left (by omega)] at hv
    exact hv
   ·rw [List.getElem?_append_right (by simp; omega), List.getElem?_replicate] at hx
    split at hx
    ·injection hx with hx; subst hx; simp only [Aj2]
    ·cases hx
 ·obtain ⟨rfl, rfl⟩ := hmem s b hs
  refine ⟨hg.sz, xs, us, ?_, hg.own.mono' fun g hgb => .inr hgb, hg.el, fun g hgb => ?_⟩
  ·show (E.v 0).ev args = _
   simp only [E.ev]; exact hg.fst
  ·have hgb' : Aj9 v0 = some g := hgb
   refine ⟨?_, 0, hg.shut g hgb', Nat.zero_le _, fun _ => rfl⟩
   show g = (Aj9 v0).getD 0
   rw [hgb']; rfl
 ·obtain ⟨rfl, _⟩ := hmem s b hs
  obtain ⟨rfl, _⟩ := hmem s' b' hs'
  exact absurd rfl hne
 ·injection hv with hv
  subst hv
  rw [Array.getElem?_append_left (by omega)]
  exact hg.arg

theorem Fl6 {α : Type} {w : World} {g : α → Sem Value} : ∀ {l : List α} {us : List Value}, us.length = l.length → (∀ (j : Nat) (x : α) (u : Value), l[j]? = some x → us[j]? = some u → (g x).run P w = .ok u w) → (l.mapM g).run P w = .ok us w
 | [], us, hl, _ => by
   have : us = [] := List.eq_nil_of_length_eq_zero (by simpa using hl)
   subst this; simp
 | x :: l, [], hl, _ => by simp at hl
 | x :: l, u :: us, hl, h => by
   have h1 := h 0 x u rfl rfl
   have h2 := Fl6 (l := l) (us := us) (by simpa using hl) (fun j y v hy hv => h (j + 1) y v (by simpa using hy) (by simpa using hv))
   simp [List.mapM_cons, h1, h2]

def gR (tm : Array Value) : ResultVar → Sem Value
 | .tmp t => pure (tm.getD t undef)
 | .cell a t => do loadVar t (← asAddr (tm.getD a undef))
theorem Bd1 {func : Func} {σ : St} {η : List PV} {tm : Array Value} {w : World} {β : Nat → Nat} {hv : Nat → Value} {O : Nat → Option Nat} {svs : List SV} (h : Rel w0 Oe η σ tm w β hv O) (hs : Ah7 P σ func.results.toList = some svs) :
  ∃ us, Aj6 ⟨η, view w O, β, hv, σ.m⟩ svs us ∧ (Go.results func tm).run P w = .ok (if h : us.length = 1 then us[0] else .tuple us.toArray) w := by
 have go : ∀ {l : List ResultVar} {svs : List SV}, Ah7 P σ l = some svs → ∃ us : List Value, Aj6 ⟨η, view w O, β, hv, σ.m⟩ svs us ∧ us.length = l.length ∧ ∀ (j : Nat) (x : ResultVar) (u : Value), l[j]? = some x → us[j]? = some u →
   (gR tm x).run P w = .ok u w := by
  intro l
  induction l with
  | nil =>
    intro svs h
    simp only [Ah7, Option.some.injEq] at h; subst h
    exact ⟨[], by simp only [Aj6], rfl, fun j x u hx => by simp at hx⟩
  | cons r l ih =>
    intro svs hs
    simp only [Ah7] at hs
    split at hs
    ·rename_i x xs hx hxs
     injection hs with hs; subst hs
     obtain ⟨us, u1, u2, u3⟩ := ih hxs
     have one : ∃ u, Aj2 ⟨η, view w O, β, hv, σ.m⟩ x u ∧ (gR tm r).run P w = .ok u w := by
      cases r with
      | tmp t =>
        simp only [Kk0] at hx
        obtain ⟨u, h1, h2⟩ := h.tmps.get t x hx
        refine ⟨u, h2, ?_⟩
        rw [Array.getElem?_toList] at h1
        simp [gR, Array.getD_eq_getD_getElem?, h1]
      | cell p t =>
        simp only [Kk0] at hx
        split at hx
        ·rename_i sv hsv
         split at hx
         ·rename_i v hl
          injection hx with hx; subst hx
          obtain ⟨u0, h1, h2⟩ := h.tmps.get p sv hsv
          rw [Array.getElem?_toList] at h1
          obtain ⟨ad, u, g1, g2, g3⟩ := Hf3 (G := none) h (fun g hg => by cases hg) h2 hl (fun x hx => by simp at hx)
          subst g1
          refine ⟨u, g3, ?_⟩
          simp [gR, Array.getD_eq_getD_getElem?, h1, asAddr, g2]
         ·cases hx
        ·cases hx
     obtain ⟨u, v1, v2⟩ := one
     refine ⟨u :: us, by simp only [Aj6]; exact ⟨u, us, rfl, v1, u1⟩, by simp [u2], fun j y u' hy hu => ?_⟩
     cases j with
     | zero => simp at hy hu; subst hy; subst hu; exact v2
     | succ j => exact u3 j y u' (by simpa using hy) (by simpa using hu)
    ·cases hs
 obtain ⟨us, u1, u2, u3⟩ := go hs
 refine ⟨us, u1, ?_⟩
 have hm := Fl6 (P := P) (w := w) (g := gR tm) u2 u3
 have e : Go.results func tm = (do let vs ← List.toArray <$> func.results.toList.mapM (gR tm); pure (if h : vs.size = 1 then vs[0] else .tuple vs)) := by
  unfold Go.results
  rw [Array.mapM_eq_mapM_toList]
  have he : ∀ x, (match x with | ResultVar.tmp t => pure (tm.getD t undef) | ResultVar.cell a t => do loadVar t (← asAddr (tm.getD a undef)) : Sem Value) = gR tm x := fun x => by cases x <;> rfl
  congr
 rw [e]
 simp only [Sem.run_bind, Sem.run_map]
 rw [hm]
 simp only [Result.andThen, Sem.run_pure]
 by_cases h1 : us.length = 1
 ·rw [dif_pos h1]
  have : us.toArray.size = 1 := by simpa using h1
  simp only [this, dif_pos]; simp
 ·rw [dif_neg h1]
  have : ¬ us.toArray.size = 1 := by simpa using h1
  rw [dif_neg this]

theorem Dr4 {func : Func} {σ : St} {η : List PV} {tm : Array Value} {w : World} {β : Nat → Nat} {hv : Nat → Value} {O : Nat → Option Nat} {cs : List SV} (h : Rel w0 Oe η σ tm w β hv O) {svs : List SV} (hsv : Ah7 P σ func.results.toList = some svs) (hs : Bj5 P σ func.results.toList = some cs) :
  ∃ vs : Array Value, (Go.results func tm).run P w = .ok (.agg vs) w ∧ Aj6 ⟨η, view w O, β, hv, σ.m⟩ cs vs.toList := by
 have e : ∀ x : ResultVar, func.results.toList = [x] → ∀ v, (gR tm x).run P w = .ok v w → (Go.results func tm).run P w = .ok v w := by
  intro x hx v hv1
  have e : Go.results func tm = (do let vs ← List.toArray <$> func.results.toList.mapM (gR tm); pure (if h : vs.size = 1 then vs[0] else .tuple vs)) := by
   unfold Go.results
   rw [Array.mapM_eq_mapM_toList]
   have he : ∀ x, (match x with | ResultVar.tmp t => pure (tm.getD t undef) | ResultVar.cell a t => do loadVar t (← asAddr (tm.getD a undef)) : Sem Value) = gR tm x := fun x => by cases x <;> rfl
   congr
  rw [e, hx]
  simp [List.mapM_cons, hv1, Result.andThen]
 unfold Bj5 at hs
 split at hs
 ·rename_i p t hr
  split at hs
  ·rename_i hag
   split at hs
   ·rename_i s off hp
    split at hs
    ·rename_i cs0 ro hb
     injection hs with hs
     subst hs
     obtain ⟨_, _, vs, T, g3, g4, g5, _⟩ := h.mem s _ hb
     obtain ⟨u0, h1, h2⟩ := h.tmps.get p _ hp
     rw [Array.getElem?_toList] at h1
     simp only [Aj2] at h2
     subst h2
     have hle : off + Aj0 P t ≤ cs0.length := by
      rw [hr] at hsv
      simp only [Ah7, Kk0, hp] at hsv
      unfold Bk0 at hsv
      by_cases hle : off + Aj0 P t ≤ cs0.length
      ·exact hle
      ·simp only [hb, hag, if_true, if_neg hle] at hsv
       split at hsv
       ·rename_i hx _
        split at hx
        ·rename_i hl
         split at hl <;> cases hl
        ·cases hx
       ·cases hsv
     have hlen := g5.length
     refine ⟨((vs.toList.drop off).take (Aj0 P t)).toArray, e _ hr _ ?_, ?_⟩
     ·have := Ah0 (P := P) w (a := ⟨β s, off, none⟩) (us := (vs.toList.drop off).take (Aj0 P t)) hag (by simp at hlen ⊢; omega) fun j u hu => by
       rw [List.getElem?_take] at hu
       split at hu
       ·rw [List.getElem?_drop, Array.getElem?_toList] at hu
        rw [Az0, cell_of_row w (β s) (off + j) vs T (0, 0) g3]; exact hu
       ·cases hu
      simp [gR, Array.getD_eq_getD_getElem?, h1, asAddr, this]
     ·refine Aj6.mk (by simp [hlen]) fun j y u hy hu => ?_
      rw [List.getElem?_take] at hy
      split at hy
      ·rename_i hj
       have hu' : ((vs.toList.drop off).take (Aj0 P t))[j]? = some u := by simpa using hu
       rw [List.getElem?_take, if_pos hj] at hu'
       rw [List.getElem?_drop] at hy hu'
       obtain ⟨u', hu2, hr'⟩ := g5.get _ y hy
       rw [hu'] at hu2; injection hu2 with hu2; subst hu2; exact hr'
      ·cases hy
    ·cases hs
   ·cases hs
  ·cases hs
 ·rename_i t hr
  split at hs
  ·rename_i cs0 hp
   injection hs with hs
   subst hs
   obtain ⟨u0, h1, h2⟩ := h.tmps.get t _ hp
   rw [Array.getElem?_toList] at h1
   simp only [Aj2] at h2
   obtain ⟨vs, rfl, _, h3⟩ := h2
   exact ⟨vs, e _ hr _ (by simp [gR, Array.getD_eq_getD_getElem?, h1]), h3⟩
  ·cases hs
 ·cases hs
theorem Dn3 (hC : Contract P sig fn) {f : Nat} (hmu : muOf (sig f) = none) {func : Func} {H : Hints} {t : T} {args rs : List PV} (hf : P.funcs[f]? = some func) (hx : xfun P sig f func H = some t) (hev : t.ev fn N args = some (.ret rs)) (hl : args.length = func.params.size + func.nfree) {w : World} {O : Nat → Option Nat} {cargs : Array Value} (hg : Given w O func.params.size args cargs) (hfa : ∀ e, faOf (sig f) = some e → ∃ xs b, args[0]? = some (.l (Aj0 P e) xs) ∧ cargs[0]? = some (.slice b xs.length xs.length)) :
  Calls P f cargs w fun e w' => ∃ v, e = .returned v ∧ Back P (sig f) w O rs v w' := by
 unfold xfun at hx
 split at hx
 ·rename_i c hb
  split at hx
  ·rename_i ht
   rw [hmu] at hx
   simp only [Option.isSome_none, Bool.false_eq_true, false_and, if_false] at hx
   refine calls_of_wp hf hb ?_
   refine Bv1 hC c 0 0 (Bj1 P none (faOf (sig f)) func) _ t args (.ret rs) _ w _ hx hev (by rw [hl]; rfl) (Jt4 hg hl ht hfa) ?_
   intro x σ' T' η' ζ a' w' h1 h2 h3 h4 h5 h6
   have main : ∀ svs, Ah7 P σ' func.results.toList = some svs → (match rkOf (sig f) with
     | .own e => By8 P σ' e svs
     | .full nl m => match Bj5 P σ' func.results.toList with
       | some cs => if Fl5 nl m cs then (toEs σ'.m svs).map fun r => .ret r.1 else none
       | none => none
     | .plain => (toEs σ'.m svs).map fun r => .ret r.1) = some T' → ∃ v, (Go.results func a'.tmps).run P w' = .ok v w' ∧ Back P (sig f) w O rs v w' := by
    intro svs hs hT
    obtain ⟨β, hv, O', rel⟩ := h5
    obtain ⟨us, u1, u2⟩ := Bd1 rel hs
    refine ⟨_, u2, rel.bel.below rfl, ?_⟩
    have plainly : ((toEs σ'.m svs).map fun r => T.ret r.1) = some T' → ∃ O'', (∀ c, c < w.heap.size → O'' c = O c) ∧ (∀ c, w'.heap.size ≤ c → O'' c = none) ∧ An1 (view w' O'') rs (if h : us.length = 1 then us[0] else .tuple us.toArray) := by
     intro hT
     obtain ⟨⟨es, ss⟩, he, rfl⟩ := Option.map_eq_some_iff.1 hT
     obtain ⟨O'', hrel, hM, hop, _⟩ := rel.frz ss (n := 0)
     obtain ⟨ps, q1, q2, q3⟩ := Bv0 rel hM he u1 (fun s hs => hop s (by simpa using hs))
     simp only [T.ev, Option.map_eq_some_iff] at h2
     obtain ⟨vs, hvs, hret⟩ := h2
     injection hret with hret
     subst hret
     rw [q1] at hvs; injection hvs with hvs; subst hvs
     refine ⟨O'', fun c hc => hrel.ext c hc (by simp [Fr.x]), hrel.out, ?_⟩
     show An1 (view w' O'') ps _
     match ps, us, q2, q3 with
     | [p], [u], _, q3 => exact q3 0 p u rfl rfl
     | [], [], _, _ => exact ⟨#[], by simp, rfl, fun j p u hp => by simp at hp⟩
     | p :: p' :: ps, u :: u' :: us, q2, q3 =>
       have : ¬ (u :: u' :: us).length = 1 := by simp
       rw [dif_neg this]
       exact ⟨_, rfl, by simpa using q2.symm, fun j p v hp hv => q3 j p v hp (by simpa using hv)⟩
     | [], _ :: _, q2, _ => simp at q2
     | _ :: _, [], q2, _ => simp at q2
     | [_], _ :: _ :: _, q2, _ => simp at q2
     | _ :: _ :: _, [_], q2, _ => simp at q2
    cases hsig : rkOf (sig f) with
    | plain =>
      rw [hsig] at hT
      exact plainly hT
    | full nl m =>
      rw [hsig] at hT
      simp only at hT
      split at hT
      ·rename_i cs hcs
       split at hT
       ·rename_i hmask
        obtain ⟨O'', g1, g2, g3⟩ := plainly hT
        refine ⟨O'', g1, g2, g3, ?_⟩
        have hagg : ∃ vs : Array Value, (Go.results func a'.tmps).run P w' = .ok (.agg vs) w' ∧ Aj6 ⟨η', view w' O', β, hv, σ'.m⟩ cs vs.toList := Dr4 rel hs hcs
        obtain ⟨vs, hrun, hcells⟩ := hagg
        rw [u2] at hrun
        injection hrun with hrun _
        rw [hrun]
        intro j hj
        simp only [Fl5, Bool.and_eq_true, decide_eq_true_eq, List.all_eq_true, List.mem_range, Bool.or_eq_true, Bool.not_eq_true'] at hmask
        have hjl : j < cs.length := by
         rcases Nat.lt_or_ge j cs.length with h | h
         ·exact h
         ·have := Nat.testBit_lt_two_pow (Nat.lt_of_lt_of_le hmask.1 (Nat.pow_le_pow_right (by omega) h))
          rw [this] at hj; cases hj
        have hcj : cs[j]? = some cs[j] := List.getElem?_eq_getElem hjl
        obtain ⟨u, hu, hru⟩ := hcells.get j _ hcj
        rw [Array.getElem?_toList] at hu
        have hnr := (hmask.2 j hjl).resolve_left (by rw [hj]; simp)
        have hgd : cs.getD j .und = cs[j] := by simp [List.getD_eq_getElem?_getD, hcj]
        rw [hgd] at hnr
        generalize cs[j] = x at hru hnr
        cases x with
        | nil sz =>
          simp only [Aj2] at hru
          exact ⟨vs, none, 0, rfl, by rw [hu, hru], fun _ => ⟨rfl, rfl⟩⟩
        | lit sz y =>
          simp only [Aj2] at hru
          obtain ⟨xs, b, _, h5, _⟩ := hru
          refine ⟨vs, b, xs.length, rfl, by rw [hu, h5], fun hn => ?_⟩
          rw [hn] at hnr
          simp [SV.noRoom] at hnr
        | _ => simp [SV.noRoom] at hnr
       ·cases hT
      ·cases hT
    | own e =>
      rw [hsig] at hT
      simp only at hT
      refine ⟨O', fun c hc => rel.ext c hc (by simp [Fr.x]), rel.out, ?_⟩
      unfold By8 at hT
      split at hT
      ·rename_i s
       split at hT
       ·rename_i e' sz x hb'
        split at hT
        ·rename_i hcond
         obtain ⟨rfl, rfl⟩ := hcond
         injection hT with hT
         subst hT
         obtain ⟨q0, xs, cs, q1, q2, q3, q4⟩ := rel.mem s _ hb'
         have q1' : x.ev η' = some (.l (Aj0 P e') xs) := q1
         simp only [T.ev, E.evs, q1', Option.bind_some, Option.map_some, Option.some.injEq, Out.ret.injEq] at h2
         simp only [Aj6, Aj2] at u1
         obtain ⟨v, r, rfl, hv1, rfl⟩ := u1
         refine ⟨q0, xs, cs, h2.symm, ?_, q3, fun g hg' => ?_⟩
         ·show Own w' (From w.heap.size) e' (Aj0 P e') v xs.length cs
          rw [hv1]
          refine q2.mono fun g hg => ?_
          rcases hg with hg | hg
          ·exact hg
          ·simp [Fr.x] at hg
         ·have hg2 : Aj9 v = some g := hg'
          rw [hv1] at hg2
          obtain ⟨_, lim, h7, _, h8⟩ := q4 g hg2
          rw [h7, h8 rfl]
        ·cases hT
       ·cases hT
      ·rename_i sz
       split at hT
       ·rename_i hcond
        obtain ⟨rfl, h0⟩ := hcond
        injection hT with hT
        subst hT
        simp only [T.ev, E.evs, E.ev, Option.bind_some, Option.map_some, Option.some.injEq, Out.ret.injEq] at h2
        simp only [Aj6, Aj2] at u1
        obtain ⟨v, r, rfl, hv1, rfl⟩ := u1
        refine ⟨h0, [], [], h2.symm, ?_, fun i x hx => by simp at hx, fun g hg' => ?_⟩
        ·show Own w' (From w.heap.size) e (Aj0 P e) v 0 []
         rw [hv1]
         exact ⟨by simp, .inl ⟨none, rfl, rfl⟩⟩
        ·have hg2 : Aj9 v = some g := hg'
         rw [hv1] at hg2
         simp [Aj9] at hg2
       ·cases hT
      ·rename_i sz x
       split at hT
       ·rename_i hcond
        obtain ⟨rfl, h0⟩ := hcond
        injection hT with hT
        subst hT
        simp only [Aj6, Aj2] at u1
        obtain ⟨v, r, rfl, hv1, rfl⟩ := u1
        obtain ⟨xs, b, hxe, hvb, _⟩ := hv1
        have hxe' : x.ev η' = some (.l (Aj0 P e) xs) := hxe
        simp only [T.ev, W.ev, asrt, E.ev, E.evs, hxe', Az6, X.bin, Aw5, Option.bind_some, if_true] at h2
        have hx0 : xs = [] := by
         by_cases hx0 : xs = []
         ·exact hx0
         ·have hl : ((xs.length : Int) == 0) = false := by
           have := List.length_pos_iff.2 hx0
           simp; omega
          rw [hl] at h2
          simp [PV.scal] at h2
        subst hx0
        simp only [List.length_nil] at h2
        have hrs : [PV.l (Aj0 P e) []] = rs := by simpa using h2
        refine ⟨h0, [], [], hrs.symm, ?_, fun i x hx => by simp at hx, fun g hg' => ?_⟩
        ·show Own w' (From w.heap.size) e (Aj0 P e) v 0 []
         rw [hvb]
         exact ⟨by simp, .inl ⟨b, rfl, rfl⟩⟩
        ·have hg2 : Aj9 v = some g := hg'
         rw [hvb] at hg2
         cases b <;> simp [Aj9] at hg2
       ·cases hT
      ·cases hT
   unfold Lq8 at h1
   simp only [hmu] at h1
   have fin : ∀ svs, Ah7 P σ' func.results.toList = some svs → (match rkOf (sig f) with
     | .own e => By8 P σ' e svs
     | .full nl m => match Bj5 P σ' func.results.toList with
       | some cs => if Fl5 nl m cs then (toEs σ'.m svs).map fun r => .ret r.1 else none
       | none => none
     | .plain => (toEs σ'.m svs).map fun r => .ret r.1) = some T' → a'.defers = [] ∧ ∃ v, (Go.results func a'.tmps).run P w' = .ok v w' ∧ ∃ v', Ending.returned v = .returned v' ∧ Back P (sig f) w O rs v' w' := by
    intro svs hs hT
    obtain ⟨v, k1, k2⟩ := main svs hs hT
    exact ⟨h6, v, k1, v, rfl, k2⟩
   cases x with
   | exit b => simp at h1
   | normal =>
     simp only at h1
     split at h1
     ·rename_i svs hs
      exact fin svs hs h1
     ·cases h1
   | ret =>
     simp only at h1
     split at h1
     ·rename_i svs hs
      exact fin svs hs h1
     ·cases h1
  ·cases hx
 ·cases hx

theorem Jr0 (hC : Contract P sig fn) {f e : Nat} {r : Bool} (hmu : muOf (sig f) = some (e, r)) {func : Func} {H : Hints} {t : T} {args rs : List PV} (hf : P.funcs[f]? = some func) (hx : xfun P sig f func H = some t) (hev : t.ev fn N args = some (.ret rs)) (hl : args.length = func.params.size + func.nfree) {w : World} {O : Nat → Option Nat} {cargs : Array Value} {v0 : Value} {xs : List PV} {us : List Value} (hg : GivenM P e w O func.params.size args cargs v0 xs us) :
  Calls P f cargs w fun en w' => ∃ v, en = .returned v ∧ Gl7 P e r v0 w O rs v w' := by
 unfold xfun at hx
 split at hx
 ·rename_i c hb
  split at hx
  ·rename_i ht
   rw [hmu, Hm5 hmu] at hx
   have hpos := hg.pos
   have hnp : ¬ ((some (e, r) : Option (Nat × Bool)).isSome = true ∧ func.params.size = 0) := fun h => by omega
   rw [if_neg hnp] at hx
   refine calls_of_wp hf hb ?_
   refine Bv1 hC c 0 0 (Bj1 P (some (e, r)) none func) _ t args (.ret rs) _ w _ hx hev (by rw [hl]; rfl) (Gp7 hg hl ht) ?_
   intro x σ' T' η' ζ a' w' h1 h2 h3 h4 h5 h6
   have main : ∀ svs, Ah7 P σ' func.results.toList = some svs → Fl8 P σ' e r svs = some T' → ∃ v, (Go.results func a'.tmps).run P w' = .ok v w' ∧ Gl7 P e r v0 w O rs v w' := by
    intro svs hs hT
    obtain ⟨β, hv, O', rel⟩ := h5
    obtain ⟨us1, u1, u2⟩ := Bd1 rel hs
    refine ⟨_, u2, rel.bel, O', fun c hc hx => rel.ext c hc hx, rel.out, ?_⟩
    unfold Fl8 at hT
    split at hT
    ·rename_i s hsel
     split at hT
     ·rename_i e' sz x hb'
      split at hT
      ·rename_i hcond
       obtain ⟨rfl, rfl⟩ := hcond
       injection hT with hT
       subst hT
       obtain ⟨q0, ys, cs, q1, q2, q3, q4⟩ := rel.mem s _ hb'
       have q1' : x.ev η' = some (.l (Aj0 P e') ys) := q1
       simp only [T.ev, E.evs, q1', Option.bind_some, Option.map_some, Option.some.injEq, Out.ret.injEq] at h2
       refine ⟨ys, cs, h2.symm, q3, fun hr => ?_, fun hr => ?_⟩
       ·subst hr
        simp only [if_true] at hsel
        split at hsel
        ·rename_i s'
         injection hsel with hsel
         subst hsel
         simp only [Aj6, Aj2] at u1
         obtain ⟨v, r1, rfl, hv1, rfl⟩ := u1
         refine ⟨?_, fun g hg' => ?_⟩
         ·show Own w' _ e' (Aj0 P e') v ys.length cs
          rw [hv1]; exact q2
         ·have hg2 : Aj9 v = some g := hg'
          rw [hv1] at hg2
          obtain ⟨_, lim, h7, _, h8⟩ := q4 g hg2
          rw [h7, h8 rfl]
        ·cases hsel
       ·subst hr
        simp only [Bool.false_eq_true, if_false] at hsel
        split at hsel
        ·rename_i s' ht0
         split at hsel
         ·rename_i hs0
          injection hsel with hsel
          subst hsel
          subst hs0
          have hvs : hv S0 = v0 := by
           have g1 := rel.t0 v0 rfl ht0
           obtain ⟨v, g2, g3⟩ := rel.tmps.get 0 _ ht0
           rw [Array.getElem?_toList, g1] at g2
           injection g2 with g2
           simp only [Aj2] at g3
           rw [← g3, g2]
          simp only [Aj6] at u1
          subst u1
          refine ⟨rfl, ?_, fun g hg' => ?_⟩
          ·have := q2.mono (B' := fun _ => True) fun _ _ => trivial
           show Own w' _ e' (Aj0 P e') v0 ys.length cs
           rw [← hvs]; exact this
          ·have hg2 : Aj9 (hv S0) = some g := by rw [hvs]; exact hg'
           obtain ⟨_, lim, h7, _, h8⟩ := q4 g hg2
           rw [h7, h8 rfl]
         ·cases hsel
        ·cases hsel
      ·cases hT
     ·cases hT
    ·cases hT
   unfold Lq8 at h1
   simp only [hmu] at h1
   have fin : ∀ svs, Ah7 P σ' func.results.toList = some svs → Fl8 P σ' e r svs = some T' → a'.defers = [] ∧ ∃ v, (Go.results func a'.tmps).run P w' = .ok v w' ∧ ∃ v', Ending.returned v = .returned v' ∧ Gl7 P e r v0 w O rs v' w' := by
    intro svs hs hT
    obtain ⟨v, k1, k2⟩ := main svs hs hT
    exact ⟨h6, v, k1, v, rfl, k2⟩
   cases x with
   | exit b => simp at h1
   | normal =>
     simp only at h1
     split at h1
     ·rename_i svs hs
      exact fin svs hs h1
     ·cases h1
   | ret =>
     simp only at h1
     split at h1
     ·rename_i svs hs
      exact fin svs hs h1
     ·cases h1
  ·cases hx
 ·cases hx

def Jm7 (sig : Nat → Option Nat) (f : Nat) (func : Func) : Nat := func.params.size + if (muOf (sig f)).isSome || (faOf (sig f)).isSome then TAG else 0
def Tab (P : Program) (sig : Nat → Option Nat) (tab : Nat → Option FT) : Prop :=
 (∀ f ft, tab f = some ft → ∃ func H, P.funcs[f]? = some func ∧ (func.name == "runtime.NumGoroutine") = false ∧ Jm7 sig f func = ft.np ∧ func.params.size < TAG ∧ func.nfree = ft.nf ∧ ∃ t, xfun P sig f func H = some t ∧ t.slim = ft.t) ∧ Blds P sig

theorem Bz9 {f : Nat} {func : Func} {H : Hints} {t : T} (hx : xfun P sig f func H = some t) : func.body.isSome = true := by
 unfold xfun at hx
 split at hx
 ·rename_i h; rw [h]; rfl
 ·cases hx

theorem Gs1 {tab : Nat → Option FT} {ext : Fns → Fns} (hT : Tab P sig tab) (hE : ∀ fn, Contract P sig fn → Contract P sig (ext fn)) : ∀ k, Contract P sig (runF tab ext k)
 | 0 => ⟨fun f n vs rs h => by simp [runF] at h, hT.2⟩
 | k + 1 => by
  refine ⟨fun f n vs rs h => ?_, hT.2⟩
  ·
   have ih := Gs1 hT hE k
   simp only [runF] at h
   split at h
   ·rename_i ft hft
    split at h
    ·rename_i hc
     obtain ⟨o, ho, h⟩ := Option.bind_eq_some_iff.1 h
     split at h
     ·rename_i vs'
      injection h with h; subst h
      obtain ⟨func, H, hf, hn, hp, hlt, hnf, t0, hx, hs⟩ := hT.1 f ft hft
      rw [← hs, Ay3] at ho
      obtain ⟨hc1, hc2⟩ := hc
      unfold Jm7 at hp
      refine ⟨fun hn1 w O args hg => ?_, fun hn1 => ?_⟩
      ·have hno : ((muOf (sig f)).isSome || (faOf (sig f)).isSome) = false := by
        cases hb : ((muOf (sig f)).isSome || (faOf (sig f)).isSome) with
        | false => rfl
        | true =>
          rw [hb] at hp
          simp only [if_true] at hp
          omega
       rw [hno] at hp
       simp only [Bool.false_eq_true, if_false, Nat.add_zero] at hp
       simp only [Bool.or_eq_false_iff, Option.isSome_eq_false_iff, Option.isNone_iff_eq_none] at hno
       obtain ⟨hmu, hfa⟩ := hno
       refine Ab1.of_calls hf hn (Bz9 hx) ?_
       refine Dn3 ih hmu hf hx ho ?_ (by rw [hp, hc1]; exact hg) (fun e he => by rw [hfa] at he; cases he)
       rw [hc2, ← hp, Nat.mod_eq_of_lt hlt, hnf]
      ·have hyes : ((muOf (sig f)).isSome || (faOf (sig f)).isSome) = true := by
        cases hb : ((muOf (sig f)).isSome || (faOf (sig f)).isSome) with
        | true => rfl
        | false =>
          rw [hb] at hp
          simp only [Bool.false_eq_true, if_false] at hp
          omega
       rw [hyes] at hp
       simp only [if_true] at hp
       have e1 : n - TAG = func.params.size := by omega
       have e2 : (func.params.size + TAG) % TAG = func.params.size := by rw [Nat.add_mod_right]; exact Nat.mod_eq_of_lt hlt
       cases hmu : muOf (sig f) with
       | some er =>
         obtain ⟨e, r⟩ := er
         refine .inl ⟨e, r, rfl, fun w O args v0 xs us hg => ?_⟩
         refine Ab1.of_calls hf hn (Bz9 hx) ?_
         rw [e1] at hg
         refine Jr0 ih hmu hf hx ho ?_ hg
         rw [hc2, ← hp, e2, hnf]
       | none =>
         rw [hmu] at hyes
         simp only [Option.isSome_none, Bool.false_or] at hyes
         obtain ⟨e, hfa⟩ := Option.isSome_iff_exists.1 hyes
         refine .inr ⟨e, hfa, fun w O args b xs hg h0 h5 => ?_⟩
         refine Ab1.of_calls hf hn (Bz9 hx) ?_
         rw [e1] at hg
         refine Dn3 ih hmu hf hx ho ?_ hg (fun e' he => ?_)
         ·rw [hc2, ← hp, e2, hnf]
         ·rw [hfa] at he
          injection he with he
          subst he
          exact ⟨xs, b, h0, h5⟩
     ·cases h
    ·cases h
   ·exact (hE _ ih).says f n vs rs h
end
end Go.X
/- The functions of a table without fuel. -/
namespace Go.X
open Go

def Fle (fn fn' : Fns) : Prop := ∀ f n vs rs, fn f n vs = some rs → fn' f n vs = some rs
theorem Fle.refl (fn : Fns) : Fle fn fn := fun _ _ _ _ h => h
theorem Fle.trans {a b c : Fns} (h : Fle a b) (h' : Fle b c) : Fle a c := fun f n vs rs e => h' f n vs rs (h f n vs rs e)

theorem Bv4 {flat : Bool} {m : Nat} {η η' : List PV} {r r' : Option (List PV)} (hr : ∀ rs, r = some rs → r' = some rs) (h : results flat m η r = some η') : results flat m η r' = some η' := by
 unfold results at h ⊢
 obtain ⟨rs, h1, h2⟩ := Option.bind_eq_some_iff.1 h
 rw [hr rs h1]; exact h2
theorem Cq1 {η η' : List PV} {m : Nat} {g : Option E} {r r' : Option (List PV)} (hr : ∀ x, r = some x → r' = some x) (h : Av7 η m g r = some η') : Av7 η m g r' = some η' := by
 unfold Av7 at h ⊢
 split at h
 ·exact hr _ h
 ·obtain ⟨v, h1, h2⟩ := Option.bind_eq_some_iff.1 h
  rw [h1]
  simp only [Option.bind_some]
  split at h2
  ·exact hr _ h2
  ·exact h2
  ·cases h2
theorem W.ev_le {fn fn' : Fns} (hf : Fle fn fn') {η η' : List PV} : ∀ {x : W}, x.ev fn η = some η' → x.ev fn' η = some η'
 | .chk x, h => h
 | .call g flat f ar m, h => by
   simp only [W.ev] at h ⊢
   refine Cq1 (fun x hx => ?_) h
   obtain ⟨vs, h1, h2⟩ := Option.bind_eq_some_iff.1 hx
   rw [h1]
   exact Bv4 (fun rs hr => hf _ _ _ _ hr) h2
 | .clo g flat c ar m, h => by
   simp only [W.ev] at h ⊢
   refine Cq1 (fun x hx => ?_) h
   obtain ⟨q, h0, hx⟩ := Option.bind_eq_some_iff.1 hx
   obtain ⟨vs, h1, h2⟩ := Option.bind_eq_some_iff.1 hx
   rw [h0]
   simp only [Option.bind_some]
   rw [h1]
   simp only [Option.bind_some]
   split at h2
   ·exact Bv4 (fun rs hr => hf _ _ _ _ hr) h2
   ·cases h2
 | .mcall f ar, h => by
   simp only [W.ev] at h ⊢
   obtain ⟨vs, h1, h2⟩ := Option.bind_eq_some_iff.1 h
   rw [h1]
   exact Bv4 (fun rs hr => hf _ _ _ _ hr) h2
theorem Bc8 {s s' : List PV → Option Out} (hs : ∀ vs o, s vs = some o → s' vs = some o) {id : Nat} : ∀ {n n' : Nat} {st : List PV} {o : Out}, n ≤ n' → Ax2 s id n st = some o → Ax2 s' id n' st = some o
 | 0, _, _, _, _, h => by simp [Ax2] at h
 | n + 1, 0, _, _, hn, _ => by omega
 | n + 1, n' + 1, st, o, hn, h => by
   simp only [Ax2] at h ⊢
   obtain ⟨o1, h1, h2⟩ := Option.bind_eq_some_iff.1 h
   rw [hs _ _ h1]
   simp only [Option.bind_some]
   split at h2
   ·split at h2
    ·rename_i hj
     rw [if_pos hj]
     exact Bc8 hs (by omega) h2
    ·rename_i hj
     rw [if_neg hj]; exact h2
   ·exact h2
theorem T.ev_le {fn fn' : Fns} (hf : Fle fn fn') {N N' : Nat} (hN : N ≤ N') : ∀ {t : T} {η : List PV} {o : Out}, t.ev fn N η = some o → t.ev fn' N' η = some o
 | .w x k, η, o, h => by
   simp only [T.ev] at h ⊢
   obtain ⟨η', h1, h2⟩ := Option.bind_eq_some_iff.1 h
   rw [W.ev_le hf h1]
   exact T.ev_le hf hN h2
 | .ite c t e, η, o, h => by
   simp only [T.ev] at h ⊢
   obtain ⟨r, h1, h2⟩ := Option.bind_eq_some_iff.1 h
   rw [h1]
   simp only [Option.bind_some]
   split at h2
   ·exact T.ev_le hf hN h2
   ·exact T.ev_le hf hN h2
   ·cases h2
 | .ret es, η, o, h => h
 | .yld id es, η, o, h => h
 | .blk id body k, η, o, h => by
   simp only [T.ev] at h ⊢
   obtain ⟨o1, h1, h2⟩ := Option.bind_eq_some_iff.1 h
   rw [T.ev_le hf hN h1]
   simp only [Option.bind_some]
   split at h2
   ·split at h2
    ·rename_i hj; rw [if_pos hj]; exact T.ev_le hf hN h2
    ·rename_i hj; rw [if_neg hj]; exact h2
   ·exact h2
 | .loop id init body, η, o, h => by
   simp only [T.ev] at h ⊢
   obtain ⟨st, h1, h2⟩ := Option.bind_eq_some_iff.1 h
   rw [h1]
   exact Bc8 (fun vs o ho => T.ev_le hf hN ho) hN h2

def Ab4 (ext : Fns → Fns) : Prop := ∀ fn fn', Fle fn fn' → Fle (ext fn) (ext fn')
section
variable {tab : Nat → Option FT} {ext : Fns → Fns}
theorem Dz8 (hE : Ab4 ext) : ∀ k, Fle (runF tab ext k) (runF tab ext (k + 1))
 | 0 => fun f n vs rs h => by simp [runF] at h
 | k + 1 => fun f n vs rs h => by
   have ih := Dz8 hE k
   rw [runF] at h ⊢
   cases ht : tab f with
   | none => simp only [ht] at h ⊢; exact hE _ _ ih _ _ _ _ h
   | some t =>
     simp only [ht] at h ⊢
     split at h
     ·rename_i hc
      rw [if_pos hc]
      obtain ⟨o, h1, h2⟩ := Option.bind_eq_some_iff.1 h
      rw [T.ev_le ih (Nat.le_succ k) h1]
      exact h2
     ·cases h
theorem Ay4 (hE : Ab4 ext) {k k' : Nat} (h : k ≤ k') : Fle (runF tab ext k) (runF tab ext k') := by
 induction h with
 | refl => exact Fle.refl _
 | step _ ih => exact ih.trans (Dz8 hE _)

open Classical in
noncomputable def sem (tab : Nat → Option FT) (ext : Fns → Fns) : Fns := fun f n args =>
 if h : ∃ rs k, runF tab ext k f n args = some rs then some h.choose else none
theorem As3 (hE : Ab4 ext) {f n : Nat} {args rs : List PV} : sem tab ext f n args = some rs ↔ ∃ k, runF tab ext k f n args = some rs := by
 unfold sem
 constructor
 ·intro h
  split at h
  ·rename_i hex
   injection h with h
   subst h
   exact hex.choose_spec
  ·cases h
 ·rintro ⟨k, hk⟩
  have hex : ∃ rs k, runF tab ext k f n args = some rs := ⟨rs, k, hk⟩
  rw [dif_pos hex]
  obtain ⟨k', hk'⟩ := hex.choose_spec
  have h1 := Ay4 hE (Nat.le_max_left k k') _ _ _ _ hk
  have h2 := Ay4 hE (Nat.le_max_right k k') _ _ _ _ hk'
  rw [h1] at h2
  exact h2.symm
theorem W.ev_cont (hE : Ab4 ext) {η η' : List PV} : ∀ {x : W}, x.ev (sem tab ext) η = some η' → ∃ k, x.ev (runF tab ext k) η = some η' := by
 have res : ∀ {flat : Bool} {m f n : Nat} {vs : List PV}, results flat m η (sem tab ext f n vs) = some η' → ∃ k, results flat m η (runF tab ext k f n vs) = some η' := by
  intro flat m f n vs h
  unfold results at h
  obtain ⟨rs, h1, h2⟩ := Option.bind_eq_some_iff.1 h
  obtain ⟨k, hk⟩ := (As3 hE).1 h1
  exact ⟨k, by unfold results; rw [hk]; exact h2⟩
 intro x h
 cases x with
 | chk x => exact ⟨0, h⟩
 | call g flat f ar m =>
   simp only [W.ev] at h ⊢
   unfold Av7 at h ⊢
   split at h
   ·obtain ⟨vs, h1, h2⟩ := Option.bind_eq_some_iff.1 h
    obtain ⟨k, hk⟩ := res h2
    exact ⟨k, by rw [h1]; exact hk⟩
   ·obtain ⟨v, h0, h⟩ := Option.bind_eq_some_iff.1 h
    split at h
    ·obtain ⟨vs, h1, h2⟩ := Option.bind_eq_some_iff.1 h
     obtain ⟨k, hk⟩ := res h2
     exact ⟨k, by rw [h0]; simp only [Option.bind_some]; rw [h1]; exact hk⟩
    ·exact ⟨0, by rw [h0]; exact h⟩
    ·cases h
 | clo g flat c ar m =>
   have body : ((c.ev η).bind fun q => (E.evs η ar).bind fun vs => match q with | .f f caps => results flat m η (sem tab ext f vs.length (vs ++ caps)) | _ => none) = some η' → ∃ k, ((c.ev η).bind fun q => (E.evs η ar).bind fun vs => match q with | .f f caps => results flat m η (runF tab ext k f vs.length (vs ++ caps)) | _ => none) = some η' := by
    intro hh
    obtain ⟨q, h0, hh⟩ := Option.bind_eq_some_iff.1 hh
    obtain ⟨vs, h1, hh⟩ := Option.bind_eq_some_iff.1 hh
    cases q with
    | f f caps =>
      obtain ⟨k, hk⟩ := res hh
      exact ⟨k, by rw [h0]; simp only [Option.bind_some]; rw [h1]; exact hk⟩
    | _ => simp at hh
   simp only [W.ev] at h ⊢
   unfold Av7 at h ⊢
   split at h
   ·exact body h
   ·obtain ⟨v, h0, h⟩ := Option.bind_eq_some_iff.1 h
    split at h
    ·obtain ⟨k, hk⟩ := body h
     exact ⟨k, by rw [h0]; exact hk⟩
    ·exact ⟨0, by rw [h0]; exact h⟩
    ·cases h
 | mcall f ar =>
   simp only [W.ev] at h ⊢
   obtain ⟨vs, h1, h2⟩ := Option.bind_eq_some_iff.1 h
   obtain ⟨k, hk⟩ := res h2
   exact ⟨k, by rw [h1]; exact hk⟩

theorem T.ev_cont (hE : Ab4 ext) {N : Nat} : ∀ {t : T} {η : List PV} {o : Out}, t.ev (sem tab ext) N η = some o → ∃ k, t.ev (runF tab ext k) N η = some o
 | .w x t, η, o, h => by
   simp only [T.ev] at h ⊢
   obtain ⟨η', h1, h2⟩ := Option.bind_eq_some_iff.1 h
   obtain ⟨k1, g1⟩ := W.ev_cont hE h1
   obtain ⟨k2, g2⟩ := T.ev_cont hE h2
   refine ⟨max k1 k2, ?_⟩
   rw [W.ev_le (Ay4 hE (Nat.le_max_left k1 k2)) g1]
   exact T.ev_le (Ay4 hE (Nat.le_max_right k1 k2)) (Nat.le_refl _) g2
 | .ite c t e, η, o, h => by
   simp only [T.ev] at h ⊢
   obtain ⟨r, h1, h2⟩ := Option.bind_eq_some_iff.1 h
   split at h2
   ·obtain ⟨k, g⟩ := T.ev_cont hE h2; exact ⟨k, by rw [h1]; exact g⟩
   ·obtain ⟨k, g⟩ := T.ev_cont hE h2; exact ⟨k, by rw [h1]; exact g⟩
   ·cases h2
 | .ret es, η, o, h => ⟨0, h⟩
 | .yld id es, η, o, h => ⟨0, h⟩
 | .blk id body t, η, o, h => by
   simp only [T.ev] at h ⊢
   obtain ⟨o1, h1, h2⟩ := Option.bind_eq_some_iff.1 h
   obtain ⟨k1, g1⟩ := T.ev_cont hE h1
   split at h2
   ·split at h2
    ·rename_i hj
     obtain ⟨k2, g2⟩ := T.ev_cont hE h2
     refine ⟨max k1 k2, ?_⟩
     rw [T.ev_le (Ay4 hE (Nat.le_max_left k1 k2)) (Nat.le_refl _) g1]
     simp only [Option.bind_some]
     rw [if_pos hj]
     exact T.ev_le (Ay4 hE (Nat.le_max_right k1 k2)) (Nat.le_refl _) g2
    ·rename_i hj
     exact ⟨k1, by rw [g1]; simp only [Option.bind_some]; rw [if_neg hj]; exact h2⟩
   ·exact ⟨k1, by rw [g1]; exact h2⟩
 | .loop id init body, η, o, h => by
   simp only [T.ev] at h ⊢
   obtain ⟨st, h1, h2⟩ := Option.bind_eq_some_iff.1 h
   have key : ∀ (n : Nat) (st : List PV), Ax2 (fun vs => body.ev (sem tab ext) N (η ++ vs)) id n st = some o → ∃ k, Ax2 (fun vs => body.ev (runF tab ext k) N (η ++ vs)) id n st = some o := by
    intro n
    induction n with
    | zero => intro st h; simp [Ax2] at h
    | succ n ih =>
      intro st h
      simp only [Ax2] at h ⊢
      obtain ⟨o1, h1, h2⟩ := Option.bind_eq_some_iff.1 h
      obtain ⟨k1, g1⟩ := T.ev_cont hE h1
      split at h2
      ·split at h2
       ·rename_i hj
        obtain ⟨k2, g2⟩ := ih _ h2
        refine ⟨max k1 k2, ?_⟩
        rw [T.ev_le (Ay4 hE (Nat.le_max_left k1 k2)) (Nat.le_refl _) g1]
        simp only [Option.bind_some]
        rw [if_pos hj]
        exact Bc8 (fun vs o ho => T.ev_le (Ay4 hE (Nat.le_max_right k1 k2)) (Nat.le_refl _) ho) (Nat.le_refl _) g2
       ·rename_i hj
        exact ⟨k1, by rw [g1]; simp only [Option.bind_some]; rw [if_neg hj]; exact h2⟩
      ·exact ⟨k1, by rw [g1]; exact h2⟩
   obtain ⟨k, g⟩ := key N st h2
   exact ⟨k, by rw [h1]; exact g⟩

theorem Aj5 (hE : Ab4 ext) {f n N : Nat} {ft : FT} {args rs : List PV} (ht : tab f = some ft) (hn : ft.np = n) (hl : args.length = ft.np % TAG + ft.nf) (h : ft.t.ev (sem tab ext) N args = some (.ret rs)) : sem tab ext f n args = some rs := by
 obtain ⟨k, hk⟩ := T.ev_cont hE h
 refine (As3 hE).2 ⟨max k N + 1, ?_⟩
 rw [runF]
 simp only [ht]
 rw [if_pos ⟨hn, hl⟩, T.ev_le (Ay4 hE (Nat.le_max_left k N)) (Nat.le_max_right k N) hk]
 rfl

end
end Go.X
/- Functions without a body: what the model says of them. -/
namespace Go.X
open Go Go.RowKit

inductive XK where
 | countS | indexS | cmpS
 deriving DecidableEq
def XK.entry : XK → Array Value → Sem Value
 | .countS => Extern.BytealgCount.count
 | .indexS => Extern.BytealgIndexByte.indexByte
 | .cmpS => Extern.BytealgCompare.compare
def Gy9 (f : List UInt8 → UInt8 → Int) : List PV → Option (List PV)
 | [.s x, .i .u8 c] => some [.i .i64 (f x c.toNat.toUInt8)]
 | _ => none
def Kj8 (f : List UInt8 → List UInt8 → Int) : List PV → Option (List PV)
 | [.s x, .s y] => some [.i .i64 (f x y)]
 | _ => none
def XK.run : XK → List PV → Option (List PV)
 | .countS => Gy9 fun x c => (Lib.countByte x c : Int)
 | .indexS => Gy9 Lib.indexByte
 | .cmpS => Kj8 Lib.compareBytes
theorem An7 {f : List UInt8 → UInt8 → Int} {vs rs : List PV} (h : Gy9 f vs = some rs) : ∃ x c, vs = [.s x, .i .u8 c] ∧ rs = [.i .i64 (f x c.toNat.toUInt8)] := by
 unfold Gy9 at h
 split at h
 ·rename_i x c; injection h with h; exact ⟨x, c, rfl, h.symm⟩
 ·cases h
theorem Bt6 {f : List UInt8 → List UInt8 → Int} {vs rs : List PV} (h : Kj8 f vs = some rs) : ∃ x y, vs = [.s x, .s y] ∧ rs = [.i .i64 (f x y)] := by
 unfold Kj8 at h
 split at h
 ·rename_i x c; injection h with h; exact ⟨x, c, rfl, h.symm⟩
 ·cases h
def lkX : List (Nat × XK) → Nat → Option XK
 | [], _ => none
 | (k, t) :: r, f => if k = f then some t else lkX r f
def Hm7 (xs : List (Nat × XK)) : Fns → Fns := fun _ f n args => match lkX xs f with
 | some k => if n = args.length then k.run args else none
 | none => none
theorem Gh3 (xs : List (Nat × XK)) : Ab4 (Hm7 xs) := fun _ _ _ _ _ _ _ h => h
def XOK (P : Program) (f : Nat) (k : XK) : Prop := ∃ func, P.funcs[f]? = some func ∧ (func.name == "runtime.NumGoroutine") = false ∧ func.body.isNone = true ∧ Extern.findNext func = none ∧ Extern.find func = some k.entry
def XOKs (P : Program) : List (Nat × XK) → Prop
 | [] => True
 | p :: r => XOK P p.1 p.2 ∧ XOKs P r
theorem Kf5 {P : Program} : ∀ {xs : List (Nat × XK)} {f : Nat} {k : XK}, XOKs P xs → lkX xs f = some k → XOK P f k
 | [], _, _, _, h => by simp [lkX] at h
 | (j, t) :: r, f, k, hx, h => by
   simp only [lkX] at h
   split at h
   ·rename_i e
    injection h with h
    subst h; subst e
    exact hx.1
   ·exact Kf5 hx.2 h
theorem Bv5 {w : World} {O : Nat → Option Nat} {n : Nat} {vs : List PV} {args : Array Value} (hg : Given w O n vs args) (hn : n = vs.length) {j : Nat} {p : PV} (hp : vs[j]? = some p) : ∃ v, args[j]? = some v ∧ Rep (view w O) p v := by
 have hj := (List.getElem?_eq_some_iff.1 hp).1
 have hs := hg.size
 obtain ⟨v, hv⟩ : ∃ v, args[j]? = some v := ⟨args[j]'(by omega), Array.getElem?_eq_getElem (by omega)⟩
 exact ⟨v, hv, hg.val j p v (by omega) hp hv⟩
theorem By5 {args : Array Value} {a b : Value} (hs : args.size = 2) (ha : args[0]? = some a) (hb : args[1]? = some b) : args = #[a, b] := by
 obtain ⟨l⟩ := args
 match l, hs with
 | [x, y], _ => simp at ha hb; simp [ha, hb]
theorem Fn0 {sig : Nat → Option Nat} : ∀ {xs : List (Nat × XK)}, (xs.all fun p => (sig p.1).isNone) = true → ∀ f k, lkX xs f = some k → sig f = none
 | [], _, f, k, h => by simp [lkX] at h
 | (j, t) :: r, h, f, k, hk => by
   simp only [List.all_cons, Bool.and_eq_true, Option.isNone_iff_eq_none] at h
   simp only [lkX] at hk
   split at hk
   ·rename_i e; subst e; exact h.1
   ·exact Fn0 h.2 f k hk
theorem XK.run_len {k : XK} {vs rs : List PV} (h : k.run vs = some rs) : vs.length = 2 := by
 cases k with
 | countS => obtain ⟨x, c, rfl, _⟩ := An7 (by simpa only [XK.run] using h); rfl
 | indexS => obtain ⟨x, c, rfl, _⟩ := An7 (by simpa only [XK.run] using h); rfl
 | cmpS => obtain ⟨x, c, rfl, _⟩ := Bt6 h; rfl
theorem Kz4 {P : Program} {sig : Nat → Option Nat} {xs : List (Nat × XK)} (hx : XOKs P xs) (hsig : ∀ f k, lkX xs f = some k → sig f = none) (fn : Fns) (hC : Contract P sig fn) : Contract P sig (Hm7 xs fn) := by
 refine ⟨fun f n vs rs h => ?_, hC.bld⟩
 ·simp only [Hm7] at h
  split at h
  ·rename_i k hk
   split at h
   ·rename_i hn
    refine ⟨fun _ w O args hg => ?_, fun hT => by rw [hn, XK.run_len h] at hT; simp [TAG] at hT⟩
    obtain ⟨func, h1, h2, h3, h4, h5⟩ := Kf5 hx hk
    have hrun := fun a => run_callFunc_extern h1 h2 h3 h4 h5 a w
    have fin : ∀ (z : Int) (a : Array Value), args = a → (k.entry a).run P w = .ok (.int .i64 z) w → Ab1 P f args w (Back P (sig f) w O [.i .i64 z]) := by
     intro z a ha hr
     subst ha
     refine .inl ⟨.int .i64 z, w, ?_, Blw.refl _ _, O, fun _ _ => rfl, hg.out, ?_⟩
     ·rw [hrun, hr]; rfl
     ·rw [hsig f k hk]
      exact Rep.i .i64 z
    cases k with
    | countS =>
      obtain ⟨x, c, rfl, rfl⟩ := An7 (by simpa only [XK.run] using h)
      obtain ⟨a, ha, ra⟩ := Bv5 hg hn (j := 0) rfl
      obtain ⟨b, hb, rb⟩ := Bv5 hg hn (j := 1) rfl
      have e := By5 (by rw [hg.size]; rfl) ha hb
      obtain ⟨s, rfl, rfl⟩ := ra.str
      have := rb.int
      subst this
      exact fin _ _ e (Lib.run_countString s c w)
    | indexS =>
      obtain ⟨x, c, rfl, rfl⟩ := An7 (by simpa only [XK.run] using h)
      obtain ⟨a, ha, ra⟩ := Bv5 hg hn (j := 0) rfl
      obtain ⟨b, hb, rb⟩ := Bv5 hg hn (j := 1) rfl
      have e := By5 (by rw [hg.size]; rfl) ha hb
      obtain ⟨s, rfl, rfl⟩ := ra.str
      have := rb.int
      subst this
      exact fin _ _ e (Lib.run_indexByteString s c w)
    | cmpS =>
      obtain ⟨x, y, rfl, rfl⟩ := Bt6 h
      obtain ⟨a, ha, ra⟩ := Bv5 hg hn (j := 0) rfl
      obtain ⟨b, hb, rb⟩ := Bv5 hg hn (j := 1) rfl
      have e := By5 (by rw [hg.size]; rfl) ha hb
      obtain ⟨s, rfl, rfl⟩ := ra.str
      obtain ⟨t, rfl, rfl⟩ := rb.str
      exact fin _ _ e (Lib.run_compareString s t w)
   ·cases h
  ·cases h
end Go.X
