/- The order of records; what a checked zone is like. -/
import Derived.Test.YtfkfaliipkpcdaaGreatDoorLookupFindsG9
import Derived.Test.YtfkfaliipkpcdaaGreatDoorLookupFindsG11

set_option maxHeartbeats 1000000
set_option linter.unusedVariables false
set_option linter.unusedSimpArgs false
namespace Go.X.G
open Go Go.X

theorem TO.prod {α β : Type} {l1 : α → α → Prop} {l2 : β → β → Prop} (h1 : TO l1) (h2 : TO l2) : TO (fun p q : α × β => l1 p.1 q.1 ∨ (p.1 = q.1 ∧ l2 p.2 q.2)) where
  irr := fun p h => by
    rcases h with h | ⟨_, h⟩
    · exact h1.irr _ h
    · exact h2.irr _ h
  tr := fun p q r a b => by
    rcases a with a | ⟨a, a'⟩ <;> rcases b with b | ⟨b, b'⟩
    · exact .inl (h1.tr _ _ _ a b)
    · exact .inl (b ▸ a)
    · exact .inl (a ▸ b)
    · exact .inr ⟨a.trans b, h2.tr _ _ _ a' b'⟩
  tri := fun p q => by
    rcases h1.tri p.1 q.1 with a | a | a
    · exact .inl (.inl a)
    · rcases h2.tri p.2 q.2 with b | b | b
      · exact .inl (.inr ⟨a, b⟩)
      · exact .inr (.inl (Prod.ext a b))
      · exact .inr (.inr (.inr ⟨a.symm, b⟩))
    · exact .inr (.inr (.inl a))
theorem to_I : TO (fun a b : Int => a < b) := ⟨fun a h => by omega, fun a b c h1 h2 => by omega, fun a b => by omega⟩
theorem cmpI_neg (a b : Int) : cmpI a b < 0 ↔ a < b := by unfold cmpI; split <;> (try split) <;> omega
theorem Cx7 (a b : Int) : cmpI a b = 0 ↔ a = b := by unfold cmpI; split <;> (try split) <;> omega
abbrev Key := List UInt8 × Int × List UInt8
abbrev ltK : Key → Key → Prop := fun p q => ltN p.1 q.1 ∨ (p.1 = q.1 ∧ (p.2.1 < q.2.1 ∨ (p.2.1 = q.2.1 ∧ ltB p.2.2 q.2.2)))
theorem to_K : TO ltK := to_N.prod (to_I.prod to_B)
def keyR (r : Rec) : Key := (r.name, r.typ, Ek5 r.typ r.data)
abbrev ltR (a b : Rec) : Prop := ltK (keyR a) (keyR b)
theorem Cv2 {r : Rec} (h : vldR r = true) : vldD r.typ r.data = true := by
  unfold vldR at h
  simp only [Bool.and_eq_true] at h
  exact h.2
theorem cmpD_v {t : Int} {a b : Dat} (ha : vldD t a = true) (hb : vldD t b = true) : cmpD t a b = cmpS (Ek5 t a) (Ek5 t b) := by
  unfold cmpD; rw [ha, hb]; rfl
theorem Pv9 {a b : Rec} (ha : vldR a = true) (hb : vldR b = true) : cmpF a b < 0 ↔ ltR a b := by
  unfold cmpF ltR ltK keyR
  simp only
  by_cases h1 : cmpN a.name b.name = 0
  · rw [if_neg (by simp [h1])]
    have e1 := Cx6.1 h1
    have n1 : ¬ ltN a.name b.name := by rw [e1]; exact to_N.irr _
    by_cases h2 : cmpI a.typ b.typ = 0
    · rw [if_neg (by simp [h2])]
      have e2 := (Cx7 _ _).1 h2
      have ha' := Cv2 ha
      have hb' := Cv2 hb
      rw [e2] at ha' ⊢
      rw [cmpD_v ha' hb', Gk8]
      constructor
      · intro h; exact .inr ⟨e1, .inr ⟨rfl, h⟩⟩
      · rintro (h | ⟨_, h | ⟨_, h⟩⟩)
        · exact absurd h n1
        · omega
        · exact h
    · rw [if_pos h2, cmpI_neg]
      have e2 : a.typ ≠ b.typ := fun e => h2 ((Cx7 _ _).2 e)
      constructor
      · intro h; exact .inr ⟨e1, .inl h⟩
      · rintro (h | ⟨_, h | ⟨h, _⟩⟩)
        · exact absurd h n1
        · exact h
        · exact absurd h e2
  · rw [if_pos h1, Av1]
    have e1 : a.name ≠ b.name := fun e => h1 (Cx6.2 e)
    constructor
    · intro h; exact .inl h
    · rintro (h | ⟨h, _⟩)
      · exact h
      · exact absurd h e1
theorem Kq6 {a b : Rec} (ha : vldR a = true) (hb : vldR b = true) : cmpF a b = 0 ↔ keyR a = keyR b := by
  unfold cmpF keyR
  by_cases h1 : cmpN a.name b.name = 0
  · rw [if_neg (by simp [h1])]
    have e1 := Cx6.1 h1
    by_cases h2 : cmpI a.typ b.typ = 0
    · rw [if_neg (by simp [h2])]
      have e2 := (Cx7 _ _).1 h2
      have ha' := Cv2 ha
      have hb' := Cv2 hb
      rw [e2] at ha' ⊢
      rw [cmpD_v ha' hb', Bq9]
      simp [e1]
    · rw [if_pos h2]
      have e2 : a.typ ≠ b.typ := fun e => h2 ((Cx7 _ _).2 e)
      constructor
      · intro h; exact absurd h h2
      · intro h; injection h with _ h; injection h with h _; exact absurd h e2
  · rw [if_pos h1]
    have e1 : a.name ≠ b.name := fun e => h1 (Cx6.2 e)
    constructor
    · intro h; exact absurd h h1
    · intro h; injection h with h _; exact absurd h e1
theorem Dz5 {x : Rec} (hx : vldR x = true) : ∀ (l : List Rec), (∀ r ∈ l, vldR r = true) → l.Pairwise ltR → (insR x l).Pairwise ltR
  | [], _, _ => by simp [insR]
  | y :: r, hv, h => by
    obtain ⟨h1, h2⟩ := List.pairwise_cons.1 h
    have hy := hv y (.head _)
    have ih := Dz5 hx r (fun w hw => hv w (.tail _ hw)) h2
    simp only [insR]
    by_cases c : cmpF y x < 0
    · rw [if_pos c]
      refine List.pairwise_cons.2 ⟨fun w hw => ?_, ih⟩
      rcases insR_mem x r w hw with rfl | hw
      · exact (Pv9 hy hx).1 c
      · exact h1 w hw
    · rw [if_neg c]
      by_cases e : cmpF y x = 0
      · rw [if_pos e]
        split
        · have ke := (Kq6 hy hx).1 e
          refine List.pairwise_cons.2 ⟨fun w hw => ?_, h2⟩
          have := h1 w hw
          show ltK (keyR x) (keyR w)
          rw [← ke]; exact this
        · exact h
      · rw [if_neg e]
        have hxy : ltR x y := by
          rcases to_K.tri (keyR x) (keyR y) with q | q | q
          · exact q
          · exact absurd ((Kq6 hy hx).2 q.symm) e
          · exact absurd ((Pv9 hy hx).2 q) c
        refine List.pairwise_cons.2 ⟨fun w hw => ?_, h⟩
        rcases List.mem_cons.1 hw with rfl | hw
        · exact hxy
        · exact to_K.tr _ _ _ hxy (h1 w hw)
theorem Iw8 (l : List Rec) (hv : ∀ r ∈ l, vldR r = true) : (Qx1 l).Pairwise ltR ∧ ∀ r ∈ Qx1 l, r ∈ l := by
  have : ∀ (l a : List Rec), (∀ r ∈ l, vldR r = true) → (∀ r ∈ a, vldR r = true) → a.Pairwise ltR → (l.foldl (fun acc x => insR x acc) a).Pairwise ltR ∧ ∀ r ∈ l.foldl (fun acc x => insR x acc) a, r ∈ a ∨ r ∈ l := by
    intro l
    induction l with
    | nil => intro a _ _ h; exact ⟨h, fun r hr => .inl hr⟩
    | cons x r ih =>
      intro a h1 h2 h3
      have hx := h1 x (.head _)
      obtain ⟨g1, g2⟩ := ih (insR x a) (fun w hw => h1 w (.tail _ hw)) (fun w hw => by
        rcases insR_mem x a w hw with rfl | hw
        · exact hx
        · exact h2 w hw) (Dz5 hx a h2 h3)
      refine ⟨g1, fun w hw => ?_⟩
      rcases g2 w hw with hw | hw
      · rcases insR_mem x a w hw with rfl | hw
        · exact .inr (.head _)
        · exact .inl hw
      · exact .inr (.tail _ hw)
  obtain ⟨h1, h2⟩ := this l [] hv (fun r hr => by cases hr) .nil
  exact ⟨h1, fun r hr => (h2 r hr).resolve_left (by simp)⟩

structure ZOk (z : Zone) : Prop where
  origin : vld z.origin = true
  small : z.recs.length ≤ 2048
  valid : ∀ r ∈ z.recs, vldR r = true
  rising : z.recs.Pairwise ltR
  soa : (findR z.recs z.origin 6).length = 1
  ns : hasR z.recs z.origin 2 = true
  recs : ∀ r ∈ z.recs, Dx7 z r = true
theorem Tw4 {z : Zone} (h : Cx8 z = 0) : ZOk z := by
  unfold Cx8 at h
  split at h
  · cases h
  · rename_i h1
    split at h
    · cases h
    · rename_i h2
      split at h
      · cases h
      · split at h
        · cases h
        · rename_i h4
          split at h
          · cases h
          · rename_i h5
            split at h
            · cases h
            · rename_i h6
              split at h
              · cases h
              · rename_i h7
                simp only [Bool.not_eq_false, List.all_eq_true] at h1 h4 h7
                simp only [not_or, ne_eq, Classical.not_not, Bool.not_eq_false] at h5 h6
                refine ⟨h1, by omega, h4, ?_, h6.1, h6.2, h7⟩
                rw [h5]
                exact (Iw8 z.recs h4).1
theorem ZOk.beside {z : Zone} (h : ZOk z) {r x : Rec} (hr : r ∈ z.recs) (hx : x ∈ z.recs) : Bj3 r x = true := by
  have := h.recs r hr
  unfold Dx7 at this
  simp only [Bool.and_eq_true] at this
  have h2 := this.1.2
  unfold Dj1 at h2
  exact List.all_eq_true.1 h2 x hx
theorem ZOk.under {z : Zone} (h : ZOk z) {r : Rec} (hr : r ∈ z.recs) : under r.name z.origin = true := by
  have := h.recs r hr
  unfold Dx7 at this
  simp only [Bool.and_eq_true] at this
  exact this.1.1.1
theorem ZOk.single {z : Zone} (h : ZOk z) (n : List UInt8) (t : Int) (ht : t = 6 ∨ t = 5 ∨ t = 39) : (findR z.recs n t).length ≤ 1 := by
  have hp : (findR z.recs n t).Pairwise ltR := h.rising.filter _
  have hm : ∀ x ∈ findR z.recs n t, x ∈ z.recs ∧ x.name = n ∧ x.typ = t := fun x hx => by
    obtain ⟨h1, h2⟩ := List.mem_filter.1 hx
    simp only [isK, Bool.and_eq_true, decide_eq_true_eq] at h2
    exact ⟨h1, h2.1, h2.2⟩
  generalize findR z.recs n t = l at *
  match l, hp, hm with
  | [], _, _ => simp
  | [_], _, _ => simp
  | a :: b :: r, hp, hm =>
    exfalso
    have hab : ltR a b := (List.pairwise_cons.1 hp).1 b (.head _)
    obtain ⟨a1, a2, a3⟩ := hm a (.head _)
    obtain ⟨b1, b2, b3⟩ := hm b (.tail _ (.head _))
    have hb := h.beside a1 b1
    have e : b = a := by
      unfold Bj3 at hb
      rw [a2, a3, b2, b3] at hb
      have ht' : (decide (t = 6) || decide (t = 5) || decide (t = 39)) = true := by rcases ht with h | h | h <;> simp [h]
      rw [ht'] at hb
      simp only [decide_true, Bool.not_true, Bool.false_or, Bool.and_true, Bool.true_and, Bool.and_eq_true, Bool.not_eq_true', decide_eq_false_iff_not, ne_eq, Classical.not_not] at hb
      exact hb.1.2
    rw [e] at hab
    exact to_K.irr _ hab
end Go.X.G
/- The law LookupSoas. -/
namespace Go.X.G
open Go Go.X

theorem small_ok (z : Zone) (hz : z.wf) : S Sx1 1 [z.pv] = some [.b (decide (z.recs.length ≤ 60) && decide (Cx8 z = 0))] := by
  refine s_u10 (N := 1) rfl ?_
  by_cases h : z.recs.length ≤ 60 <;> simp (disch := omega) only [x_u10, Rq8 z hz, h, EVP, ↓reduceIte, EV, Nat.reduceAdd, Nat.reduceEqDiff, Int.reduceToNat, reduceCtorEq] <;> simp
theorem Qx4 (a b : List Rec) (ha : a.length ≤ 1000000) : S Sw6 2 [Aj2 a, Aj2 b] = some [.b (decide (a = b))] := by
  refine s_u19 (N := a.length + 1) rfl ?_
  by_cases hl : a.length = b.length
  · have key : l0_u19.ev S (a.length + 1) [Aj2 a, Aj2 b] = some (if a.drop 0 = b.drop 0 then .yld 0 [] else .ret [.b false]) := by
      refine Aq4 a (fun i => [.i .i64 (i : Int)]) (fun i r => if r = b.drop i then .yld 0 [] else .ret [.b false]) rfl (by omega) (fun i c r hd hi hc => ?_) ?_
      · obtain ⟨y, r', hb, hd2, hd3⟩ : ∃ y r', b[i]? = some y ∧ b.drop i = y :: r' ∧ b.drop (i + 1) = r' := ⟨b[i]'(by omega), _, List.getElem?_eq_getElem (by omega), List.drop_eq_getElem_cons (by omega), rfl⟩
        rw [hd2, hd3]
        by_cases h : c = y
        · subst h
          left
          simp (disch := omega) only [Pz0, hc, hb, EVP, ↓reduceIte, EV, Nat.reduceAdd, Nat.reduceEqDiff, Int.reduceToNat, reduceCtorEq]
          simp
        · right
          simp (disch := omega) only [Pz0, hc, hb, h, EVP, ↓reduceIte, EV, Nat.reduceAdd, Nat.reduceEqDiff, Int.reduceToNat, reduceCtorEq]
          simp [h, Out.goes]
      · have hd2 : b.drop a.length = [] := List.drop_eq_nil_of_le (by omega)
        rw [hd2]
        simp (disch := omega) only [Pz0, EVP, ↓reduceIte, EV, Nat.reduceAdd, Nat.reduceEqDiff, Int.reduceToNat, reduceCtorEq]
        simp [Out.goes]
    simp only [List.drop_zero] at key
    by_cases h : a = b
    · rw [if_pos h] at key
      simp (disch := omega) only [Pz0, key, EVP, ↓reduceIte, EV, Nat.reduceAdd, Nat.reduceEqDiff, Int.reduceToNat, reduceCtorEq]
      try simp [h]
    · rw [if_neg h] at key
      simp (disch := omega) only [Pz0, key, EVP, ↓reduceIte, EV, Nat.reduceAdd, Nat.reduceEqDiff, Int.reduceToNat, reduceCtorEq]
      try simp [h]
  · have h : a ≠ b := fun h => hl (by rw [h])
    simp (disch := omega) [Pz0, h, EVP, ↓reduceIte, EV, Nat.reduceAdd, Nat.reduceEqDiff, Int.reduceToNat, reduceCtorEq]
def zero : Dat := ⟨false, 0, 0, [], [], [], 0, 0, 0, 0, 0, 0, 0⟩
def sample11 : Zone := ⟨[120, 46], [⟨[120, 46], 2, 9, { zero with host := [110, 46, 120, 46] }⟩, ⟨[120, 46], 6, 9, { zero with host := [110, 46, 120, 46], mail := [109, 46, 120, 46], e := 5 }⟩,
  ⟨[42, 46, 120, 46], 1, 9, { zero with lo := 1 }⟩, ⟨[100, 46, 120, 46], 2, 9, { zero with host := [110, 46, 100, 46, 120, 46] }⟩]⟩
theorem Rz3 : S Sw8 0 [] = some [sample11.pv] := (Ck9 ext_mono).2 ⟨3, by kernel_rfl⟩
end Go.X.G
/- The law LookupFinds. -/
namespace Go.X.G
open Go Go.X

theorem Dw9 : sample11.wf := by
  have hz : zero.wf := by constructor <;> simp [zero, u64r, i64r, strr]
  refine ⟨by simp [sample11, strr], by simp [sample11], fun r hr => ?_⟩
  simp only [sample11, List.mem_cons, List.mem_nil_iff, or_false] at hr
  rcases hr with rfl | rfl | rfl | rfl <;> (constructor <;> (try constructor)) <;> simp [zero, u64r, i64r, strr]
abbrev awQ1 : Ques := ⟨[97, 46, 120, 46], 1⟩
abbrev awQ2 : Ques := ⟨[97, 46, 100, 46, 120, 46], 1⟩
def awR1 : Res := ⟨1, [42, 46, 120, 46], true, [], [⟨[97, 46, 120, 46], 1, 9, { zero with lo := 1 }⟩]⟩
def awR2 : Res := ⟨4, [100, 46, 120, 46], false, [], [⟨[100, 46, 120, 46], 2, 9, { zero with host := [110, 46, 100, 46, 120, 46] }⟩]⟩
theorem aw_find1 : findM sample11 awQ1 = awR1 := by kernel_rfl
theorem aw_find2 : findM sample11 awQ2 = awR2 := by kernel_rfl
theorem Rq3 : S n_u9 0 [] = some [.b true] := by
  refine s_u9 (N := 1) rfl ?_
  have h1 := Lk3 sample11 awQ1 Dw9 (by decide) (by decide)
  have h2 := Lk3 sample11 awQ2 Dw9 (by decide) (by decide)
  rw [aw_find1] at h1
  rw [aw_find2] at h2
  have e1 : PV.a [.s [97, 46, 120, 46], .i .i64 1] = awQ1.pv := rfl
  have e2 : PV.a [.s [97, 46, 100, 46, 120, 46], .i .i64 1] = awQ2.pv := rfl
  have s1 := Rz3
  have r1 : awR1.recs.length = 1 := rfl
  have r2 : awR1.recs[0]? = some ⟨[97, 46, 120, 46], 1, 9, { zero with lo := 1 }⟩ := rfl
  have r3 : awR1.kind = 1 := rfl
  have r4 : awR1.wild = true := rfl
  have r5 : awR2.kind = 4 := rfl
  have r6 : awR2.owner = [100, 46, 120, 46] := rfl
  generalize awR1 = a1 at *
  generalize awR2 = a2 at *
  generalize sample11 = sm at *
  simp (disch := first | omega | (simp; omega)) only [x_u9, s1, h1, h2, r1, r2, r3, r4, r5, r6, EVM, EVC, EVR, EVP, ↓reduceIte, EV, Nat.reduceAdd, Nat.reduceEqDiff, Int.reduceToNat, reduceCtorEq]
theorem Rz4 (x : Res) (hx : x.recs.length ≤ 1000000) : S Sx0 2 [x.pv, x.pv] = some [.b true] := by
  refine s_u11 (N := 1) rfl ?_
  have k1 := Qx4 x.recs x.recs hx
  simp (disch := omega) only [x_u11, k1, EVM, EVC, EVR, EVP, ↓reduceIte, EV, Nat.reduceAdd, Nat.reduceEqDiff, Int.reduceToNat, reduceCtorEq]
  try simp
theorem Tq0 (z : Zone) (q : Ques) (hl : z.recs.length ≤ 1000) : (findM z q).recs.length ≤ 1000 := by
  have hs : ∀ (l : List Rec) (t : Int), l.length ≤ 1000 → (saysM l t).recs.length ≤ 1000 := fun l t h => by
    unfold saysM
    split
    · simp
    · split
      · simp
      · have := Bz6 l t
        simp only; omega
  unfold findM
  split
  · split
    · have := Fw2 z (cutN z q.name) 2
      simp only; omega
    · unfold Rk2
      cases h : redR z q.name with
      | some x =>
        show x.recs.length ≤ 1000
        unfold redR at h
        cases h2 : redO z q.name with
        | none => rw [h2] at h; cases h
        | some u =>
          rw [h2] at h
          simp only [Option.map_some, Option.some.injEq] at h
          rw [← h]
          unfold Iy0
          split <;> simp
      | none =>
        simp only
        split
        · have := hs (allR z q.name) q.typ (by have := Cj7 z q.name; omega)
          exact this
        · unfold Pz1
          split
          · simp only [Option.getD_some]
            exact hs _ _ (by rw [List.length_map]; have := Cj7 z (Ax4 (encN z q.name)); omega)
          · simp
  · simp
theorem law_LookupFinds (z : Zone) (q : Ques) (hz : z.wf) (hq : q.wf) : S n_u3 2 [z.pv, q.pv] = some [.b true] := by
  refine s_u3 (N := 1) rfl ?_
  have k1 := Rq3
  have k2 := small_ok z hz
  have hqn : q.name.length ≤ 9223372036854775807 := hq.name
  by_cases h3 : z.recs.length ≤ 60
  · by_cases h5 : Cx8 z = 0
    · have e : (decide (z.recs.length ≤ 60) && decide (Cx8 z = 0)) = true := by simp [h3, h5]
      rw [e] at k2
      by_cases h4 : q.name.length ≤ 300
      · have hc := Tw4 h5
        have k3 := Lk3 z q hz (by omega) hqn
        have k4 := rfind_ok z q hz (by omega) hqn (fun u => hc.single u 39 (by simp))
        have k5 := Rz4 (findM z q) (by have := Tq0 z q (by omega); omega)
        generalize findM z q = fm at *
        simp (disch := omega) only [x_u3, k1, k2, k3, k4, k5, EVM, EVC, EVR, EVP, ↓reduceIte, EV, Nat.reduceAdd, Nat.reduceEqDiff, Int.reduceToNat, reduceCtorEq]
        try simp
      · have h6 : (300 : Int) < (q.name.length : Int) := by omega
        simp (disch := omega) only [x_u3, k1, k2, h6, EVM, EVC, EVR, EVP, ↓reduceIte, EV, Nat.reduceAdd, Nat.reduceEqDiff, Int.reduceToNat, reduceCtorEq]
    · have e : (decide (z.recs.length ≤ 60) && decide (Cx8 z = 0)) = false := by simp [h5]
      rw [e] at k2
      simp (disch := omega) only [x_u3, k1, k2, EVM, EVC, EVR, EVP, ↓reduceIte, EV, Nat.reduceAdd, Nat.reduceEqDiff, Int.reduceToNat, reduceCtorEq]
  · have e : (decide (z.recs.length ≤ 60) && decide (Cx8 z = 0)) = false := by simp [h3]
    rw [e] at k2
    simp (disch := omega) only [x_u3, k1, k2, EVM, EVC, EVR, EVP, ↓reduceIte, EV, Nat.reduceAdd, Nat.reduceEqDiff, Int.reduceToNat, reduceCtorEq]
end Go.X.G
