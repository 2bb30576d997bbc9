/- The order of records; what a checked zone is like. -/
import Derived.Test.YtfkfaliipkpcdaaGreatDoorLookupChasesG9
import Derived.Test.YtfkfaliipkpcdaaGreatDoorLookupChasesG11

set_option maxHeartbeats 1000000
set_option linter.unusedVariables false
set_option linter.unusedSimpArgs false
namespace Go.X.G
open Go Go.X

theorem TO.prod {α β : Type} {l1 : α → α → Prop} {l2 : β → β → Prop} (h1 : TO l1) (h2 : TO l2) : TO (fun p q : α × β => l1 p.1 q.1 ∨ (p.1 = q.1 ∧ l2 p.2 q.2)) where
 irr := fun p h => by
  rcases h with h | ⟨_, h⟩
  ·exact h1.irr _ h
  ·exact h2.irr _ h
 tr := fun p q r a b => by
  rcases a with a | ⟨a, a'⟩ <;> rcases b with b | ⟨b, b'⟩
  ·exact .inl (h1.tr _ _ _ a b)
  ·exact .inl (b ▸ a)
  ·exact .inl (a ▸ b)
  ·exact .inr ⟨a.trans b, h2.tr _ _ _ a' b'⟩
 tri := fun p q => by
  rcases h1.tri p.1 q.1 with a | a | a
  ·exact .inl (.inl a)
  ·rcases h2.tri p.2 q.2 with b | b | b
   ·exact .inl (.inr ⟨a, b⟩)
   ·exact .inr (.inl (Prod.ext a b))
   ·exact .inr (.inr (.inr ⟨a.symm, b⟩))
  ·exact .inr (.inr (.inl a))
theorem to_I : TO (fun a b : Int => a < b) := ⟨fun a h => by omega, fun a b c h1 h2 => by omega, fun a b => by omega⟩
theorem Yy3 (a b : Int) : cmpI a b < 0 ↔ a < b := by unfold cmpI; split <;> (try split) <;> omega
theorem Cy1 (a b : Int) : cmpI a b = 0 ↔ a = b := by unfold cmpI; split <;> (try split) <;> omega
abbrev Key := List UInt8 × Int × List UInt8
abbrev ltK : Key → Key → Prop := fun p q => ltN p.1 q.1 ∨ (p.1 = q.1 ∧ (p.2.1 < q.2.1 ∨ (p.2.1 = q.2.1 ∧ ltB p.2.2 q.2.2)))
theorem to_K : TO ltK := to_N.prod (to_I.prod to_B)
def keyR (r : Rec) : Key := (r.name, r.typ, Ek4 r.typ r.data)
abbrev ltR (a b : Rec) : Prop := ltK (keyR a) (keyR b)
theorem Cv6 {r : Rec} (h : vldR r = true) : vldD r.typ r.data = true := by
 unfold vldR at h
 simp only [Bool.and_eq_true] at h
 exact h.2
theorem Zx6 {t : Int} {a b : Dat} (ha : vldD t a = true) (hb : vldD t b = true) : cmpD t a b = cmpS (Ek4 t a) (Ek4 t b) := by
 unfold cmpD; rw [ha, hb]; rfl
theorem Oj4 {a b : Rec} (ha : vldR a = true) (hb : vldR b = true) : cmpF a b < 0 ↔ ltR a b := by
 unfold cmpF ltR ltK keyR
 simp only
 by_cases h1 : cmpN a.name b.name = 0
 ·rw [if_neg (by simp [h1])]
  have e1 := Cy0.1 h1
  have n1 : ¬ ltN a.name b.name := by rw [e1]; exact to_N.irr _
  by_cases h2 : cmpI a.typ b.typ = 0
  ·rw [if_neg (by simp [h2])]
   have e2 := (Cy1 _ _).1 h2
   have ha' := Cv6 ha
   have hb' := Cv6 hb
   rw [e2] at ha' ⊢
   rw [Zx6 ha' hb', Fz7]
   constructor
   ·intro h; exact .inr ⟨e1, .inr ⟨rfl, h⟩⟩
   ·rintro (h | ⟨_, h | ⟨_, h⟩⟩)
    ·exact absurd h n1
    ·omega
    ·exact h
  ·rw [if_pos h2, Yy3]
   have e2 : a.typ ≠ b.typ := fun e => h2 ((Cy1 _ _).2 e)
   constructor
   ·intro h; exact .inr ⟨e1, .inl h⟩
   ·rintro (h | ⟨_, h | ⟨h, _⟩⟩)
    ·exact absurd h n1
    ·exact h
    ·exact absurd h e2
 ·rw [if_pos h1, Av1]
  have e1 : a.name ≠ b.name := fun e => h1 (Cy0.2 e)
  constructor
  ·intro h; exact .inl h
  ·rintro (h | ⟨h, _⟩)
   ·exact h
   ·exact absurd h e1
theorem Jq3 {a b : Rec} (ha : vldR a = true) (hb : vldR b = true) : cmpF a b = 0 ↔ keyR a = keyR b := by
 unfold cmpF keyR
 by_cases h1 : cmpN a.name b.name = 0
 ·rw [if_neg (by simp [h1])]
  have e1 := Cy0.1 h1
  by_cases h2 : cmpI a.typ b.typ = 0
  ·rw [if_neg (by simp [h2])]
   have e2 := (Cy1 _ _).1 h2
   have ha' := Cv6 ha
   have hb' := Cv6 hb
   rw [e2] at ha' ⊢
   rw [Zx6 ha' hb', Bv1]
   simp [e1]
  ·rw [if_pos h2]
   have e2 : a.typ ≠ b.typ := fun e => h2 ((Cy1 _ _).2 e)
   constructor
   ·intro h; exact absurd h h2
   ·intro h; injection h with _ h; injection h with h _; exact absurd h e2
 ·rw [if_pos h1]
  have e1 : a.name ≠ b.name := fun e => h1 (Cy0.2 e)
  constructor
  ·intro h; exact absurd h h1
  ·intro h; injection h with h _; exact absurd h e1
theorem Dz3 {x : Rec} (hx : vldR x = true) : ∀ (l : List Rec), (∀ r ∈ l, vldR r = true) → l.Pairwise ltR → (insR x l).Pairwise ltR
 | [], _, _ => by simp [insR]
 | y :: r, hv, h => by
   obtain ⟨h1, h2⟩ := List.pairwise_cons.1 h
   have hy := hv y (.head _)
   have ih := Dz3 hx r (fun w hw => hv w (.tail _ hw)) h2
   simp only [insR]
   by_cases c : cmpF y x < 0
   ·rw [if_pos c]
    refine List.pairwise_cons.2 ⟨fun w hw => ?_, ih⟩
    rcases insR_mem x r w hw with rfl | hw
    ·exact (Oj4 hy hx).1 c
    ·exact h1 w hw
   ·rw [if_neg c]
    by_cases e : cmpF y x = 0
    ·rw [if_pos e]
     split
     ·have ke := (Jq3 hy hx).1 e
      refine List.pairwise_cons.2 ⟨fun w hw => ?_, h2⟩
      have := h1 w hw
      show ltK (keyR x) (keyR w)
      rw [← ke]; exact this
     ·exact h
    ·rw [if_neg e]
     have hxy : ltR x y := by
      rcases to_K.tri (keyR x) (keyR y) with q | q | q
      ·exact q
      ·exact absurd ((Jq3 hy hx).2 q.symm) e
      ·exact absurd ((Oj4 hy hx).2 q) c
     refine List.pairwise_cons.2 ⟨fun w hw => ?_, h⟩
     rcases List.mem_cons.1 hw with rfl | hw
     ·exact hxy
     ·exact to_K.tr _ _ _ hxy (h1 w hw)
theorem Iv4 (l : List Rec) (hv : ∀ r ∈ l, vldR r = true) : (Pk8 l).Pairwise ltR ∧ ∀ r ∈ Pk8 l, r ∈ l := by
 have : ∀ (l a : List Rec), (∀ r ∈ l, vldR r = true) → (∀ r ∈ a, vldR r = true) → a.Pairwise ltR → (l.foldl (fun acc x => insR x acc) a).Pairwise ltR ∧ ∀ r ∈ l.foldl (fun acc x => insR x acc) a, r ∈ a ∨ r ∈ l := by
  intro l
  induction l with
  | nil => intro a _ _ h; exact ⟨h, fun r hr => .inl hr⟩
  | cons x r ih =>
    intro a h1 h2 h3
    have hx := h1 x (.head _)
    obtain ⟨g1, g2⟩ := ih (insR x a) (fun w hw => h1 w (.tail _ hw)) (fun w hw => by
     rcases insR_mem x a w hw with rfl | hw
     ·exact hx
     ·exact h2 w hw) (Dz3 hx a h2 h3)
    refine ⟨g1, fun w hw => ?_⟩
    rcases g2 w hw with hw | hw
    ·rcases insR_mem x a w hw with rfl | hw
     ·exact .inr (.head _)
     ·exact .inl hw
    ·exact .inr (.tail _ hw)
 obtain ⟨h1, h2⟩ := this l [] hv (fun r hr => by cases hr) .nil
 exact ⟨h1, fun r hr => (h2 r hr).resolve_left (by simp)⟩

structure ZOk (z : Zone) : Prop where
 origin : vld z.origin = true
 small : z.recs.length ≤ 2048
 valid : ∀ r ∈ z.recs, vldR r = true
 rising : z.recs.Pairwise ltR
 soa : (findR z.recs z.origin 6).length = 1
 ns : hasR z.recs z.origin 2 = true
 recs : ∀ r ∈ z.recs, Dx7 z r = true
theorem Tj7 {z : Zone} (h : Cy2 z = 0) : ZOk z := by
 unfold Cy2 at h
 split at h
 ·cases h
 ·rename_i h1
  split at h
  ·cases h
  ·rename_i h2
   split at h
   ·cases h
   ·split at h
    ·cases h
    ·rename_i h4
     split at h
     ·cases h
     ·rename_i h5
      split at h
      ·cases h
      ·rename_i h6
       split at h
       ·cases h
       ·rename_i h7
        simp only [Bool.not_eq_false, List.all_eq_true] at h1 h4 h7
        simp only [not_or, ne_eq, Classical.not_not, Bool.not_eq_false] at h5 h6
        refine ⟨h1, by omega, h4, ?_, h6.1, h6.2, h7⟩
        rw [h5]
        exact (Iv4 z.recs h4).1
theorem ZOk.beside {z : Zone} (h : ZOk z) {r x : Rec} (hr : r ∈ z.recs) (hx : x ∈ z.recs) : Bj5 r x = true := by
 have := h.recs r hr
 unfold Dx7 at this
 simp only [Bool.and_eq_true] at this
 have h2 := this.1.2
 unfold Dj3 at h2
 exact List.all_eq_true.1 h2 x hx
theorem ZOk.under {z : Zone} (h : ZOk z) {r : Rec} (hr : r ∈ z.recs) : under r.name z.origin = true := by
 have := h.recs r hr
 unfold Dx7 at this
 simp only [Bool.and_eq_true] at this
 exact this.1.1.1
theorem ZOk.single {z : Zone} (h : ZOk z) (n : List UInt8) (t : Int) (ht : t = 6 ∨ t = 5 ∨ t = 39) : (findR z.recs n t).length ≤ 1 := by
 have hp : (findR z.recs n t).Pairwise ltR := h.rising.filter _
 have hm : ∀ x ∈ findR z.recs n t, x ∈ z.recs ∧ x.name = n ∧ x.typ = t := fun x hx => by
  obtain ⟨h1, h2⟩ := List.mem_filter.1 hx
  simp only [isK, Bool.and_eq_true, decide_eq_true_eq] at h2
  exact ⟨h1, h2.1, h2.2⟩
 generalize findR z.recs n t = l at *
 match l, hp, hm with
 | [], _, _ => simp
 | [_], _, _ => simp
 | a :: b :: r, hp, hm =>
   exfalso
   have hab : ltR a b := (List.pairwise_cons.1 hp).1 b (.head _)
   obtain ⟨a1, a2, a3⟩ := hm a (.head _)
   obtain ⟨b1, b2, b3⟩ := hm b (.tail _ (.head _))
   have hb := h.beside a1 b1
   have e : b = a := by
    unfold Bj5 at hb
    rw [a2, a3, b2, b3] at hb
    have ht' : (decide (t = 6) || decide (t = 5) || decide (t = 39)) = true := by rcases ht with h | h | h <;> simp [h]
    rw [ht'] at hb
    simp only [decide_true, Bool.not_true, Bool.false_or, Bool.and_true, Bool.true_and, Bool.and_eq_true, Bool.not_eq_true', decide_eq_false_iff_not, ne_eq, Classical.not_not] at hb
    exact hb.1.2
   rw [e] at hab
   exact to_K.irr _ hab
end Go.X.G
/- The law LookupSoas. -/
namespace Go.X.G
open Go Go.X

theorem Xy6 (z : Zone) (hz : z.wf) : S Sq4 1 [z.pv] = some [.b (decide (z.recs.length ≤ 60) && decide (Cy2 z = 0))] := by
 refine s_u10 (N := 1) rfl ?_
 by_cases h : z.recs.length ≤ 60 <;> simp (disch := omega) only [x_u10, Qk5 z hz, h, EVP, ↓reduceIte, EV, Nat.reduceAdd, Nat.reduceEqDiff, Int.reduceToNat, reduceCtorEq] <;> simp
theorem Pq1 (a b : List Rec) (ha : a.length ≤ 1000000) : S Sk8 2 [Aj2 a, Aj2 b] = some [.b (decide (a = b))] := by
 refine s_u19 (N := a.length + 1) rfl ?_
 by_cases hl : a.length = b.length
 ·have key : Zx0.ev S (a.length + 1) [Aj2 a, Aj2 b] = some (if a.drop 0 = b.drop 0 then .yld 0 [] else .ret [.b false]) := by
   refine Aq0 a (fun i => [.i .i64 (i : Int)]) (fun i r => if r = b.drop i then .yld 0 [] else .ret [.b false]) rfl (by omega) (fun i c r hd hi hc => ?_) ?_
   ·obtain ⟨y, r', hb, hd2, hd3⟩ : ∃ y r', b[i]? = some y ∧ b.drop i = y :: r' ∧ b.drop (i + 1) = r' := ⟨b[i]'(by omega), _, List.getElem?_eq_getElem (by omega), List.drop_eq_getElem_cons (by omega), rfl⟩
    rw [hd2, hd3]
    by_cases h : c = y
    ·subst h
     left
     simp (disch := omega) only [Ov4, hc, hb, EVP, ↓reduceIte, EV, Nat.reduceAdd, Nat.reduceEqDiff, Int.reduceToNat, reduceCtorEq]
     simp
    ·right
     simp (disch := omega) only [Ov4, hc, hb, h, EVP, ↓reduceIte, EV, Nat.reduceAdd, Nat.reduceEqDiff, Int.reduceToNat, reduceCtorEq]
     simp [h, Out.goes]
   ·have hd2 : b.drop a.length = [] := List.drop_eq_nil_of_le (by omega)
    rw [hd2]
    simp (disch := omega) only [Ov4, EVP, ↓reduceIte, EV, Nat.reduceAdd, Nat.reduceEqDiff, Int.reduceToNat, reduceCtorEq]
    simp [Out.goes]
  simp only [List.drop_zero] at key
  by_cases h : a = b
  ·rw [if_pos h] at key
   simp (disch := omega) only [Ov4, key, EVP, ↓reduceIte, EV, Nat.reduceAdd, Nat.reduceEqDiff, Int.reduceToNat, reduceCtorEq]
   try simp [h]
  ·rw [if_neg h] at key
   simp (disch := omega) only [Ov4, key, EVP, ↓reduceIte, EV, Nat.reduceAdd, Nat.reduceEqDiff, Int.reduceToNat, reduceCtorEq]
   try simp [h]
 ·have h : a ≠ b := fun h => hl (by rw [h])
  simp (disch := omega) [Ov4, h, EVP, ↓reduceIte, EV, Nat.reduceAdd, Nat.reduceEqDiff, Int.reduceToNat, reduceCtorEq]
def zero : Dat := ⟨false, 0, 0, [], [], [], 0, 0, 0, 0, 0, 0, 0⟩
def sample11 : Zone := ⟨[120, 46], [⟨[120, 46], 2, 9, { zero with host := [110, 46, 120, 46] }⟩, ⟨[120, 46], 6, 9, { zero with host := [110, 46, 120, 46], mail := [109, 46, 120, 46], e := 5 }⟩,
 ⟨[42, 46, 120, 46], 1, 9, { zero with lo := 1 }⟩, ⟨[100, 46, 120, 46], 2, 9, { zero with host := [110, 46, 100, 46, 120, 46] }⟩]⟩
theorem Qx8 : S Yq4 0 [] = some [sample11.pv] := (Cq3 ext_mono).2 ⟨3, by kernel_rfl⟩
end Go.X.G
/- The law LookupFinds. -/
namespace Go.X.G
open Go Go.X

theorem Jx3 : sample11.wf := by
 have hz : zero.wf := by constructor <;> simp [zero, u64r, i64r, strr]
 refine ⟨by simp [sample11, strr], by simp [sample11], fun r hr => ?_⟩
 simp only [sample11, List.mem_cons, List.mem_nil_iff, or_false] at hr
 rcases hr with rfl | rfl | rfl | rfl <;> (constructor <;> (try constructor)) <;> simp [zero, u64r, i64r, strr]
abbrev awQ1 : Ques := ⟨[97, 46, 120, 46], 1⟩
def awR1 : Res := ⟨1, [42, 46, 120, 46], true, [], [⟨[97, 46, 120, 46], 1, 9, { zero with lo := 1 }⟩]⟩
theorem Yz4 : Aw1 sample11 awQ1 = awR1 := by kernel_rfl
theorem Qx9 (x : Res) (hx : x.recs.length ≤ 1000000) : S Sq3 2 [x.pv, x.pv] = some [.b true] := by
 refine s_u11 (N := 1) rfl ?_
 have k1 := Pq1 x.recs x.recs hx
 simp (disch := omega) only [x_u11, k1, EVM, EVC, EVR, EVP, ↓reduceIte, EV, Nat.reduceAdd, Nat.reduceEqDiff, Int.reduceToNat, reduceCtorEq]
 try simp
theorem Sy7 (z : Zone) (q : Ques) (hl : z.recs.length ≤ 1000) : (Aw1 z q).recs.length ≤ 1000 := by
 have hs : ∀ (l : List Rec) (t : Int), l.length ≤ 1000 → (saysM l t).recs.length ≤ 1000 := fun l t h => by
  unfold saysM
  split
  ·simp
  ·split
   ·simp
   ·have := Bz8 l t
    simp only; omega
 unfold Aw1
 split
 ·split
  ·have := Fq0 z (cutN z q.name) 2
   simp only; omega
  ·unfold Kj1
   cases h : redR z q.name with
   | some x =>
     show x.recs.length ≤ 1000
     unfold redR at h
     cases h2 : redO z q.name with
     | none => rw [h2] at h; cases h
     | some u =>
       rw [h2] at h
       simp only [Option.map_some, Option.some.injEq] at h
       rw [← h]
       unfold Ez6
       split <;> simp
   | none =>
     simp only
     split
     ·have := hs (allR z q.name) q.typ (by have := Ck1 z q.name; omega)
      exact this
     ·unfold Jw3
      split
      ·simp only [Option.getD_some]
       exact hs _ _ (by rw [List.length_map]; have := Ck1 z (Ax7 (encN z q.name)); omega)
      ·simp
 ·simp
end Go.X.G
/- Chains of aliases; the law LookupChases. -/
namespace Go.X
def Av3 (l : List Res) : PV := .l 5 (l.map Res.pv)
theorem Xz8 : PV.l 5 [] = Av3 [] := rfl
theorem lit_res (x : Res) : Cx1 5 [x.pv] = some (Av3 [x]) := rfl
theorem Yv1 (l : List Res) : Az2 (Av3 l) = some (.i .i64 (l.length : Int)) := by simp [Av3, Az2]
theorem Yw3 (l : List Res) (k : IntKind) (z : Int) (h : 0 ≤ z) : Bq6 5 (Av3 l) (.i k z) = (l[z.toNat]?).map Res.pv := by simp [Av3, Sy2 _ _ _ _ h]
theorem Xq1 (l : List Res) (x : Res) (h : l.length + 1 ≤ 1073741824) : Bj6 5 (Av3 l) (Av3 [x]) = some (Av3 (l ++ [x])) := by
 have := Ij2 5 (l.map Res.pv) [x.pv] (by simpa using h)
 simpa [Av3] using this
theorem Qx4 (l : List Res) : Bx0 (Av3 l) = some (Av3 l) := rfl
theorem Rk8 (l : List Res) : Aj7 0 (Av3 l) = some (Av3 l) := rfl
set_option linter.defProp false in
def EVRS := (And.intro @Xz8 (And.intro @lit_res (And.intro @Yv1 (And.intro @Yw3 (And.intro @Xq1 (And.intro @Qx4 @Rk8))))))
end Go.X
namespace Go.X.G
open Go Go.X

def Jj7 (r : Res) : Bool := (decide (r.kind = 2) || decide (r.kind = 3)) && decide (r.target ≠ [])
def Bv2 (z : Zone) (t : Int) : Nat → List Res → List (List UInt8) → List UInt8 → List Res × Bool
 | 0, out, _, _ => (out, false)
 | k + 1, out, seen, n =>
   if Jj7 (Aw1 z ⟨n, t⟩) = false then (out ++ [Aw1 z ⟨n, t⟩], true)
   else if out.length = 8 then (out ++ [Aw1 z ⟨n, t⟩], false)
   else if under (Aw1 z ⟨n, t⟩).target z.origin = false then (out ++ [Aw1 z ⟨n, t⟩], true)
   else if (Aw1 z ⟨n, t⟩).target ∈ seen then (out ++ [Aw1 z ⟨n, t⟩], false)
   else Bv2 z t k (out ++ [Aw1 z ⟨n, t⟩]) (seen ++ [(Aw1 z ⟨n, t⟩).target]) (Aw1 z ⟨n, t⟩).target
theorem Gj0 (z : Zone) (t : Int) (k : Nat) (out : List Res) (seen : List (List UInt8)) (n : List UInt8) : Bv2 z t (k + 1) out seen n =
  if Jj7 (Aw1 z ⟨n, t⟩) = false then (out ++ [Aw1 z ⟨n, t⟩], true)
  else if out.length = 8 then (out ++ [Aw1 z ⟨n, t⟩], false)
  else if under (Aw1 z ⟨n, t⟩).target z.origin = false then (out ++ [Aw1 z ⟨n, t⟩], true)
  else if (Aw1 z ⟨n, t⟩).target ∈ seen then (out ++ [Aw1 z ⟨n, t⟩], false)
  else Bv2 z t k (out ++ [Aw1 z ⟨n, t⟩]) (seen ++ [(Aw1 z ⟨n, t⟩).target]) (Aw1 z ⟨n, t⟩).target := rfl
def chaseM (z : Zone) (q : Ques) : List Res × Bool := Bv2 z q.typ 9 [] [q.name] q.name
theorem Qy3 (n top to : List UInt8) : (replN n top to).1.length ≤ 254 := by
 unfold replN
 split
 ·split
  ·split
   ·assumption
   ·simp
  ·simp
 ·simp
theorem Dw9 (l : List Rec) (t : Int) (h : ∀ r ∈ l, r.data.host.length ≤ 9223372036854775807) : (saysM l t).target.length ≤ 9223372036854775807 := by
 unfold saysM
 cases ha : aliO l t with
 | some c =>
   unfold aliO at ha
   split at ha
   ·cases ha
   ·exact h c (List.mem_of_find?_eq_some ha)
 | none => simp only; split <;> simp
theorem Ej0 (z : Zone) (q : Ques) (hz : z.wf) : (Aw1 z q).target.length ≤ 9223372036854775807 := by
 have hh : ∀ n, ∀ r ∈ allR z n, r.data.host.length ≤ 9223372036854775807 := fun n r hr => (hz.recs.2 r (List.mem_filter.1 hr).1).data.host
 unfold Aw1
 split
 ·split
  ·simp
  ·unfold Kj1
   cases h : redR z q.name with
   | some x =>
     show x.target.length ≤ 9223372036854775807
     unfold redR at h
     cases h2 : redO z q.name with
     | none => rw [h2] at h; cases h
     | some u =>
       rw [h2] at h
       simp only [Option.map_some, Option.some.injEq] at h
       rw [← h]
       unfold Ez6
       split
       ·rename_i r rest _
        have := Qy3 q.name u r.data.host
        simp only [Dw4]
        split
        ·simp
        ·omega
       ·simp
   | none =>
     simp only
     split
     ·exact Dw9 _ _ (hh _)
     ·unfold Jw3
      split
      ·simp only [Option.getD_some]
       refine Dw9 _ _ fun r hr => ?_
       obtain ⟨x, hx, rfl⟩ := List.mem_map.1 hr
       exact hh _ x hx
      ·simp
 ·simp
theorem Oj6 (z : Zone) (q : Ques) (hz : z.wf) (hl : z.recs.length ≤ 1000) (hq : q.name.length ≤ 9223372036854775807) : S Pz3 2 [z.pv, q.pv] = some [Av3 (chaseM z q).1, .b (chaseM z q).2] := by
 refine s_u14 (N := 1000) rfl ?_
 have g1 := hz.origin
 unfold strr at g1
 have key : Zx2.ev S 1000 [z.pv, q.pv] = some (.ret [Av3 (chaseM z q).1, .b (chaseM z q).2]) := by
  refine Ax2 (α := List Res × List (List UInt8) × List UInt8) (fun a => [Av3 a.1, Aj4 a.2.1, .s a.2.2]) (fun a => .ret [Av3 (Bv2 z q.typ (9 - a.1.length) a.1 a.2.1 a.2.2).1, .b (Bv2 z q.typ (9 - a.1.length) a.1 a.2.1 a.2.2).2])
   (fun a => a.1.length ≤ 8 ∧ a.2.1.length ≤ 100 ∧ a.2.1.length = a.1.length + 1 ∧ a.2.2.length ≤ 9223372036854775807) (fun a => 9 - a.1.length) ([], [q.name], q.name) ?_ ⟨by simp, by simp, by simp, hq⟩ (by simp) ?_
  ·simp (disch := omega) only [EVM, EVC, EVR, EVRS, EVP, ↓reduceIte, EV, Nat.reduceAdd, Nat.reduceEqDiff, Int.reduceToNat, reduceCtorEq]
  ·rintro ⟨out, seen, n⟩ ⟨i1, i2, i3, i4⟩
   simp only at i1 i2 i3 i4 ⊢
   have hk : 9 - out.length = (8 - out.length) + 1 := by omega
   have k1 := find_ok z ⟨n, q.typ⟩ hz hl i4
   have tt := Ej0 z ⟨n, q.typ⟩ hz
   rw [hk, Gj0]
   generalize hr : Aw1 z ⟨n, q.typ⟩ = r at *
   have k2 := Az5 r.target z.origin tt g1
   have k3 := Bz7 seen r.target (by omega)
   rcases Bool.eq_false_or_eq_true (Jj7 r) with h1 | h1
   ·rw [if_neg (by simp [h1])]
    have h1' := h1
    unfold Jj7 at h1'
    simp only [Bool.and_eq_true, Bool.or_eq_true, decide_eq_true_eq, ne_eq] at h1'
    obtain ⟨h2, h3⟩ := h1'
    have h4 : ¬ (r.kind ≠ 2 ∧ r.kind ≠ 3) := by omega
    by_cases h5 : out.length = 8
    ·right
     rw [if_pos h5]
     have h6 : ((out ++ [r]).length : Int) = 9 := by simp; omega
     refine ⟨?_, rfl⟩
     rcases h2 with h2 | h2 <;> simp (disch := omega) only [Ik8, k1, h2, h3, h6, EVM, EVC, EVR, EVRS, EVP, ↓reduceIte, EV, Nat.reduceAdd, Nat.reduceEqDiff, Int.reduceToNat, reduceCtorEq]
    ·rw [if_neg h5]
     have h6 : ¬ ((out ++ [r]).length : Int) = 9 := by simp; omega
     rcases Bool.eq_false_or_eq_true (under r.target z.origin) with h7 | h7
     ·rw [if_neg (by simp [h7])]
      rw [h7] at k2
      by_cases h8 : r.target ∈ seen
      ·right
       rw [if_pos h8]
       refine ⟨?_, rfl⟩
       rcases h2 with h2 | h2 <;> simp (disch := omega) only [Ik8, k1, k2, k3, h2, h3, h6, h8, EVM, EVC, EVR, EVRS, EVP, ↓reduceIte, EV, Nat.reduceAdd, Nat.reduceEqDiff, Int.reduceToNat, reduceCtorEq]
      ·left
       rw [if_neg h8]
       refine ⟨(out ++ [r], seen ++ [r.target], r.target), ?_, ⟨by simp only [List.length_append, List.length_singleton]; omega, by simp only [List.length_append, List.length_singleton]; omega, by simp only [List.length_append, List.length_singleton]; omega, tt⟩, by simp only [List.length_append, List.length_singleton]; omega, ?_⟩
       ·rcases h2 with h2 | h2 <;> simp (disch := omega) only [Ik8, k1, k2, k3, h2, h3, h6, h8, EVM, EVC, EVR, EVRS, EVP, ↓reduceIte, EV, Nat.reduceAdd, Nat.reduceEqDiff, Int.reduceToNat, reduceCtorEq]
       ·have : 9 - (out ++ [r]).length = 8 - out.length := by rw [List.length_append, List.length_singleton]; omega
        simp only [this]
     ·right
      rw [if_pos h7]
      rw [h7] at k2
      refine ⟨?_, rfl⟩
      rcases h2 with h2 | h2 <;> simp (disch := omega) only [Ik8, k1, k2, h2, h3, h6, EVM, EVC, EVR, EVRS, EVP, ↓reduceIte, EV, Nat.reduceAdd, Nat.reduceEqDiff, Int.reduceToNat, reduceCtorEq]
   ·right
    rw [if_pos h1]
    unfold Jj7 at h1
    refine ⟨?_, rfl⟩
    by_cases h2 : r.kind = 2
    ·have h3 : r.target = [] := by simpa [h2] using h1
     simp (disch := omega) only [Ik8, k1, h2, h3, EVM, EVC, EVR, EVRS, EVP, ↓reduceIte, EV, Nat.reduceAdd, Nat.reduceEqDiff, Int.reduceToNat, reduceCtorEq]
    ·by_cases h3 : r.kind = 3
     ·have h4 : r.target = [] := by simpa [h3] using h1
      simp (disch := omega) only [Ik8, k1, h3, h4, EVM, EVC, EVR, EVRS, EVP, ↓reduceIte, EV, Nat.reduceAdd, Nat.reduceEqDiff, Int.reduceToNat, reduceCtorEq]
     ·simp (disch := omega) only [Ik8, k1, h2, h3, EVM, EVC, EVR, EVRS, EVP, ↓reduceIte, EV, Nat.reduceAdd, Nat.reduceEqDiff, Int.reduceToNat, reduceCtorEq]
 simp (disch := omega) only [Ik8, key, EVM, EVC, EVR, EVRS, EVP, ↓reduceIte, EV, Nat.reduceAdd, Nat.reduceEqDiff, Int.reduceToNat, reduceCtorEq]
theorem Yv4 (r : Res) : S Sj5 1 [r.pv] = some [.b (Jj7 r)] := by
 refine s_u44 (N := 1) rfl ?_
 unfold Jj7
 by_cases h1 : r.kind = 2
 ·simp (disch := omega) only [Zy5, h1, EVM, EVC, EVR, EVRS, EVP, ↓reduceIte, EV, Nat.reduceAdd, Nat.reduceEqDiff, Int.reduceToNat, reduceCtorEq]; try simp
 ·by_cases h2 : r.kind = 3
  ·simp (disch := omega) only [Zy5, h2, EVM, EVC, EVR, EVRS, EVP, ↓reduceIte, EV, Nat.reduceAdd, Nat.reduceEqDiff, Int.reduceToNat, reduceCtorEq]; try simp
  ·simp (disch := omega) only [Zy5, h1, h2, EVM, EVC, EVR, EVRS, EVP, ↓reduceIte, EV, Nat.reduceAdd, Nat.reduceEqDiff, Int.reduceToNat, reduceCtorEq]; try simp
theorem Qy6 (z : Zone) (q : Ques) (hz : z.wf) (hl : z.recs.length ≤ 1000) (hq : q.name.length ≤ 9223372036854775807) (hdn : ∀ u, (findR z.recs u 39).length ≤ 1) : S Sk9 2 [z.pv, q.pv] = some [Av3 (chaseM z q).1, .b (chaseM z q).2] := by
 refine s_u16 (N := 1000) rfl ?_
 have g1 := hz.origin
 unfold strr at g1
 have inner : ∀ (out : List Res) (seen : List (List UInt8)) (p4 p6 p7 : PV) (r : Res), out.length ≤ 8 → seen.length ≤ 100 → Zq4.ev S 1000 [z.pv, q.pv, Av3 out, Aj4 seen, p4, r.pv, p6, p7] = some (if r.target ∈ seen then .ret [Av3 (out ++ [r]), .b false] else .yld 2 []) := by
  intro out seen p4 p6 p7 r ho hs
  refine Aq0 seen (fun i => [.i .i64 (i : Int)]) (fun i l => if r.target ∈ l then .ret [Av3 (out ++ [r]), .b false] else .yld 2 []) rfl (by omega) (fun i c l hd hi hc => ?_) ?_
  ·by_cases h : c = r.target
   ·right
    simp (disch := omega) only [Fv8, hc, h, EVM, EVC, EVR, EVRS, EVP, ↓reduceIte, EV, Nat.reduceAdd, Nat.reduceEqDiff, Int.reduceToNat, reduceCtorEq]
    simp [Out.goes]
   ·left
    have h2 : ¬ r.target = c := fun e => h e.symm
    simp (disch := omega) only [Fv8, hc, h, EVM, EVC, EVR, EVRS, EVP, ↓reduceIte, EV, Nat.reduceAdd, Nat.reduceEqDiff, Int.reduceToNat, reduceCtorEq]
    simp [h2]
  ·simp (disch := omega) only [Fv8, EVM, EVC, EVR, EVRS, EVP, ↓reduceIte, EV, Nat.reduceAdd, Nat.reduceEqDiff, Int.reduceToNat, reduceCtorEq]
   simp [Out.goes]
 have key : Zx1.ev S 1000 [z.pv, q.pv] = some (.ret [Av3 (chaseM z q).1, .b (chaseM z q).2]) := by
  refine Ax2 (α := List Res × List (List UInt8) × List UInt8) (fun a => [Av3 a.1, Aj4 a.2.1, .i .i64 (a.1.length : Int)]) (fun a => .ret [Av3 (Bv2 z q.typ (9 - a.1.length) a.1 a.2.1 a.2.2).1, .b (Bv2 z q.typ (9 - a.1.length) a.1 a.2.1 a.2.2).2])
   (fun a => a.1.length ≤ 8 ∧ a.2.1.length ≤ 100 ∧ a.2.1.length = a.1.length + 1 ∧ a.2.2.length ≤ 9223372036854775807 ∧ a.2.1[a.1.length]? = some a.2.2) (fun a => 9 - a.1.length) ([], [q.name], q.name) ?_ ⟨by simp, by simp, by simp, hq, rfl⟩ (by simp) ?_
  ·simp (disch := omega) only [EVM, EVC, EVR, EVRS, EVP, ↓reduceIte, EV, Nat.reduceAdd, Nat.reduceEqDiff, Int.reduceToNat, reduceCtorEq]
  ·rintro ⟨out, seen, n⟩ ⟨i1, i2, i3, i4, i5⟩
   simp only at i1 i2 i3 i4 i5 ⊢
   have hk : 9 - out.length = (8 - out.length) + 1 := by omega
   have h0 : ((out.length : Nat) : Int) ≤ 8 := by omega
   have k1 := Xz6 z ⟨n, q.typ⟩ hz hl i4 hdn
   have tt := Ej0 z ⟨n, q.typ⟩ hz
   rw [hk, Gj0]
   generalize hr : Aw1 z ⟨n, q.typ⟩ = r at *
   have k2 := Av8 r.target z.origin tt g1
   have k3 := fun p4 p6 p7 => inner out seen p4 p6 p7 r i1 i2
   have k4 := Yv4 r
   have hln : ((out ++ [r]).length : Int) = (out.length : Int) + 1 := by simp
   rcases Bool.eq_false_or_eq_true (Jj7 r) with h1 | h1
   ·rw [if_neg (by simp [h1])]
    rw [h1] at k4
    by_cases h5 : out.length = 8
    ·right
     rw [if_pos h5]
     have h6 : (8 : Int) < ((out ++ [r]).length : Int) := by omega
     refine ⟨?_, rfl⟩
     simp (disch := omega) only [Fv8, h0, i5, k1, k4, h6, EVM, EVC, EVR, EVRS, EVP, ↓reduceIte, EV, Nat.reduceAdd, Nat.reduceEqDiff, Int.reduceToNat, reduceCtorEq]
    ·rw [if_neg h5]
     have h6 : ¬ (8 : Int) < ((out ++ [r]).length : Int) := by omega
     rcases Bool.eq_false_or_eq_true (under r.target z.origin) with h7 | h7
     ·rw [if_neg (by simp [h7])]
      rw [h7] at k2
      by_cases h8 : r.target ∈ seen
      ·right
       rw [if_pos h8]
       simp only [if_pos h8] at k3
       refine ⟨?_, rfl⟩
       simp (disch := omega) only [Fv8, h0, i5, k1, k2, k3, k4, h6, EVM, EVC, EVR, EVRS, EVP, ↓reduceIte, EV, Nat.reduceAdd, Nat.reduceEqDiff, Int.reduceToNat, reduceCtorEq]
      ·left
       rw [if_neg h8]
       simp only [if_neg h8] at k3
       refine ⟨(out ++ [r], seen ++ [r.target], r.target), ?_, ⟨by simp only [List.length_append, List.length_singleton]; omega, by simp only [List.length_append, List.length_singleton]; omega, by simp only [List.length_append, List.length_singleton]; omega, tt, ?_⟩, by simp only [List.length_append, List.length_singleton]; omega, ?_⟩
       ·rw [hln]
        simp (disch := omega) only [Fv8, h0, i5, k1, k2, k3, k4, h6, EVM, EVC, EVR, EVRS, EVP, ↓reduceIte, EV, Nat.reduceAdd, Nat.reduceEqDiff, Int.reduceToNat, reduceCtorEq]
       ·simp only
        rw [List.getElem?_append_right (by simp; omega), show (out ++ [r]).length - seen.length = 0 by simp; omega]; rfl
       ·have : 9 - (out ++ [r]).length = 8 - out.length := by rw [List.length_append, List.length_singleton]; omega
        simp only [this]
     ·right
      rw [if_pos h7]
      rw [h7] at k2
      refine ⟨?_, rfl⟩
      simp (disch := omega) only [Fv8, h0, i5, k1, k2, k4, h6, EVM, EVC, EVR, EVRS, EVP, ↓reduceIte, EV, Nat.reduceAdd, Nat.reduceEqDiff, Int.reduceToNat, reduceCtorEq]
   ·right
    rw [if_pos h1]
    rw [h1] at k4
    refine ⟨?_, rfl⟩
    simp (disch := omega) only [Fv8, h0, i5, k1, k4, EVM, EVC, EVR, EVRS, EVP, ↓reduceIte, EV, Nat.reduceAdd, Nat.reduceEqDiff, Int.reduceToNat, reduceCtorEq]
 simp (disch := omega) only [Fv8, key, EVM, EVC, EVR, EVRS, EVP, ↓reduceIte, EV, Nat.reduceAdd, Nat.reduceEqDiff, Int.reduceToNat, reduceCtorEq]
theorem Fq6 (P : Res → Prop) (z : Zone) (t : Int) (h : ∀ n, P (Aw1 z ⟨n, t⟩)) : ∀ (k : Nat) (out : List Res) (seen : List (List UInt8)) (n : List UInt8), (∀ r ∈ out, P r) → ∀ r ∈ (Bv2 z t k out seen n).1, P r
 | 0, out, seen, n, ho => ho
 | k + 1, out, seen, n, ho => by
   have ho' : ∀ r ∈ out ++ [Aw1 z ⟨n, t⟩], P r := fun r hr => by
    rcases List.mem_append.1 hr with hr | hr
    ·exact ho r hr
    ·rw [List.mem_singleton.1 hr]; exact h n
   unfold Bv2
   split
   ·exact ho'
   ·split
    ·exact ho'
    ·split
     ·exact ho'
     ·split
      ·exact ho'
      ·exact Fq6 P z t h k _ _ _ ho'
theorem Fq5 (z : Zone) (t : Int) : ∀ (k : Nat) (out : List Res) (seen : List (List UInt8)) (n : List UInt8), (Bv2 z t k out seen n).1.length ≤ out.length + k
 | 0, out, seen, n => by simp [Bv2]
 | k + 1, out, seen, n => by
   unfold Bv2
   have hl : (out ++ [Aw1 z ⟨n, t⟩]).length = out.length + 1 := by simp
   split
   ·simp only; omega
   ·split
    ·simp only; omega
    ·split
     ·simp only; omega
     ·split
      ·simp only; omega
      ·have := Fq5 z t k (out ++ [Aw1 z ⟨n, t⟩]) (seen ++ [(Aw1 z ⟨n, t⟩).target]) (Aw1 z ⟨n, t⟩).target
       omega
theorem Yz5 : chaseM sample11 awQ1 = ([awR1], true) := by
 unfold chaseM
 rw [Gj0, show (⟨awQ1.name, awQ1.typ⟩ : Ques) = awQ1 from rfl, Yz4]
 rfl
theorem law_LookupChases (z : Zone) (q : Ques) (hz : z.wf) (hq : q.wf) : S n_u4 2 [z.pv, q.pv] = some [.b true] := by
 refine s_u4 (N := 1000) rfl ?_
 have k0 := Oj6 sample11 awQ1 Jx3 (by decide) (by decide)
 rw [Yz5] at k0
 simp only at k0
 have s1 := Qx8
 have r0 : ([awR1] : List Res)[0]? = some awR1 := rfl
 have r3 : awR1.kind = 1 := rfl
 have rl : (([awR1] : List Res).length : Int) = 1 := rfl
 generalize [awR1] = la at *
 generalize awR1 = a1 at *
 generalize sample11 = sm at *
 have k2 := Xy6 z hz
 have hqn : q.name.length ≤ 9223372036854775807 := hq.name
 by_cases h3 : z.recs.length ≤ 60
 ·by_cases h5 : Cy2 z = 0
  ·have e : (decide (z.recs.length ≤ 60) && decide (Cy2 z = 0)) = true := by simp [h3, h5]
   rw [e] at k2
   by_cases h4 : q.name.length ≤ 300
   ·have hc := Tj7 h5
    have k3 := Oj6 z q hz (by omega) hqn
    have k4 := Qy6 z q hz (by omega) hqn (fun u => hc.single u 39 (by simp))
    have hall : ∀ r ∈ (chaseM z q).1, r.recs.length ≤ 1000 := Fq6 (fun r => r.recs.length ≤ 1000) z q.typ (fun n => Sy7 z ⟨n, q.typ⟩ (by omega)) 9 [] [q.name] q.name (by simp)
    have hlen : (chaseM z q).1.length ≤ 9 := by simpa [chaseM] using Fq5 z q.typ 9 [] [q.name] q.name
    generalize chaseM z q = cm at *
    obtain ⟨l, ok⟩ := cm
    simp only at k3 k4 hall hlen
    have key : ∀ p2 p3 p4 p5 p7 p9, l0_u4.ev S 1000 [z.pv, q.pv, p2, p3, p4, p5, Av3 l, p7, Av3 l, p9] = some (.yld 0 []) := by
     intro p2 p3 p4 p5 p7 p9
     refine Aq0 l (fun i => [.i .i64 (i : Int)]) (fun i r => .yld 0 []) rfl (by omega) (fun i c r hd hi hc => ?_) ?_
     ·left
      have k5 := Qx9 c (by have := hall c (List.mem_of_getElem? hc); omega)
      simp (disch := omega) only [x_u4, hc, k5, EVM, EVC, EVR, EVRS, EVP, ↓reduceIte, EV, Nat.reduceAdd, Nat.reduceEqDiff, Int.reduceToNat, reduceCtorEq]
      try simp
     ·simp (disch := omega) only [x_u4, EVM, EVC, EVR, EVRS, EVP, ↓reduceIte, EV, Nat.reduceAdd, Nat.reduceEqDiff, Int.reduceToNat, reduceCtorEq]
      try simp [Out.goes]
    simp (disch := omega) only [x_u4, s1, k0, rl, r0, r3, k2, k3, k4, key, EVM, EVC, EVR, EVRS, EVP, ↓reduceIte, EV, Nat.reduceAdd, Nat.reduceEqDiff, Int.reduceToNat, reduceCtorEq]
    try simp
   ·have h6 : (300 : Int) < (q.name.length : Int) := by omega
    simp (disch := omega) only [x_u4, s1, k0, rl, r0, r3, k2, h6, EVM, EVC, EVR, EVRS, EVP, ↓reduceIte, EV, Nat.reduceAdd, Nat.reduceEqDiff, Int.reduceToNat, reduceCtorEq]
  ·have e : (decide (z.recs.length ≤ 60) && decide (Cy2 z = 0)) = false := by simp [h5]
   rw [e] at k2
   simp (disch := omega) only [x_u4, s1, k0, rl, r0, r3, k2, EVM, EVC, EVR, EVRS, EVP, ↓reduceIte, EV, Nat.reduceAdd, Nat.reduceEqDiff, Int.reduceToNat, reduceCtorEq]
 ·have e : (decide (z.recs.length ≤ 60) && decide (Cy2 z = 0)) = false := by simp [h3]
  rw [e] at k2
  simp (disch := omega) only [x_u4, s1, k0, rl, r0, r3, k2, EVM, EVC, EVR, EVRS, EVP, ↓reduceIte, EV, Nat.reduceAdd, Nat.reduceEqDiff, Int.reduceToNat, reduceCtorEq]
end Go.X.G
