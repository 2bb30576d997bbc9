/- The order of records; what a checked zone is like. -/
import Derived.Test.YtfkfaliipkpcdaaGreatDoorLookupRespondsG9
import Derived.Test.YtfkfaliipkpcdaaGreatDoorLookupRespondsG11

set_option maxHeartbeats 1000000
set_option linter.unusedVariables false
set_option linter.unusedSimpArgs false
namespace Go.X.G
open Go Go.X

theorem TO.prod {α β : Type} {l1 : α → α → Prop} {l2 : β → β → Prop} (h1 : TO l1) (h2 : TO l2) : TO (fun p q : α × β => l1 p.1 q.1 ∨ (p.1 = q.1 ∧ l2 p.2 q.2)) where
 irr := fun p h => by
  rcases h with h | ⟨_, h⟩
  ·exact h1.irr _ h
  ·exact h2.irr _ h
 tr := fun p q r a b => by
  rcases a with a | ⟨a, a'⟩ <;> rcases b with b | ⟨b, b'⟩
  ·exact .inl (h1.tr _ _ _ a b)
  ·exact .inl (b ▸ a)
  ·exact .inl (a ▸ b)
  ·exact .inr ⟨a.trans b, h2.tr _ _ _ a' b'⟩
 tri := fun p q => by
  rcases h1.tri p.1 q.1 with a | a | a
  ·exact .inl (.inl a)
  ·rcases h2.tri p.2 q.2 with b | b | b
   ·exact .inl (.inr ⟨a, b⟩)
   ·exact .inr (.inl (Prod.ext a b))
   ·exact .inr (.inr (.inr ⟨a.symm, b⟩))
  ·exact .inr (.inr (.inl a))
theorem to_I : TO (fun a b : Int => a < b) := ⟨fun a h => by omega, fun a b c h1 h2 => by omega, fun a b => by omega⟩
theorem Kz9 (a b : Int) : cmpI a b < 0 ↔ a < b := by unfold cmpI; split <;> (try split) <;> omega
theorem Bq1 (a b : Int) : cmpI a b = 0 ↔ a = b := by unfold cmpI; split <;> (try split) <;> omega
abbrev Key := List UInt8 × Int × List UInt8
abbrev ltK : Key → Key → Prop := fun p q => ltN p.1 q.1 ∨ (p.1 = q.1 ∧ (p.2.1 < q.2.1 ∨ (p.2.1 = q.2.1 ∧ ltB p.2.2 q.2.2)))
theorem to_K : TO ltK := to_N.prod (to_I.prod to_B)
def keyR (r : Rec) : Key := (r.name, r.typ, Bl4 r.typ r.data)
abbrev ltR (a b : Rec) : Prop := ltK (keyR a) (keyR b)
theorem At7 {r : Rec} (h : vldR r = true) : vldD r.typ r.data = true := by
 unfold vldR at h
 simp only [Bool.and_eq_true] at h
 exact h.2
theorem Kn1 {t : Int} {a b : Dat} (ha : vldD t a = true) (hb : vldD t b = true) : cmpD t a b = cmpS (Bl4 t a) (Bl4 t b) := by
 unfold cmpD; rw [ha, hb]; rfl
theorem Fn9 {a b : Rec} (ha : vldR a = true) (hb : vldR b = true) : cmpF a b < 0 ↔ ltR a b := by
 unfold cmpF ltR ltK keyR
 simp only
 by_cases h1 : cmpN a.name b.name = 0
 ·rw [if_neg (by simp [h1])]
  have e1 := Bq0.1 h1
  have n1 : ¬ ltN a.name b.name := by rw [e1]; exact to_N.irr _
  by_cases h2 : cmpI a.typ b.typ = 0
  ·rw [if_neg (by simp [h2])]
   have e2 := (Bq1 _ _).1 h2
   have ha' := At7 ha
   have hb' := At7 hb
   rw [e2] at ha' ⊢
   rw [Kn1 ha' hb', Cb2]
   constructor
   ·intro h; exact .inr ⟨e1, .inr ⟨rfl, h⟩⟩
   ·rintro (h | ⟨_, h | ⟨_, h⟩⟩)
    ·exact absurd h n1
    ·omega
    ·exact h
  ·rw [if_pos h2, Kz9]
   have e2 : a.typ ≠ b.typ := fun e => h2 ((Bq1 _ _).2 e)
   constructor
   ·intro h; exact .inr ⟨e1, .inl h⟩
   ·rintro (h | ⟨_, h | ⟨h, _⟩⟩)
    ·exact absurd h n1
    ·exact h
    ·exact absurd h e2
 ·rw [if_pos h1, Av4]
  have e1 : a.name ≠ b.name := fun e => h1 (Bq0.2 e)
  constructor
  ·intro h; exact .inl h
  ·rintro (h | ⟨h, _⟩)
   ·exact h
   ·exact absurd h e1
theorem Dl1 {a b : Rec} (ha : vldR a = true) (hb : vldR b = true) : cmpF a b = 0 ↔ keyR a = keyR b := by
 unfold cmpF keyR
 by_cases h1 : cmpN a.name b.name = 0
 ·rw [if_neg (by simp [h1])]
  have e1 := Bq0.1 h1
  by_cases h2 : cmpI a.typ b.typ = 0
  ·rw [if_neg (by simp [h2])]
   have e2 := (Bq1 _ _).1 h2
   have ha' := At7 ha
   have hb' := At7 hb
   rw [e2] at ha' ⊢
   rw [Kn1 ha' hb', Af9]
   simp [e1]
  ·rw [if_pos h2]
   have e2 : a.typ ≠ b.typ := fun e => h2 ((Bq1 _ _).2 e)
   constructor
   ·intro h; exact absurd h h2
   ·intro h; injection h with _ h; injection h with h _; exact absurd h e2
 ·rw [if_pos h1]
  have e1 : a.name ≠ b.name := fun e => h1 (Bq0.2 e)
  constructor
  ·intro h; exact absurd h h1
  ·intro h; injection h with h _; exact absurd h e1
theorem Bg0 {x : Rec} (hx : vldR x = true) : ∀ (l : List Rec), (∀ r ∈ l, vldR r = true) → l.Pairwise ltR → (insR x l).Pairwise ltR
 | [], _, _ => by simp [insR]
 | y :: r, hv, h => by
   obtain ⟨h1, h2⟩ := List.pairwise_cons.1 h
   have hy := hv y (.head _)
   have ih := Bg0 hx r (fun w hw => hv w (.tail _ hw)) h2
   simp only [insR]
   by_cases c : cmpF y x < 0
   ·rw [if_pos c]
    refine List.pairwise_cons.2 ⟨fun w hw => ?_, ih⟩
    rcases insR_mem x r w hw with rfl | hw
    ·exact (Fn9 hy hx).1 c
    ·exact h1 w hw
   ·rw [if_neg c]
    by_cases e : cmpF y x = 0
    ·rw [if_pos e]
     split
     ·have ke := (Dl1 hy hx).1 e
      refine List.pairwise_cons.2 ⟨fun w hw => ?_, h2⟩
      have := h1 w hw
      show ltK (keyR x) (keyR w)
      rw [← ke]; exact this
     ·exact h
    ·rw [if_neg e]
     have hxy : ltR x y := by
      rcases to_K.tri (keyR x) (keyR y) with q | q | q
      ·exact q
      ·exact absurd ((Dl1 hy hx).2 q.symm) e
      ·exact absurd ((Fn9 hy hx).2 q) c
     refine List.pairwise_cons.2 ⟨fun w hw => ?_, h⟩
     rcases List.mem_cons.1 hw with rfl | hw
     ·exact hxy
     ·exact to_K.tr _ _ _ hxy (h1 w hw)
theorem Dz1 (l : List Rec) (hv : ∀ r ∈ l, vldR r = true) : (Gy7 l).Pairwise ltR ∧ ∀ r ∈ Gy7 l, r ∈ l := by
 have : ∀ (l a : List Rec), (∀ r ∈ l, vldR r = true) → (∀ r ∈ a, vldR r = true) → a.Pairwise ltR → (l.foldl (fun acc x => insR x acc) a).Pairwise ltR ∧ ∀ r ∈ l.foldl (fun acc x => insR x acc) a, r ∈ a ∨ r ∈ l := by
  intro l
  induction l with
  | nil => intro a _ _ h; exact ⟨h, fun r hr => .inl hr⟩
  | cons x r ih =>
    intro a h1 h2 h3
    have hx := h1 x (.head _)
    obtain ⟨g1, g2⟩ := ih (insR x a) (fun w hw => h1 w (.tail _ hw)) (fun w hw => by
     rcases insR_mem x a w hw with rfl | hw
     ·exact hx
     ·exact h2 w hw) (Bg0 hx a h2 h3)
    refine ⟨g1, fun w hw => ?_⟩
    rcases g2 w hw with hw | hw
    ·rcases insR_mem x a w hw with rfl | hw
     ·exact .inr (.head _)
     ·exact .inl hw
    ·exact .inr (.tail _ hw)
 obtain ⟨h1, h2⟩ := this l [] hv (fun r hr => by cases hr) .nil
 exact ⟨h1, fun r hr => (h2 r hr).resolve_left (by simp)⟩

structure ZOk (z : Zone) : Prop where
 origin : vld z.origin = true
 small : z.recs.length ≤ 2048
 valid : ∀ r ∈ z.recs, vldR r = true
 rising : z.recs.Pairwise ltR
 soa : (findR z.recs z.origin 6).length = 1
 ns : hasR z.recs z.origin 2 = true
 recs : ∀ r ∈ z.recs, Bd4 z r = true
theorem Hp3 {z : Zone} (h : Bq2 z = 0) : ZOk z := by
 unfold Bq2 at h
 split at h
 ·cases h
 ·rename_i h1
  split at h
  ·cases h
  ·rename_i h2
   split at h
   ·cases h
   ·split at h
    ·cases h
    ·rename_i h4
     split at h
     ·cases h
     ·rename_i h5
      split at h
      ·cases h
      ·rename_i h6
       split at h
       ·cases h
       ·rename_i h7
        simp only [Bool.not_eq_false, List.all_eq_true] at h1 h4 h7
        simp only [not_or, ne_eq, Classical.not_not, Bool.not_eq_false] at h5 h6
        refine ⟨h1, by omega, h4, ?_, h6.1, h6.2, h7⟩
        rw [h5]
        exact (Dz1 z.recs h4).1
theorem ZOk.beside {z : Zone} (h : ZOk z) {r x : Rec} (hr : r ∈ z.recs) (hx : x ∈ z.recs) : Ac0 r x = true := by
 have := h.recs r hr
 unfold Bd4 at this
 simp only [Bool.and_eq_true] at this
 have h2 := this.1.2
 unfold Bw5 at h2
 exact List.all_eq_true.1 h2 x hx
theorem ZOk.under {z : Zone} (h : ZOk z) {r : Rec} (hr : r ∈ z.recs) : under r.name z.origin = true := by
 have := h.recs r hr
 unfold Bd4 at this
 simp only [Bool.and_eq_true] at this
 exact this.1.1.1
theorem ZOk.single {z : Zone} (h : ZOk z) (n : List UInt8) (t : Int) (ht : t = 6 ∨ t = 5 ∨ t = 39) : (findR z.recs n t).length ≤ 1 := by
 have hp : (findR z.recs n t).Pairwise ltR := h.rising.filter _
 have hm : ∀ x ∈ findR z.recs n t, x ∈ z.recs ∧ x.name = n ∧ x.typ = t := fun x hx => by
  obtain ⟨h1, h2⟩ := List.mem_filter.1 hx
  simp only [isK, Bool.and_eq_true, decide_eq_true_eq] at h2
  exact ⟨h1, h2.1, h2.2⟩
 generalize findR z.recs n t = l at *
 match l, hp, hm with
 | [], _, _ => simp
 | [_], _, _ => simp
 | a :: b :: r, hp, hm =>
   exfalso
   have hab : ltR a b := (List.pairwise_cons.1 hp).1 b (.head _)
   obtain ⟨a1, a2, a3⟩ := hm a (.head _)
   obtain ⟨b1, b2, b3⟩ := hm b (.tail _ (.head _))
   have hb := h.beside a1 b1
   have e : b = a := by
    unfold Ac0 at hb
    rw [a2, a3, b2, b3] at hb
    have ht' : (decide (t = 6) || decide (t = 5) || decide (t = 39)) = true := by rcases ht with h | h | h <;> simp [h]
    rw [ht'] at hb
    simp only [decide_true, Bool.not_true, Bool.false_or, Bool.and_true, Bool.true_and, Bool.and_eq_true, Bool.not_eq_true', decide_eq_false_iff_not, ne_eq, Classical.not_not] at hb
    exact hb.1.2
   rw [e] at hab
   exact to_K.irr _ hab
end Go.X.G
/- The law LookupSoas. -/
namespace Go.X.G
open Go Go.X

theorem Bz8 (z : Zone) (n : List UInt8) (t : Int) (hl : z.recs.length ≤ 1000000) : S By2 3 [z.pv, .s n, .i .i64 t] = some [Aj1 (findR z.recs n t)] := by
 refine Ln6 (N := 1) rfl ?_
 simp (disch := omega) only [Lg2, Fs5, EVP, ↓reduceIte, EV, Nat.reduceAdd, Nat.reduceEqDiff, Int.reduceToNat, reduceCtorEq]
theorem Dn0 (z : Zone) (n : List UInt8) (t : Int) (hl : z.recs.length ≤ 1000000) : S Bv9 3 [z.pv, .s n, .i .i64 t] = some [Aj1 (findR z.recs n t)] := by
 refine Ln5 (N := 1) rfl ?_
 simp (disch := omega) only [Lg1, Ad7, EVP, ↓reduceIte, EV, Nat.reduceAdd, Nat.reduceEqDiff, Int.reduceToNat, reduceCtorEq]
def soaR (z : Zone) : List Rec := match findR z.recs z.origin 6 with
 | [] => []
 | r :: _ => [{ r with ttl := if r.data.e < r.ttl then r.data.e else r.ttl }]
theorem Lf2 (z : Zone) (hl : z.recs.length ≤ 1000000) : S Gg2 1 [z.pv] = some [Aj1 (soaR z)] := by
 refine Mt2 (N := 1) rfl ?_
 unfold soaR
 cases h : findR z.recs z.origin 6 with
 | nil => simp (disch := first | omega | (simp; omega)) only [Lg3, Bz8, h, EVP, ↓reduceIte, EV, Nat.reduceAdd, Nat.reduceEqDiff, Int.reduceToNat, reduceCtorEq]
 | cons r l =>
   have h1 : ¬ (((l.length + 1 : Nat) : Int) = 0) := by omega
   by_cases h2 : r.data.e < r.ttl <;> simp (disch := first | omega | (simp; omega)) only [Lg3, Bz8, h, h2, EVP, ↓reduceIte, EV, Nat.reduceAdd, Nat.reduceEqDiff, Int.reduceToNat, reduceCtorEq]
theorem Lf1 (z : Zone) (hl : z.recs.length ≤ 1000000) : S Hb7 1 [z.pv] = some [Aj1 (soaR z)] := by
 refine Mp5 (N := 1) rfl ?_
 unfold soaR
 cases h : findR z.recs z.origin 6 with
 | nil => simp (disch := first | omega | (simp; omega)) only [Lf8, Dn0, h, EVP, ↓reduceIte, EV, Nat.reduceAdd, Nat.reduceEqDiff, Int.reduceToNat, reduceCtorEq]
 | cons r l =>
   have h1 : ¬ (((l.length + 1 : Nat) : Int) = 0) := by omega
   by_cases h2 : r.data.e < r.ttl <;> simp (disch := first | omega | (simp; omega)) only [Lf8, Dn0, h, h2, EVP, ↓reduceIte, EV, Nat.reduceAdd, Nat.reduceEqDiff, Int.reduceToNat, reduceCtorEq]
theorem Jt8 (z : Zone) (hz : z.wf) : S Hf0 1 [z.pv] = some [.b (decide (z.recs.length ≤ 60) && decide (Bq2 z = 0))] := by
 refine Nj1 (N := 1) rfl ?_
 by_cases h : z.recs.length ≤ 60 <;> simp (disch := omega) only [Mh8, Gl6 z hz, h, EVP, ↓reduceIte, EV, Nat.reduceAdd, Nat.reduceEqDiff, Int.reduceToNat, reduceCtorEq] <;> simp
theorem Bv6 (a b : List Rec) (ha : a.length ≤ 1000000) : S Ds9 2 [Aj1 a, Aj1 b] = some [.b (decide (a = b))] := by
 refine Mt4 (N := a.length + 1) rfl ?_
 by_cases hl : a.length = b.length
 ·have key : Km4.ev S (a.length + 1) [Aj1 a, Aj1 b] = some (if a.drop 0 = b.drop 0 then .yld 0 [] else .ret [.b false]) := by
   refine Aq1 a (fun i => [.i .i64 (i : Int)]) (fun i r => if r = b.drop i then .yld 0 [] else .ret [.b false]) rfl (by omega) (fun i c r hd hi hc => ?_) ?_
   ·obtain ⟨y, r', hb, hd2, hd3⟩ : ∃ y r', b[i]? = some y ∧ b.drop i = y :: r' ∧ b.drop (i + 1) = r' := ⟨b[i]'(by omega), _, List.getElem?_eq_getElem (by omega), List.drop_eq_getElem_cons (by omega), rfl⟩
    rw [hd2, hd3]
    by_cases h : c = y
    ·subst h
     left
     simp (disch := omega) only [Ft1, hc, hb, EVP, ↓reduceIte, EV, Nat.reduceAdd, Nat.reduceEqDiff, Int.reduceToNat, reduceCtorEq]
     simp
    ·right
     simp (disch := omega) only [Ft1, hc, hb, h, EVP, ↓reduceIte, EV, Nat.reduceAdd, Nat.reduceEqDiff, Int.reduceToNat, reduceCtorEq]
     simp [h, Out.goes]
   ·have hd2 : b.drop a.length = [] := List.drop_eq_nil_of_le (by omega)
    rw [hd2]
    simp (disch := omega) only [Ft1, EVP, ↓reduceIte, EV, Nat.reduceAdd, Nat.reduceEqDiff, Int.reduceToNat, reduceCtorEq]
    simp [Out.goes]
  simp only [List.drop_zero] at key
  by_cases h : a = b
  ·rw [if_pos h] at key
   simp (disch := omega) only [Ft1, key, EVP, ↓reduceIte, EV, Nat.reduceAdd, Nat.reduceEqDiff, Int.reduceToNat, reduceCtorEq]
   try simp [h]
  ·rw [if_neg h] at key
   simp (disch := omega) only [Ft1, key, EVP, ↓reduceIte, EV, Nat.reduceAdd, Nat.reduceEqDiff, Int.reduceToNat, reduceCtorEq]
   try simp [h]
 ·have h : a ≠ b := fun h => hl (by rw [h])
  simp (disch := omega) [Ft1, h, EVP, ↓reduceIte, EV, Nat.reduceAdd, Nat.reduceEqDiff, Int.reduceToNat, reduceCtorEq]
def zero : Dat := ⟨false, 0, 0, [], [], [], 0, 0, 0, 0, 0, 0, 0⟩
def sample11 : Zone := ⟨[120, 46], [⟨[120, 46], 2, 9, { zero with host := [110, 46, 120, 46] }⟩, ⟨[120, 46], 6, 9, { zero with host := [110, 46, 120, 46], mail := [109, 46, 120, 46], e := 5 }⟩,
 ⟨[42, 46, 120, 46], 1, 9, { zero with lo := 1 }⟩, ⟨[100, 46, 120, 46], 2, 9, { zero with host := [110, 46, 100, 46, 120, 46] }⟩]⟩
theorem Gr9 : S Kv9 0 [] = some [sample11.pv] := (As3 ext_mono).2 ⟨3, by kernel_rfl⟩
end Go.X.G
/- The law LookupFinds. -/
namespace Go.X.G
open Go Go.X

theorem Dp8 : sample11.wf := by
 have hz : zero.wf := by constructor <;> simp [zero, u64r, i64r, strr]
 refine ⟨by simp [sample11, strr], by simp [sample11], fun r hr => ?_⟩
 simp only [sample11, List.mem_cons, List.mem_nil_iff, or_false] at hr
 rcases hr with rfl | rfl | rfl | rfl <;> (constructor <;> (try constructor)) <;> simp [zero, u64r, i64r, strr]
abbrev awQ1 : Ques := ⟨[97, 46, 120, 46], 1⟩
def awR1 : Res := ⟨1, [42, 46, 120, 46], true, [], [⟨[97, 46, 120, 46], 1, 9, { zero with lo := 1 }⟩]⟩
theorem Kc1 : Av3 sample11 awQ1 = awR1 := by kernel_rfl
end Go.X.G
/- Chains of aliases; the law LookupChases. -/
namespace Go.X
def Aq8 (l : List Res) : PV := .l 5 (l.map Res.pv)
theorem Kk1 : PV.l 5 [] = Aq8 [] := rfl
theorem Lq4 (x : Res) : Bk1 5 [x.pv] = some (Aq8 [x]) := rfl
theorem Kw6 (l : List Res) : Az6 (Aq8 l) = some (.i .i64 (l.length : Int)) := by simp [Aq8, Az6]
theorem By9 (l : List Res) (k : IntKind) (z : Int) (h : 0 ≤ z) : Az7 5 (Aq8 l) (.i k z) = (l[z.toNat]?).map Res.pv := by simp [Aq8, Hl8 _ _ _ _ h]
theorem Jm9 (l : List Res) (x : Res) (h : l.length + 1 ≤ 1073741824) : Ac1 5 (Aq8 l) (Aq8 [x]) = some (Aq8 (l ++ [x])) := by
 have := Dv6 5 (l.map Res.pv) [x.pv] (by simpa using h)
 simpa [Aq8] using this
theorem Gr5 (l : List Res) : Ah6 (Aq8 l) = some (Aq8 l) := rfl
theorem Hk9 (l : List Res) : Aj7 0 (Aq8 l) = some (Aq8 l) := rfl
set_option linter.defProp false in
def EVRS := (And.intro @Kk1 (And.intro @Lq4 (And.intro @Kw6 (And.intro @By9 (And.intro @Jm9 (And.intro @Gr5 @Hk9))))))
end Go.X
namespace Go.X.G
open Go Go.X

def Dg4 (r : Res) : Bool := (decide (r.kind = 2) || decide (r.kind = 3)) && decide (r.target ≠ [])
def Ac9 (z : Zone) (t : Int) : Nat → List Res → List (List UInt8) → List UInt8 → List Res × Bool
 | 0, out, _, _ => (out, false)
 | k + 1, out, seen, n =>
   if Dg4 (Av3 z ⟨n, t⟩) = false then (out ++ [Av3 z ⟨n, t⟩], true)
   else if out.length = 8 then (out ++ [Av3 z ⟨n, t⟩], false)
   else if under (Av3 z ⟨n, t⟩).target z.origin = false then (out ++ [Av3 z ⟨n, t⟩], true)
   else if (Av3 z ⟨n, t⟩).target ∈ seen then (out ++ [Av3 z ⟨n, t⟩], false)
   else Ac9 z t k (out ++ [Av3 z ⟨n, t⟩]) (seen ++ [(Av3 z ⟨n, t⟩).target]) (Av3 z ⟨n, t⟩).target
theorem Ar0 (z : Zone) (t : Int) (k : Nat) (out : List Res) (seen : List (List UInt8)) (n : List UInt8) : Ac9 z t (k + 1) out seen n =
  if Dg4 (Av3 z ⟨n, t⟩) = false then (out ++ [Av3 z ⟨n, t⟩], true)
  else if out.length = 8 then (out ++ [Av3 z ⟨n, t⟩], false)
  else if under (Av3 z ⟨n, t⟩).target z.origin = false then (out ++ [Av3 z ⟨n, t⟩], true)
  else if (Av3 z ⟨n, t⟩).target ∈ seen then (out ++ [Av3 z ⟨n, t⟩], false)
  else Ac9 z t k (out ++ [Av3 z ⟨n, t⟩]) (seen ++ [(Av3 z ⟨n, t⟩).target]) (Av3 z ⟨n, t⟩).target := rfl
def chaseM (z : Zone) (q : Ques) : List Res × Bool := Ac9 z q.typ 9 [] [q.name] q.name
theorem Gs5 (n top to : List UInt8) : (replN n top to).1.length ≤ 254 := by
 unfold replN
 split
 ·split
  ·split
   ·assumption
   ·simp
  ·simp
 ·simp
theorem Bc5 (l : List Rec) (t : Int) (h : ∀ r ∈ l, r.data.host.length ≤ 9223372036854775807) : (saysM l t).target.length ≤ 9223372036854775807 := by
 unfold saysM
 cases ha : aliO l t with
 | some c =>
   unfold aliO at ha
   split at ha
   ·cases ha
   ·exact h c (List.mem_of_find?_eq_some ha)
 | none => simp only; split <;> simp
theorem As8 (z : Zone) (q : Ques) (hz : z.wf) : (Av3 z q).target.length ≤ 9223372036854775807 := by
 have hh : ∀ n, ∀ r ∈ allR z n, r.data.host.length ≤ 9223372036854775807 := fun n r hr => (hz.recs.2 r (List.mem_filter.1 hr).1).data.host
 unfold Av3
 split
 ·split
  ·simp
  ·unfold Dh3
   cases h : redR z q.name with
   | some x =>
     show x.target.length ≤ 9223372036854775807
     unfold redR at h
     cases h2 : redO z q.name with
     | none => rw [h2] at h; cases h
     | some u =>
       rw [h2] at h
       simp only [Option.map_some, Option.some.injEq] at h
       rw [← h]
       unfold Bd3
       split
       ·rename_i r rest _
        have := Gs5 q.name u r.data.host
        simp only [Bc0]
        split
        ·simp
        ·omega
       ·simp
   | none =>
     simp only
     split
     ·exact Bc5 _ _ (hh _)
     ·unfold Dx9
      split
      ·simp only [Option.getD_some]
       refine Bc5 _ _ fun r hr => ?_
       obtain ⟨x, hx, rfl⟩ := List.mem_map.1 hr
       exact hh _ x hx
      ·simp
 ·simp
theorem Kb0 (z : Zone) (q : Ques) (hz : z.wf) (hl : z.recs.length ≤ 1000) (hq : q.name.length ≤ 9223372036854775807) : S Hd7 2 [z.pv, q.pv] = some [Aq8 (chaseM z q).1, .b (chaseM z q).2] := by
 refine Mt8 (N := 1000) rfl ?_
 have g1 := hz.origin
 unfold strr at g1
 have key : Km7.ev S 1000 [z.pv, q.pv] = some (.ret [Aq8 (chaseM z q).1, .b (chaseM z q).2]) := by
  refine Ax4 (α := List Res × List (List UInt8) × List UInt8) (fun a => [Aq8 a.1, Aj3 a.2.1, .s a.2.2]) (fun a => .ret [Aq8 (Ac9 z q.typ (9 - a.1.length) a.1 a.2.1 a.2.2).1, .b (Ac9 z q.typ (9 - a.1.length) a.1 a.2.1 a.2.2).2])
   (fun a => a.1.length ≤ 8 ∧ a.2.1.length ≤ 100 ∧ a.2.1.length = a.1.length + 1 ∧ a.2.2.length ≤ 9223372036854775807) (fun a => 9 - a.1.length) ([], [q.name], q.name) ?_ ⟨by simp, by simp, by simp, hq⟩ (by simp) ?_
  ·simp (disch := omega) only [EVM, EVC, EVR, EVRS, EVP, ↓reduceIte, EV, Nat.reduceAdd, Nat.reduceEqDiff, Int.reduceToNat, reduceCtorEq]
  ·rintro ⟨out, seen, n⟩ ⟨i1, i2, i3, i4⟩
   simp only at i1 i2 i3 i4 ⊢
   have hk : 9 - out.length = (8 - out.length) + 1 := by omega
   have k1 := Lw3 z ⟨n, q.typ⟩ hz hl i4
   have tt := As8 z ⟨n, q.typ⟩ hz
   rw [hk, Ar0]
   generalize hr : Av3 z ⟨n, q.typ⟩ = r at *
   have k2 := Ab0 r.target z.origin tt g1
   have k3 := Ad8 seen r.target (by omega)
   rcases Bool.eq_false_or_eq_true (Dg4 r) with h1 | h1
   ·rw [if_neg (by simp [h1])]
    have h1' := h1
    unfold Dg4 at h1'
    simp only [Bool.and_eq_true, Bool.or_eq_true, decide_eq_true_eq, ne_eq] at h1'
    obtain ⟨h2, h3⟩ := h1'
    have h4 : ¬ (r.kind ≠ 2 ∧ r.kind ≠ 3) := by omega
    by_cases h5 : out.length = 8
    ·right
     rw [if_pos h5]
     have h6 : ((out ++ [r]).length : Int) = 9 := by simp; omega
     refine ⟨?_, rfl⟩
     rcases h2 with h2 | h2 <;> simp (disch := omega) only [Dx4, k1, h2, h3, h6, EVM, EVC, EVR, EVRS, EVP, ↓reduceIte, EV, Nat.reduceAdd, Nat.reduceEqDiff, Int.reduceToNat, reduceCtorEq]
    ·rw [if_neg h5]
     have h6 : ¬ ((out ++ [r]).length : Int) = 9 := by simp; omega
     rcases Bool.eq_false_or_eq_true (under r.target z.origin) with h7 | h7
     ·rw [if_neg (by simp [h7])]
      rw [h7] at k2
      by_cases h8 : r.target ∈ seen
      ·right
       rw [if_pos h8]
       refine ⟨?_, rfl⟩
       rcases h2 with h2 | h2 <;> simp (disch := omega) only [Dx4, k1, k2, k3, h2, h3, h6, h8, EVM, EVC, EVR, EVRS, EVP, ↓reduceIte, EV, Nat.reduceAdd, Nat.reduceEqDiff, Int.reduceToNat, reduceCtorEq]
      ·left
       rw [if_neg h8]
       refine ⟨(out ++ [r], seen ++ [r.target], r.target), ?_, ⟨by simp only [List.length_append, List.length_singleton]; omega, by simp only [List.length_append, List.length_singleton]; omega, by simp only [List.length_append, List.length_singleton]; omega, tt⟩, by simp only [List.length_append, List.length_singleton]; omega, ?_⟩
       ·rcases h2 with h2 | h2 <;> simp (disch := omega) only [Dx4, k1, k2, k3, h2, h3, h6, h8, EVM, EVC, EVR, EVRS, EVP, ↓reduceIte, EV, Nat.reduceAdd, Nat.reduceEqDiff, Int.reduceToNat, reduceCtorEq]
       ·have : 9 - (out ++ [r]).length = 8 - out.length := by rw [List.length_append, List.length_singleton]; omega
        simp only [this]
     ·right
      rw [if_pos h7]
      rw [h7] at k2
      refine ⟨?_, rfl⟩
      rcases h2 with h2 | h2 <;> simp (disch := omega) only [Dx4, k1, k2, h2, h3, h6, EVM, EVC, EVR, EVRS, EVP, ↓reduceIte, EV, Nat.reduceAdd, Nat.reduceEqDiff, Int.reduceToNat, reduceCtorEq]
   ·right
    rw [if_pos h1]
    unfold Dg4 at h1
    refine ⟨?_, rfl⟩
    by_cases h2 : r.kind = 2
    ·have h3 : r.target = [] := by simpa [h2] using h1
     simp (disch := omega) only [Dx4, k1, h2, h3, EVM, EVC, EVR, EVRS, EVP, ↓reduceIte, EV, Nat.reduceAdd, Nat.reduceEqDiff, Int.reduceToNat, reduceCtorEq]
    ·by_cases h3 : r.kind = 3
     ·have h4 : r.target = [] := by simpa [h3] using h1
      simp (disch := omega) only [Dx4, k1, h3, h4, EVM, EVC, EVR, EVRS, EVP, ↓reduceIte, EV, Nat.reduceAdd, Nat.reduceEqDiff, Int.reduceToNat, reduceCtorEq]
     ·simp (disch := omega) only [Dx4, k1, h2, h3, EVM, EVC, EVR, EVRS, EVP, ↓reduceIte, EV, Nat.reduceAdd, Nat.reduceEqDiff, Int.reduceToNat, reduceCtorEq]
 simp (disch := omega) only [Dx4, key, EVM, EVC, EVR, EVRS, EVP, ↓reduceIte, EV, Nat.reduceAdd, Nat.reduceEqDiff, Int.reduceToNat, reduceCtorEq]
theorem Kw9 (r : Res) : S Hc2 1 [r.pv] = some [.b (Dg4 r)] := by
 refine Mr4 (N := 1) rfl ?_
 unfold Dg4
 by_cases h1 : r.kind = 2
 ·simp (disch := omega) only [Kp1, h1, EVM, EVC, EVR, EVRS, EVP, ↓reduceIte, EV, Nat.reduceAdd, Nat.reduceEqDiff, Int.reduceToNat, reduceCtorEq]; try simp
 ·by_cases h2 : r.kind = 3
  ·simp (disch := omega) only [Kp1, h2, EVM, EVC, EVR, EVRS, EVP, ↓reduceIte, EV, Nat.reduceAdd, Nat.reduceEqDiff, Int.reduceToNat, reduceCtorEq]; try simp
  ·simp (disch := omega) only [Kp1, h1, h2, EVM, EVC, EVR, EVRS, EVP, ↓reduceIte, EV, Nat.reduceAdd, Nat.reduceEqDiff, Int.reduceToNat, reduceCtorEq]; try simp
theorem Gs8 (z : Zone) (q : Ques) (hz : z.wf) (hl : z.recs.length ≤ 1000) (hq : q.name.length ≤ 9223372036854775807) (hdn : ∀ u, (findR z.recs u 39).length ≤ 1) : S Hd5 2 [z.pv, q.pv] = some [Aq8 (chaseM z q).1, .b (chaseM z q).2] := by
 refine Mt7 (N := 1000) rfl ?_
 have g1 := hz.origin
 unfold strr at g1
 have inner : ∀ (out : List Res) (seen : List (List UInt8)) (p4 p6 p7 : PV) (r : Res), out.length ≤ 8 → seen.length ≤ 100 → Kg1.ev S 1000 [z.pv, q.pv, Aq8 out, Aj3 seen, p4, r.pv, p6, p7] = some (if r.target ∈ seen then .ret [Aq8 (out ++ [r]), .b false] else .yld 2 []) := by
  intro out seen p4 p6 p7 r ho hs
  refine Aq1 seen (fun i => [.i .i64 (i : Int)]) (fun i l => if r.target ∈ l then .ret [Aq8 (out ++ [r]), .b false] else .yld 2 []) rfl (by omega) (fun i c l hd hi hc => ?_) ?_
  ·by_cases h : c = r.target
   ·right
    simp (disch := omega) only [Cv9, hc, h, EVM, EVC, EVR, EVRS, EVP, ↓reduceIte, EV, Nat.reduceAdd, Nat.reduceEqDiff, Int.reduceToNat, reduceCtorEq]
    simp [Out.goes]
   ·left
    have h2 : ¬ r.target = c := fun e => h e.symm
    simp (disch := omega) only [Cv9, hc, h, EVM, EVC, EVR, EVRS, EVP, ↓reduceIte, EV, Nat.reduceAdd, Nat.reduceEqDiff, Int.reduceToNat, reduceCtorEq]
    simp [h2]
  ·simp (disch := omega) only [Cv9, EVM, EVC, EVR, EVRS, EVP, ↓reduceIte, EV, Nat.reduceAdd, Nat.reduceEqDiff, Int.reduceToNat, reduceCtorEq]
   simp [Out.goes]
 have key : Km6.ev S 1000 [z.pv, q.pv] = some (.ret [Aq8 (chaseM z q).1, .b (chaseM z q).2]) := by
  refine Ax4 (α := List Res × List (List UInt8) × List UInt8) (fun a => [Aq8 a.1, Aj3 a.2.1, .i .i64 (a.1.length : Int)]) (fun a => .ret [Aq8 (Ac9 z q.typ (9 - a.1.length) a.1 a.2.1 a.2.2).1, .b (Ac9 z q.typ (9 - a.1.length) a.1 a.2.1 a.2.2).2])
   (fun a => a.1.length ≤ 8 ∧ a.2.1.length ≤ 100 ∧ a.2.1.length = a.1.length + 1 ∧ a.2.2.length ≤ 9223372036854775807 ∧ a.2.1[a.1.length]? = some a.2.2) (fun a => 9 - a.1.length) ([], [q.name], q.name) ?_ ⟨by simp, by simp, by simp, hq, rfl⟩ (by simp) ?_
  ·simp (disch := omega) only [EVM, EVC, EVR, EVRS, EVP, ↓reduceIte, EV, Nat.reduceAdd, Nat.reduceEqDiff, Int.reduceToNat, reduceCtorEq]
  ·rintro ⟨out, seen, n⟩ ⟨i1, i2, i3, i4, i5⟩
   simp only at i1 i2 i3 i4 i5 ⊢
   have hk : 9 - out.length = (8 - out.length) + 1 := by omega
   have h0 : ((out.length : Nat) : Int) ≤ 8 := by omega
   have k1 := Kj9 z ⟨n, q.typ⟩ hz hl i4 hdn
   have tt := As8 z ⟨n, q.typ⟩ hz
   rw [hk, Ar0]
   generalize hr : Av3 z ⟨n, q.typ⟩ = r at *
   have k2 := Aw0 r.target z.origin tt g1
   have k3 := fun p4 p6 p7 => inner out seen p4 p6 p7 r i1 i2
   have k4 := Kw9 r
   have hln : ((out ++ [r]).length : Int) = (out.length : Int) + 1 := by simp
   rcases Bool.eq_false_or_eq_true (Dg4 r) with h1 | h1
   ·rw [if_neg (by simp [h1])]
    rw [h1] at k4
    by_cases h5 : out.length = 8
    ·right
     rw [if_pos h5]
     have h6 : (8 : Int) < ((out ++ [r]).length : Int) := by omega
     refine ⟨?_, rfl⟩
     simp (disch := omega) only [Cv9, h0, i5, k1, k4, h6, EVM, EVC, EVR, EVRS, EVP, ↓reduceIte, EV, Nat.reduceAdd, Nat.reduceEqDiff, Int.reduceToNat, reduceCtorEq]
    ·rw [if_neg h5]
     have h6 : ¬ (8 : Int) < ((out ++ [r]).length : Int) := by omega
     rcases Bool.eq_false_or_eq_true (under r.target z.origin) with h7 | h7
     ·rw [if_neg (by simp [h7])]
      rw [h7] at k2
      by_cases h8 : r.target ∈ seen
      ·right
       rw [if_pos h8]
       simp only [if_pos h8] at k3
       refine ⟨?_, rfl⟩
       simp (disch := omega) only [Cv9, h0, i5, k1, k2, k3, k4, h6, EVM, EVC, EVR, EVRS, EVP, ↓reduceIte, EV, Nat.reduceAdd, Nat.reduceEqDiff, Int.reduceToNat, reduceCtorEq]
      ·left
       rw [if_neg h8]
       simp only [if_neg h8] at k3
       refine ⟨(out ++ [r], seen ++ [r.target], r.target), ?_, ⟨by simp only [List.length_append, List.length_singleton]; omega, by simp only [List.length_append, List.length_singleton]; omega, by simp only [List.length_append, List.length_singleton]; omega, tt, ?_⟩, by simp only [List.length_append, List.length_singleton]; omega, ?_⟩
       ·rw [hln]
        simp (disch := omega) only [Cv9, h0, i5, k1, k2, k3, k4, h6, EVM, EVC, EVR, EVRS, EVP, ↓reduceIte, EV, Nat.reduceAdd, Nat.reduceEqDiff, Int.reduceToNat, reduceCtorEq]
       ·simp only
        rw [List.getElem?_append_right (by simp; omega), show (out ++ [r]).length - seen.length = 0 by simp; omega]; rfl
       ·have : 9 - (out ++ [r]).length = 8 - out.length := by rw [List.length_append, List.length_singleton]; omega
        simp only [this]
     ·right
      rw [if_pos h7]
      rw [h7] at k2
      refine ⟨?_, rfl⟩
      simp (disch := omega) only [Cv9, h0, i5, k1, k2, k4, h6, EVM, EVC, EVR, EVRS, EVP, ↓reduceIte, EV, Nat.reduceAdd, Nat.reduceEqDiff, Int.reduceToNat, reduceCtorEq]
   ·right
    rw [if_pos h1]
    rw [h1] at k4
    refine ⟨?_, rfl⟩
    simp (disch := omega) only [Cv9, h0, i5, k1, k4, EVM, EVC, EVR, EVRS, EVP, ↓reduceIte, EV, Nat.reduceAdd, Nat.reduceEqDiff, Int.reduceToNat, reduceCtorEq]
 simp (disch := omega) only [Cv9, key, EVM, EVC, EVR, EVRS, EVP, ↓reduceIte, EV, Nat.reduceAdd, Nat.reduceEqDiff, Int.reduceToNat, reduceCtorEq]
theorem Bw3 (P : Res → Prop) (z : Zone) (t : Int) (h : ∀ n, P (Av3 z ⟨n, t⟩)) : ∀ (k : Nat) (out : List Res) (seen : List (List UInt8)) (n : List UInt8), (∀ r ∈ out, P r) → ∀ r ∈ (Ac9 z t k out seen n).1, P r
 | 0, out, seen, n, ho => ho
 | k + 1, out, seen, n, ho => by
   have ho' : ∀ r ∈ out ++ [Av3 z ⟨n, t⟩], P r := fun r hr => by
    rcases List.mem_append.1 hr with hr | hr
    ·exact ho r hr
    ·rw [List.mem_singleton.1 hr]; exact h n
   unfold Ac9
   split
   ·exact ho'
   ·split
    ·exact ho'
    ·split
     ·exact ho'
     ·split
      ·exact ho'
      ·exact Bw3 P z t h k _ _ _ ho'
theorem Cq7 (z : Zone) (t : Int) : ∀ (k : Nat) (out : List Res) (seen : List (List UInt8)) (n : List UInt8), (Ac9 z t k out seen n).1.length ≤ out.length + k
 | 0, out, seen, n => by simp [Ac9]
 | k + 1, out, seen, n => by
   unfold Ac9
   have hl : (out ++ [Av3 z ⟨n, t⟩]).length = out.length + 1 := by simp
   split
   ·simp only; omega
   ·split
    ·simp only; omega
    ·split
     ·simp only; omega
     ·split
      ·simp only; omega
      ·have := Cq7 z t k (out ++ [Av3 z ⟨n, t⟩]) (seen ++ [(Av3 z ⟨n, t⟩).target]) (Av3 z ⟨n, t⟩).target
       omega
theorem Kc2 : chaseM sample11 awQ1 = ([awR1], true) := by
 unfold chaseM
 rw [Ar0, show (⟨awQ1.name, awQ1.typ⟩ : Ques) = awQ1 from rfl, Kc1]
 rfl
end Go.X.G
/- Responses: what the parts of one are. -/
namespace Go.X.G
open Go Go.X

def replyM (m : Msg) (code : Int) : Msg := ⟨m.id, m.op, code, true, false, false, m.rd, false, false, m.cd, m.dok, if m.size ≠ 0 then 1232 else 0, m.q, [], [], []⟩
theorem Gs3 (m : Msg) (code : Int) : S Dc5 2 [m.pv, .i .i64 code] = some [(replyM m code).pv] := by
 refine Mr3 (N := 1) rfl ?_
 unfold replyM
 by_cases h : m.size = 0
 ·simp (disch := omega) only [Lg0, h, EVM, EVC, EVR, EVP, ↓reduceIte, EV, Nat.reduceAdd, Nat.reduceEqDiff, Int.reduceToNat, reduceCtorEq]
  try simp
 ·simp (disch := omega) only [Lg0, h, EVM, EVC, EVR, EVP, ↓reduceIte, EV, Nat.reduceAdd, Nat.reduceEqDiff, Int.reduceToNat, reduceCtorEq]
  try simp
theorem Gs4 (m : Msg) (code : Int) : S Dc4 2 [m.pv, .i .i64 code] = some [(replyM m code).pv] := by
 refine Mp9 (N := 1) rfl ?_
 unfold replyM
 by_cases h : m.size = 0
 ·simp (disch := omega) only [Lf9, h, EVM, EVC, EVR, EVP, ↓reduceIte, EV, Nat.reduceAdd, Nat.reduceEqDiff, Int.reduceToNat, reduceCtorEq]
  try simp
 ·simp (disch := omega) only [Lf9, h, EVM, EVC, EVR, EVP, ↓reduceIte, EV, Nat.reduceAdd, Nat.reduceEqDiff, Int.reduceToNat, reduceCtorEq]
  try simp

def srvT (t : Int) : Bool := decide (t = 2) || decide (t = 15) || decide (t = 33)
def hostsF (out : List (List UInt8)) : List Rec → List (List UInt8)
 | [] => out
 | r :: rs => if srvT r.typ = true ∧ r.data.host ∉ out then hostsF (out ++ [r.data.host]) rs else hostsF out rs
theorem Af4 : ∀ (l : List Rec) (out : List (List UInt8)), (hostsF out l).length ≤ out.length + l.length
 | [], out => by simp [hostsF]
 | r :: rs, out => by
   simp only [hostsF]
   split
   ·have := Af4 rs (out ++ [r.data.host])
    rw [List.length_append, List.length_singleton] at this
    rw [List.length_cons]; omega
   ·have := Af4 rs out
    rw [List.length_cons]; omega
theorem Ah2 : ∀ (l : List Rec) (out : List (List UInt8)), (∀ r ∈ l, r.wf) → (∀ h ∈ out, h.length ≤ 9223372036854775807) → ∀ h ∈ hostsF out l, h.length ≤ 9223372036854775807
 | [], out, _, ho => ho
 | r :: rs, out, hl, ho => by
   simp only [hostsF]
   split
   ·refine Ah2 rs _ (fun x hx => hl x (.tail _ hx)) fun h hh => ?_
    rcases List.mem_append.1 hh with hh | hh
    ·exact ho h hh
    ·rw [List.mem_singleton.1 hh]; exact (hl r (.head _)).data.host
   ·exact Ah2 rs _ (fun x hx => hl x (.tail _ hx)) ho
theorem Hl9 (l : List Rec) (hl : l.length ≤ 1000) : S Gf6 1 [Aj1 l] = some [Aj3 (hostsF [] l)] := by
 refine Mr1 (N := 2000) rfl ?_
 have key : Kl1.ev S 2000 [Aj1 l] = some (.yld 0 [Aj3 (hostsF [] l)]) := by
  refine Ak5 l (fun i (g : List (List UInt8)) => [Aj3 g, .i .i64 (i : Int)]) (fun i g r => .yld 0 [Aj3 (hostsF g r)]) (fun i g => g.length ≤ i) [] rfl (Nat.zero_le _) (by omega) (fun i g c r hd hi hc hI => ?_) (fun g hI => ?_)
  ·left
   have k1 := Ad8 g c.data.host (by omega)
   refine ⟨if srvT c.typ = true ∧ c.data.host ∉ g then g ++ [c.data.host] else g, ?_, by split <;> (try rw [List.length_append, List.length_singleton]) <;> omega, ?_⟩
   ·unfold srvT
    by_cases h4 : c.data.host ∈ g
    ·by_cases h1 : c.typ = 2
     ·simp (disch := omega) only [Bl1, hc, h1, h4, k1, EVM, EVC, EVR, EVP, ↓reduceIte, EV, Nat.reduceAdd, Nat.reduceEqDiff, Int.reduceToNat, reduceCtorEq]; simp
     ·by_cases h2 : c.typ = 15
      ·simp (disch := omega) only [Bl1, hc, h2, h4, k1, EVM, EVC, EVR, EVP, ↓reduceIte, EV, Nat.reduceAdd, Nat.reduceEqDiff, Int.reduceToNat, reduceCtorEq]; simp
      ·by_cases h3 : c.typ = 33
       ·simp (disch := omega) only [Bl1, hc, h3, h4, k1, EVM, EVC, EVR, EVP, ↓reduceIte, EV, Nat.reduceAdd, Nat.reduceEqDiff, Int.reduceToNat, reduceCtorEq]; simp
       ·simp (disch := omega) only [Bl1, hc, h1, h2, h3, k1, EVM, EVC, EVR, EVP, ↓reduceIte, EV, Nat.reduceAdd, Nat.reduceEqDiff, Int.reduceToNat, reduceCtorEq]; simp [h4]
    ·by_cases h1 : c.typ = 2
     ·simp (disch := omega) only [Bl1, hc, h1, h4, k1, EVM, EVC, EVR, EVP, ↓reduceIte, EV, Nat.reduceAdd, Nat.reduceEqDiff, Int.reduceToNat, reduceCtorEq]; simp
     ·by_cases h2 : c.typ = 15
      ·simp (disch := omega) only [Bl1, hc, h2, h4, k1, EVM, EVC, EVR, EVP, ↓reduceIte, EV, Nat.reduceAdd, Nat.reduceEqDiff, Int.reduceToNat, reduceCtorEq]; simp
      ·by_cases h3 : c.typ = 33
       ·simp (disch := omega) only [Bl1, hc, h3, h4, k1, EVM, EVC, EVR, EVP, ↓reduceIte, EV, Nat.reduceAdd, Nat.reduceEqDiff, Int.reduceToNat, reduceCtorEq]; simp
       ·simp (disch := omega) only [Bl1, hc, h1, h2, h3, k1, EVM, EVC, EVR, EVP, ↓reduceIte, EV, Nat.reduceAdd, Nat.reduceEqDiff, Int.reduceToNat, reduceCtorEq]; simp
   ·simp only [hostsF]; split <;> rfl
  ·simp (disch := omega) only [Bl1, EVM, EVC, EVR, EVP, ↓reduceIte, EV, Nat.reduceAdd, Nat.reduceEqDiff, Int.reduceToNat, reduceCtorEq]
   simp [Out.goes, hostsF]
 simp (disch := omega) only [Bl1, key, EVM, EVC, EVR, EVP, ↓reduceIte, EV, Nat.reduceAdd, Nat.reduceEqDiff, Int.reduceToNat, reduceCtorEq]
theorem Gl4 (l : List Rec) (hl : l.length ≤ 1000) : S Gf5 1 [Aj1 l] = some [Aj3 (hostsF [] l)] := by
 refine Mp6 (N := 2000) rfl ?_
 have inner : ∀ (i : Nat) (c : Rec) (g : List (List UInt8)), l[i]? = some c → g.length ≤ 1000 → Kf9.ev S 2000 [Aj1 l, Aj3 g, .i .i64 (i : Int)] = some (.yld 2 [.b (!srvT c.typ || g.any fun h => decide (h = c.data.host))]) := by
  intro i c g hc hg
  refine Ak5 g (fun k (b : Bool) => [.b b, .i .i64 (k : Int)]) (fun k b r => .yld 2 [.b (b || r.any fun h => decide (h = c.data.host))]) (fun _ _ => True) (!srvT c.typ) ?_ trivial (by omega) (fun k b h r hd hk hh _ => ?_) (fun b _ => ?_)
  ·unfold srvT
   by_cases h1 : c.typ = 2
   ·simp (disch := omega) only [hc, h1, EVM, EVC, EVR, EVP, ↓reduceIte, EV, Nat.reduceAdd, Nat.reduceEqDiff, Int.reduceToNat, reduceCtorEq]; try simp
   ·by_cases h2 : c.typ = 15
    ·simp (disch := omega) only [hc, h2, EVM, EVC, EVR, EVP, ↓reduceIte, EV, Nat.reduceAdd, Nat.reduceEqDiff, Int.reduceToNat, reduceCtorEq]; try simp
    ·by_cases h3 : c.typ = 33
     ·simp (disch := omega) only [hc, h3, EVM, EVC, EVR, EVP, ↓reduceIte, EV, Nat.reduceAdd, Nat.reduceEqDiff, Int.reduceToNat, reduceCtorEq]; try simp
     ·simp (disch := omega) only [hc, h1, h2, h3, EVM, EVC, EVR, EVP, ↓reduceIte, EV, Nat.reduceAdd, Nat.reduceEqDiff, Int.reduceToNat, reduceCtorEq]; try simp
  ·left
   refine ⟨b || decide (h = c.data.host), ?_, trivial, by simp [Bool.or_assoc]⟩
   cases b
   ·by_cases h5 : h = c.data.host
    ·simp (disch := omega) only [Dw8, hc, hh, h5, EVM, EVC, EVR, EVP, ↓reduceIte, EV, Nat.reduceAdd, Nat.reduceEqDiff, Int.reduceToNat, reduceCtorEq]; try simp
    ·simp (disch := omega) only [Dw8, hc, hh, h5, EVM, EVC, EVR, EVP, ↓reduceIte, EV, Nat.reduceAdd, Nat.reduceEqDiff, Int.reduceToNat, reduceCtorEq]; try simp
   ·simp (disch := omega) only [Dw8, hc, hh, EVM, EVC, EVR, EVP, ↓reduceIte, EV, Nat.reduceAdd, Nat.reduceEqDiff, Int.reduceToNat, reduceCtorEq]; try simp
  ·simp (disch := omega) only [Dw8, EVM, EVC, EVR, EVP, ↓reduceIte, EV, Nat.reduceAdd, Nat.reduceEqDiff, Int.reduceToNat, reduceCtorEq]
   simp [Out.goes]
 have key : Kh7.ev S 2000 [Aj1 l] = some (.yld 0 [Aj3 (hostsF [] l)]) := by
  refine Ak5 l (fun i (g : List (List UInt8)) => [Aj3 g, .i .i64 (i : Int)]) (fun i g r => .yld 0 [Aj3 (hostsF g r)]) (fun i g => g.length ≤ i) [] rfl (Nat.zero_le _) (by omega) (fun i g c r hd hi hc hI => ?_) (fun g hI => ?_)
  ·left
   have k1 := inner i c g hc (by omega)
   have e : (g.any fun h => decide (h = c.data.host)) = decide (c.data.host ∈ g) := by
    rw [Bool.eq_iff_iff]; simp
   rw [e] at k1
   refine ⟨if srvT c.typ = true ∧ c.data.host ∉ g then g ++ [c.data.host] else g, ?_, by split <;> (try rw [List.length_append, List.length_singleton]) <;> omega, ?_⟩
   ·by_cases h4 : c.data.host ∈ g
    ·rcases Bool.eq_false_or_eq_true (srvT c.typ) with h1 | h1 <;> rw [h1] at k1 <;> simp (disch := omega) only [Dw8, hc, h4, k1, EVM, EVC, EVR, EVP, ↓reduceIte, EV, Nat.reduceAdd, Nat.reduceEqDiff, Int.reduceToNat, reduceCtorEq] <;> simp [h1, h4]
    ·rcases Bool.eq_false_or_eq_true (srvT c.typ) with h1 | h1 <;> rw [h1] at k1 <;> simp (disch := omega) only [Dw8, hc, h4, k1, EVM, EVC, EVR, EVP, ↓reduceIte, EV, Nat.reduceAdd, Nat.reduceEqDiff, Int.reduceToNat, reduceCtorEq] <;> simp [h1, h4]
   ·simp only [hostsF]; split <;> rfl
  ·simp (disch := omega) only [Dw8, EVM, EVC, EVR, EVP, ↓reduceIte, EV, Nat.reduceAdd, Nat.reduceEqDiff, Int.reduceToNat, reduceCtorEq]
   simp [Out.goes, hostsF]
 simp (disch := omega) only [Dw8, key, EVM, EVC, EVR, EVP, ↓reduceIte, EV, Nat.reduceAdd, Nat.reduceEqDiff, Int.reduceToNat, reduceCtorEq]
def adr2 (z : Zone) (h : List UInt8) : List Rec := findR z.recs h 1 ++ findR z.recs h 28
theorem Fs2 (z : Zone) (h : List UInt8) : (adr2 z h).length ≤ 2 * z.recs.length := by
 have h1 := Av1 z h 1
 have h2 := Av1 z h 28
 unfold adr2; rw [List.length_append]; omega
def glu2 (z : Zone) (h : List UInt8) : List Rec := if cutN z h = [] then [] else adr2 z h
theorem Ky1 (z : Zone) (h : List UInt8) : (glu2 z h).length ≤ 2 * z.recs.length := by
 unfold glu2
 split
 ·simp
 ·exact Fs2 z h
theorem Dv7 (z : Zone) (hs : List (List UInt8)) (hl : z.recs.length ≤ 60) (hh : hs.length ≤ 1000) : S Hc0 2 [z.pv, Aj3 hs] = some [Aj1 (hs.flatMap (adr2 z))] := by
 refine Mr0 (N := 2000) rfl ?_
 have key : Kl0.ev S 2000 [z.pv, Aj3 hs] = some (.yld 0 [Aj1 ([] ++ hs.flatMap (adr2 z))]) := by
  refine Ak5 hs (fun i (g : List Rec) => [Aj1 g, .i .i64 (i : Int)]) (fun i g r => .yld 0 [Aj1 (g ++ r.flatMap (adr2 z))]) (fun i g => g.length ≤ 120 * i) [] rfl (Nat.zero_le _) (by omega) (fun i g c r hd hi hc hI => ?_) (fun g hI => ?_)
  ·left
   have k1 := An4 z c 1 (by omega)
   have k2 := An4 z c 28 (by omega)
   have h1 := Av1 z c 1
   have h2 := Av1 z c 28
   refine ⟨g ++ findR z.recs c 1 ++ findR z.recs c 28, ?_, by rw [List.length_append, List.length_append]; omega, by simp [adr2]⟩
   generalize findR z.recs c 1 = f1 at *
   generalize findR z.recs c 28 = f2 at *
   have a1 := Aw7 g f1 (by omega)
   have a2 := Aw7 (g ++ f1) f2 (by rw [List.length_append]; omega)
   simp (disch := omega) only [Kp0, hc, k1, k2, a1, a2, EVM, EVC, EVR, EVP, ↓reduceIte, EV, Nat.reduceAdd, Nat.reduceEqDiff, Int.reduceToNat, reduceCtorEq]
  ·simp (disch := omega) only [Kp0, EVM, EVC, EVR, EVP, ↓reduceIte, EV, Nat.reduceAdd, Nat.reduceEqDiff, Int.reduceToNat, reduceCtorEq]
   simp [Out.goes]
 rw [List.nil_append] at key
 generalize hs.flatMap (adr2 z) = fm at *
 simp (disch := omega) only [Kp0, key, EVM, EVC, EVR, EVP, ↓reduceIte, EV, Nat.reduceAdd, Nat.reduceEqDiff, Int.reduceToNat, reduceCtorEq]
theorem Bm1 (z : Zone) (hs : List (List UInt8)) (hl : z.recs.length ≤ 60) (hh : hs.length ≤ 1000) : S Hb6 2 [z.pv, Aj3 hs] = some [Aj1 (hs.flatMap (adr2 z))] := by
 refine Mp4 (N := 2000) rfl ?_
 have key : Kh6.ev S 2000 [z.pv, Aj3 hs] = some (.yld 0 [Aj1 ([] ++ hs.flatMap (adr2 z))]) := by
  refine Ak5 hs (fun i (g : List Rec) => [Aj1 g, .i .i64 (i : Int)]) (fun i g r => .yld 0 [Aj1 (g ++ r.flatMap (adr2 z))]) (fun i g => g.length ≤ 120 * i) [] rfl (Nat.zero_le _) (by omega) (fun i g c r hd hi hc hI => ?_) (fun g hI => ?_)
  ·left
   have k1 := Ay6 z c 1 (by omega)
   have k2 := Ay6 z c 28 (by omega)
   have h1 := Av1 z c 1
   have h2 := Av1 z c 28
   refine ⟨g ++ findR z.recs c 1 ++ findR z.recs c 28, ?_, by rw [List.length_append, List.length_append]; omega, by simp [adr2]⟩
   generalize findR z.recs c 1 = f1 at *
   generalize findR z.recs c 28 = f2 at *
   have a1 := Aw7 g f1 (by omega)
   have a2 := Aw7 (g ++ f1) f2 (by rw [List.length_append]; omega)
   simp (disch := omega) only [Kn9, hc, k1, k2, a1, a2, EVM, EVC, EVR, EVP, ↓reduceIte, EV, Nat.reduceAdd, Nat.reduceEqDiff, Int.reduceToNat, reduceCtorEq]
  ·simp (disch := omega) only [Kn9, EVM, EVC, EVR, EVP, ↓reduceIte, EV, Nat.reduceAdd, Nat.reduceEqDiff, Int.reduceToNat, reduceCtorEq]
   simp [Out.goes]
 rw [List.nil_append] at key
 generalize hs.flatMap (adr2 z) = fm at *
 simp (disch := omega) only [Kn9, key, EVM, EVC, EVR, EVP, ↓reduceIte, EV, Nat.reduceAdd, Nat.reduceEqDiff, Int.reduceToNat, reduceCtorEq]
theorem Jp8 (z : Zone) (hs : List (List UInt8)) (hz : z.wf) (hl : z.recs.length ≤ 60) (hh : hs.length ≤ 1000) (hw : ∀ h ∈ hs, h.length ≤ 9223372036854775807) : S Hc1 2 [z.pv, Aj3 hs] = some [Aj1 (hs.flatMap (glu2 z))] := by
 refine Mr2 (N := 2000) rfl ?_
 have key : Kl2.ev S 2000 [z.pv, Aj3 hs] = some (.yld 0 [Aj1 ([] ++ hs.flatMap (glu2 z))]) := by
  refine Ak5 hs (fun i (g : List Rec) => [Aj1 g, .i .i64 (i : Int)]) (fun i g r => .yld 0 [Aj1 (g ++ r.flatMap (glu2 z))]) (fun i g => g.length ≤ 120 * i) [] rfl (Nat.zero_le _) (by omega) (fun i g c r hd hi hc hI => ?_) (fun g hI => ?_)
  ·left
   have k0 := Gm0 z c hz (by omega) (hw c (List.mem_of_getElem? hc))
   have k1 := An4 z c 1 (by omega)
   have k2 := An4 z c 28 (by omega)
   have h1 := Av1 z c 1
   have h2 := Av1 z c 28
   by_cases h3 : cutN z c = []
   ·refine ⟨g, ?_, by omega, by simp [glu2, h3]⟩
    rw [h3] at k0
    simp (disch := omega) only [Jr6, hc, k0, ne_eq, not_true, decide_false, EVM, EVC, EVR, EVP, ↓reduceIte, EV, Nat.reduceAdd, Nat.reduceEqDiff, Int.reduceToNat, reduceCtorEq]
   ·refine ⟨g ++ findR z.recs c 1 ++ findR z.recs c 28, ?_, by rw [List.length_append, List.length_append]; omega, by simp [adr2, glu2, h3]⟩
    have h4 : decide (cutN z c ≠ []) = true := by simp [h3]
    rw [h4] at k0
    generalize findR z.recs c 1 = f1 at *
    generalize findR z.recs c 28 = f2 at *
    have a1 := Aw7 g f1 (by omega)
    have a2 := Aw7 (g ++ f1) f2 (by rw [List.length_append]; omega)
    simp (disch := omega) only [Jr6, hc, k0, k1, k2, a1, a2, EVM, EVC, EVR, EVP, ↓reduceIte, EV, Nat.reduceAdd, Nat.reduceEqDiff, Int.reduceToNat, reduceCtorEq]
  ·simp (disch := omega) only [Jr6, EVM, EVC, EVR, EVP, ↓reduceIte, EV, Nat.reduceAdd, Nat.reduceEqDiff, Int.reduceToNat, reduceCtorEq]
   simp [Out.goes]
 rw [List.nil_append] at key
 generalize hs.flatMap (glu2 z) = fm at *
 simp (disch := omega) only [Jr6, key, EVM, EVC, EVR, EVP, ↓reduceIte, EV, Nat.reduceAdd, Nat.reduceEqDiff, Int.reduceToNat, reduceCtorEq]
theorem Kk6 (z : Zone) (hs : List (List UInt8)) (hz : z.wf) (hl : z.recs.length ≤ 60) (hh : hs.length ≤ 1000) (hw : ∀ h ∈ hs, h.length ≤ 9223372036854775807) : S Hb8 2 [z.pv, Aj3 hs] = some [Aj1 (hs.flatMap (glu2 z))] := by
 refine Mp7 (N := 2000) rfl ?_
 have key : Kh8.ev S 2000 [z.pv, Aj3 hs] = some (.yld 0 [Aj1 ([] ++ hs.flatMap (glu2 z))]) := by
  refine Ak5 hs (fun i (g : List Rec) => [Aj1 g, .i .i64 (i : Int)]) (fun i g r => .yld 0 [Aj1 (g ++ r.flatMap (glu2 z))]) (fun i g => g.length ≤ 120 * i) [] rfl (Nat.zero_le _) (by omega) (fun i g c r hd hi hc hI => ?_) (fun g hI => ?_)
  ·left
   have k0 := Dr6 z c hz (by omega) (hw c (List.mem_of_getElem? hc))
   have k1 := Ay6 z c 1 (by omega)
   have k2 := Ay6 z c 28 (by omega)
   have h1 := Av1 z c 1
   have h2 := Av1 z c 28
   by_cases h3 : cutN z c = []
   ·refine ⟨g, ?_, by omega, by simp [glu2, h3]⟩
    rw [h3] at k0
    simp (disch := omega) only [Jr5, hc, k0, ne_eq, not_true, decide_false, EVM, EVC, EVR, EVP, ↓reduceIte, EV, Nat.reduceAdd, Nat.reduceEqDiff, Int.reduceToNat, reduceCtorEq]
   ·refine ⟨g ++ findR z.recs c 1 ++ findR z.recs c 28, ?_, by rw [List.length_append, List.length_append]; omega, by simp [adr2, glu2, h3]⟩
    have h4 : decide (cutN z c ≠ []) = true := by simp [h3]
    rw [h4] at k0
    generalize findR z.recs c 1 = f1 at *
    generalize findR z.recs c 28 = f2 at *
    have a1 := Aw7 g f1 (by omega)
    have a2 := Aw7 (g ++ f1) f2 (by rw [List.length_append]; omega)
    simp (disch := omega) only [Jr5, hc, k0, k1, k2, a1, a2, EVM, EVC, EVR, EVP, ↓reduceIte, EV, Nat.reduceAdd, Nat.reduceEqDiff, Int.reduceToNat, reduceCtorEq]
  ·simp (disch := omega) only [Jr5, EVM, EVC, EVR, EVP, ↓reduceIte, EV, Nat.reduceAdd, Nat.reduceEqDiff, Int.reduceToNat, reduceCtorEq]
   simp [Out.goes]
 rw [List.nil_append] at key
 generalize hs.flatMap (glu2 z) = fm at *
 simp (disch := omega) only [Jr5, key, EVM, EVC, EVR, EVP, ↓reduceIte, EV, Nat.reduceAdd, Nat.reduceEqDiff, Int.reduceToNat, reduceCtorEq]
end Go.X.G
/- Responses; the law LookupResponds. -/
namespace Go.X.G
open Go Go.X

def Bh3 (name : List UInt8) (r : Res) : Rec := ⟨name, 5, ((r.recs[0]?).map Rec.ttl).getD 0, ⟨false, 0, 0, r.target, [], [], 0, 0, 0, 0, 0, 0, 0⟩⟩
def Dm1 (name : List UInt8) (r : Res) : List Rec :=
 if r.kind = 2 ∨ r.kind = 1 then r.recs else if r.kind = 3 then (if r.target = [] then r.recs else r.recs ++ [Bh3 name r]) else []
def ansF (name : List UInt8) (acc : List Rec) : List Res → List Rec
 | [] => acc
 | r :: rs => ansF r.target (acc ++ Dm1 name r) rs
structure RsOk (l : List Res) : Prop where
 len : l.length ≤ 9
 recs : ∀ r ∈ l, r.recs.length ≤ 60
 red : ∀ r ∈ l, r.kind = 3 → r.recs ≠ []
theorem Bh6 (name : List UInt8) (r : Res) (h : r.recs.length ≤ 60) : (Dm1 name r).length ≤ 61 := by
 unfold Dm1
 split
 ·omega
 ·split
  ·split
   ·omega
   ·rw [List.length_append, List.length_singleton]; omega
  ·simp
theorem Fr9 : ∀ (l : List Res) (name : List UInt8) (acc : List Rec), (∀ r ∈ l, r.recs.length ≤ 60) → (ansF name acc l).length ≤ acc.length + 61 * l.length
 | [], name, acc, _ => by simp [ansF]
 | r :: rs, name, acc, h => by
   have h1 := Bh6 name r (h r (.head _))
   have := Fr9 rs r.target (acc ++ Dm1 name r) fun x hx => h x (.tail _ hx)
   rw [List.length_append] at this
   simp only [ansF, List.length_cons]; omega
theorem Dm0 (l : List Res) (name : List UInt8) (h : RsOk l) : S Hb9 2 [Aq8 l, .s name] = some [Aj1 (ansF name [] l)] := by
 refine Mp8 (N := 1000) rfl ?_
 have hl := h.len
 have key : Kh9.ev S 1000 [Aq8 l, .s name] = some (.yld 0 [Aj1 (ansF name [] l)]) := by
  refine Ak5 l (fun i (g : List UInt8 × List Rec) => [.s g.1, Aj1 g.2, .i .i64 (i : Int)]) (fun i g r => .yld 0 [Aj1 (ansF g.1 g.2 r)]) (fun i g => g.2.length ≤ 61 * i) (name, []) (by simp (disch := omega) only [EVM, EVC, EVR, EVRS, EVP, ↓reduceIte, EV, Nat.reduceAdd, Nat.reduceEqDiff, Int.reduceToNat, reduceCtorEq]) (Nat.zero_le _) (by omega) (fun i g c r hd hi hc hI => ?_) (fun g hI => ?_)
  ·left
   obtain ⟨nm, g⟩ := g
   simp only at hI
   have hcm := List.mem_of_getElem? hc
   have h1 := h.recs c hcm
   have a1 := Aw7 g c.recs (by omega)
   have hal := Bh6 nm c h1
   refine ⟨(c.target, g ++ Dm1 nm c), ?_, by simp only [List.length_append]; omega, rfl⟩
   unfold Dm1
   by_cases h2 : c.kind = 2
   ·simp (disch := omega) only [Dn6, hc, h2, a1, EVM, EVC, EVR, EVRS, EVP, ↓reduceIte, EV, Nat.reduceAdd, Nat.reduceEqDiff, Int.reduceToNat, reduceCtorEq]
    try simp
   ·by_cases h3 : c.kind = 1
    ·simp (disch := omega) only [Dn6, hc, h2, h3, a1, EVM, EVC, EVR, EVRS, EVP, ↓reduceIte, EV, Nat.reduceAdd, Nat.reduceEqDiff, Int.reduceToNat, reduceCtorEq]
     try simp
    ·by_cases h4 : c.kind = 3
     ·have h5 := h.red c hcm h4
      obtain ⟨r0, rr, hr⟩ := List.exists_cons_of_ne_nil h5
      have hix : Az7 16 (Aj1 c.recs) (.i .i64 0) = some r0.pv := by
       rw [Ap8 _ _ _ (by omega), hr]; rfl
      have h8 : (c.recs[0]?).map Rec.ttl = some r0.ttl := by rw [hr]; rfl
      have h9 : (g ++ c.recs).length ≤ 1000 := by rw [List.length_append]; omega
      by_cases h6 : c.target = []
      ·simp (disch := omega) only [Dn6, hc, h2, h3, h4, h6, a1, EVM, EVC, EVR, EVRS, EVP, ↓reduceIte, EV, Nat.reduceAdd, Nat.reduceEqDiff, Int.reduceToNat, reduceCtorEq]
       try simp [h6]
      ·have h7 : g ++ (c.recs ++ [Bh3 nm c]) = (g ++ c.recs) ++ [Bh3 nm c] := by simp
       simp only [h4, h6, if_true, if_false, h7, show ¬ ((3 : Int) = 2 ∨ (3 : Int) = 1) by omega]
       unfold Bh3
       rw [h8]
       generalize g ++ c.recs = gc at *
       simp (disch := omega) only [Dn6, hc, h4, h6, a1, hix, Option.getD_some, EVM, EVC, EVR, EVRS, EVP, ↓reduceIte, EV, Nat.reduceAdd, Nat.reduceEqDiff, Int.reduceToNat, reduceCtorEq]
     ·simp (disch := omega) only [Dn6, hc, h2, h3, h4, EVM, EVC, EVR, EVRS, EVP, ↓reduceIte, EV, Nat.reduceAdd, Nat.reduceEqDiff, Int.reduceToNat, reduceCtorEq]
      try simp [h2, h3, h4]
  ·simp (disch := omega) only [Dn6, EVM, EVC, EVR, EVRS, EVP, ↓reduceIte, EV, Nat.reduceAdd, Nat.reduceEqDiff, Int.reduceToNat, reduceCtorEq]
   simp [Out.goes, ansF]
 simp (disch := omega) only [Dn6, key, EVM, EVC, EVR, EVRS, EVP, ↓reduceIte, EV, Nat.reduceAdd, Nat.reduceEqDiff, Int.reduceToNat, reduceCtorEq]
theorem Kt7 (z : Zone) (m : Msg) (l : List Res) (p3 p4 p5 : PV) (h : RsOk l) : Km5.ev S 1000 [z.pv, m.pv, Aq8 l, p3, p4] = some (.yld 0 [Aj1 (ansF m.q.name [] l)]) := by
 have hl := h.len
 refine Ak5 l (fun i (g : List UInt8 × List Rec) => [.s g.1, .i .i64 (i : Int), Aj1 g.2]) (fun i g r => .yld 0 [Aj1 (ansF g.1 g.2 r)]) (fun i g => g.2.length ≤ 61 * i) (m.q.name, []) (by simp (disch := omega) only [EVM, EVC, EVR, EVRS, EVP, ↓reduceIte, EV, Nat.reduceAdd, Nat.reduceEqDiff, Int.reduceToNat, reduceCtorEq]) (Nat.zero_le _) (by omega) (fun i g c r hd hi hc hI => ?_) (fun g hI => ?_)
 ·left
  obtain ⟨nm, g⟩ := g
  simp only at hI
  have hcm := List.mem_of_getElem? hc
  have h1 := h.recs c hcm
  have a1 := Aw7 g c.recs (by omega)
  have hal := Bh6 nm c h1
  refine ⟨(c.target, g ++ Dm1 nm c), ?_, by simp only [List.length_append]; omega, rfl⟩
  unfold Dm1
  by_cases h2 : c.kind = 2
  ·simp (disch := omega) only [Al2, hc, h2, a1, EVM, EVC, EVR, EVRS, EVP, ↓reduceIte, EV, Nat.reduceAdd, Nat.reduceEqDiff, Int.reduceToNat, reduceCtorEq]
   try simp
  ·by_cases h3 : c.kind = 1
   ·simp (disch := omega) only [Al2, hc, h2, h3, a1, EVM, EVC, EVR, EVRS, EVP, ↓reduceIte, EV, Nat.reduceAdd, Nat.reduceEqDiff, Int.reduceToNat, reduceCtorEq]
    try simp
   ·by_cases h4 : c.kind = 3
    ·have h5 := h.red c hcm h4
     obtain ⟨r0, rr, hr⟩ := List.exists_cons_of_ne_nil h5
     have hix : Az7 16 (Aj1 c.recs) (.i .i64 0) = some r0.pv := by
      rw [Ap8 _ _ _ (by omega), hr]; rfl
     have h8 : (c.recs[0]?).map Rec.ttl = some r0.ttl := by rw [hr]; rfl
     have h9 : (g ++ c.recs).length ≤ 1000 := by rw [List.length_append]; omega
     by_cases h6 : c.target = []
     ·simp (disch := omega) only [Al2, hc, h2, h3, h4, h6, a1, EVM, EVC, EVR, EVRS, EVP, ↓reduceIte, EV, Nat.reduceAdd, Nat.reduceEqDiff, Int.reduceToNat, reduceCtorEq]
      try simp [h6]
     ·have h7 : g ++ (c.recs ++ [Bh3 nm c]) = (g ++ c.recs) ++ [Bh3 nm c] := by simp
      simp only [h4, h6, if_true, if_false, h7, show ¬ ((3 : Int) = 2 ∨ (3 : Int) = 1) by omega]
      unfold Bh3
      rw [h8]
      generalize g ++ c.recs = gc at *
      simp (disch := omega) only [Al2, hc, h4, h6, a1, hix, Option.getD_some, EVM, EVC, EVR, EVRS, EVP, ↓reduceIte, EV, Nat.reduceAdd, Nat.reduceEqDiff, Int.reduceToNat, reduceCtorEq]
    ·simp (disch := omega) only [Al2, hc, h2, h3, h4, EVM, EVC, EVR, EVRS, EVP, ↓reduceIte, EV, Nat.reduceAdd, Nat.reduceEqDiff, Int.reduceToNat, reduceCtorEq]
     try simp [h2, h3, h4]
 ·simp (disch := omega) only [Al2, EVM, EVC, EVR, EVRS, EVP, ↓reduceIte, EV, Nat.reduceAdd, Nat.reduceEqDiff, Int.reduceToNat, reduceCtorEq]
  simp [Out.goes, ansF]

def finM (z : Zone) (o : Msg) (last : Res) : Msg :=
 if last.kind = 4 then { o with auth := last.recs, ext := (hostsF [] last.recs).flatMap (glu2 z) }
 else if last.kind = 5 then { o with auth := soaR z }
 else if last.kind = 6 then { o with auth := soaR z, code := 3 }
 else if last.kind = 1 then { o with ext := (hostsF [] last.recs).flatMap (adr2 z) }
 else if last.kind = 3 ∧ last.target = [] then { o with code := 6 }
 else o
def Kk2 (z : Zone) (m : Msg) (l : List Res) (ok : Bool) : Msg :=
 match l[0]?, l.getLast? with
 | some r, some last =>
   if r.kind = 0 then replyM m 5
   else if ok = false then replyM m 2
   else finM z { replyM m 0 with aa := decide (r.kind ≠ (4 : Int)), ans := ansF m.q.name [] l } last
 | _, _ => replyM m 0
def respondM (z : Zone) (m : Msg) : Msg :=
 if m.op ≠ 0 ∨ m.q.typ = 251 ∨ m.q.typ = 252 then replyM m 4 else Kk2 z m (chaseM z m.q).1 (chaseM z m.q).2
theorem Dl5 (z : Zone) (t : Int) : ∀ (k : Nat) (out : List Res) (seen : List (List UInt8)) (n : List UInt8), out ≠ [] → (Ac9 z t k out seen n).1 ≠ []
 | 0, out, seen, n, h => h
 | k + 1, out, seen, n, h => by
   rw [Ar0]
   split
   ·simp
   ·split
    ·simp
    ·split
     ·simp
     ·split
      ·simp
      ·exact Dl5 z t k _ _ _ (by simp)
theorem Dl3 (z : Zone) (q : Ques) : (chaseM z q).1 ≠ [] := by
 unfold chaseM
 rw [Ar0]
 split
 ·simp
 ·split
  ·simp
  ·split
   ·simp
   ·split
    ·simp
    ·exact Dl5 z _ _ _ _ _ (by simp)
theorem Bg7 (z : Zone) (q : Ques) (hl : z.recs.length ≤ 60) : (Av3 z q).recs.length ≤ 60 ∧ ((Av3 z q).kind = 3 → (Av3 z q).recs ≠ []) := by
 have hs : ∀ (l : List Rec) (t : Int), l.length ≤ 60 → (saysM l t).recs.length ≤ 60 ∧ (saysM l t).kind ≠ 3 := fun l t h => by
  unfold saysM
  split
  ·simp
  ·split
   ·simp
   ·have := An5 l t
    exact ⟨by simp only; omega, by simp⟩
 unfold Av3
 split
 ·split
  ·have := Av1 z (cutN z q.name) 2
   exact ⟨by simp only; omega, fun h => by simp at h⟩
  ·unfold Dh3
   cases h : redR z q.name with
   | some x =>
     show x.recs.length ≤ 60 ∧ (x.kind = 3 → x.recs ≠ [])
     unfold redR at h
     cases h2 : redO z q.name with
     | none => rw [h2] at h; cases h
     | some u =>
       rw [h2] at h
       simp only [Option.map_some, Option.some.injEq] at h
       rw [← h]
       unfold Bd3
       split <;> simp
   | none =>
     simp only
     split
     ·have := hs (allR z q.name) q.typ (by have := Ar1 z q.name; omega)
      exact ⟨this.1, fun h => absurd h this.2⟩
     ·unfold Dx9
      split
      ·simp only [Option.getD_some]
       have := hs ((allR z (Ax8 (encN z q.name))).map (renR q.name)) q.typ (by rw [List.length_map]; have := Ar1 z (Ax8 (encN z q.name)); omega)
       exact ⟨this.1, fun h => absurd h this.2⟩
      ·simp
 ·simp
theorem Cb5 (z : Zone) (q : Ques) (hl : z.recs.length ≤ 60) : RsOk (chaseM z q).1 := by
 refine ⟨by simpa [chaseM] using Cq7 z q.typ 9 [] [q.name] q.name, ?_, ?_⟩
 ·exact Bw3 (fun r => r.recs.length ≤ 60) z q.typ (fun n => (Bg7 z ⟨n, q.typ⟩ hl).1) 9 [] [q.name] q.name (by simp)
 ·exact Bw3 (fun r => r.kind = 3 → r.recs ≠ []) z q.typ (fun n => (Bg7 z ⟨n, q.typ⟩ hl).2) 9 [] [q.name] q.name (by simp)
theorem Kz3 (z : Zone) (q : Ques) (hz : z.wf) (hq : q.name.length ≤ 9223372036854775807) : ∀ r ∈ (Av3 z q).recs, r.wf := by
 have hs : ∀ (l : List Rec) (t : Int), (∀ r ∈ l, r.wf) → ∀ r ∈ (saysM l t).recs, r.wf := fun l t h r hr => by
  unfold saysM at hr
  cases ha : aliO l t with
  | some c =>
    rw [ha] at hr
    unfold aliO at ha
    split at ha
    ·cases ha
    ·simp only [List.mem_singleton] at hr
     rw [hr]; exact h c (List.mem_of_find?_eq_some ha)
  | none =>
    rw [ha] at hr
    simp only at hr
    split at hr
    ·cases hr
    ·simp only at hr
     unfold typedR at hr
     split at hr
     ·exact h r hr
     ·exact h r (List.mem_filter.1 hr).1
 have hal : ∀ n, ∀ r ∈ allR z n, r.wf := fun n r hr => hz.recs.2 r (List.mem_filter.1 hr).1
 intro r hr
 unfold Av3 at hr
 split at hr
 ·split at hr
  ·exact Bz1 hz hr
  ·unfold Dh3 at hr
   cases h : redR z q.name with
   | some x =>
     rw [h] at hr
     simp only at hr
     unfold redR at h
     cases h2 : redO z q.name with
     | none => rw [h2] at h; cases h
     | some u =>
       rw [h2] at h
       simp only [Option.map_some, Option.some.injEq] at h
       rw [← h] at hr
       unfold Bd3 at hr
       split at hr
       ·rename_i r0 rest hf
        simp only [List.mem_singleton] at hr
        rw [hr]
        exact Bz1 hz (n := u) (t := 39) (by rw [hf]; exact .head _)
       ·cases hr
   | none =>
     rw [h] at hr
     simp only at hr
     split at hr
     ·exact hs _ _ (hal _) r hr
     ·unfold Dx9 at hr
      split at hr
      ·simp only [Option.getD_some] at hr
       refine hs _ _ (fun x hx => ?_) r hr
       obtain ⟨y, hy, rfl⟩ := List.mem_map.1 hx
       have hy := hal _ y hy
       exact ⟨hq, hy.typ, hy.ttl, hy.data⟩
      ·cases hr
 ·cases hr
theorem Dl4 (z : Zone) (t : Int) (hz : z.wf) : ∀ (k : Nat) (out : List Res) (seen : List (List UInt8)) (n : List UInt8), n.length ≤ 9223372036854775807 → (∀ r ∈ out, ∀ x ∈ r.recs, x.wf) → ∀ r ∈ (Ac9 z t k out seen n).1, ∀ x ∈ r.recs, x.wf
 | 0, out, seen, n, _, ho => ho
 | k + 1, out, seen, n, hn, ho => by
   have ho' : ∀ r ∈ out ++ [Av3 z ⟨n, t⟩], ∀ x ∈ r.recs, x.wf := fun r hr => by
    rcases List.mem_append.1 hr with hr | hr
    ·exact ho r hr
    ·rw [List.mem_singleton.1 hr]; exact Kz3 z ⟨n, t⟩ hz hn
   rw [Ar0]
   split
   ·exact ho'
   ·split
    ·exact ho'
    ·split
     ·exact ho'
     ·split
      ·exact ho'
      ·exact Dl4 z t hz k _ _ _ (As8 z ⟨n, t⟩ hz) ho'
theorem Dl2 (z : Zone) (q : Ques) (hz : z.wf) (hq : q.name.length ≤ 9223372036854775807) : ∀ r ∈ (chaseM z q).1, ∀ x ∈ r.recs, x.wf := Dl4 z q.typ hz 9 [] [q.name] q.name hq (by simp)
theorem Jt7 (z : Zone) : (soaR z).length ≤ 1 := by unfold soaR; split <;> simp
theorem Fm1 (l : List Res) (h : l ≠ []) (hl : l.length ≤ 9) : Az7 5 (Aq8 l) (.i .i64 ((l.length : Int) - 1)) = (l.getLast?).map Res.pv := by
 have hp := List.length_pos_iff.2 h
 rw [By9 _ _ _ (by omega), show ((l.length : Int) - 1).toNat = l.length - 1 by omega, List.getLast?_eq_getElem?]
end Go.X.G
/- The law LookupResponds. -/
namespace Go.X.G
open Go Go.X

theorem Bt7 (z : Zone) (m : Msg) (hz : z.wf) (hl : z.recs.length ≤ 60) (hq : m.q.name.length ≤ 9223372036854775807) : S Gg3 2 [z.pv, m.pv] = some [(respondM z m).pv] := by
 refine Mt6 (N := 1000) rfl ?_
 have k1 := Gs3 m
 unfold respondM
 by_cases h1 : m.op = 0
 ·by_cases h2 : m.q.typ = 251
  ·rw [if_pos (.inr (.inl h2))]
   have k1 := k1 4
   generalize replyM m 4 = o at *
   simp (disch := omega) only [Al2, h1, h2, k1, EVM, EVC, EVR, EVRS, EVP, ↓reduceIte, EV, Nat.reduceAdd, Nat.reduceEqDiff, Int.reduceToNat, reduceCtorEq]
  ·by_cases h3 : m.q.typ = 252
   ·rw [if_pos (.inr (.inr h3))]
    have k1 := k1 4
    generalize replyM m 4 = o at *
    simp (disch := omega) only [Al2, h1, h3, k1, EVM, EVC, EVR, EVRS, EVP, ↓reduceIte, EV, Nat.reduceAdd, Nat.reduceEqDiff, Int.reduceToNat, reduceCtorEq]
   ·rw [if_neg (by simp [h1, h2, h3])]
    have k2 := Kb0 z m.q hz (by omega) hq
    have hrs := Cb5 z m.q hl
    have hwf := Dl2 z m.q hz hq
    have hne := Dl3 z m.q
    generalize chaseM z m.q = cm at *
    obtain ⟨l, ok⟩ := cm
    simp only at k2 hrs hwf hne ⊢
    have hlen := hrs.len
    obtain ⟨r, rest, hr⟩ := List.exists_cons_of_ne_nil hne
    have hr0 : l[0]? = some r := by rw [hr]; rfl
    obtain ⟨last, hla⟩ : ∃ x, l.getLast? = some x := ⟨_, List.getLast?_eq_some_getLast hne⟩
    have hlm : last ∈ l := List.mem_of_getLast? hla
    have hli := Fm1 l hne hlen
    rw [hla, Option.map_some] at hli
    have hi0 : Az7 5 (Aq8 l) (.i .i64 0) = some r.pv := by rw [By9 _ _ _ (by omega)]; simp [hr0]
    unfold Kk2
    rw [hr0, hla]
    simp only
    by_cases h4 : r.kind = 0
    ·rw [if_pos h4]
     have k1 := k1 5
     generalize replyM m 5 = o at *
     simp (disch := omega) only [Al2, h1, h2, h3, k1, k2, hi0, h4, EVM, EVC, EVR, EVRS, EVP, ↓reduceIte, EV, Nat.reduceAdd, Nat.reduceEqDiff, Int.reduceToNat, reduceCtorEq]
    ·rw [if_neg h4]
     cases ok with
     | false =>
       rw [if_pos rfl]
       have k1 := k1 2
       generalize replyM m 2 = o at *
       simp (disch := omega) only [Al2, h1, h2, h3, k1, k2, hi0, h4, EVM, EVC, EVR, EVRS, EVP, ↓reduceIte, EV, Nat.reduceAdd, Nat.reduceEqDiff, Int.reduceToNat, reduceCtorEq]
     | true =>
       rw [if_neg (by simp)]
       have k1 := k1 0
       have k3 := fun p3 p4 => Kt7 z m l p3 p4 .u hrs
       have k4 := Hl9 last.recs (by have := hrs.recs last hlm; omega)
       have hhl := Af4 last.recs []
       have hhw := Ah2 last.recs [] (hwf last hlm) (by simp)
       have hrl := hrs.recs last hlm
       rw [List.length_nil] at hhl
       have k5 := Jp8 z (hostsF [] last.recs) hz hl (by omega) hhw
       have k6 := Dv7 z (hostsF [] last.recs) hl (by omega)
       have k7 := Lf2 z (by omega)
       unfold finM
       generalize replyM m 0 = o at *
       generalize ansF m.q.name [] l = an at *
       generalize (hostsF [] last.recs).flatMap (glu2 z) = gl at *
       generalize (hostsF [] last.recs).flatMap (adr2 z) = ad at *
       generalize hostsF [] last.recs = ho at *
       generalize soaR z = so at *
       by_cases e4 : last.kind = 4
       ·simp only [e4, if_true]
        simp (disch := omega) only [Al2, h1, h2, h3, k1, k2, k3, k4, k5, hi0, hli, h4, e4, EVM, EVC, EVR, EVRS, EVP, ↓reduceIte, EV, Nat.reduceAdd, Nat.reduceEqDiff, Int.reduceToNat, reduceCtorEq]
       ·by_cases e5 : last.kind = 5
        ·simp only [e5, if_true, show ¬ (5 : Int) = 4 by omega, if_false]
         simp (disch := omega) only [Al2, h1, h2, h3, k1, k2, k3, k7, hi0, hli, h4, e5, EVM, EVC, EVR, EVRS, EVP, ↓reduceIte, EV, Nat.reduceAdd, Nat.reduceEqDiff, Int.reduceToNat, reduceCtorEq]
        ·by_cases e6 : last.kind = 6
         ·simp only [e6, if_true, show ¬ (6 : Int) = 4 by omega, show ¬ (6 : Int) = 5 by omega, if_false]
          simp (disch := omega) only [Al2, h1, h2, h3, k1, k2, k3, k7, hi0, hli, h4, e6, EVM, EVC, EVR, EVRS, EVP, ↓reduceIte, EV, Nat.reduceAdd, Nat.reduceEqDiff, Int.reduceToNat, reduceCtorEq]
         ·by_cases e1 : last.kind = 1
          ·simp only [e1, if_true, show ¬ (1 : Int) = 4 by omega, show ¬ (1 : Int) = 5 by omega, show ¬ (1 : Int) = 6 by omega, if_false]
           simp (disch := omega) only [Al2, h1, h2, h3, k1, k2, k3, k4, k6, hi0, hli, h4, e1, EVM, EVC, EVR, EVRS, EVP, ↓reduceIte, EV, Nat.reduceAdd, Nat.reduceEqDiff, Int.reduceToNat, reduceCtorEq]
          ·by_cases e3 : last.kind = 3
           ·by_cases et : last.target = []
            ·simp only [e3, et, if_true, show ¬ (3 : Int) = 4 by omega, show ¬ (3 : Int) = 5 by omega, show ¬ (3 : Int) = 6 by omega, show ¬ (3 : Int) = 1 by omega, if_false, and_self]
             simp (disch := omega) only [Al2, h1, h2, h3, k1, k2, k3, hi0, hli, h4, e3, et, EVM, EVC, EVR, EVRS, EVP, ↓reduceIte, EV, Nat.reduceAdd, Nat.reduceEqDiff, Int.reduceToNat, reduceCtorEq]
            ·simp only [e3, et, show ¬ (3 : Int) = 4 by omega, show ¬ (3 : Int) = 5 by omega, show ¬ (3 : Int) = 6 by omega, show ¬ (3 : Int) = 1 by omega, if_false, and_false]
             simp (disch := omega) only [Al2, h1, h2, h3, k1, k2, k3, hi0, hli, h4, e3, et, EVM, EVC, EVR, EVRS, EVP, ↓reduceIte, EV, Nat.reduceAdd, Nat.reduceEqDiff, Int.reduceToNat, reduceCtorEq]
           ·simp only [e1, e3, e4, e5, e6, if_false, false_and]
            simp (disch := omega) only [Al2, h1, h2, h3, k1, k2, k3, hi0, hli, h4, e1, e3, e4, e5, e6, EVM, EVC, EVR, EVRS, EVP, ↓reduceIte, EV, Nat.reduceAdd, Nat.reduceEqDiff, Int.reduceToNat, reduceCtorEq]
 ·rw [if_pos (.inl h1)]
  have k1 := k1 4
  generalize replyM m 4 = o at *
  simp (disch := omega) only [Al2, h1, k1, EVM, EVC, EVR, EVRS, EVP, ↓reduceIte, EV, Nat.reduceAdd, Nat.reduceEqDiff, Int.reduceToNat, reduceCtorEq]
theorem Dr2 (z : Zone) (m : Msg) (hz : z.wf) (hl : z.recs.length ≤ 60) (hq : m.q.name.length ≤ 9223372036854775807) (hdn : ∀ u, (findR z.recs u 39).length ≤ 1) : S Hd4 2 [z.pv, m.pv] = some [(respondM z m).pv] := by
 refine Mt5 (N := 1000) rfl ?_
 have k1 := Gs4 m
 unfold respondM
 by_cases h1 : m.op = 0
 ·by_cases h2 : m.q.typ = 251
  ·rw [if_pos (.inr (.inl h2))]
   have k1 := k1 4
   generalize replyM m 4 = o at *
   simp (disch := omega) only [Bx9, h1, h2, k1, EVM, EVC, EVR, EVRS, EVP, ↓reduceIte, EV, Nat.reduceAdd, Nat.reduceEqDiff, Int.reduceToNat, reduceCtorEq]
  ·by_cases h3 : m.q.typ = 252
   ·rw [if_pos (.inr (.inr h3))]
    have k1 := k1 4
    generalize replyM m 4 = o at *
    simp (disch := omega) only [Bx9, h1, h3, k1, EVM, EVC, EVR, EVRS, EVP, ↓reduceIte, EV, Nat.reduceAdd, Nat.reduceEqDiff, Int.reduceToNat, reduceCtorEq]
   ·rw [if_neg (by simp [h1, h2, h3])]
    have k2 := Gs8 z m.q hz (by omega) hq hdn
    have hrs := Cb5 z m.q hl
    have hwf := Dl2 z m.q hz hq
    have hne := Dl3 z m.q
    generalize chaseM z m.q = cm at *
    obtain ⟨l, ok⟩ := cm
    simp only at k2 hrs hwf hne ⊢
    have hlen := hrs.len
    obtain ⟨r, rest, hr⟩ := List.exists_cons_of_ne_nil hne
    have hr0 : l[0]? = some r := by rw [hr]; rfl
    obtain ⟨last, hla⟩ : ∃ x, l.getLast? = some x := ⟨_, List.getLast?_eq_some_getLast hne⟩
    have hlm : last ∈ l := List.mem_of_getLast? hla
    have hli := Fm1 l hne hlen
    rw [hla, Option.map_some] at hli
    have hi0 : Az7 5 (Aq8 l) (.i .i64 0) = some r.pv := by rw [By9 _ _ _ (by omega)]; simp [hr0]
    unfold Kk2
    rw [hr0, hla]
    simp only
    by_cases h4 : r.kind = 0
    ·rw [if_pos h4]
     have k1 := k1 5
     generalize replyM m 5 = o at *
     simp (disch := omega) only [Bx9, h1, h2, h3, k1, k2, hi0, h4, EVM, EVC, EVR, EVRS, EVP, ↓reduceIte, EV, Nat.reduceAdd, Nat.reduceEqDiff, Int.reduceToNat, reduceCtorEq]
    ·rw [if_neg h4]
     cases ok with
     | false =>
       rw [if_pos rfl]
       have k1 := k1 2
       generalize replyM m 2 = o at *
       simp (disch := omega) only [Bx9, h1, h2, h3, k1, k2, hi0, h4, EVM, EVC, EVR, EVRS, EVP, ↓reduceIte, EV, Nat.reduceAdd, Nat.reduceEqDiff, Int.reduceToNat, reduceCtorEq]
     | true =>
       rw [if_neg (by simp)]
       have k1 := k1 0
       have k3 := Dm0 l m.q.name hrs
       have k4 := Gl4 last.recs (by have := hrs.recs last hlm; omega)
       have hhl := Af4 last.recs []
       have hhw := Ah2 last.recs [] (hwf last hlm) (by simp)
       have hrl := hrs.recs last hlm
       rw [List.length_nil] at hhl
       have k5 := Kk6 z (hostsF [] last.recs) hz hl (by omega) hhw
       have k6 := Bm1 z (hostsF [] last.recs) hl (by omega)
       have k7 := Lf1 z (by omega)
       unfold finM
       generalize replyM m 0 = o at *
       generalize ansF m.q.name [] l = an at *
       generalize (hostsF [] last.recs).flatMap (glu2 z) = gl at *
       generalize (hostsF [] last.recs).flatMap (adr2 z) = ad at *
       generalize hostsF [] last.recs = ho at *
       generalize soaR z = so at *
       by_cases e4 : last.kind = 4
       ·simp only [e4, if_true]
        simp (disch := omega) only [Bx9, h1, h2, h3, k1, k2, k3, k4, k5, hi0, hli, h4, e4, EVM, EVC, EVR, EVRS, EVP, ↓reduceIte, EV, Nat.reduceAdd, Nat.reduceEqDiff, Int.reduceToNat, reduceCtorEq]
       ·by_cases e5 : last.kind = 5
        ·simp only [e5, if_true, show ¬ (5 : Int) = 4 by omega, if_false]
         simp (disch := omega) only [Bx9, h1, h2, h3, k1, k2, k3, k7, hi0, hli, h4, e5, EVM, EVC, EVR, EVRS, EVP, ↓reduceIte, EV, Nat.reduceAdd, Nat.reduceEqDiff, Int.reduceToNat, reduceCtorEq]
        ·by_cases e6 : last.kind = 6
         ·simp only [e6, if_true, show ¬ (6 : Int) = 4 by omega, show ¬ (6 : Int) = 5 by omega, if_false]
          simp (disch := omega) only [Bx9, h1, h2, h3, k1, k2, k3, k7, hi0, hli, h4, e6, EVM, EVC, EVR, EVRS, EVP, ↓reduceIte, EV, Nat.reduceAdd, Nat.reduceEqDiff, Int.reduceToNat, reduceCtorEq]
         ·by_cases e1 : last.kind = 1
          ·simp only [e1, if_true, show ¬ (1 : Int) = 4 by omega, show ¬ (1 : Int) = 5 by omega, show ¬ (1 : Int) = 6 by omega, if_false]
           simp (disch := omega) only [Bx9, h1, h2, h3, k1, k2, k3, k4, k6, hi0, hli, h4, e1, EVM, EVC, EVR, EVRS, EVP, ↓reduceIte, EV, Nat.reduceAdd, Nat.reduceEqDiff, Int.reduceToNat, reduceCtorEq]
          ·by_cases e3 : last.kind = 3
           ·by_cases et : last.target = []
            ·simp only [e3, et, if_true, show ¬ (3 : Int) = 4 by omega, show ¬ (3 : Int) = 5 by omega, show ¬ (3 : Int) = 6 by omega, show ¬ (3 : Int) = 1 by omega, if_false, and_self]
             simp (disch := omega) only [Bx9, h1, h2, h3, k1, k2, k3, hi0, hli, h4, e3, et, EVM, EVC, EVR, EVRS, EVP, ↓reduceIte, EV, Nat.reduceAdd, Nat.reduceEqDiff, Int.reduceToNat, reduceCtorEq]
            ·simp only [e3, et, show ¬ (3 : Int) = 4 by omega, show ¬ (3 : Int) = 5 by omega, show ¬ (3 : Int) = 6 by omega, show ¬ (3 : Int) = 1 by omega, if_false, and_false]
             simp (disch := omega) only [Bx9, h1, h2, h3, k1, k2, k3, hi0, hli, h4, e3, et, EVM, EVC, EVR, EVRS, EVP, ↓reduceIte, EV, Nat.reduceAdd, Nat.reduceEqDiff, Int.reduceToNat, reduceCtorEq]
           ·simp only [e1, e3, e4, e5, e6, if_false, false_and]
            simp (disch := omega) only [Bx9, h1, h2, h3, k1, k2, k3, hi0, hli, h4, e1, e3, e4, e5, e6, EVM, EVC, EVR, EVRS, EVP, ↓reduceIte, EV, Nat.reduceAdd, Nat.reduceEqDiff, Int.reduceToNat, reduceCtorEq]
 ·rw [if_pos (.inl h1)]
  have k1 := k1 4
  generalize replyM m 4 = o at *
  simp (disch := omega) only [Bx9, h1, k1, EVM, EVC, EVR, EVRS, EVP, ↓reduceIte, EV, Nat.reduceAdd, Nat.reduceEqDiff, Int.reduceToNat, reduceCtorEq]
end Go.X.G
/- The law LookupResponds: the row's own part. -/
namespace Go.X.G
open Go Go.X

theorem Cz5 (f : List UInt8 → List Rec) (k : Nat) (h : ∀ x, (f x).length ≤ k) : ∀ l : List (List UInt8), (l.flatMap f).length ≤ k * l.length
 | [] => by simp
 | x :: r => by
   have h1 := Cz5 f k h r
   have h2 := h x
   rw [List.flatMap_cons, List.length_append, List.length_cons, Nat.mul_add]; omega
theorem Dr3 (z : Zone) (m : Msg) (hl : z.recs.length ≤ 60) : (respondM z m).ans.length ≤ 1000000 ∧ (respondM z m).auth.length ≤ 1000000 ∧ (respondM z m).ext.length ≤ 1000000 := by
 unfold respondM
 split
 ·simp [replyM]
 ·have hrs := Cb5 z m.q hl
  generalize (chaseM z m.q).1 = l at *
  generalize (chaseM z m.q).2 = ok at *
  unfold Kk2
  split
  ·rename_i r last h0 h1
   split
   ·simp [replyM]
   ·split
    ·simp [replyM]
    ·have ha := Fr9 l m.q.name [] hrs.recs
     have hn := hrs.len
     have hlr := hrs.recs last (List.mem_of_getLast? h1)
     have hh := Af4 last.recs []
     have hs := Jt7 z
     have hg := Cz5 (glu2 z) 120 (fun x => by have := Ky1 z x; omega) (hostsF [] last.recs)
     have hd := Cz5 (adr2 z) 120 (fun x => by have := Fs2 z x; omega) (hostsF [] last.recs)
     rw [List.length_nil] at ha hh
     unfold finM
     generalize ansF m.q.name [] l = an at *
     generalize (hostsF [] last.recs).flatMap (glu2 z) = gl at *
     generalize (hostsF [] last.recs).flatMap (adr2 z) = ad at *
     split
     ·refine ⟨?_, ?_, ?_⟩ <;> simp only [replyM, List.length_nil] <;> omega
     ·split
      ·refine ⟨?_, ?_, ?_⟩ <;> simp only [replyM, List.length_nil] <;> omega
      ·split
       ·refine ⟨?_, ?_, ?_⟩ <;> simp only [replyM, List.length_nil] <;> omega
       ·split
        ·refine ⟨?_, ?_, ?_⟩ <;> simp only [replyM, List.length_nil] <;> omega
        ·split
         ·refine ⟨?_, ?_, ?_⟩ <;> simp only [replyM, List.length_nil] <;> omega
         ·refine ⟨?_, ?_, ?_⟩ <;> simp only [replyM, List.length_nil] <;> omega
  ·simp [replyM]
def awM : Msg := ⟨3, 0, 0, false, false, false, false, false, false, false, false, 0, awQ1, [], [], []⟩
theorem Ld4 : (respondM sample11 awM).aa = true ∧ (respondM sample11 awM).ans.length = 1 ∧ (respondM sample11 awM).id = 3 := by
 unfold respondM
 rw [if_neg (by decide), show awM.q = awQ1 from rfl, Kc2]
 exact ⟨rfl, rfl, rfl⟩
theorem law_LookupResponds (z : Zone) (m : Msg) (hz : z.wf) (hm : m.wf) : S n_u5 2 [z.pv, m.pv] = some [.b true] := by
 refine s_u5 (N := 1) rfl ?_
 have k0 := Bt7 sample11 awM Dp8 (by decide) (by decide)
 obtain ⟨a1, a2, a3⟩ := Ld4
 have e0 : Msg.pv ⟨3, 0, 0, false, false, false, false, false, false, false, false, 0, ⟨[97, 46, 120, 46], 1⟩, [], [], []⟩ = awM.pv := rfl
 have s1 := Gr9
 generalize respondM sample11 awM = x0 at *
 generalize sample11 = sm at *
 have a2' : (x0.ans.length : Int) = 1 := by omega
 have k2 := Jt8 z hz
 have hqn : m.q.name.length ≤ 9223372036854775807 := hm.q.name
 by_cases h3 : z.recs.length ≤ 60
 ·by_cases h5 : Bq2 z = 0
  ·have e : (decide (z.recs.length ≤ 60) && decide (Bq2 z = 0)) = true := by simp [h3, h5]
   rw [e] at k2
   by_cases h4 : m.q.name.length ≤ 300
   ·have hc := Hp3 h5
    have k3 := Bt7 z m hz h3 hqn
    have k4 := Dr2 z m hz h3 hqn (fun u => hc.single u 39 (by simp))
    obtain ⟨b1, b2, b3⟩ := Dr3 z m h3
    generalize respondM z m = x at *
    have r1 := Bv6 x.ans x.ans b1
    have r2 := Bv6 x.auth x.auth b2
    have r3 := Bv6 x.ext x.ext b3
    simp (disch := omega) only [x_u5, s1, e0, k0, a1, a2', a3, k2, k3, k4, r1, r2, r3, beq_self_eq_true, Bool.not_true, EVM, EVC, EVR, EVRS, EVP, ↓reduceIte, EV, Nat.reduceAdd, Nat.reduceEqDiff, Int.reduceToNat, reduceCtorEq]
    try simp
   ·have h6 : (300 : Int) < (m.q.name.length : Int) := by omega
    simp (disch := omega) only [x_u5, s1, e0, k0, a1, a2', a3, k2, h6, EVM, EVC, EVR, EVRS, EVP, ↓reduceIte, EV, Nat.reduceAdd, Nat.reduceEqDiff, Int.reduceToNat, reduceCtorEq]
  ·have e : (decide (z.recs.length ≤ 60) && decide (Bq2 z = 0)) = false := by simp [h5]
   rw [e] at k2
   simp (disch := omega) only [x_u5, s1, e0, k0, a1, a2', a3, k2, EVM, EVC, EVR, EVRS, EVP, ↓reduceIte, EV, Nat.reduceAdd, Nat.reduceEqDiff, Int.reduceToNat, reduceCtorEq]
 ·have e : (decide (z.recs.length ≤ 60) && decide (Bq2 z = 0)) = false := by simp [h3]
  rw [e] at k2
  simp (disch := omega) only [x_u5, s1, e0, k0, a1, a2', a3, k2, EVM, EVC, EVR, EVRS, EVP, ↓reduceIte, EV, Nat.reduceAdd, Nat.reduceEqDiff, Int.reduceToNat, reduceCtorEq]
end Go.X.G
