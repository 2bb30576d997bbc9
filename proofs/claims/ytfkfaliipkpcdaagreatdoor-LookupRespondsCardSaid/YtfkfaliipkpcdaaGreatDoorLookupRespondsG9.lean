/- Names: what the reference's functions give. -/
import Derived.Test.YtfkfaliipkpcdaaGreatDoorLookupRespondsG7
import Derived.Test.YtfkfaliipkpcdaaGreatDoorLookupRespondsG8

set_option maxHeartbeats 1000000
set_option linter.unusedVariables false
set_option linter.unusedSimpArgs false
namespace Go.X.G
open Go Go.X

def Bk2 (c : UInt8) : Bool := decide (97 ≤ (c.toNat : Int)) && decide ((c.toNat : Int) ≤ 122) || decide (48 ≤ (c.toNat : Int)) && decide ((c.toNat : Int) ≤ 57) || decide ((c.toNat : Int) = 45) || decide ((c.toNat : Int) = 95)
theorem Gg4 (c : UInt8) : (decide (97 ≤ (c.toNat : Int)) && decide ((c.toNat : Int) ≤ 122) || decide (48 ≤ (c.toNat : Int)) && decide ((c.toNat : Int) ≤ 57) || decide ((c.toNat : Int) = 45) || decide ((c.toNat : Int) = 95)) = Bk2 c := rfl
def Ab9 (s : List UInt8) : Bool := decide (s = [42]) || (decide (1 ≤ s.length) && decide (s.length ≤ 63) && s.all Bk2)

theorem Gg9 (s : List UInt8) (N : Nat) (hN : s.length < N) (hs : s.length ≤ 4294967296) :
  Hh4.ev S N [.s s] = some (if s.all Bk2 = true then .yld 0 [] else .ret [.b false]) := by
 refine Aq1 s (fun i => [.i .i64 (i : Int)]) (fun i r => if r.all Bk2 = true then .yld 0 [] else .ret [.b false]) rfl hN (fun i c r hd hi hc => ?_) ?_
 ·simp (disch := omega) only [Gn6, ↓reduceIte, EV, Nat.reduceAdd, Nat.reduceEqDiff, Int.reduceToNat, reduceCtorEq, hc, Gg4]
  cases h : Bk2 c <;> simp [h, Out.goes]
 ·simp (disch := omega) [Gn6, ↓reduceIte, EV, Nat.reduceAdd, Nat.reduceEqDiff, Int.reduceToNat, reduceCtorEq, Out.goes]

theorem Gg8 (s : List UInt8) (hs : s.length ≤ 4294967296) : S Df1 1 [.s s] = some [.b (Ab9 s)] := by
 refine Lt0 (N := s.length + 1) rfl ?_
 simp (disch := omega) only [Gn6, Gg9, ↓reduceIte, EV, Nat.reduceAdd, Nat.reduceEqDiff, Int.reduceToNat, reduceCtorEq]
 unfold Ab9
 grind
end Go.X.G
/- Names: what the reference's functions give. -/
namespace Go.X.G
open Go Go.X

def spl (first : Bool) (cur : List UInt8) : List UInt8 → Option (List (List UInt8))
 | [] => some []
 | c :: r => if c = 46 then (if Ab9 cur = true ∧ (cur = [42] → first = true) then (spl false [] r).map (cur :: ·) else none) else spl first (cur ++ [c]) r
def nm (n : List UInt8) : Option (List (List UInt8)) :=
 if n = [46] then some [] else if 2 ≤ n.length ∧ n.length ≤ 254 ∧ n[n.length - 1]? = some 46 then spl true [] n else none
def lbl (n : List UInt8) : List (List UInt8) := (nm n).getD []
def vld (n : List UInt8) : Bool := (nm n).isSome

theorem Kr5 {α : Type} (n : List α) (i j : Nat) (c : α) (h : n[i]? = some c) (hj : j ≤ i) : (n.take (i + 1)).drop j = (n.take i).drop j ++ [c] := by
 have hi : i < n.length := (List.getElem?_eq_some_iff.1 h).1
 rw [List.take_add_one, h, List.drop_append_of_le_length (by simp; omega)]; rfl
theorem Kr6 {α : Type} (n : List α) (i : Nat) : (n.take i).drop i = [] := by
 rw [List.drop_eq_nil_iff]; simp; omega

def Bt4 (l : List (List UInt8)) : Option (List (List UInt8)) → Out
 | some ls => .yld 0 [.l 1 ((l ++ ls).map .s)]
 | none => .ret [.l 1 [], .b false]
theorem Jt5 (n : List UInt8) (N : Nat) (hN : n.length < N) (hs : n.length ≤ 1000) :
  Kg6.ev S N [.s n] = some (Bt4 [] (spl true [] n)) := by
 refine Ak5 n (fun i (g : List (List UInt8) × Nat) => [.l 1 (g.1.map .s), .i .i64 (g.2 : Int), .i .i64 (i : Int)]) (fun i g r => Bt4 g.1 (spl (decide (g.2 = 0)) ((n.take i).drop g.2) r)) (fun i g => g.1.length ≤ i ∧ g.2 ≤ i) ([], 0) rfl ⟨Nat.le_refl _, Nat.le_refl _⟩ hN (fun i g c r hd hi hc hI => ?_) (fun g hI => ?_)
 ·obtain ⟨l, st⟩ := g
  obtain ⟨h1, h2⟩ := hI
  simp only at h1 h2 ⊢
  have hl : ((n.take i).drop st).length ≤ 4294967296 := by simp; omega
  have hm : (l.map PV.s).length = l.length := List.length_map ..
  have hd' := Js5 c 46 (by omega)
  by_cases hdot : c = 46
  ·have hdi := hd'.2 hdot
   simp (disch := omega) only [Dw7, ↓reduceIte, EV, Nat.reduceAdd, Nat.reduceEqDiff, Int.reduceToNat, reduceCtorEq, hc, Gg8]
   simp only [spl, if_pos hdot]
   by_cases h : Ab9 ((n.take i).drop st) = true ∧ ((n.take i).drop st = [42] → st = 0)
   ·obtain ⟨h3, h4⟩ := h
    left
    refine ⟨(l ++ [(n.take i).drop st], i + 1), ?_, ?_, ?_⟩
    ·rw [if_neg (by simp only [h3]; intro h; simp at h; have := h4 h.1; omega)]
     simp
    ·simp; omega
    ·simp only [Kr6]
     rw [if_pos ⟨h3, by simpa using h4⟩]
     cases h9 : spl false [] r <;> simp [h9, Bt4]
   ·right
    have h' : ¬ (Ab9 ((n.take i).drop st) = true ∧ ((n.take i).drop st = [42] → decide (st = 0) = true)) := by simpa using h
    rw [if_neg h']
    refine ⟨?_, rfl⟩
    rw [if_pos]
    ·rfl
    ·cases h5 : Ab9 ((n.take i).drop st)
     ·simp
     ·simp only [h5, true_and] at h
      have ⟨h6, h7⟩ := Classical.not_imp.1 h
      simp [h6]; omega
  ·have hdi : ¬ (c.toNat : Int) = 46 := fun h => hdot (hd'.1 h)
   left
   refine ⟨(l, st), ?_, ?_, ?_⟩
   ·simp (disch := omega) only [Dw7, ↓reduceIte, EV, Nat.reduceAdd, Nat.reduceEqDiff, Int.reduceToNat, reduceCtorEq, hc]
   ·simp only; omega
   ·simp only [spl]; rw [if_neg hdot, Kr5 n i st c hc h2]
 ·simp (disch := omega) [Dw7, ↓reduceIte, EV, Nat.reduceAdd, Nat.reduceEqDiff, Int.reduceToNat, reduceCtorEq, Out.goes, spl, Bt4]

theorem split_ok (n : List UInt8) (hs : n.length ≤ 9223372036854775807) : S As4 1 [.s n] = some [Aj3 (lbl n), .b (vld n)] := by
 refine Mm5 (N := n.length + 1) rfl ?_
 unfold Aj3 lbl vld nm
 by_cases h1 : n = [46]
 ·simp (disch := omega) [Dw7, ↓reduceIte, EV, Nat.reduceAdd, Nat.reduceEqDiff, Int.reduceToNat, reduceCtorEq, h1]
 ·rw [if_neg h1]
  by_cases h2 : n.length < 2
  ·simp (disch := omega) only [Dw7, ↓reduceIte, EV, Nat.reduceAdd, Nat.reduceEqDiff, Int.reduceToNat, reduceCtorEq, h1]
   have h3 : ¬ (2 ≤ n.length ∧ n.length ≤ 254 ∧ n[n.length - 1]? = some 46) := by omega
   rw [if_neg h3]; rfl
  ·by_cases h3 : 254 < n.length
   ·simp (disch := omega) only [Dw7, ↓reduceIte, EV, Nat.reduceAdd, Nat.reduceEqDiff, Int.reduceToNat, reduceCtorEq, h1]
    have h3 : ¬ (2 ≤ n.length ∧ n.length ≤ 254 ∧ n[n.length - 1]? = some 46) := by omega
    rw [if_neg h3]; rfl
   ·have h4 := List.getElem?_eq_getElem (l := n) (i := n.length - 1) (by omega)
    have h5 : ((n.length : Int) - 1).toNat = n.length - 1 := by omega
    have h6 := Js5 (n[n.length - 1]'(by omega)) 46 (by omega)
    simp (disch := omega) only [Dw7, ↓reduceIte, EV, Nat.reduceAdd, Nat.reduceEqDiff, Int.reduceToNat, reduceCtorEq, h1, h4, h5, Jt5]
    by_cases h7 : n[n.length - 1]'(by omega) = 46
    ·rw [if_pos (show 2 ≤ n.length ∧ n.length ≤ 254 ∧ some (n[n.length - 1]'(by omega)) = some 46 from ⟨by omega, by omega, by rw [h7]⟩), if_neg (fun h => h (h6.2 h7))]
     cases h8 : spl true [] n
     ·simp [Bt4, Jn2]
     ·simp (disch := omega) [Dw7, Bt4, ↓reduceIte, EV, Nat.reduceAdd, Nat.reduceEqDiff, Int.reduceToNat, reduceCtorEq]
    ·rw [if_neg (show ¬ (2 ≤ n.length ∧ n.length ≤ 254 ∧ some (n[n.length - 1]'(by omega)) = some 46) from fun h => h7 (by simpa using h.2.2)), if_pos (show (((n[n.length - 1]'(by omega)).toNat : Int) ≠ 46) from fun h => h7 (h6.1 h))]
     rfl
end Go.X.G
/- Names: what the reference's functions give, ctd. -/
namespace Go.X.G
open Go Go.X

theorem Dp5 : ∀ (r : List UInt8) (f : Bool) (cur : List UInt8) (l : List (List UInt8)), spl f cur r = some l → l.length ≤ r.length
 | [], f, cur, l, h => by simp [spl] at h; simp [← h]
 | c :: r, f, cur, l, h => by
   simp only [spl] at h
   split at h
   ·split at h
    ·obtain ⟨m, hm, rfl⟩ := Option.map_eq_some_iff.1 h
     have := Dp5 r _ _ _ hm
     simp; omega
    ·cases h
   ·have := Dp5 r _ _ _ h
    simp; omega
theorem Mv1 {n : List UInt8} {l : List (List UInt8)} (h : nm n = some l) : l.length ≤ 254 := by
 unfold nm at h
 split at h
 ·injection h with h; subst h; simp
 ·split at h
  ·rename_i h2
   have := Dp5 _ _ _ _ h; omega
  ·cases h
theorem Av6 (n : List UInt8) : (lbl n).length ≤ 254 := by
 unfold lbl
 cases h : nm n with
 | none => simp
 | some l => exact Mv1 h

theorem Aq6 (n : List UInt8) (hs : n.length ≤ 9223372036854775807) : S Bm0 1 [.s n] = some [.b (vld n)] := by
 refine Mp1 (N := 1) rfl ?_
 simp (disch := omega) only [Mh3, split_ok, EVP, ↓reduceIte, EV, Nat.reduceAdd, Nat.reduceEqDiff, Int.reduceToNat, reduceCtorEq]
theorem Az1 (n : List UInt8) (hs : n.length ≤ 9223372036854775807) : S Bl9 1 [.s n] = some [Aj3 (lbl n)] := by
 refine Mm2 (N := 1) rfl ?_
 simp (disch := omega) only [Mh0, split_ok, EVP, ↓reduceIte, EV, Nat.reduceAdd, Nat.reduceEqDiff, Int.reduceToNat, reduceCtorEq]

def cpre {α : Type} [DecidableEq α] : List α → List α → Nat
 | x :: xs, y :: ys => if x = y then cpre xs ys + 1 else 0
 | _, _ => 0
def Af0 (a b : List (List UInt8)) : Nat := cpre a.reverse b.reverse
theorem Hn8 {α : Type} [DecidableEq α] : ∀ (a b : List α), cpre a b ≤ a.length ∧ cpre a b ≤ b.length
 | [], b => by simp [cpre]
 | x :: xs, [] => by simp [cpre]
 | x :: xs, y :: ys => by
   have := Hn8 xs ys
   simp only [cpre]
   split <;> simp <;> omega
theorem Kj6 (a b : List (List UInt8)) : Af0 a b ≤ a.length ∧ Af0 a b ≤ b.length := by
 have := Hn8 a.reverse b.reverse
 simpa [Af0] using this
theorem Kt4 (a b : List (List UInt8)) (N : Nat) (hN : a.length < N) (ha : a.length ≤ 1000000) (hb : b.length ≤ 1000000) :
  Hg9.ev S N [Aj3 a, Aj3 b] = some (.yld 0 [.i .i64 (Af0 a b : Int)]) := by
 have key := Ax4 (fn := S) (N := N) (η := [Aj3 a, Aj3 b]) (id := 1) (init := [(.c (.i .i64 (0)))]) (body := Fr1) (α := Nat) (fun k => [.i .i64 (k : Int)]) (fun k => .yld 0 [.i .i64 ((k + cpre (a.reverse.drop k) (b.reverse.drop k) : Nat) : Int)]) (fun k => k ≤ a.length ∧ k ≤ b.length) (fun k => a.length - k) 0 rfl ⟨Nat.zero_le _, Nat.zero_le _⟩ (by omega) ?_
 ·simpa [Af0, Hg9] using key
 ·rintro k ⟨h1, h2⟩
  by_cases h3 : k < a.length
  ·by_cases h4 : k < b.length
   ·have e1 : ((a.length : Int) - 1 - k).toNat = a.length - 1 - k := by omega
    have e2 : ((b.length : Int) - 1 - k).toNat = b.length - 1 - k := by omega
    have g1 : a[a.length - 1 - k]? = some (a[a.length - 1 - k]'(by omega)) := List.getElem?_eq_getElem (by omega)
    have g2 : b[b.length - 1 - k]? = some (b[b.length - 1 - k]'(by omega)) := List.getElem?_eq_getElem (by omega)
    have d1 : a.reverse.drop k = (a[a.length - 1 - k]'(by omega)) :: a.reverse.drop (k + 1) := by
     rw [List.drop_eq_getElem_cons (by simpa using h3)]; simp
    have d2 : b.reverse.drop k = (b[b.length - 1 - k]'(by omega)) :: b.reverse.drop (k + 1) := by
     rw [List.drop_eq_getElem_cons (by simpa using h4)]; simp
    simp (disch := omega) only [Jr2, EVP, ↓reduceIte, EV, Nat.reduceAdd, Nat.reduceEqDiff, Int.reduceToNat, reduceCtorEq, e1, e2, g1, g2]
    rw [d1, d2]
    simp only [cpre]
    by_cases h : a[a.length - 1 - k]'(by omega) = b[b.length - 1 - k]'(by omega)
    ·left
     refine ⟨k + 1, by simp [h], ⟨by omega, by omega⟩, by omega, ?_⟩
     rw [if_pos h]
     congr 3
     push_cast
     omega
    ·right
     simp [h, Out.goes]
   ·right
    have d2 : b.reverse.drop k = [] := List.drop_eq_nil_of_le (by simp; omega)
    have z : cpre (a.reverse.drop k) [] = 0 := by cases a.reverse.drop k <;> rfl
    rw [d2, z]
    simp (disch := omega) [Jr2, EVP, ↓reduceIte, EV, Nat.reduceAdd, Nat.reduceEqDiff, Int.reduceToNat, reduceCtorEq, Out.goes]
  ·right
   have d1 : a.reverse.drop k = [] := List.drop_eq_nil_of_le (by simp; omega)
   have z : cpre [] (b.reverse.drop k) = 0 := rfl
   rw [d1, z]
   simp (disch := omega) [Jr2, EVP, ↓reduceIte, EV, Nat.reduceAdd, Nat.reduceEqDiff, Int.reduceToNat, reduceCtorEq, Out.goes]
theorem Dp9 (a b : List (List UInt8)) (ha : a.length ≤ 1000000) (hb : b.length ≤ 1000000) : S Gf0 2 [Aj3 a, Aj3 b] = some [.i .i64 (Af0 a b : Int)] := by
 refine Mm4 (N := a.length + 1) rfl ?_
 simp (disch := omega) only [Jr2, Kt4, EVP, ↓reduceIte, EV, Nat.reduceAdd, Nat.reduceEqDiff, Int.reduceToNat, reduceCtorEq]

def under (n top : List UInt8) : Bool := vld n && vld top && decide (Af0 (lbl n) (lbl top) = (lbl top).length)
theorem Aw0 (n top : List UInt8) (hn : n.length ≤ 9223372036854775807) (ht : top.length ≤ 9223372036854775807) : S By1 2 [.s n, .s top] = some [.b (under n top)] := by
 refine Ms4 (N := 1) rfl ?_
 have h1 := Av6 n
 have h2 := Av6 top
 unfold under
 cases h3 : vld n <;> cases h4 : vld top <;> simp (disch := omega) only [Mh6, split_ok, Dp9, h3, h4, EVP, ↓reduceIte, EV, Nat.reduceAdd, Nat.reduceEqDiff, Int.reduceToNat, reduceCtorEq]
 all_goals (simp; try omega)

def cmpS (a b : List UInt8) : Int := if Op.bytesLess a b then -1 else if a = b then 0 else 1
theorem At9 (a b : List UInt8) : S Cj7 2 [.s a, .s b] = some [.i .i64 (cmpS a b)] := by
 refine Lp8 (N := 1) rfl ?_
 unfold cmpS
 simp (disch := omega) only [Lg6, EVP, ↓reduceIte, EV, Nat.reduceAdd, Nat.reduceEqDiff, Int.reduceToNat, reduceCtorEq]
 cases h : Op.bytesLess a b
 ·by_cases h2 : a = b <;> simp [h2]
 ·simp
def cmpN (a b : List UInt8) : Int :=
 if vld a && vld b then
  let k := Af0 (lbl a) (lbl b)
  if k < (lbl a).length ∧ k < (lbl b).length then cmpS ((lbl a).getD ((lbl a).length - 1 - k) []) ((lbl b).getD ((lbl b).length - 1 - k) [])
  else if (lbl a).length < (lbl b).length then -1 else if (lbl b).length < (lbl a).length then 1 else 0
 else if vld a then -1 else if vld b then 1 else cmpS a b
theorem Bl0 (a b : List UInt8) (hn : a.length ≤ 9223372036854775807) (ht : b.length ≤ 9223372036854775807) : S Ck1 2 [.s a, .s b] = some [.i .i64 (cmpN a b)] := by
 refine Lr8 (N := 1) rfl ?_
 have h1 := Av6 a
 have h2 := Av6 b
 have h5 := Kj6 (lbl a) (lbl b)
 unfold cmpN
 cases h3 : vld a <;> cases h4 : vld b
 ·simp (disch := omega) [Dx3, split_ok, At9, h3, h4, EVP, ↓reduceIte, EV, Nat.reduceAdd, Nat.reduceEqDiff, Int.reduceToNat, reduceCtorEq]
 ·simp (disch := omega) [Dx3, split_ok, At9, h3, h4, EVP, ↓reduceIte, EV, Nat.reduceAdd, Nat.reduceEqDiff, Int.reduceToNat, reduceCtorEq]
 ·simp (disch := omega) [Dx3, split_ok, At9, h3, h4, EVP, ↓reduceIte, EV, Nat.reduceAdd, Nat.reduceEqDiff, Int.reduceToNat, reduceCtorEq]
 ·by_cases h6 : Af0 (lbl a) (lbl b) < (lbl a).length ∧ Af0 (lbl a) (lbl b) < (lbl b).length
  ·obtain ⟨h7, h8⟩ := h6
   have e1 : (((lbl a).length : Int) - 1 - (Af0 (lbl a) (lbl b) : Int)).toNat = (lbl a).length - 1 - Af0 (lbl a) (lbl b) := by omega
   have e2 : (((lbl b).length : Int) - 1 - (Af0 (lbl a) (lbl b) : Int)).toNat = (lbl b).length - 1 - Af0 (lbl a) (lbl b) := by omega
   have g1 := List.getElem?_eq_getElem (l := lbl a) (i := (lbl a).length - 1 - Af0 (lbl a) (lbl b)) (by omega)
   have g2 := List.getElem?_eq_getElem (l := lbl b) (i := (lbl b).length - 1 - Af0 (lbl a) (lbl b)) (by omega)
   simp (disch := omega) only [Dx3, split_ok, Dp9, At9, h3, h4, e1, e2, g1, g2, EVP, ↓reduceIte, EV, Nat.reduceAdd, Nat.reduceEqDiff, Int.reduceToNat, reduceCtorEq]
   simp [h7, h8, g1, g2]
  ·simp (disch := omega) only [Dx3, split_ok, Dp9, At9, h3, h4, EVP, ↓reduceIte, EV, Nat.reduceAdd, Nat.reduceEqDiff, Int.reduceToNat, reduceCtorEq]
   simp only [h6]
   grind
end Go.X.G
/- The library's functions on strings. -/
namespace Go.X.G
open Go Go.X

theorem Ly1 (x : List UInt8) (c : UInt8) : S Fl1 2 [.s x, .i .u8 (c.toNat : Int)] = some [.i .i64 (x.count c : Int)] :=
 Lp4 (args := [.s x, .i .u8 (c.toNat : Int)]) (by simp [XK.run, Gy9, Lib.countByte])
theorem Lv3 (x : List UInt8) (c : UInt8) : S Fl3 2 [.s x, .i .u8 (c.toNat : Int)] = some [.i .i64 (Lib.indexByte x c)] :=
 Lp6 (args := [.s x, .i .u8 (c.toNat : Int)]) (by simp [XK.run, Gy9])
theorem Ly2 (x y : List UInt8) : S Fl0 2 [.s x, .s y] = some [.i .i64 (Lib.compareBytes x y)] :=
 Ln8 (args := [.s x, .s y]) (by simp [XK.run, Kj8])
theorem Bq4 (x : List UInt8) (c : UInt8) : S Ck0 2 [.s x, .i .u8 (c.toNat : Int)] = some [.i .i64 (Lib.indexByte x c)] := by
 refine Lr5 (N := 1) rfl ?_
 simp (disch := omega) only [Lh1, Lv3, EVP, ↓reduceIte, EV, Nat.reduceAdd, Nat.reduceEqDiff, Int.reduceToNat, reduceCtorEq]
theorem Dm9 (x : List UInt8) (c : UInt8) : S Df7 2 [.s x, .i .u8 (c.toNat : Int)] = some [.i .i64 (Lib.indexByte x c)] := by
 refine Mj0 (N := 1) rfl ?_
 simp (disch := omega) only [Ll2, Bq4, EVP, ↓reduceIte, EV, Nat.reduceAdd, Nat.reduceEqDiff, Int.reduceToNat, reduceCtorEq]
theorem Ar9 (c : UInt8) : ∀ (x : List UInt8), c ∉ x → Lib.indexByte x c = -1
 | [], _ => rfl
 | b :: l, h => by
   have h1 : b ≠ c := fun e => h (by simp [e])
   have h2 := Ar9 c l (fun e => h (by simp [e]))
   simp [Lib.indexByte, h1, h2]
theorem Af3 (c : UInt8) (post : List UInt8) : ∀ (pre : List UInt8), c ∉ pre → Lib.indexByte (pre ++ c :: post) c = (pre.length : Int)
 | [], _ => by simp [Lib.indexByte]
 | b :: l, h => by
   have h1 : b ≠ c := fun e => h (by simp [e])
   have h2 := Af3 c post l (fun e => h (by simp [e]))
   simp only [List.cons_append, Lib.indexByte, h2]
   simp [h1]
   try omega
theorem dot_split (c : UInt8) : ∀ (s : List UInt8), c ∉ s ∨ ∃ pre post, s = pre ++ c :: post ∧ c ∉ pre
 | [] => .inl (by simp)
 | b :: l => by
   by_cases h : b = c
   ·exact .inr ⟨[], l, by simp [h], by simp⟩
   ·rcases dot_split c l with h1 | ⟨pre, post, rfl, h2⟩
    ·exact .inl (by simp [h1, Ne.symm h])
    ·exact .inr ⟨b :: pre, post, by simp, by simp [h2, Ne.symm h]⟩
def pcs (cur : List UInt8) : List UInt8 → List (List UInt8)
 | [] => [cur]
 | c :: r => if c = 46 then cur :: pcs [] r else pcs (cur ++ [c]) r
def cut (s : List UInt8) : List (List UInt8) := pcs [] s
theorem Hy1 (post : List UInt8) : ∀ (pre cur : List UInt8), (46 : UInt8) ∉ pre → pcs cur (pre ++ 46 :: post) = (cur ++ pre) :: pcs [] post
 | [], cur, _ => by simp [pcs]
 | b :: l, cur, h => by
   have h1 : b ≠ 46 := fun e => h (by simp [e])
   have h2 := Hy1 post l (cur ++ [b]) (fun e => h (by simp [e]))
   simp [pcs, h1, h2]
theorem Cx3 : ∀ (s cur : List UInt8), (46 : UInt8) ∉ s → pcs cur s = [cur ++ s]
 | [], cur, _ => by simp [pcs]
 | b :: l, cur, h => by
   have h1 : b ≠ 46 := fun e => h (by simp [e])
   have h2 := Cx3 l (cur ++ [b]) (fun e => h (by simp [e]))
   simp [pcs, h1, h2]
theorem Hn5 (s : List UInt8) : (cut s).length = s.count 46 + 1 := by
 have : ∀ (s cur : List UInt8), (pcs cur s).length = s.count 46 + 1 := by
  intro s
  induction s with
  | nil => intro cur; rfl
  | cons c r ih =>
    intro cur
    by_cases h : c = 46 <;> simp [pcs, h, ih]
 exact this s []
theorem Gl3 (s : List UInt8) (hs : s.length ≤ 9223372036854775807) : S Dc8 2 [.s s, .s [46]] = some [.i .i64 (Lib.indexByte s 46)] := by
 refine Lp3 (N := 1) rfl ?_
 have h1 := Bq4 s 46
 have e : (((46 : UInt8).toNat : Nat) : Int) = 46 := rfl
 rw [e] at h1
 by_cases h : [46] = s
 ·subst h
  simp (disch := omega) only [Kd0, EVP, ↓reduceIte, EV, Nat.reduceAdd, Nat.reduceEqDiff, Int.reduceToNat, reduceCtorEq]
  rfl
 ·simp (disch := omega) only [Kd0, h, h1, e, EVP, ↓reduceIte, EV, Nat.reduceAdd, Nat.reduceEqDiff, Int.reduceToNat, reduceCtorEq]
theorem Dm8 (s : List UInt8) (hs : s.length ≤ 9223372036854775807) : S Cj8 2 [.s s, .s [46]] = some [.i .i64 (Lib.indexByte s 46)] := by
 refine Lp9 (N := 1) rfl ?_
 simp (disch := omega) only [Lg7, Gl3, EVP, ↓reduceIte, EV, Nat.reduceAdd, Nat.reduceEqDiff, Int.reduceToNat, reduceCtorEq]
theorem Jp3 (s : List UInt8) : S Dd0 2 [.s s, .s [46]] = some [.i .i64 (s.count 46 : Int)] := by
 refine Lr0 (N := 1) rfl ?_
 have h1 := Ly1 s 46
 have e : (((46 : UInt8).toNat : Nat) : Int) = 46 := rfl
 rw [e] at h1
 simp (disch := omega) only [Lg8, h1, e, EVP, ↓reduceIte, EV, Nat.reduceAdd, Nat.reduceEqDiff, Int.reduceToNat, reduceCtorEq]

def Hm1 (done rest : List (List UInt8)) : Out :=
 .yld 0 [.s ((done ++ rest).getLastD []), Aj3 ((done ++ rest).dropLast ++ [[]]), .i .i64 (((done ++ rest).length : Int) - 1)]
theorem Ej2 (s : List UInt8) (N : Nat) (hN : s.length < N) (hs : s.length ≤ 1000000) (p q : PV) :
  Dt7.ev S N [.s s, .s [46], .i .i64 0, p, .i .i64 ((s.count 46 : Int) + 1)] = some (Hm1 [] (cut s)) := by
 have hc0 : s.count 46 ≤ s.length := List.count_le_length
 have key := Ax4 (fn := S) (N := N) (η := [.s s, .s [46], .i .i64 0, p, .i .i64 ((s.count 46 : Int) + 1)]) (id := 1) (init := [(.v 0), (.rep 1 (.mn (.v 4) (.bin .add (.slen (.v 0)) (.c (.i .i64 (1))))) (.c (.s []))), (.c (.i .i64 (0)))]) (body := Dv2) (α := List (List UInt8) × List UInt8)
  (fun a => [.s a.2, Aj3 (a.1 ++ List.replicate (a.2.count 46 + 1) []), .i .i64 (a.1.length : Int)]) (fun a => Hm1 a.1 (cut a.2)) (fun a => a.1.length + a.2.count 46 = s.count 46 ∧ a.2.length ≤ s.length) (fun a => a.2.length) ([], s) ?_ ⟨by simp, Nat.le_refl _⟩ hN ?_
 ·simpa [Dt7] using key
 ·have e : ((s.count 46 : Int) + 1).toNat = s.count 46 + 1 := by omega
  simp (disch := omega) only [e, EVP, ↓reduceIte, EV, Nat.reduceAdd, Nat.reduceEqDiff, Int.reduceToNat, reduceCtorEq]
 ·rintro ⟨done, rest⟩ ⟨h1, h2⟩
  simp only at h1 h2 ⊢
  rcases dot_split 46 rest with h | ⟨pre, post, rfl, h⟩
  ·right
   have c0 : rest.count 46 = 0 := List.count_eq_zero.2 h
   have i0 := Ar9 46 rest h
   have cu : cut rest = [rest] := by simpa [cut] using Cx3 rest [] h
   refine ⟨?_, rfl⟩
   rw [c0]
   rw [c0] at h1
   simp (disch := omega) only [Gn5, Dm8, i0, EVP, ↓reduceIte, EV, Nat.reduceAdd, Nat.reduceEqDiff, Int.reduceToNat, reduceCtorEq]
   simp [Hm1, cu, List.getLastD_eq_getLast?]
  ·left
   have c0 : (pre ++ 46 :: post).count 46 = post.count 46 + 1 := by
    rw [List.count_append, List.count_eq_zero.2 h]; simp
   have i0 := Af3 46 post pre h
   have cu : cut (pre ++ 46 :: post) = pre :: cut post := by simpa [cut] using Hy1 post pre [] h
   have hl : (pre ++ 46 :: post).length = pre.length + post.length + 1 := by simp; omega
   have sl1 : List.drop (0 : Int).toNat (List.take ((pre.length : Int) + 0).toNat (pre ++ 46 :: post)) = pre := by
    simp
   have sl2 : List.drop ((pre.length : Int) + 1).toNat (List.take (pre ++ 46 :: post).length (pre ++ 46 :: post)) = post := by
    have : ((pre.length : Int) + 1).toNat = pre.length + 1 := by omega
    rw [this, List.take_length, List.drop_append]
    simp
   have sl3 : (done ++ [] :: [] :: List.replicate (post.count 46) ([] : List UInt8)).length = done.length + post.count 46 + 2 := by simp; omega
   refine ⟨(done ++ [pre], post), ?_, ⟨by simp; omega, by simp only; omega⟩, by simp; omega, by simp [Hm1, cu]⟩
   rw [c0]
   rw [c0] at h1
   simp (disch := omega) only [Gn5, Dm8, i0, sl1, sl2, EVP, ↓reduceIte, EV, Nat.reduceAdd, Nat.reduceEqDiff, Int.reduceToNat, reduceCtorEq]
   simp [List.replicate_succ, List.set_append]
theorem Ej1 (s : List UInt8) (hs : s.length ≤ 1000000) : S Dd9 4 [.s s, .s [46], .i .i64 0, .i .i64 (-1)] = some [Aj3 (cut s)] := by
 refine Ls7 (N := s.length + 1) rfl ?_
 have h1 := Hn5 s
 have h2 : s.count 46 ≤ s.length := List.count_le_length
 obtain ⟨l, x, hx⟩ : ∃ l x, cut s = l ++ [x] := ⟨(cut s).dropLast, (cut s).getLast (by intro e; simp [e] at h1), (List.dropLast_concat_getLast _).symm⟩
 have h3 : l.length = s.count 46 := by rw [hx] at h1; simpa using h1
 have h4 : ((l.length : Int) + 1 - 1) = (l.length : Int) := by omega
 have h5 : ((l ++ [([] : List UInt8)]).length : Int) = l.length + 1 := by simp
 have h6 : ((l ++ [x]).length : Int) = l.length + 1 := by simp
 have g1 : (l ++ [([] : List UInt8)])[l.length]? = some [] := by simp
 have g2 : (l ++ [x]).getLastD [] = x := by simp [List.getLastD_eq_getLast?]
 have g3 : (l ++ [([] : List UInt8)]).set l.length x = l ++ [x] := by simp
 have hk := Ej2 s (s.length + 1) (by omega) hs (.i .i64 (-1)) .u
 rw [hx] at hk ⊢
 simp only [Hm1, List.nil_append, List.dropLast_concat] at hk
 simp (disch := omega) only [Gn5, Jp3, hk, h4, h6, g1, g2, g3, EVP, ↓reduceIte, EV, Nat.reduceAdd, Nat.reduceEqDiff, Int.reduceToNat, reduceCtorEq]
 have g4 : ((l.length : Int) + 1).toNat = (l ++ [x]).length := by simp
 rw [g4, List.take_length]
 rfl
theorem Dm5 (s : List UInt8) (hs : s.length ≤ 1000000) : S Gd5 2 [.s s, .s [46]] = some [Aj3 (cut s)] := by
 refine Ml6 (N := 1) rfl ?_
 simp (disch := omega) only [Mg8, Ej1, EVP, ↓reduceIte, EV, Nat.reduceAdd, Nat.reduceEqDiff, Int.reduceToNat, reduceCtorEq]
theorem Bq5 (s t : List UInt8) (hs : s.length ≤ 9223372036854775807) : S Ck3 2 [.s s, .s t] = some [.b (t.isSuffixOf s)] := by
 refine Ls8 (N := 1) rfl ?_
 by_cases h : t.length ≤ s.length
 ·have e : ((s.length : Int) - (t.length : Int)).toNat = s.length - t.length := by omega
  simp (disch := omega) only [Kd3, e, EVP, ↓reduceIte, EV, Nat.reduceAdd, Nat.reduceEqDiff, Int.reduceToNat, reduceCtorEq]
  simp only [List.take_length]
  congr 4
  rw [Bool.eq_iff_iff, List.isSuffixOf_iff_suffix, decide_eq_true_eq]
  refine ⟨fun h => h ▸ List.drop_suffix _ _, fun h => ?_⟩
  obtain ⟨p, rfl⟩ := h
  simp
 ·have h2 : t.isSuffixOf s = false := by
   rw [Bool.eq_false_iff, ne_eq, List.isSuffixOf_iff_suffix]
   exact fun h' => h h'.length_le
  simp (disch := omega) only [Kd3, h2, EVP, ↓reduceIte, EV, Nat.reduceAdd, Nat.reduceEqDiff, Int.reduceToNat, reduceCtorEq]
theorem An3 (s t : List UInt8) (hs : s.length ≤ 9223372036854775807) : S Gd6 2 [.s s, .s t] = some [.b (t.isSuffixOf s)] := by
 refine Ml7 (N := 1) rfl ?_
 simp (disch := omega) only [Mg9, Bq5, EVP, ↓reduceIte, EV, Nat.reduceAdd, Nat.reduceEqDiff, Int.reduceToNat, reduceCtorEq]
theorem Ff8 (x y : List UInt8) : S Dc9 2 [.s x, .s y] = some [.i .i64 (Lib.compareBytes x y)] := by
 refine Lp5 (N := 1) rfl ?_
 simp (disch := omega) only [Lg5, Ly2, EVP, ↓reduceIte, EV, Nat.reduceAdd, Nat.reduceEqDiff, Int.reduceToNat, reduceCtorEq]
theorem Ff5 (x y : List UInt8) : S Bf3 2 [.s x, .s y] = some [.i .i64 (Lib.compareBytes x y)] := by
 refine Lr2 (N := 1) rfl ?_
 simp (disch := omega) only [Lg9, Ff8, EVP, ↓reduceIte, EV, Nat.reduceAdd, Nat.reduceEqDiff, Int.reduceToNat, reduceCtorEq]
end Go.X.G
/- Names and their labels. -/
namespace Go.X.G
open Go Go.X

def flat (l : List (List UInt8)) : List UInt8 := l.flatMap fun x => x ++ [46]
def jn (l : List (List UInt8)) : List UInt8 := if l = [] then [46] else flat l
def Aw2 (first : Bool) : List (List UInt8) → Bool
 | [] => true
 | p :: r => Ab9 p && (!decide (p = [42]) || first) && Aw2 false r
theorem Lq9 : Bk2 46 = false := by decide
theorem Am6 {p : List UInt8} (h : Ab9 p = true) : (46 : UInt8) ∉ p := by
 unfold Ab9 at h
 simp at h
 rcases h with rfl | ⟨_, h⟩
 ·decide
 ·intro h2
  have := h 46 h2
  rw [Lq9] at this
  cases this
theorem Cz1 {p : List UInt8} (h : Ab9 p = true) : p ≠ [] := by
 rintro rfl
 simp [Ab9] at h
theorem Av9 {p : List UInt8} : ∀ {f : Bool} {l : List (List UInt8)}, Aw2 f l = true → p ∈ l → Ab9 p = true
 | f, q :: r, h, hp => by
   simp only [Aw2, Bool.and_eq_true] at h
   rcases List.mem_cons.1 hp with rfl | hp
   ·exact h.1.1
   ·exact Av9 h.2 hp
theorem Gh1 : ∀ {l : List (List UInt8)}, Aw2 false l = true → Aw2 true l = true
 | [], _ => rfl
 | p :: r, h => by
   simp only [Aw2, Bool.and_eq_true] at h ⊢
   exact ⟨⟨h.1.1, by simp⟩, h.2⟩
theorem Bk6 : ∀ {f : Bool} {a b : List (List UInt8)}, Aw2 f (a ++ b) = (Aw2 f a && Aw2 (f && a.isEmpty) b)
 | f, [], b => by simp [Aw2]
 | f, p :: r, b => by
   simp only [List.cons_append, Aw2, Bk6 (a := r)]
   simp [Bool.and_assoc]
theorem Gh2 {f : Bool} {l : List (List UInt8)} (h : Aw2 f l = true) (k : Nat) : Aw2 f (l.drop k) = true := by
 rw [← List.take_append_drop k l, Bk6, Bool.and_eq_true] at h
 have h2 := h.2
 cases f with
 | false => simpa using h2
 | true =>
   cases he : (l.take k).isEmpty with
   | true => rw [he] at h2; exact h2
   | false => rw [he] at h2; exact Gh1 h2
theorem Bc1 : ∀ (m : List UInt8) (f : Bool) (cur : List UInt8), spl f cur (m ++ [46]) = if Aw2 f (pcs cur m) = true then some (pcs cur m) else none
 | [], f, cur => by
   simp only [List.nil_append, spl, if_true, pcs, Aw2, Option.map_some, Bool.and_true]
   by_cases h : Ab9 cur = true <;> by_cases h2 : cur = [42] <;> cases f <;> simp [h, h2]
 | c :: r, f, cur => by
   simp only [List.cons_append, spl, pcs]
   by_cases hc : c = 46
   ·simp only [if_pos hc]
    rw [Bc1 r false []]
    simp only [Aw2]
    by_cases h : Ab9 cur = true <;> by_cases h2 : cur = [42] <;> cases f <;> by_cases h3 : Aw2 false (pcs [] r) = true <;> simp [h, h2, h3]
   ·simp only [if_neg hc]
    exact Bc1 r f (cur ++ [c])
theorem Bd8 (b : List UInt8) : ∀ (a cur : List UInt8), pcs cur (a ++ 46 :: b) = pcs cur a ++ cut b
 | [], cur => by simp [pcs, cut]
 | c :: r, cur => by
   simp only [List.cons_append, pcs]
   split
   ·rw [Bd8 b r []]; rfl
   ·exact Bd8 b r _
theorem Bz0 : ∀ (m cur : List UInt8), flat (pcs cur m) = cur ++ m ++ [46]
 | [], cur => by simp [pcs, flat]
 | c :: r, cur => by
   simp only [pcs]
   split
   ·rename_i h
    have := Bz0 r []
    simp only [flat, List.flatMap_cons] at this ⊢
    rw [this, h]; simp
   ·rw [Bz0 r (cur ++ [c])]; simp
theorem Ap9 (a b : List (List UInt8)) : flat (a ++ b) = flat a ++ flat b := by simp [flat]
theorem Mk8 (cur m : List UInt8) : pcs cur m ≠ [] := by
 cases m with
 | nil => simp [pcs]
 | cons c r =>
   simp only [pcs]
   split
   ·simp
   ·intro h
    have := Bz0 r (cur ++ [c])
    rw [h] at this
    simp [flat] at this
theorem Bz3 : ∀ (l : List (List UInt8)), (∀ p ∈ l, (46 : UInt8) ∉ p) → cut (flat l) = l ++ [[]]
 | [], _ => rfl
 | p :: l, h => by
   have h1 : flat (p :: l) = p ++ 46 :: flat l := by simp [flat]
   rw [h1]
   show pcs [] _ = _
   rw [Bd8, Cx3 p [] (h p (by simp)), Bz3 l (fun q hq => h q (by simp [hq]))]
   simp
theorem Af6 : ∀ (l : List (List UInt8)), l ≠ [] → ∃ m, flat l = m ++ [46]
 | [p], _ => ⟨p, by simp [flat]⟩
 | p :: q :: r, _ => by
   obtain ⟨m, hm⟩ := Af6 (q :: r) (by simp)
   exact ⟨p ++ [46] ++ m, by simp only [flat, List.flatMap_cons] at hm ⊢; rw [hm]; simp⟩
theorem Fn4 {l : List (List UInt8)} (hl : l ≠ []) (h : ∀ p ∈ l, (46 : UInt8) ∉ p) {m : List UInt8} (hm : flat l = m ++ [46]) : cut m = l := by
 have h1 := Bz3 l h
 rw [hm] at h1
 have h2 : cut (m ++ [46]) = cut m ++ [[]] := by
  show pcs [] (m ++ 46 :: []) = _
  rw [Bd8]; rfl
 rw [h2] at h1
 exact List.append_cancel_right h1
theorem Az9 {l : List (List UInt8)} (h : Aw2 true l = true) (hl : l ≠ []) : 2 ≤ (flat l).length := by
 cases l with
 | nil => exact absurd rfl hl
 | cons p r =>
   have h1 := Cz1 (Av9 h (List.mem_cons_self ..))
   have : 0 < p.length := List.length_pos_iff.2 h1
   simp [flat]; omega
theorem Lk3 {l : List (List UInt8)} (h : Aw2 true l = true) (hl : l ≠ []) (hlen : (flat l).length ≤ 254) : nm (flat l) = some l := by
 obtain ⟨m, hm⟩ := Af6 l hl
 have h1 := Fn4 hl (fun p hp => Am6 (Av9 h hp)) hm
 have h2 := Az9 h hl
 unfold nm
 rw [if_neg (by intro e; rw [e] at h2; simp at h2), if_pos ⟨h2, hlen, by rw [hm]; simp⟩, hm, Bc1]
 have : pcs [] m = l := h1
 rw [this, if_pos h]
theorem Lk2 {n : List UInt8} {l : List (List UInt8)} (h : nm n = some l) : (n = [46] ∧ l = []) ∨ (l ≠ [] ∧ Aw2 true l = true ∧ n = flat l ∧ n.length ≤ 254) := by
 unfold nm at h
 split at h
 ·rename_i e; injection h with h; exact .inl ⟨e, h.symm⟩
 ·split at h
  ·rename_i h1
   right
   obtain ⟨h2, h3, h4⟩ := h1
   obtain ⟨m, hm⟩ : ∃ m, n = m ++ [46] := by
    refine ⟨n.dropLast, ?_⟩
    have : n ≠ [] := by intro e; simp [e] at h2
    have h5 := List.dropLast_concat_getLast this
    rw [← h5]
    congr 1
    ·simp
    ·have h6 : n[n.length - 1]? = some (n.getLast this) := by rw [List.getLast_eq_getElem]; exact List.getElem?_eq_getElem _
     rw [h6] at h4
     injection h4 with h4
     simp [h4]
   rw [hm, Bc1] at h
   split at h
   ·rename_i h5
    injection h with h
    subst h
    refine ⟨Mk8 _ _, h5, ?_, by omega⟩
    rw [Bz0, hm]; simp
   ·cases h
  ·cases h
theorem Kp7 {n : List UInt8} : vld n = true ↔ nm n = some (lbl n) := by
 unfold vld lbl
 cases nm n <;> simp
theorem vld_cases {n : List UInt8} (h : vld n = true) : (n = [46] ∧ lbl n = []) ∨ (lbl n ≠ [] ∧ Aw2 true (lbl n) = true ∧ n = flat (lbl n) ∧ n.length ≤ 254) := Lk2 (Kp7.1 h)
theorem At6 {n : List UInt8} (h : vld n = true) : Aw2 true (lbl n) = true := by
 rcases vld_cases h with ⟨_, h⟩ | ⟨_, h, _⟩
 ·rw [h]; rfl
 ·exact h
theorem Ar4 {n : List UInt8} (h : vld n = true) : n = jn (lbl n) := by
 unfold jn
 rcases vld_cases h with ⟨h1, h2⟩ | ⟨h1, _, h2, _⟩
 ·rw [h2, if_pos rfl]; exact h1
 ·rw [if_neg h1]; exact h2
theorem Ax0 {n : List UInt8} (h : vld n = true) : n.length ≤ 254 := by
 rcases vld_cases h with ⟨h1, _⟩ | ⟨_, _, _, h⟩
 ·simp [h1]
 ·exact h
theorem Ab8 : lbl [46] = [] := rfl
theorem Dh6 {l : List (List UInt8)} (h : Aw2 true l = true) (hl : l ≠ []) : flat l ≠ [46] := by
 intro e
 have := Az9 h hl
 rw [e] at this; simp at this
theorem Am4 {n : List UInt8} (h : vld n = true) : lbl n = [] ↔ n = [46] := by
 rcases vld_cases h with ⟨h1, h2⟩ | ⟨h1, h2, h3, _⟩
 ·simp [h1, Ab8]
 ·constructor
  ·intro e; exact absurd e h1
  ·intro e; rw [h3] at e; exact absurd e (Dh6 h2 h1)
theorem Kd5 {l : List (List UInt8)} (h : Aw2 true l = true) (hlen : (flat l).length ≤ 254) : vld (jn l) = true ∧ lbl (jn l) = l := by
 unfold jn
 by_cases hl : l = []
 ·subst hl; exact ⟨rfl, rfl⟩
 ·rw [if_neg hl]
  have := Lk3 h hl hlen
  exact ⟨by simp [vld, this], by simp [lbl, this]⟩
theorem As7 {a b : List UInt8} (ha : vld a = true) (hb : vld b = true) (h : lbl a = lbl b) : a = b := by
 rw [Ar4 ha, Ar4 hb, h]
theorem Cz4 (l : List (List UInt8)) (k : Nat) : (flat (l.drop k)).length ≤ (flat l).length := by
 have : flat l = flat (l.take k) ++ flat (l.drop k) := by rw [← Ap9, List.take_append_drop]
 rw [this, List.length_append]; omega
theorem Ag4 {n : List UInt8} (h : vld n = true) (k : Nat) : vld (jn ((lbl n).drop k)) = true ∧ lbl (jn ((lbl n).drop k)) = (lbl n).drop k := by
 refine Kd5 (Gh2 (At6 h) k) ?_
 rcases vld_cases h with ⟨_, h1⟩ | ⟨_, _, h1, h2⟩
 ·rw [h1]; simp [flat]
 ·have := Cz4 (lbl n) k
  rw [← h1] at this; omega
theorem Bw1 {s : List UInt8} (h : Ab9 s = true) : s.length ≤ 63 := by
 unfold Ab9 at h
 simp at h
 rcases h with h | h
 ·simp [h]
 ·omega
theorem Cy9 {n : List UInt8} (h : vld n = false) : lbl n = [] := by
 unfold lbl; unfold vld at h
 cases h1 : nm n with
 | none => rfl
 | some l => rw [h1] at h; cases h
theorem Hf8 (n : List UInt8) : ∀ x ∈ lbl n, Ab9 x = true := fun x hx => by
 rcases Bool.eq_false_or_eq_true (vld n) with h | h
 ·exact Av9 (At6 h) hx
 ·rw [Cy9 h] at hx; cases hx
theorem At5 {n : List UInt8} (h : vld n = true) : 0 < n.length := by
 rcases vld_cases h with ⟨h1, _⟩ | ⟨h1, h2, h3, _⟩
 ·simp [h1]
 ·have := Az9 h2 h1
  rw [h3]; omega
end Go.X.G
/- Names: what the program's functions give. -/
namespace Go.X.G
open Go Go.X

def ord (s : List UInt8) : Bool := decide (1 ≤ s.length) && decide (s.length ≤ 63) && s.all Bk2
theorem Hl4 (s : List UInt8) : Ab9 s = (decide (s = [42]) || ord s) := rfl
theorem Kq8 : ord [42] = false := by decide
theorem Ds1 (s : List UInt8) (N : Nat) (hN : s.length < N) (hs : s.length ≤ 9223372036854775807) :
  Kg3.ev S N [.s s] = some (if s.all Bk2 = true then .yld 0 [] else .ret [.b false]) := by
 refine Aq1 s (fun i => [.i .i64 (i : Int)]) (fun i r => if r.all Bk2 = true then .yld 0 [] else .ret [.b false]) rfl hN (fun i c r hd hi hc => ?_) ?_
 ·have key : Fr0.ev S N ([.s s] ++ [.i .i64 (i : Int)]) = some (if Bk2 c = true then .yld 1 [.i .i64 ((i : Int) + 1)] else .ret [.b false]) := by
   simp (disch := omega) only [Gm3, hc, EVP, ↓reduceIte, EV, Nat.reduceAdd, Nat.reduceEqDiff, Int.reduceToNat, reduceCtorEq]
   unfold Bk2
   grind
  rw [key]
  rcases Bool.eq_false_or_eq_true (Bk2 c) with h | h <;> simp [h, Out.goes]
 ·simp (disch := omega) [Gm3, EVP, ↓reduceIte, EV, Nat.reduceAdd, Nat.reduceEqDiff, Int.reduceToNat, reduceCtorEq, Out.goes]
theorem Ag7 (s : List UInt8) (hs : s.length ≤ 9223372036854775807) : S Hz4 1 [.s s] = some [.b (ord s)] := by
 refine Ml5 (N := s.length + 1) rfl ?_
 unfold ord
 by_cases h1 : s = []
 ·subst h1
  simp (disch := omega) [Gm3, EVP, ↓reduceIte, EV, Nat.reduceAdd, Nat.reduceEqDiff, Int.reduceToNat, reduceCtorEq]
 ·have h2 : 1 ≤ s.length := List.length_pos_iff.2 h1
  by_cases h3 : s.length ≤ 63
  ·simp (disch := omega) only [Gm3, Ds1, h1, EVP, ↓reduceIte, EV, Nat.reduceAdd, Nat.reduceEqDiff, Int.reduceToNat, reduceCtorEq]
   cases s.all Bk2 <;> simp [h2, h3]
  ·simp (disch := omega) only [Gm3, h1, EVP, ↓reduceIte, EV, Nat.reduceAdd, Nat.reduceEqDiff, Int.reduceToNat, reduceCtorEq]
   simp [h3]
def okP (i : Nat) (p : List UInt8) : Bool := ord p || (decide (i = 0) && decide (p = [42]))
def okPs : Nat → List (List UInt8) → Bool
 | _, [] => true
 | i, p :: r => okP i p && okPs (i + 1) r
theorem Dc0 : ∀ (l : List (List UInt8)) (i : Nat), okPs i l = Aw2 (decide (i = 0)) l
 | [], _ => rfl
 | p :: r, i => by
   have h1 := Dc0 r (i + 1)
   simp only [okPs, Aw2, h1, okP, Hl4]
   by_cases h2 : p = [42]
   ·subst h2
    by_cases h3 : i = 0 <;> simp [Kq8, h3]
   ·simp [h2]
theorem Jn4 (p q : PV) (l : List (List UInt8)) (hl : l.length ≤ 1000000) (hw : ∀ x ∈ l, x.length ≤ 9223372036854775807) (N : Nat) (hN : l.length < N) :
  Kh5.ev S N [p, q, Aj3 l] = some (if okPs 0 l = true then .yld 0 [] else .ret [.b false]) := by
 refine Aq1 l (fun i => [.i .i64 (i : Int)]) (fun i r => if okPs i r = true then .yld 0 [] else .ret [.b false]) rfl hN (fun i c r hd hi hc => ?_) ?_
 ·have hcw := hw c (List.mem_of_getElem? hc)
  have key : Fr5.ev S N ([p, q, Aj3 l] ++ [.i .i64 (i : Int)]) = some (if okP i c = true then .yld 1 [.i .i64 ((i : Int) + 1)] else .ret [.b false]) := by
   rcases Bool.eq_false_or_eq_true (ord c) with h1 | h1
   ·simp (disch := omega) only [Cv7, Ag7, hc, h1, EVP, ↓reduceIte, EV, Nat.reduceAdd, Nat.reduceEqDiff, Int.reduceToNat, reduceCtorEq]
    simp [okP, h1]
   ·by_cases h2 : i = 0
    ·subst h2
     by_cases h3 : c = [42]
     ·subst h3
      simp (disch := omega) only [Cv7, Ag7, hc, h1, EVP, ↓reduceIte, EV, Nat.reduceAdd, Nat.reduceEqDiff, Int.reduceToNat, reduceCtorEq]
      simp [okP]
     ·simp (disch := omega) only [Cv7, Ag7, hc, h1, h3, EVP, ↓reduceIte, EV, Nat.reduceAdd, Nat.reduceEqDiff, Int.reduceToNat, reduceCtorEq]
      simp [okP, h1, h3]
    ·simp (disch := omega) only [Cv7, Ag7, hc, h1, EVP, ↓reduceIte, EV, Nat.reduceAdd, Nat.reduceEqDiff, Int.reduceToNat, reduceCtorEq]
     simp [okP, h1, h2]
  rw [key]
  rcases Bool.eq_false_or_eq_true (okP i c) with h | h <;> simp [h, okPs, Out.goes]
 ·simp (disch := omega) only [Cv7, EVP, ↓reduceIte, EV, Nat.reduceAdd, Nat.reduceEqDiff, Int.reduceToNat, reduceCtorEq]
  simp [Out.goes, okPs]
theorem Cx4 : ∀ (m cur : List UInt8) (x : List UInt8), x ∈ pcs cur m → x.length ≤ cur.length + m.length
 | [], cur, x, h => by simp [pcs] at h; subst h; simp
 | c :: r, cur, x, h => by
   simp only [pcs] at h
   split at h
   ·rcases List.mem_cons.1 h with rfl | h
    ·omega
    ·have := Cx4 r [] x h; simp at this ⊢; omega
   ·have := Cx4 r _ x h; simp at this ⊢; omega
theorem Kz8 (m x : List UInt8) (h : x ∈ cut m) : x.length ≤ m.length := by simpa using Cx4 m [] x h
theorem Mf8 (m : List UInt8) : (cut m).length ≤ m.length + 1 := by
 have := Hn5 m
 have : m.count 46 ≤ m.length := List.count_le_length
 omega
theorem Gp5 (n : List UInt8) : ([46] : List UInt8).isSuffixOf n = true ↔ ∃ m, n = m ++ [46] := by
 rw [List.isSuffixOf_iff_suffix]
 exact ⟨fun ⟨m, h⟩ => ⟨m, h.symm⟩, fun ⟨m, h⟩ => ⟨m, h.symm⟩⟩
theorem Js1 (m : List UInt8) (hm : m ≠ []) (hl : m.length ≤ 253) : vld (m ++ [46]) = okPs 0 (cut m) := by
 have h1 : m ++ [46] ≠ [46] := fun e => hm (List.append_cancel_right (bs := [46]) (by simpa using e))
 have h2 : 0 < m.length := List.length_pos_iff.2 hm
 unfold vld nm
 rw [if_neg h1, if_pos ⟨by simp; omega, by simp; omega, by simp⟩, Bc1, Dc0]
 have e : pcs [] m = cut m := rfl
 have e2 : Aw2 (decide ((0 : Nat) = 0)) (cut m) = Aw2 true (cut m) := rfl
 rw [e, e2]
 cases Aw2 true (cut m) <;> rfl
theorem Kx0 (m : List UInt8) (h : vld (m ++ [46]) = true) (hm : m ≠ []) : lbl (m ++ [46]) = cut m := by
 rcases vld_cases h with ⟨h1, _⟩ | ⟨h1, h2, h3, _⟩
 ·exact absurd (List.append_cancel_right (bs := [46]) (by simpa using h1)) hm
 ·exact (Fn4 h1 (fun p hp => Am6 (Av9 h2 hp)) h3.symm).symm
theorem Aq2 (n : List UInt8) (hn : n.length ≤ 9223372036854775807) : S As5 1 [.s n] = some [.b (vld n)] := by
 refine Mp3 (N := 300) rfl ?_
 by_cases h0 : n = [46]
 ·subst h0
  simp (disch := omega) only [Cv7, EVP, ↓reduceIte, EV, Nat.reduceAdd, Nat.reduceEqDiff, Int.reduceToNat, reduceCtorEq]
  rfl
 ·by_cases h1 : 255 ≤ n.length
  ·have hv : vld n = false := by
    rw [Bool.eq_false_iff]; intro h; have := Ax0 h; omega
   simp (disch := omega) only [Cv7, h0, hv, EVP, ↓reduceIte, EV, Nat.reduceAdd, Nat.reduceEqDiff, Int.reduceToNat, reduceCtorEq]
  ·rcases Bool.eq_false_or_eq_true (([46] : List UInt8).isSuffixOf n) with h2 | h2
   ·obtain ⟨m, rfl⟩ := (Gp5 n).1 h2
    have hm : m ≠ [] := fun e => h0 (by simp [e])
    have hl : (m ++ [46]).length = m.length + 1 := by simp
    have hml : m.length ≤ 1000000 := by omega
    have e : List.drop 0 (List.take (((m ++ [46]).length : Int) - 1).toNat (m ++ [46])) = m := by
     have : (((m ++ [46]).length : Int) - 1).toNat = m.length := by omega
     rw [this]; simp
    have hc := Mf8 m
    have hv := Js1 m hm (by omega)
    have hk := Jn4 (.s (m ++ [46])) (.b true) (cut m) (by omega) (fun x hx => by have := Kz8 m x hx; omega) 300 (by omega)
    simp (disch := omega) only [Cv7, An3, Dm5, e, hk, h0, h2, EVP, ↓reduceIte, EV, Nat.reduceAdd, Nat.reduceEqDiff, Int.reduceToNat, reduceCtorEq]
    rw [hv]
    cases okPs 0 (cut m) <;> simp
   ·have hv : vld n = false := by
     rw [Bool.eq_false_iff]; intro h
     rcases vld_cases h with ⟨h3, _⟩ | ⟨h3, _, h5, _⟩
     ·exact h0 h3
     ·obtain ⟨m, hm⟩ := Af6 _ h3
      have := (Gp5 n).2 ⟨m, h5.trans hm⟩
      rw [h2] at this; cases this
    simp (disch := omega) only [Cv7, An3, h0, h2, hv, EVP, ↓reduceIte, EV, Nat.reduceAdd, Nat.reduceEqDiff, Int.reduceToNat, reduceCtorEq]
theorem Cv3 (n : List UInt8) (hn : n.length ≤ 9223372036854775807) : S Cj9 1 [.s n] = some [Aj3 (lbl n)] := by
 refine Lr1 (N := 1) rfl ?_
 by_cases h0 : n = [46]
 ·subst h0
  simp (disch := omega) only [Gn3, Ab8, EVP, ↓reduceIte, EV, Nat.reduceAdd, Nat.reduceEqDiff, Int.reduceToNat, reduceCtorEq]
 ·rcases Bool.eq_false_or_eq_true (vld n) with h1 | h1
  ·obtain ⟨m, hm, rfl⟩ : ∃ m, m ≠ [] ∧ n = m ++ [46] := by
    rcases vld_cases h1 with ⟨h3, _⟩ | ⟨h3, _, h5, _⟩
    ·exact absurd h3 h0
    ·obtain ⟨m, hm⟩ := Af6 _ h3
     exact ⟨m, fun e => h0 (by rw [h5, hm, e]; rfl), h5.trans hm⟩
   have hl : (m ++ [46]).length = m.length + 1 := by simp
   have e : List.drop 0 (List.take (((m ++ [46]).length : Int) - 1).toNat (m ++ [46])) = m := by
    have : (((m ++ [46]).length : Int) - 1).toNat = m.length := by omega
    rw [this]; simp
   have hl2 := Ax0 h1
   have e2 := Kx0 m h1 hm
   simp (disch := omega) only [Gn3, Aq2, Dm5, e, e2, h0, h1, EVP, ↓reduceIte, EV, Nat.reduceAdd, Nat.reduceEqDiff, Int.reduceToNat, reduceCtorEq]
  ·have e : lbl n = [] := by
    unfold lbl; unfold vld at h1
    cases h : nm n with
    | none => rfl
    | some l => rw [h] at h1; cases h1
   simp (disch := omega) only [Gn3, Aq2, h0, h1, e, EVP, ↓reduceIte, EV, Nat.reduceAdd, Nat.reduceEqDiff, Int.reduceToNat, reduceCtorEq]

theorem Af7 (p : List UInt8) (l : List (List UInt8)) : flat (p :: l) = p ++ 46 :: flat l := by simp [flat]
def parentN (n : List UInt8) : List UInt8 := if vld n = true ∧ n ≠ [46] then jn ((lbl n).drop 1) else []
def Bg3 (n : List UInt8) : Bool := vld n && !decide (n = [46])
theorem Bw7 (n : List UInt8) (hn : n.length ≤ 9223372036854775807) : S Ds7 1 [.s n] = some [.s (parentN n), .b (Bg3 n)] := by
 refine Mn2 (N := 1) rfl ?_
 unfold parentN Bg3
 by_cases h0 : n = [46]
 ·subst h0
  simp (disch := omega) only [Jr4, EVP, ↓reduceIte, EV, Nat.reduceAdd, Nat.reduceEqDiff, Int.reduceToNat, reduceCtorEq]
  simp
 ·rcases Bool.eq_false_or_eq_true (vld n) with h1 | h1
  ·rcases vld_cases h1 with ⟨h3, _⟩ | ⟨h3, h4, h5, h6⟩
   ·exact absurd h3 h0
   ·cases hl : lbl n with
    | nil => exact absurd hl h3
    | cons p r =>
      rw [hl] at h4 h5
      have hp := Am6 (Av9 h4 (List.mem_cons_self ..))
      have hi := Dm9 n 46
      have hc : (((46 : UInt8).toNat : Nat) : Int) = 46 := rfl
      have hx : Lib.indexByte n 46 = (p.length : Int) := by rw [h5, Af7]; exact Af3 46 _ p hp
      rw [hc, hx] at hi
      have hlen : n.length = p.length + 1 + (flat r).length := by rw [h5, Af7]; simp; omega
      have e : List.drop ((p.length : Int) + 1).toNat (List.take n.length n) = flat r := by
       have : ((p.length : Int) + 1).toNat = p.length + 1 := by omega
       rw [this, List.take_length, h5, Af7]
       simp
      by_cases h7 : r = []
      ·subst h7
       have e2 : flat [] = [] := rfl
       simp (disch := omega) only [Jr4, Aq2, hi, e, e2, h0, h1, EVP, ↓reduceIte, EV, Nat.reduceAdd, Nat.reduceEqDiff, Int.reduceToNat, reduceCtorEq]
       simp [jn]
      ·have e2 : ¬ flat r = [] := by
        obtain ⟨m, hm⟩ := Af6 r h7
        rw [hm]; simp
       simp (disch := omega) only [Jr4, Aq2, hi, e, e2, h0, h1, EVP, ↓reduceIte, EV, Nat.reduceAdd, Nat.reduceEqDiff, Int.reduceToNat, reduceCtorEq]
       simp [jn, h7]
  ·simp (disch := omega) only [Jr4, Aq2, h0, h1, EVP, ↓reduceIte, EV, Nat.reduceAdd, Nat.reduceEqDiff, Int.reduceToNat, reduceCtorEq]
   simp
def Hn0 (n top : List UInt8) : Bool := (decide (top = [46]) || decide (n = top)) || (46 :: top).isSuffixOf n
theorem Hm9 (n top : List UInt8) (hn : n.length ≤ 9223372036854775807) (ht : top.length ≤ 1000000) : S Gf4 2 [.s n, .s top] = some [.b (Hn0 n top)] := by
 refine Mp2 (N := 1) rfl ?_
 unfold Hn0
 have h0 : ([46] : List UInt8).length = 1 := rfl
 by_cases h1 : top = [46] <;> by_cases h2 : n = top <;> simp (disch := omega) only [Mh4, An3, h1, h2, EVP, ↓reduceIte, EV, Nat.reduceAdd, Nat.reduceEqDiff, Int.reduceToNat, reduceCtorEq]
 all_goals simp
theorem Ej5 {a b : List (List UInt8)} (ha : Aw2 true a = true) (hb : Aw2 true b = true) (h : (46 :: flat b) <:+ flat a) : b <:+ a := by
 obtain ⟨p, hp⟩ := h
 have h1 := Bz3 a (fun x hx => Am6 (Av9 ha hx))
 have h2 := Bz3 b (fun x hx => Am6 (Av9 hb hx))
 rw [← hp] at h1
 have h3 : cut (p ++ 46 :: flat b) = cut p ++ cut (flat b) := Bd8 (flat b) p []
 rw [h3, h2, ← List.append_assoc] at h1
 exact ⟨cut p, List.append_cancel_right h1⟩
theorem Kz5 {n top : List UInt8} (hn : vld n = true) (ht : vld top = true) : Hn0 n top = true ↔ lbl top <:+ lbl n := by
 unfold Hn0
 simp only [Bool.or_eq_true, decide_eq_true_eq, List.isSuffixOf_iff_suffix]
 constructor
 ·rintro ((rfl | rfl) | h)
  ·rw [Ab8]; exact List.nil_suffix
  ·exact List.suffix_refl _
  ·rcases vld_cases ht with ⟨h1, h2⟩ | ⟨h1, h2, h3, _⟩
   ·rw [h2]; exact List.nil_suffix
   ·rcases vld_cases hn with ⟨h5, _⟩ | ⟨h5, h6, h7, _⟩
    ·rw [h5] at h
     have h9 := h.length_le
     have h8 := Az9 h2 h1
     rw [← h3] at h8
     simp only [List.length_cons, List.length_nil] at h9; omega
    ·rw [h3, h7] at h
     exact Ej5 h6 h2 h
 ·intro h
  obtain ⟨p, hp⟩ := h
  rcases vld_cases ht with ⟨h1, h2⟩ | ⟨h1, h2, h3, _⟩
  ·exact .inl (.inl h1)
  ·by_cases hp0 : p = []
   ·left; right
    subst hp0
    exact As7 hn ht hp.symm
   ·right
    rcases vld_cases hn with ⟨_, h5⟩ | ⟨h5, h6, h7, _⟩
    ·rw [h5] at hp
     exact absurd (List.append_eq_nil_iff.1 hp).1 hp0
    ·obtain ⟨m, hm⟩ := Af6 p hp0
     rw [h7, ← hp, Ap9, hm]
     exact ⟨m, by rw [List.append_assoc, ← h3]; simp⟩
theorem Bh2 {α : Type} [DecidableEq α] : ∀ (a b : List α), cpre a b = b.length ↔ b <+: a
 | [], [] => by simp [cpre]
 | [], y :: ys => by simp [cpre]
 | x :: xs, [] => by simp [cpre]
 | x :: xs, y :: ys => by
   have := Bh2 xs ys
   simp only [cpre]
   split
   ·rename_i h; subst h
    simp [this, List.cons_prefix_cons]
   ·rename_i h
    simp [List.cons_prefix_cons, Ne.symm h]
theorem Dz7 (a b : List (List UInt8)) : Af0 a b = b.length ↔ b <:+ a := by
 unfold Af0
 have := Bh2 a.reverse b.reverse
 rw [List.length_reverse] at this
 rw [this, List.reverse_prefix]
theorem Aj8 {n top : List UInt8} : under n top = true ↔ vld n = true ∧ vld top = true ∧ lbl top <:+ lbl n := by
 unfold under
 simp [Dz7, and_assoc]
theorem Bm6 {n top : List UInt8} (hn : vld n = true) (ht : vld top = true) : Hn0 n top = under n top := by
 rw [Bool.eq_iff_iff, Kz5 hn ht, Aj8]
 simp [hn, ht]
theorem Ab0 (n top : List UInt8) (hn : n.length ≤ 9223372036854775807) (ht : top.length ≤ 9223372036854775807) : S By3 2 [.s n, .s top] = some [.b (under n top)] := by
 refine Mt3 (N := 1) rfl ?_
 rcases Bool.eq_false_or_eq_true (vld n) with h1 | h1
 ·rcases Bool.eq_false_or_eq_true (vld top) with h2 | h2
  ·have h3 := Ax0 h2
   simp (disch := omega) only [Kp2, Aq2, Hm9, h1, h2, EVP, ↓reduceIte, EV, Nat.reduceAdd, Nat.reduceEqDiff, Int.reduceToNat, reduceCtorEq]
   rw [Bm6 h1 h2]
  ·have h3 : under n top = false := by simp [under, h2]
   simp (disch := omega) only [Kp2, Aq2, h1, h2, h3, EVP, ↓reduceIte, EV, Nat.reduceAdd, Nat.reduceEqDiff, Int.reduceToNat, reduceCtorEq]
 ·have h3 : under n top = false := by simp [under, h1]
  simp (disch := omega) only [Kp2, Aq2, h1, h3, EVP, ↓reduceIte, EV, Nat.reduceAdd, Nat.reduceEqDiff, Int.reduceToNat, reduceCtorEq]
end Go.X.G
/- Names: order, common ancestors, wildcards. -/
namespace Go.X.G
open Go Go.X

theorem Bx5 : ∀ (a : List UInt8), Op.bytesLess a a = false
 | [] => rfl
 | a :: x => by simp [Op.bytesLess, Bx5 x]
theorem An0 : ∀ (a b : List UInt8), Lib.compareBytes a b = cmpS a b
 | [], [] => rfl
 | [], _ :: _ => rfl
 | _ :: _, [] => rfl
 | a :: x, b :: y => by
   have ih := An0 x y
   unfold cmpS at ih ⊢
   simp only [Lib.compareBytes, Op.bytesLess, ih]
   by_cases h1 : a < b
   ·simp [h1]
   ·by_cases h2 : b < a
    ·have h3 : a ≠ b := fun e => by subst e; exact h1 h2
     simp [h1, h2, h3]
    ·have h3 : a = b := UInt8.le_antisymm (UInt8.not_lt.1 h2) (UInt8.not_lt.1 h1)
     subst h3
     simp [h1]
theorem Af9 {a b : List UInt8} : cmpS a b = 0 ↔ a = b := by
 unfold cmpS
 by_cases h : a = b
 ·subst h; simp [Bx5]
 ·cases h2 : Op.bytesLess a b <;> simp [h]
theorem At0 (x y : List UInt8) : S Bf3 2 [.s x, .s y] = some [.i .i64 (cmpS x y)] := by
 rw [Ff5, An0]

def cmpL : List (List UInt8) → List (List UInt8) → Option Int
 | x :: xs, y :: ys => if x = y then cmpL xs ys else some (cmpS x y)
 | _, _ => none
theorem Hp1 : ∀ (a b : List (List UInt8)), cmpL a b = if cpre a b < a.length ∧ cpre a b < b.length then some (cmpS (a.getD (cpre a b) []) (b.getD (cpre a b) [])) else none
 | [], b => by simp [cmpL, cpre]
 | x :: xs, [] => by simp [cmpL, cpre]
 | x :: xs, y :: ys => by
   have ih := Hp1 xs ys
   simp only [cmpL, cpre]
   by_cases h : x = y
   ·simp only [if_pos h, ih]
    simp
   ·simp [h]
def Gh7 (a b : List (List UInt8)) : Int := match cmpL a.reverse b.reverse with
 | some c => c
 | none => if a.length < b.length then -1 else if b.length < a.length then 1 else 0
theorem Fm7 (a : List (List UInt8)) (k : Nat) (h : k < a.length) : a.reverse.getD k [] = a.getD (a.length - 1 - k) [] := by
 simp [List.getD_eq_getElem?_getD, List.getElem?_reverse h]
theorem Cb3 {a b : List UInt8} (ha : vld a = true) (hb : vld b = true) : cmpN a b = Gh7 (lbl a) (lbl b) := by
 unfold cmpN Gh7
 rw [Hp1]
 have e : cpre (lbl a).reverse (lbl b).reverse = Af0 (lbl a) (lbl b) := rfl
 rw [e, ha, hb]
 simp only [List.length_reverse, Bool.and_self, if_true]
 by_cases h : Af0 (lbl a) (lbl b) < (lbl a).length ∧ Af0 (lbl a) (lbl b) < (lbl b).length
 ·rw [if_pos h, if_pos h, Fm7 _ _ h.1, Fm7 _ _ h.2]
 ·rw [if_neg h, if_neg h]
theorem Ff7 (a b : List (List UInt8)) (p1 p2 p3 p4 : PV) (ha : a.length ≤ 1000) (hb : b.length ≤ 1000) (N : Nat) (hN : 1001 < N) :
  Dt8.ev S N [p1, p2, p3, p4, Aj3 a, Aj3 b] = some (match cmpL a.reverse b.reverse with | some c => .ret [.i .i64 c] | none => .yld 0 []) := by
 have key := Ax4 (fn := S) (N := N) (η := [p1, p2, p3, p4, Aj3 a, Aj3 b]) (id := 1) (init := [(.c (.i .i64 (1)))]) (body := Dv4) (α := Nat) (fun k => [.i .i64 ((k : Int) + 1)])
  (fun k => match cmpL (a.reverse.drop k) (b.reverse.drop k) with | some c => .ret [.i .i64 c] | none => .yld 0 []) (fun k => k ≤ a.length ∧ k ≤ b.length) (fun k => a.length - k) 0 rfl ⟨Nat.zero_le _, Nat.zero_le _⟩ (by omega) ?_
 ·simpa [Dt8] using key
 ·rintro k ⟨h1, h2⟩
  by_cases h3 : k < a.length
  ·by_cases h4 : k < b.length
   ·have e1 : ((a.length : Int) - ((k : Int) + 1)).toNat = a.length - 1 - k := by omega
    have e2 : ((b.length : Int) - ((k : Int) + 1)).toNat = b.length - 1 - k := by omega
    have g1 : a[a.length - 1 - k]? = some (a[a.length - 1 - k]'(by omega)) := List.getElem?_eq_getElem (by omega)
    have g2 : b[b.length - 1 - k]? = some (b[b.length - 1 - k]'(by omega)) := List.getElem?_eq_getElem (by omega)
    have d1 : a.reverse.drop k = (a[a.length - 1 - k]'(by omega)) :: a.reverse.drop (k + 1) := by
     rw [List.drop_eq_getElem_cons (by simpa using h3)]; simp
    have d2 : b.reverse.drop k = (b[b.length - 1 - k]'(by omega)) :: b.reverse.drop (k + 1) := by
     rw [List.drop_eq_getElem_cons (by simpa using h4)]; simp
    rw [d1, d2]
    generalize (a[a.length - 1 - k]'(by omega)) = x at g1
    generalize (b[b.length - 1 - k]'(by omega)) = y at g2
    simp only [cmpL]
    by_cases h : x = y
    ·left
     have h5 : cmpS x y = 0 := Af9.2 h
     refine ⟨k + 1, ?_, ⟨by omega, by omega⟩, by omega, by rw [if_pos h]⟩
     simp (disch := omega) only [Bb4, At0, e1, e2, g1, g2, h5, EVP, ↓reduceIte, EV, Nat.reduceAdd, Nat.reduceEqDiff, Int.reduceToNat, reduceCtorEq]
    ·right
     have h5 : ¬ cmpS x y = 0 := fun e => h (Af9.1 e)
     rw [if_neg h]
     simp (disch := omega) only [Bb4, At0, e1, e2, g1, g2, h5, EVP, ↓reduceIte, EV, Nat.reduceAdd, Nat.reduceEqDiff, Int.reduceToNat, reduceCtorEq]
     simp [Out.goes]
   ·right
    have d2 : b.reverse.drop k = [] := List.drop_eq_nil_of_le (by simp; omega)
    have z : cmpL (a.reverse.drop k) [] = none := by cases a.reverse.drop k <;> rfl
    rw [d2, z]
    simp (disch := omega) [Bb4, EVP, ↓reduceIte, EV, Nat.reduceAdd, Nat.reduceEqDiff, Int.reduceToNat, reduceCtorEq, Out.goes]
  ·right
   have d1 : a.reverse.drop k = [] := List.drop_eq_nil_of_le (by simp; omega)
   have z : cmpL [] (b.reverse.drop k) = none := rfl
   rw [d1, z]
   simp (disch := omega) [Bb4, EVP, ↓reduceIte, EV, Nat.reduceAdd, Nat.reduceEqDiff, Int.reduceToNat, reduceCtorEq, Out.goes]
theorem Ff6 (a b : List UInt8) (hn : a.length ≤ 9223372036854775807) (ht : b.length ≤ 9223372036854775807) : S Al0 2 [.s a, .s b] = some [.i .i64 (cmpN a b)] := by
 refine Lt4 (N := 1002) rfl ?_
 have h1 := Av6 a
 have h2 := Av6 b
 rcases Bool.eq_false_or_eq_true (vld a) with h3 | h3 <;> rcases Bool.eq_false_or_eq_true (vld b) with h4 | h4
 ·rw [Cb3 h3 h4]
  unfold Gh7
  have hk := Ff7 (lbl a) (lbl b) (.s a) (.s b) (.b true) (.b true) (by omega) (by omega) 1002 (by omega)
  cases h5 : cmpL (lbl a).reverse (lbl b).reverse with
  | some c =>
    rw [h5] at hk
    simp (disch := omega) only [Bb4, Aq2, Cv3, hk, h3, h4, EVP, ↓reduceIte, EV, Nat.reduceAdd, Nat.reduceEqDiff, Int.reduceToNat, reduceCtorEq]
  | none =>
    rw [h5] at hk
    simp (disch := omega) only [Bb4, Aq2, Cv3, hk, h3, h4, EVP, ↓reduceIte, EV, Nat.reduceAdd, Nat.reduceEqDiff, Int.reduceToNat, reduceCtorEq]
    grind
 all_goals unfold cmpN
 all_goals simp (disch := omega) only [Bb4, Aq2, At0, h3, h4, EVP, ↓reduceIte, EV, Nat.reduceAdd, Nat.reduceEqDiff, Int.reduceToNat, reduceCtorEq]
 all_goals simp

theorem Lk5 (l : List (List UInt8)) (hl : l.length ≤ 1000) (hw : ∀ x ∈ l, x.length ≤ 1000) (N : Nat) (hN : l.length < N) :
  Hg8.ev S N [Aj3 l] = some (.yld 0 [.s (flat l)]) := by
 have key : Hg8.ev S N [Aj3 l] = some (.yld 0 [.s ([] ++ flat l)]) := by
  refine Ak5 l (fun i (g : List UInt8) => [.s g, .i .i64 (i : Int)]) (fun i g r => .yld 0 [.s (g ++ flat r)]) (fun i g => g.length ≤ 1001 * i) [] rfl (Nat.le_refl _) hN (fun i g c r hd hi hc hI => ?_) (fun g hI => ?_)
  ·left
   have h1 := hw c (List.mem_of_getElem? hc)
   have h0 : ([46] : List UInt8).length = 1 := rfl
   refine ⟨g ++ c ++ [46], ?_, by simp; omega, by simp [flat]⟩
   simp (disch := first | omega | (simp only [List.length_append]; omega)) only [Jr1, hc, EVP, ↓reduceIte, EV, Nat.reduceAdd, Nat.reduceEqDiff, Int.reduceToNat, reduceCtorEq]
  ·simp (disch := omega) only [Jr1, EVP, ↓reduceIte, EV, Nat.reduceAdd, Nat.reduceEqDiff, Int.reduceToNat, reduceCtorEq]
   simp [flat, Out.goes]
 simpa using key
theorem Hz2 (l : List (List UInt8)) (hl : l.length ≤ 1000) (hw : ∀ x ∈ l, x.length ≤ 1000) : S Gd8 1 [Aj3 l] = some [.s (jn l)] := by
 refine Mm0 (N := l.length + 1) rfl ?_
 unfold jn
 by_cases h : l = []
 ·subst h
  simp (disch := first | omega | (simp; omega)) only [Jr1, EVP, ↓reduceIte, EV, Nat.reduceAdd, Nat.reduceEqDiff, Int.reduceToNat, reduceCtorEq]
 ·have h1 : 0 < l.length := List.length_pos_iff.2 h
  have hk := Lk5 l hl hw (l.length + 1) (by omega)
  simp (disch := omega) only [Jr1, hk, h, EVP, ↓reduceIte, EV, Nat.reduceAdd, Nat.reduceEqDiff, Int.reduceToNat, reduceCtorEq]
theorem Hf7 (n : List UInt8) : ∀ x ∈ lbl n, x.length ≤ 1000 := fun x hx => by
 have := Bw1 (Hf8 n x hx); omega
theorem Bf9 {n : List UInt8} (h : vld n = true) (k : Nat) : (jn ((lbl n).drop k)).length ≤ 254 := Ax0 (Ag4 h k).1
def Al8 (n : List UInt8) : List UInt8 := if n = [46] then [42, 46] else [42, 46] ++ n
def Ah5 (n : List UInt8) : Bool := vld n && !decide ((lbl n)[0]? = some [42]) && vld (Al8 n)
def Ax8 (n : List UInt8) : List UInt8 := if Ah5 n = true then Al8 n else []
theorem Kc6 (n : List UInt8) (hn : n.length ≤ 1000000) : S Hc3 1 [.s n] = some [.s (Ax8 n), .b (Ah5 n)] := by
 refine Mr6 (N := 1) rfl ?_
 have h0 : ([42, 46] : List UInt8).length = 2 := rfl
 have hl : (Al8 n).length ≤ 9223372036854775807 := by
  unfold Al8; split
  ·simp
  ·rw [List.length_append, h0]; omega
 have h1 := Av6 n
 unfold Ax8 Ah5
 rcases Bool.eq_false_or_eq_true (vld n) with h3 | h3
 ·have tail : ∀ (q : List (List UInt8)), (¬ q[0]? = some [42]) → T.ev S 1 Fp1 [.s n, Aj3 q, .b true] = some (.ret (if vld (Al8 n) = true then [.s (Al8 n), .b true] else [.s [], .b false])) := by
   intro q _
   unfold Al8 at hl ⊢
   by_cases h4 : n = [46]
   ·simp only [if_pos h4] at hl ⊢
    rcases Bool.eq_false_or_eq_true (vld [42, 46]) with h5 | h5 <;> simp (disch := omega) only [Dn7, Aq6, h4, h5, EVP, ↓reduceIte, EV, Nat.reduceAdd, Nat.reduceEqDiff, Int.reduceToNat, reduceCtorEq]
   ·simp only [if_neg h4] at hl ⊢
    rcases Bool.eq_false_or_eq_true (vld ([42, 46] ++ n)) with h5 | h5 <;> simp (disch := omega) only [Dn7, Aq6, h4, EVP, ↓reduceIte, EV, Nat.reduceAdd, Nat.reduceEqDiff, Int.reduceToNat, reduceCtorEq] <;> simp only [List.cons_append, List.nil_append] at h5 hl <;> simp (disch := omega) only [Dn7, Aq6, h5, EVP, ↓reduceIte, EV, Nat.reduceAdd, Nat.reduceEqDiff, Int.reduceToNat, reduceCtorEq] <;> simp
  cases hq : lbl n with
  | nil =>
    have ht := tail [] (by simp)
    simp (disch := first | omega | (simp; omega)) only [↓ht, Dn7, split_ok, hq, h3, EVP, ↓reduceIte, EV, Nat.reduceAdd, Nat.reduceEqDiff, Int.reduceToNat, reduceCtorEq]
    rcases Bool.eq_false_or_eq_true (vld (Al8 n)) with h5 | h5 <;> simp [h5]
  | cons p r =>
    have h6 : 0 < ((p :: r).length : Int) := by simp only [List.length_cons]; omega
    by_cases h7 : p = [42]
    ·subst h7
     simp (disch := first | omega | (simp only [List.length_cons]; omega)) only [Dn7, split_ok, hq, h3, EVP, ↓reduceIte, EV, Nat.reduceAdd, Nat.reduceEqDiff, Int.reduceToNat, reduceCtorEq]
     simp
    ·have ht := tail (p :: r) (by simpa using h7)
     simp (disch := first | omega | (simp only [List.length_cons]; omega)) only [↓ht, Dn7, split_ok, hq, h3, h7, EVP, ↓reduceIte, EV, Nat.reduceAdd, Nat.reduceEqDiff, Int.reduceToNat, reduceCtorEq]
     rcases Bool.eq_false_or_eq_true (vld (Al8 n)) with h5 | h5 <;> simp [h5, h7]
 ·simp (disch := omega) only [Dn7, split_ok, h3, EVP, ↓reduceIte, EV, Nat.reduceAdd, Nat.reduceEqDiff, Int.reduceToNat, reduceCtorEq]
  simp
theorem Bt3 {n : List UInt8} (h : vld n = true) : (n[0]? = some 42 ↔ (lbl n)[0]? = some [42]) := by
 rcases vld_cases h with ⟨h1, h2⟩ | ⟨h1, h2, h3, _⟩
 ·subst h1; simp [Ab8]
 ·cases hl : lbl n with
  | nil => exact absurd hl h1
  | cons p r =>
    rw [hl] at h2 h3
    have hp := Av9 h2 (List.mem_cons_self ..)
    have hne := Cz1 hp
    cases p with
    | nil => exact absurd rfl hne
    | cons c q =>
      rw [h3, Af7]
      simp only [List.cons_append, List.getElem?_cons_zero, Option.some.injEq]
      constructor
      ·rintro rfl
       unfold Ab9 at hp
       simp at hp
       rcases hp with h | h
       ·rw [h]
       ·exfalso
        have : Bk2 42 = false := by decide
        rw [this] at h; simp at h
      ·intro h; injection h
theorem Kc5 (n : List UInt8) (hn : n.length ≤ 1000000) : S Hz6 1 [.s n] = some [.s (Ax8 n), .b (Ah5 n)] := by
 refine Mm6 (N := 1) rfl ?_
 have h0 : ([42, 46] : List UInt8).length = 2 := rfl
 have hl : (Al8 n).length ≤ 9223372036854775807 := by
  unfold Al8; split
  ·simp
  ·rw [List.length_append, h0]; omega
 unfold Ax8 Ah5
 have tail : T.ev S 1 Fp3 [.s n, .s (Al8 n)] = some (.ret [.s (Ax8 n), .b (Ah5 n)]) := by
  unfold Ax8 Ah5
  rcases Bool.eq_false_or_eq_true (vld n) with h3 | h3
  ·have h4 := Bt3 h3
   have h5 := List.getElem?_eq_getElem (At5 h3)
   have h6 := Js5 (n[0]'(At5 h3)) 42 (by omega)
   by_cases h7 : (lbl n)[0]? = some [42]
   ·have h8 := h4.2 h7
    rw [h5] at h8
    injection h8 with h8
    have h9 : ((n[0]'(At5 h3)).toNat : Int) = 42 := h6.2 h8
    simp (disch := omega) only [Jr3, Aq2, h3, h5, EVP, ↓reduceIte, EV, Nat.reduceAdd, Nat.reduceEqDiff, Int.reduceToNat, reduceCtorEq]
    simp [h7]
   ·have h8 : ¬ n[0]? = some 42 := fun e => h7 (h4.1 e)
    rw [h5] at h8
    have h9 : ¬ ((n[0]'(At5 h3)).toNat : Int) = 42 := fun e => h8 (by rw [h6.1 e]; rfl)
    rcases Bool.eq_false_or_eq_true (vld (Al8 n)) with ha | ha <;> simp (disch := omega) only [Jr3, Aq2, h3, h5, ha, EVP, ↓reduceIte, EV, Nat.reduceAdd, Nat.reduceEqDiff, Int.reduceToNat, reduceCtorEq] <;> simp [h7]
  ·simp (disch := omega) only [Jr3, Aq2, h3, EVP, ↓reduceIte, EV, Nat.reduceAdd, Nat.reduceEqDiff, Int.reduceToNat, reduceCtorEq]
   simp
 unfold Ax8 Ah5 at tail
 obtain ⟨y0, y1, y2, y3, y4, y5, y6, y7, yt⟩ := Jr3
 by_cases h4 : n = [46]
 ·have e : Al8 n = [42, 46] := by simp [Al8, h4]
  rw [e] at tail ⊢
  subst h4
  simp (disch := omega) only [y0, y1, y2, yt, EVP, ↓reduceIte, EV, Nat.reduceAdd, Nat.reduceEqDiff, Int.reduceToNat, reduceCtorEq]
  rw [tail]
  simp
 ·have e : Al8 n = 42 :: 46 :: n := by simp [Al8, h4]
  rw [e] at tail ⊢
  simp (disch := omega) only [y0, y1, y2, yt, h4, EVP, ↓reduceIte, EV, Nat.reduceAdd, Nat.reduceEqDiff, Int.reduceToNat, reduceCtorEq]
  rw [tail]
  simp
end Go.X.G
/- The canonical order of names is a total order. -/
namespace Go.X.G
open Go Go.X

structure TO {α : Type} (lt : α → α → Prop) : Prop where
 irr : ∀ a, ¬ lt a a
 tr : ∀ a b c, lt a b → lt b c → lt a c
 tri : ∀ a b, lt a b ∨ a = b ∨ lt b a
theorem TO.asym {α : Type} {lt : α → α → Prop} (h : TO lt) {a b : α} (h1 : lt a b) : ¬ lt b a := fun h2 => h.irr a (h.tr _ _ _ h1 h2)
theorem TO.ntr {α : Type} {lt : α → α → Prop} (h : TO lt) {a b c : α} (h1 : ¬ lt a b) (h2 : ¬ lt b c) : ¬ lt a c := by
 intro h3
 rcases h.tri b a with h4 | h4 | h4
 ·exact h2 (h.tr _ _ _ h4 h3)
 ·subst h4; exact h2 h3
 ·exact h1 h4
def lex {α : Type} (lt : α → α → Prop) : List α → List α → Prop
 | [], [] => False
 | [], _ :: _ => True
 | _ :: _, [] => False
 | a :: x, b :: y => lt a b ∨ (a = b ∧ lex lt x y)
theorem Hf6 {α : Type} {lt : α → α → Prop} (h : TO lt) : ∀ x : List α, ¬ lex lt x x
 | [] => by simp [lex]
 | a :: x => by
   simp only [lex, true_and, not_or]
   exact ⟨h.irr a, Hf6 h x⟩
theorem Kf7 {α : Type} {lt : α → α → Prop} (h : TO lt) : ∀ x y z : List α, lex lt x y → lex lt y z → lex lt x z
 | [], [], _, h1, _ => by simp [lex] at h1
 | [], _ :: _, [], _, h2 => by simp [lex] at h2
 | [], _ :: _, _ :: _, _, _ => by simp [lex]
 | _ :: _, [], _, h1, _ => by simp [lex] at h1
 | _ :: _, _ :: _, [], _, h2 => by simp [lex] at h2
 | a :: x, b :: y, c :: z, h1, h2 => by
   simp only [lex] at h1 h2 ⊢
   rcases h1 with h1 | ⟨rfl, h1⟩
   ·rcases h2 with h2 | ⟨rfl, h2⟩
    ·exact .inl (h.tr _ _ _ h1 h2)
    ·exact .inl h1
   ·rcases h2 with h2 | ⟨rfl, h2⟩
    ·exact .inl h2
    ·exact .inr ⟨rfl, Kf7 h x y z h1 h2⟩
theorem lex_tri {α : Type} {lt : α → α → Prop} (h : TO lt) : ∀ x y : List α, lex lt x y ∨ x = y ∨ lex lt y x
 | [], [] => .inr (.inl rfl)
 | [], _ :: _ => .inl (by simp [lex])
 | _ :: _, [] => .inr (.inr (by simp [lex]))
 | a :: x, b :: y => by
   simp only [lex]
   rcases h.tri a b with h1 | rfl | h1
   ·exact .inl (.inl h1)
   ·rcases lex_tri h x y with h2 | rfl | h2
    ·exact .inl (.inr ⟨rfl, h2⟩)
    ·exact .inr (.inl rfl)
    ·exact .inr (.inr (.inr ⟨rfl, h2⟩))
   ·exact .inr (.inr (.inl h1))
theorem TO.lex {α : Type} {lt : α → α → Prop} (h : TO lt) : TO (G.lex lt) := ⟨Hf6 h, Kf7 h, lex_tri h⟩
theorem Ml0 : TO (fun a b : UInt8 => a < b) := ⟨fun a => UInt8.lt_irrefl a, fun a b c h1 h2 => UInt8.lt_trans h1 h2, fun a b => by
 rcases UInt8.lt_or_le a b with h | h
 ·exact .inl h
 ·rcases UInt8.lt_or_le b a with h2 | h2
  ·exact .inr (.inr h2)
  ·exact .inr (.inl (UInt8.le_antisymm h2 h))⟩
abbrev ltB : List UInt8 → List UInt8 → Prop := lex fun a b : UInt8 => a < b
theorem to_B : TO ltB := Ml0.lex
theorem Dl6 : ∀ a b : List UInt8, Op.bytesLess a b = true ↔ ltB a b
 | [], [] => by simp [Op.bytesLess, lex]
 | [], _ :: _ => by simp [Op.bytesLess, lex]
 | _ :: _, [] => by simp [Op.bytesLess, lex]
 | a :: x, b :: y => by
   have ih := Dl6 x y
   simp only [Op.bytesLess, Bool.or_eq_true, decide_eq_true_eq, Bool.and_eq_true, beq_iff_eq, lex]
   rw [ih]
theorem Cb2 (a b : List UInt8) : cmpS a b < 0 ↔ ltB a b := by
 rw [← Dl6]
 unfold cmpS
 cases h : Op.bytesLess a b
 ·simp only [Bool.false_eq_true, if_false, iff_false]
  split <;> omega
 ·simp
abbrev ltL : List (List UInt8) → List (List UInt8) → Prop := lex ltB
theorem to_L : TO ltL := to_B.lex
def cmpA (a b : List (List UInt8)) : Int := match cmpL a b with
 | some c => c
 | none => if a.length < b.length then -1 else if b.length < a.length then 1 else 0
theorem Fp0 : ∀ a b : List (List UInt8), cmpA a b < 0 ↔ ltL a b
 | [], [] => by simp [cmpA, cmpL, lex]
 | [], _ :: _ => by simp [cmpA, cmpL, lex]
 | _ :: _, [] => by simp [cmpA, cmpL, lex]
 | x :: xs, y :: ys => by
   have ih := Fp0 xs ys
   simp only [cmpA, cmpL, lex] at ih ⊢
   by_cases h : x = y
   ·subst h
    rw [if_pos rfl]
    simp only [List.length_cons, Nat.add_lt_add_iff_right, true_and]
    rw [ih]
    constructor
    ·exact fun h => .inr h
    ·rintro (h | h)
     ·exact absurd h (to_B.irr x)
     ·exact h
   ·rw [if_neg h]
    simp only
    rw [Cb2]
    simp [h]
theorem Ek0 (a b : List (List UInt8)) : Gh7 a b = cmpA a.reverse b.reverse := by
 unfold Gh7 cmpA
 cases cmpL a.reverse b.reverse <;> simp
theorem Hp0 (a b : List (List UInt8)) : Gh7 a b < 0 ↔ ltL a.reverse b.reverse := by
 rw [← Fp0, Ek0]
def ltN (a b : List UInt8) : Prop := if vld a = true then (if vld b = true then ltL (lbl a).reverse (lbl b).reverse else True) else (if vld b = true then False else ltB a b)
theorem Av4 (a b : List UInt8) : cmpN a b < 0 ↔ ltN a b := by
 unfold ltN
 rcases Bool.eq_false_or_eq_true (vld a) with ha | ha
 ·rcases Bool.eq_false_or_eq_true (vld b) with hb | hb
  ·rw [Cb3 ha hb, Hp0, if_pos ha, if_pos hb]
  ·unfold cmpN; simp [ha, hb]
 ·rcases Bool.eq_false_or_eq_true (vld b) with hb | hb
  ·unfold cmpN; simp [ha, hb]
  ·have e : cmpN a b = cmpS a b := by unfold cmpN; simp [ha, hb]
   rw [e, Cb2]; simp [ha, hb]
theorem to_N : TO ltN := by
 refine ⟨fun a h => ?_, fun a b c h1 h2 => ?_, fun a b => ?_⟩
 ·unfold ltN at h
  split at h
  ·exact to_L.irr _ h
  ·exact to_B.irr _ h
 ·unfold ltN at *
  rcases Bool.eq_false_or_eq_true (vld a) with ha | ha <;> rcases Bool.eq_false_or_eq_true (vld b) with hb | hb <;> rcases Bool.eq_false_or_eq_true (vld c) with hc | hc <;>
   simp only [ha, hb, hc, if_true, Bool.false_eq_true, if_false] at h1 h2 ⊢
  ·exact to_L.tr _ _ _ h1 h2
  ·exact to_B.tr _ _ _ h1 h2
 ·unfold ltN
  rcases Bool.eq_false_or_eq_true (vld a) with ha | ha <;> rcases Bool.eq_false_or_eq_true (vld b) with hb | hb <;> simp only [ha, hb, if_true, Bool.false_eq_true, if_false]
  ·rcases to_L.tri (lbl a).reverse (lbl b).reverse with h | h | h
   ·exact .inl h
   ·exact .inr (.inl (As7 ha hb (List.reverse_inj.1 h)))
   ·exact .inr (.inr h)
  ·simp
  ·simp
  ·exact to_B.tri a b
theorem Bq0 {a b : List UInt8} : cmpN a b = 0 ↔ a = b := by
 constructor
 ·intro h
  rcases Bool.eq_false_or_eq_true (vld a) with ha | ha
  ·rcases Bool.eq_false_or_eq_true (vld b) with hb | hb
   ·rw [Cb3 ha hb] at h
    have key : ∀ x y : List (List UInt8), cmpA x y = 0 → x = y := by
     intro x
     induction x with
     | nil => intro y hy; cases y with
       | nil => rfl
       | cons => simp [cmpA, cmpL] at hy
     | cons x xs ih => intro y hy; cases y with
       | nil => simp [cmpA, cmpL] at hy
       | cons y ys =>
         simp only [cmpA, cmpL] at hy ih
         by_cases e : x = y
         ·subst e
          rw [if_pos rfl] at hy
          simp only [List.length_cons, Nat.add_lt_add_iff_right] at hy
          rw [ih ys hy]
         ·rw [if_neg e] at hy
          exact absurd (Af9.1 hy) e
    rw [Ek0] at h
    exact As7 ha hb (List.reverse_inj.1 (key _ _ h))
   ·unfold cmpN at h; simp [ha, hb] at h
  ·rcases Bool.eq_false_or_eq_true (vld b) with hb | hb
   ·unfold cmpN at h; simp [ha, hb] at h
   ·have e : cmpN a b = cmpS a b := by unfold cmpN; simp [ha, hb]
    rw [e] at h; exact Af9.1 h
 ·rintro rfl
  have h1 := Av4 a a
  have h2 : ¬ cmpN a a < 0 := fun h => to_N.irr a (h1.1 h)
  have key : ∀ x : List (List UInt8), cmpA x x = 0 := by
   intro x
   induction x with
   | nil => rfl
   | cons x xs ih =>
     simp only [cmpA, cmpL] at ih ⊢
     simp only [if_true, List.length_cons, Nat.add_lt_add_iff_right]
     exact ih
  rcases Bool.eq_false_or_eq_true (vld a) with ha | ha
  ·rw [Cb3 ha ha]
   rw [Ek0]; exact key _
  ·have e : cmpN a a = cmpS a a := by unfold cmpN; simp [ha]
   rw [e]; exact Af9.2 rfl
end Go.X.G
/- Sorted lists of names, each once. -/
namespace Go.X.G
open Go Go.X

def cptG {α : Type} (e : α → α → Bool) : α → List α → List α
 | _, [] => []
 | p, c :: r => if e c p = true then cptG e c r else c :: cptG e c r
def cpt {α : Type} (e : α → α → Bool) : List α → List α
 | [] => []
 | x :: r => x :: cptG e x r
theorem Dl0 {α : Type} (e : α → α → Bool) (c : α) : ∀ (r : List α) (p : α), cptG e p (r ++ [c]) = cptG e p r ++ (if e c ((p :: r).getLast (by simp)) = true then [] else [c])
 | [], p => by
   simp only [List.nil_append, cptG, List.getLast_singleton]
   rfl
 | x :: r, p => by
   have ih := Dl0 e c r x
   simp only [List.cons_append, cptG, List.getLast_cons_cons]
   split
   ·exact ih
   ·rw [ih]; rfl
theorem Cb0 {α : Type} (e : α → α → Bool) (c : α) (l : List α) (h : l ≠ []) : cpt e (l ++ [c]) = cpt e l ++ (if e c (l.getLast h) = true then [] else [c]) := by
 cases l with
 | nil => exact absurd rfl h
 | cons x r =>
   show x :: cptG e x (r ++ [c]) = _
   rw [Dl0]; rfl
theorem Fn5 {α : Type} (e : α → α → Bool) : ∀ (r : List α) (p : α), (cptG e p r).length ≤ r.length
 | [], _ => by simp [cptG]
 | c :: r, p => by
   have := Fn5 e r c
   simp only [cptG]
   split <;> simp <;> omega
theorem Hn7 {α : Type} (e : α → α → Bool) (l : List α) : (cpt e l).length ≤ l.length := by
 cases l with
 | nil => simp [cpt]
 | cons x r => have := Fn5 e r x; simp [cpt]; exact this
theorem Cb1 {α : Type} (e : α → α → Bool) : ∀ (r : List α) (p : α), ∀ x ∈ cptG e p r, x ∈ r
 | [], _, x, h => by simp [cptG] at h
 | c :: r, p, x, h => by
   simp only [cptG] at h
   split at h
   ·exact .tail _ (Cb1 e r c x h)
   ·rcases List.mem_cons.1 h with rfl | h
    ·exact .head _
    ·exact .tail _ (Cb1 e r c x h)
theorem Lx9 {α : Type} (e : α → α → Bool) (l : List α) : ∀ x ∈ cpt e l, x ∈ l := by
 cases l with
 | nil => intro x h; simp [cpt] at h
 | cons y r =>
   intro x h
   rcases List.mem_cons.1 (show x ∈ y :: cptG e y r from h) with rfl | h
   ·exact .head _
   ·exact .tail _ (Cb1 e r y x h)
abbrev eqs {α : Type} [DecidableEq α] : α → α → Bool := fun a b => decide (a = b)
theorem cptG_mem {α : Type} [DecidableEq α] : ∀ (r : List α) (p x : α), x ∈ r → x = p ∨ x ∈ cptG eqs p r
 | [], _, x, h => by simp at h
 | c :: r, p, x, h => by
   simp only [cptG]
   by_cases hc : c = p
   ·subst hc
    rw [if_pos (by simp [eqs])]
    rcases List.mem_cons.1 h with rfl | h
    ·exact .inl rfl
    ·exact cptG_mem r c x h
   ·rw [if_neg (by simp [eqs, hc])]
    right
    rcases List.mem_cons.1 h with rfl | h
    ·exact .head _
    ·rcases cptG_mem r c x h with rfl | h
     ·exact .head _
     ·exact .tail _ h
theorem Ly0 {α : Type} [DecidableEq α] (l : List α) (x : α) : x ∈ cpt eqs l ↔ x ∈ l := by
 refine ⟨Lx9 _ l x, fun h => ?_⟩
 cases l with
 | nil => simp at h
 | cons y r =>
   rcases List.mem_cons.1 h with rfl | h
   ·exact .head _
   ·rcases cptG_mem r y x h with rfl | h
    ·exact .head _
    ·exact .tail _ h
theorem Bh1 {α : Type} [DecidableEq α] {lt : α → α → Prop} (ht : TO lt) : ∀ (r : List α) (p : α), (p :: r).Pairwise (fun a b => ¬ lt b a) → (p :: cptG eqs p r).Pairwise lt
 | [], p, _ => by simp [cptG]
 | c :: r, p, h => by
   rw [List.pairwise_cons] at h
   have ih := Bh1 ht r c h.2
   simp only [cptG]
   by_cases hc : c = p
   ·subst hc
    rw [if_pos (by simp [eqs])]
    exact ih
   ·rw [if_neg (by simp [eqs, hc])]
    rw [List.pairwise_cons]
    refine ⟨fun x hx => ?_, ih⟩
    have hpc : lt p c := by
     rcases ht.tri p c with h1 | h1 | h1
     ·exact h1
     ·exact absurd h1.symm hc
     ·exact absurd h1 (h.1 c (.head _))
    rcases List.mem_cons.1 hx with rfl | hx
    ·exact hpc
    ·exact ht.tr _ _ _ hpc ((List.pairwise_cons.1 ih).1 x hx)
theorem Gh5 {α : Type} [DecidableEq α] {lt : α → α → Prop} (ht : TO lt) (l : List α) (h : l.Pairwise (fun a b => ¬ lt b a)) : (cpt eqs l).Pairwise lt := by
 cases l with
 | nil => simp [cpt]
 | cons x r => exact Bh1 ht r x h
theorem Bd0 {α : Type} {lt : α → α → Prop} (ht : TO lt) : ∀ (a b : List α), a.Pairwise lt → b.Pairwise lt → (∀ x, x ∈ a ↔ x ∈ b) → a = b
 | [], [], _, _, _ => rfl
 | [], y :: b, _, _, h => absurd ((h y).2 (.head _)) (by simp)
 | x :: a, [], _, _, h => absurd ((h x).1 (.head _)) (by simp)
 | x :: a, y :: b, ha, hb, h => by
   rw [List.pairwise_cons] at ha hb
   have hxy : x = y := by
    rcases List.mem_cons.1 ((h x).1 (.head _)) with h1 | h1
    ·exact h1
    ·rcases List.mem_cons.1 ((h y).2 (.head _)) with h2 | h2
     ·exact h2.symm
     ·exact absurd (hb.1 x h1) (ht.asym (ha.1 y h2))
   subst hxy
   rw [Bd0 ht a b ha.2 hb.2 fun z => ?_]
   constructor
   ·intro hz
    rcases List.mem_cons.1 ((h z).1 (.tail _ hz)) with rfl | h1
    ·exact absurd (ha.1 z hz) (ht.irr z)
    ·exact h1
   ·intro hz
    rcases List.mem_cons.1 ((h z).2 (.tail _ hz)) with rfl | h1
    ·exact absurd (hb.1 z hz) (ht.irr z)
    ·exact h1
def setN (l : List (List UInt8)) : List (List UInt8) := cpt eqs (l.mergeSort fun x y => !decide (cmpN y x < 0))
theorem Lk8 (l : List (List UInt8)) : (l.mergeSort fun x y => !decide (cmpN y x < 0)).Pairwise (fun a b => ¬ ltN b a) := by
 have := List.pairwise_mergeSort (le := fun x y : List UInt8 => !decide (cmpN y x < 0)) (fun a b c h1 h2 => by
  simp only [Bool.not_eq_true', decide_eq_false_iff_not, Av4] at h1 h2 ⊢
  exact to_N.ntr h2 h1) (fun a b => by
  simp only [Bool.or_eq_true, Bool.not_eq_true', decide_eq_false_iff_not, Av4]
  rcases to_N.tri a b with h | h | h
  ·exact .inl (to_N.asym h)
  ·subst h; exact .inl (to_N.irr a)
  ·exact .inr (to_N.asym h)) l
 refine this.imp fun {a b} h => ?_
 simpa only [Bool.not_eq_true', decide_eq_false_iff_not, Av4] using h
theorem As2 (l : List (List UInt8)) : (setN l).Pairwise ltN := Gh5 to_N _ (Lk8 l)
theorem Ag6 (l : List (List UInt8)) (x : List UInt8) : x ∈ setN l ↔ x ∈ l := by
 unfold setN
 rw [Ly0]
 exact (List.mergeSort_perm _ _).mem_iff
theorem Cw8 (l : List (List UInt8)) : (setN l).length ≤ l.length := by
 have := Hn7 eqs (l.mergeSort fun x y => !decide (cmpN y x < 0))
 rw [List.length_mergeSort] at this
 exact this
end Go.X.G
/- Data of records: what the reference's functions give. -/
namespace Go.X.G
open Go Go.X

def mnem (t : Int) : List UInt8 :=
 if t = 1 then [65] else if t = 2 then [78, 83] else if t = 5 then [67, 78, 65, 77, 69] else if t = 6 then [83, 79, 65] else if t = 12 then [80, 84, 82]
 else if t = 15 then [77, 88] else if t = 16 then [84, 88, 84] else if t = 28 then [65, 65, 65, 65] else if t = 33 then [83, 82, 86] else if t = 39 then [68, 78, 65, 77, 69]
 else if t = 43 then [68, 83] else if t = 46 then [82, 82, 83, 73, 71] else if t = 47 then [78, 83, 69, 67] else if t = 48 then [68, 78, 83, 75, 69, 89] else []
theorem t15 (t : Int) : t = 1 ∨ t = 2 ∨ t = 5 ∨ t = 6 ∨ t = 12 ∨ t = 15 ∨ t = 16 ∨ t = 28 ∨ t = 33 ∨ t = 39 ∨ t = 43 ∨ t = 46 ∨ t = 47 ∨ t = 48 ∨ (t ≠ 1 ∧ t ≠ 2 ∧ t ≠ 5 ∧ t ≠ 6 ∧ t ≠ 12 ∧ t ≠ 15 ∧ t ≠ 16 ∧ t ≠ 28 ∧ t ≠ 33 ∧ t ≠ 39 ∧ t ≠ 43 ∧ t ≠ 46 ∧ t ≠ 47 ∧ t ≠ 48) := by omega
theorem Ff4 (t : Int) : S Dd8 1 [.i .i64 t] = some [.s (mnem t)] := by
 refine Ls6 (N := 1) rfl ?_
 rcases t15 t with rfl | rfl | rfl | rfl | rfl | rfl | rfl | rfl | rfl | rfl | rfl | rfl | rfl | rfl | ⟨h0, h1, h2, h3, h4, h5, h6, h7, h8, h9, h10, h11, h12, h13⟩
 all_goals simp (disch := omega) only [Lh8, EVP, ↓reduceIte, EV, Nat.reduceAdd, Nat.reduceEqDiff, Int.reduceToNat, reduceCtorEq]
 all_goals first | rfl | (unfold mnem; simp only [if_neg, *]; rfl)
def knw (t : Int) : Bool := decide (t = 1) || decide (t = 2) || decide (t = 5) || decide (t = 6) || decide (t = 12) || decide (t = 15) || decide (t = 16) || decide (t = 28) || decide (t = 33) || decide (t = 39) || decide (t = 43) || decide (t = 46) || decide (t = 47) || decide (t = 48)
theorem Kx1 (t : Int) : decide (mnem t ≠ []) = knw t := by
 unfold mnem knw
 rcases t15 t with rfl | rfl | rfl | rfl | rfl | rfl | rfl | rfl | rfl | rfl | rfl | rfl | rfl | rfl | ⟨h0, h1, h2, h3, h4, h5, h6, h7, h8, h9, h10, h11, h12, h13⟩
 all_goals simp [*]
theorem Ak1 (t : Int) : S Bj8 1 [.i .i64 t] = some [.b (knw t)] := by
 refine Mj4 (N := 1) rfl ?_
 simp (disch := omega) only [Ll5, Ff4, Kx1, EVP, ↓reduceIte, EV, Nat.reduceAdd, Nat.reduceEqDiff, Int.reduceToNat, reduceCtorEq]
theorem Dm6 (t : Int) : S Df8 1 [.i .i64 t] = some [.b (decide (t = 6) || decide (t = 5) || decide (t = 39))] := by
 refine Mj1 (N := 1) rfl ?_
 simp (disch := omega) only [Ll3, EVP, ↓reduceIte, EV, Nat.reduceAdd, Nat.reduceEqDiff, Int.reduceToNat, reduceCtorEq]
def Bx8 (d : Dat) : Bool := d.v6 || (decide (d.hi = 0) && decide (d.lo < 4294967296))
theorem Dm4 (d : Dat) : S Ck2 1 [Ag2 d] = some [.b (Bx8 d)] := by
 refine Ls4 (N := 1) rfl ?_
 unfold Bx8
 cases h : d.v6 <;> by_cases h2 : d.hi = 0 <;> simp (disch := omega) [Lh6, h, h2, EVP, ↓reduceIte, EV, Nat.reduceAdd, Nat.reduceEqDiff, Int.reduceToNat, reduceCtorEq]
def inB (n most : Int) : Bool := decide (0 ≤ n) && decide (n ≤ most)
theorem Gh0 (n m : Int) : S Ax3 2 [.i .i64 n, .i .i64 m] = some [.b (inB n m)] := by
 refine Ls1 (N := 1) rfl ?_
 simp (disch := omega) only [Lh4, inB, EVP, ↓reduceIte, EV, Nat.reduceAdd, Nat.reduceEqDiff, Int.reduceToNat, reduceCtorEq]
theorem Jn5 (n : Int) : S Dd6 1 [.i .i64 n] = some [.b (inB n 4294967295)] := by
 refine Ls2 (N := 1) rfl ?_
 simp (disch := omega) only [Lh5, inB, EVP, ↓reduceIte, EV, Nat.reduceAdd, Nat.reduceEqDiff, Int.reduceToNat, reduceCtorEq]
 congr 5
 simp; omega
def As1 (s : List UInt8) : Bool := decide (1 ≤ s.length) && decide (s.length ≤ 255)
theorem Cw5 (s : List UInt8) : S Bf4 1 [.s s] = some [.b (As1 s)] := by
 refine Ls0 (N := 1) rfl ?_
 simp (disch := omega) only [Lh3, As1, EVP, ↓reduceIte, EV, Nat.reduceAdd, Nat.reduceEqDiff, Int.reduceToNat, reduceCtorEq]
 congr 5 <;> simp <;> omega
theorem Gp0 {n : List UInt8} (h : vld n = true) : 0 < n.length := by
 unfold vld nm at h
 split at h
 ·rename_i e; simp [e]
 ·split at h
  ·omega
  ·cases h
def Af5 (n : List UInt8) : Bool := vld n && decide (n[0]? ≠ some 42)
theorem Az3 (n : List UInt8) (hn : n.length ≤ 9223372036854775807) : S Ar8 1 [.s n] = some [.b (Af5 n)] := by
 refine Ls3 (N := 1) rfl ?_
 unfold Af5
 cases h : vld n
 ·simp (disch := omega) only [Kd2, Aq6, h, EVP, ↓reduceIte, EV, Nat.reduceAdd, Nat.reduceEqDiff, Int.reduceToNat, reduceCtorEq]
  rfl
 ·have h0 := List.getElem?_eq_getElem (Gp0 h)
  have h1 := Js5 (n[0]'(Gp0 h)) 42 (by omega)
  simp (disch := omega) only [Kd2, Aq6, h, h0, EVP, ↓reduceIte, EV, Nat.reduceAdd, Nat.reduceEqDiff, Int.reduceToNat, reduceCtorEq]
  simp
  exact h1
def bit (set : Int) (t : Nat) : Int := set / 2 ^ t % 2
theorem and1 (x : Int) : IntKind.u64.wrap ((BitVec.ofInt IntKind.u64.bits x &&& BitVec.ofInt IntKind.u64.bits 1).toNat : Int) = x % 2 := by
 have h2 : (BitVec.ofInt 64 x &&& BitVec.ofInt 64 1).toNat = (BitVec.ofInt 64 x).toNat % 2 := by
  rw [BitVec.toNat_and]
  show (BitVec.ofInt 64 x).toNat &&& 1 = _
  exact Nat.and_one_is_mod _
 show IntKind.u64.wrap (((BitVec.ofInt 64 x &&& BitVec.ofInt 64 1).toNat : Nat) : Int) = _
 rw [h2, BitVec.toNat_ofInt]
 rw [wu64] <;> omega
end Go.X.G
/- Data of records: bytes. -/
namespace Go.X.G
open Go Go.X

def allK (set : Int) (i : Nat) : Nat → Bool
 | 0 => true
 | k + 1 => (!decide (bit set i = 1) || knw (i : Int)) && allK set (i + 1) k
theorem Mg4 (set : Int) (N : Nat) (hN : 64 < N) :
  Hh2.ev S N [.i .u64 set] = some (if allK set 0 64 = true then .yld 0 [] else .ret [.b false]) := by
 refine Ay0 64 (fun i => [.i .i64 (i : Int)]) (fun i => if allK set i (64 - i) = true then .yld 0 [] else .ret [.b false]) rfl hN (fun i hi => ?_) ?_
 ·obtain ⟨k, hk⟩ : ∃ k, 64 - i = k + 1 := ⟨63 - i, by omega⟩
  have hk' : 64 - (i + 1) = k := by omega
  have hb : IntKind.u64.bits = 64 := rfl
  have hi' : i < IntKind.u64.bits := by rw [hb]; exact hi
  have h0 : X.bin .shr (.i .u64 set) (.i .u64 (i : Int)) = some (.i .u64 (set / 2 ^ i)) := Lm7 _ _ _ _ hi'
  have h1 : set / 2 ^ i % 2 = bit set i := rfl
  rw [hk, hk']
  simp only [allK]
  by_cases h2 : bit set i = 1 <;> rcases Bool.eq_false_or_eq_true (knw (i : Int)) with h3 | h3 <;> simp (disch := omega) only [Gn4, Ak1, Fc6, and1, h0, h1, h2, h3, EVP, ↓reduceIte, EV, Nat.reduceAdd, Nat.reduceEqDiff, Int.reduceToNat, reduceCtorEq]
  all_goals simp [Out.goes]
 ·simp (disch := omega) [Gn4, EVP, ↓reduceIte, EV, Nat.reduceAdd, Nat.reduceEqDiff, Int.reduceToNat, reduceCtorEq, Out.goes, allK]
theorem Mg3 (set : Int) : S Dd5 1 [.i .u64 set] = some [.b (allK set 0 64)] := by
 refine Lr9 (N := 65) rfl ?_
 simp (disch := omega) only [Gn4, Mg4, EVP, ↓reduceIte, EV, Nat.reduceAdd, Nat.reduceEqDiff, Int.reduceToNat, reduceCtorEq]
 cases allK set 0 64 <;> rfl

def be (v : Int) : Nat → List UInt8
 | 0 => []
 | n + 1 => UInt8.ofNat (v / 256 ^ n % 256).toNat :: be v n
theorem Ad0 (v : Int) : ∀ n, (be v n).length = n
 | 0 => rfl
 | n + 1 => by simp [be, Ad0 v n]
theorem Ds6 (z : Int) (h1 : 0 ≤ z) (h2 : z < 256) : ((UInt8.ofNat z.toNat).toNat : Int) = z := by
 simp; omega
theorem Hn3 (v : Int) (j : Nat) : v / 256 ^ j / 256 = v / 256 ^ (j + 1) := by
 rw [Int.pow_succ, Int.ediv_ediv_of_nonneg (Int.le_of_lt (Int.pow_pos (by decide)))]
theorem Fn2 (v : Int) (j : Nat) (h : 0 ≤ v) : 0 ≤ v / 256 ^ j := Int.ediv_nonneg h (Int.le_of_lt (Int.pow_pos (by decide)))
theorem Fn3 (v : Int) (j : Nat) (h : 0 ≤ v) : v / 256 ^ j ≤ v := Int.ediv_le_self _ h

theorem Hy7 (v : Int) (n i : Nat) (p q : PV) (N : Nat) (hN : i < N) (hi : i ≤ 1000) (h0 : 0 ≤ v) (h1 : v ≤ 18446744073709551615) :
  Hg4.ev S N [.i .u64 v, p, q, .i .i64 (i : Int)] = some (.yld 2 [.i .u64 (v / 256 ^ i)]) := by
 refine Ay0 i (fun j => [.i .u64 (v / 256 ^ j), .i .i64 (j : Int)]) (fun j => .yld 2 [.i .u64 (v / 256 ^ i)]) (by simp [Cz8, Ej6, ev_v, ev_c]) hN (fun j hj => ?_) ?_
 ·left
  have h2 := Fn2 v j h0
  have h3 := Fn3 v j h0
  have h4 := Hn3 v j
  simp (disch := omega) only [Dx0, h4, EVP, ↓reduceIte, EV, Nat.reduceAdd, Nat.reduceEqDiff, Int.reduceToNat, reduceCtorEq]
  simp
 ·simp (disch := omega) only [Dx0, EVP, ↓reduceIte, EV, Nat.reduceAdd, Nat.reduceEqDiff, Int.reduceToNat, reduceCtorEq]
  simp [Out.goes]
theorem Hy8 (v : Int) (n : Nat) (N : Nat) (hN : n + 1 < N) (hn : n ≤ 1000) (h0 : 0 ≤ v) (h1 : v ≤ 18446744073709551615) :
  Dt4.ev S N [.i .u64 v, .i .i64 (n : Int)] = some (.yld 0 [.l 1 (Ak4 (be v n))]) := by
 have key := Ax4 (fn := S) (N := N) (η := [.i .u64 v, .i .i64 (n : Int)]) (id := 1) (init := [(.c (.l 1 [])), (.bin .sub (.v 1) (.c (.i .i64 (1))))]) (body := Dq9) (α := Nat × List UInt8) (fun a => [.l 1 (Ak4 a.2), .i .i64 ((a.1 : Int) - 1)]) (fun a => .yld 0 [.l 1 (Ak4 (a.2 ++ be v a.1))]) (fun a => a.1 + a.2.length = n) (fun a => a.1) (n, []) (by simp (disch := omega) only [EVP, ↓reduceIte, EV, Nat.reduceAdd, Nat.reduceEqDiff, Int.reduceToNat, reduceCtorEq]; rfl) rfl (by simp only; omega) ?_
 ·simpa [Dt4] using key
 ·rintro ⟨m, acc⟩ hm
  simp only at hm ⊢
  cases m with
  | zero =>
    right
    simp (disch := omega) only [Dx0, EVP, ↓reduceIte, EV, Nat.reduceAdd, Nat.reduceEqDiff, Int.reduceToNat, reduceCtorEq]
    simp [be, Out.goes]
  | succ m =>
    left
    have h2 := Fn2 v m h0
    have h3 := Fn3 v m h0
    have e : ((m + 1 : Nat) : Int) - 1 = (m : Int) := by omega
    have e2 := Ds6 (v / 256 ^ m % 256) (by omega) (by omega)
    have e3 := Bq3 acc
    refine ⟨(m, acc ++ [UInt8.ofNat (v / 256 ^ m % 256).toNat]), ?_, by simp; omega, by simp, by simp [be]⟩
    rw [e]
    have hin := Hy7 v n m (.i .i64 (n : Int)) (.l 1 (Ak4 acc)) N (by omega) (by omega) h0 h1
    simp (disch := omega) only [Dx0, hin, EVP, ↓reduceIte, EV, Nat.reduceAdd, Nat.reduceEqDiff, Int.reduceToNat, reduceCtorEq]
    rw [← Bw4, e2]
theorem Bf1 (v : Int) (n : Nat) (hn : n ≤ 1000) (h0 : 0 ≤ v) (h1 : v ≤ 18446744073709551615) : S Bf2 2 [.i .u64 v, .i .i64 (n : Int)] = some [.s (be v n)] := by
 refine Ln7 (N := n + 2) rfl ?_
 simp (disch := omega) only [Dx0, Hy8, EVP, ↓reduceIte, EV, Nat.reduceAdd, Nat.reduceEqDiff, Int.reduceToNat, reduceCtorEq]

theorem Jn6 (v : Int) (n i : Nat) (p q : PV) (N : Nat) (hN : i < N) (hi : i ≤ 1000) (h0 : 0 ≤ v) (h1 : v ≤ 9223372036854775807) :
  Hg6.ev S N [.i .i64 v, p, q, .i .i64 (i : Int)] = some (.yld 2 [.i .i64 (v / 256 ^ i)]) := by
 refine Ay0 i (fun j => [.i .i64 (v / 256 ^ j), .i .i64 (j : Int)]) (fun j => .yld 2 [.i .i64 (v / 256 ^ i)]) (by simp [Cz8, Ej6, ev_v, ev_c]) hN (fun j hj => ?_) ?_
 ·left
  have h2 := Fn2 v j h0
  have h3 := Fn3 v j h0
  have h4 := Hn3 v j
  simp (disch := omega) only [Dx1, h4, EVP, ↓reduceIte, EV, Nat.reduceAdd, Nat.reduceEqDiff, Int.reduceToNat, reduceCtorEq]
  simp
 ·simp (disch := omega) only [Dx1, EVP, ↓reduceIte, EV, Nat.reduceAdd, Nat.reduceEqDiff, Int.reduceToNat, reduceCtorEq]
  simp [Out.goes]
theorem Jn7 (v : Int) (n : Nat) (N : Nat) (hN : n + 1 < N) (hn : n ≤ 1000) (h0 : 0 ≤ v) (h1 : v ≤ 9223372036854775807) :
  Dt5.ev S N [.i .i64 v, .i .i64 (n : Int)] = some (.yld 0 [.l 1 (Ak4 (be v n))]) := by
 have key := Ax4 (fn := S) (N := N) (η := [.i .i64 v, .i .i64 (n : Int)]) (id := 1) (init := [(.c (.l 1 [])), (.bin .sub (.v 1) (.c (.i .i64 (1))))]) (body := Dv0) (α := Nat × List UInt8) (fun a => [.l 1 (Ak4 a.2), .i .i64 ((a.1 : Int) - 1)]) (fun a => .yld 0 [.l 1 (Ak4 (a.2 ++ be v a.1))]) (fun a => a.1 + a.2.length = n) (fun a => a.1) (n, []) (by simp (disch := omega) only [EVP, ↓reduceIte, EV, Nat.reduceAdd, Nat.reduceEqDiff, Int.reduceToNat, reduceCtorEq]; rfl) rfl (by simp only; omega) ?_
 ·simpa [Dt5] using key
 ·rintro ⟨m, acc⟩ hm
  simp only at hm ⊢
  cases m with
  | zero =>
    right
    simp (disch := omega) only [Dx1, EVP, ↓reduceIte, EV, Nat.reduceAdd, Nat.reduceEqDiff, Int.reduceToNat, reduceCtorEq]
    simp [be, Out.goes]
  | succ m =>
    left
    have h2 := Fn2 v m h0
    have h3 := Fn3 v m h0
    have e : ((m + 1 : Nat) : Int) - 1 = (m : Int) := by omega
    have e2 := Ds6 (v / 256 ^ m % 256) (by omega) (by omega)
    have e3 := Bq3 acc
    refine ⟨(m, acc ++ [UInt8.ofNat (v / 256 ^ m % 256).toNat]), ?_, by simp; omega, by simp, by simp [be]⟩
    rw [e]
    have hin := Jn6 v n m (.i .i64 (n : Int)) (.l 1 (Ak4 acc)) N (by omega) (by omega) h0 h1
    simp (disch := omega) only [Dx1, hin, EVP, ↓reduceIte, EV, Nat.reduceAdd, Nat.reduceEqDiff, Int.reduceToNat, reduceCtorEq]
    rw [← Bw4, e2]
theorem An2 (v : Int) (n : Nat) (hn : n ≤ 1000) (h0 : 0 ≤ v) (h1 : v ≤ 9223372036854775807) : S Aq9 2 [.i .i64 v, .i .i64 (n : Int)] = some [.s (be v n)] := by
 refine Lp0 (N := n + 2) rfl ?_
 simp (disch := omega) only [Dx1, Jn7, EVP, ↓reduceIte, EV, Nat.reduceAdd, Nat.reduceEqDiff, Int.reduceToNat, reduceCtorEq]
end Go.X.G
/- Data of records: the wire form. -/
namespace Go.X.G
open Go Go.X

theorem Dh1 {s : List UInt8} (h : Ab9 s = true) : s.length ≤ 63 := by
 unfold Ab9 at h
 simp at h
 rcases h with h | h
 ·simp [h]
 ·omega
theorem Cw6 : ∀ (r : List UInt8) (f : Bool) (cur : List UInt8) (l : List (List UInt8)), spl f cur r = some l → ∀ x ∈ l, Ab9 x = true
 | [], f, cur, l, h => by simp [spl] at h; subst h; simp
 | c :: r, f, cur, l, h => by
   simp only [spl] at h
   split at h
   ·split at h
    ·rename_i h2
     obtain ⟨m, hm, rfl⟩ := Option.map_eq_some_iff.1 h
     intro x hx
     simp at hx
     rcases hx with rfl | hx
     ·exact h2.1
     ·exact Cw6 r _ _ _ hm x hx
    ·cases h
   ·exact Cw6 r _ _ _ h
theorem Cz0 (n : List UInt8) : ∀ x ∈ lbl n, Ab9 x = true := by
 unfold lbl nm
 split
 ·simp
 ·split
  ·cases h : spl true [] n with
   | none => simp
   | some l => simpa using Cw6 _ _ _ _ h
  ·simp

def Dx8 (l : List (List UInt8)) : List UInt8 := l.flatMap fun x => be (x.length : Int) 1 ++ x
def Bl3 (n : List UInt8) : List UInt8 := Dx8 (lbl n) ++ be 0 1
theorem Bb5 : ∀ (l : List (List UInt8)), (∀ x ∈ l, Ab9 x = true) → (Dx8 l).length ≤ 64 * l.length
 | [], _ => by simp [Dx8]
 | x :: l, h => by
   have h1 := Dh1 (h x (by simp))
   have h2 := Bb5 l (fun y hy => h y (by simp [hy]))
   simp only [Dx8, List.flatMap_cons, List.length_append, Ad0, List.length_cons] at h2 ⊢
   omega
theorem Dx7 (n : List UInt8) : (Bl3 n).length ≤ 20000 := by
 have h1 := Bb5 (lbl n) (Cz0 n)
 have h2 := Av6 n
 simp only [Bl3, List.length_append, Ad0]
 omega
theorem Ff3 (n : List UInt8) (N : Nat) (hN : 254 < N) :
  Dt6.ev S N [.s n, Aj3 (lbl n)] = some (.yld 0 [.s (Dx8 (lbl n))]) := by
 have hl := Av6 n
 have key := Ak5 (fn := S) (N := N) (η := [.s n, Aj3 (lbl n)]) (id := 1) (init := [(.c (.s [])), (.c (.i .i64 (0)))]) (body := Dv1) (lbl n) (fun i (g : List UInt8) => [.s g, .i .i64 (i : Int)]) (fun i g r => .yld 0 [.s (g ++ Dx8 r)]) (fun i g => g.length ≤ 64 * i) [] rfl (Nat.le_refl _) (by omega) (fun i g c r hd hi hc hI => ?_) (fun g hI => ?_)
 ·simpa [Dt6] using key
 ·left
  have h1 := Dh1 (Cz0 n c (List.mem_of_getElem? hc))
  have h2 := An2 (c.length : Int) 1 (by omega) (by omega) (by omega)
  have h3 := Ad0 (c.length : Int) 1
  have h4 : (be (c.length : Int) 1 ++ c).length = 1 + c.length := by rw [List.length_append, h3]
  refine ⟨g ++ (be (c.length : Int) 1 ++ c), ?_, ?_, ?_⟩
  ·simp only [Int.natCast_one] at h2
   simp (disch := omega) only [Gn2, hc, h2, EVP, ↓reduceIte, EV, Nat.reduceAdd, Nat.reduceEqDiff, Int.reduceToNat, reduceCtorEq]
  ·rw [List.length_append, h4]; omega
  ·simp [Dx8]
 ·simp (disch := omega) only [Gn2, EVP, ↓reduceIte, EV, Nat.reduceAdd, Nat.reduceEqDiff, Int.reduceToNat, reduceCtorEq]
  simp [Out.goes, Dx8]
theorem Aq3 (n : List UInt8) (hn : n.length ≤ 9223372036854775807) : S Am2 1 [.s n] = some [.s (Bl3 n)] := by
 refine Lp1 (N := 255) rfl ?_
 have h1 := Bb5 (lbl n) (Cz0 n)
 have h2 := Av6 n
 have h3 := Ad0 0 1
 have h4 := An2 0 1 (by omega) (by omega) (by omega)
 simp only [Int.natCast_one] at h4
 simp (disch := omega) only [Gn2, Az1, Ff3, h4, EVP, ↓reduceIte, EV, Nat.reduceAdd, Nat.reduceEqDiff, Int.reduceToNat, reduceCtorEq]
 rfl

def bmV (set : Int) (i : Nat) : Nat → Int
 | 0 => 0
 | j + 1 => bmV set i j * 2 + bit set (i * 8 + j)
theorem Kn4 (set : Int) (t : Nat) : 0 ≤ bit set t ∧ bit set t ≤ 1 := by unfold bit; omega
theorem Jf2 (set : Int) (i : Nat) : ∀ j, 0 ≤ bmV set i j ∧ bmV set i j < 2 ^ j
 | 0 => by simp [bmV]
 | j + 1 => by
   have h1 := Jf2 set i j
   have h2 := Kn4 set (i * 8 + j)
   simp only [bmV, Int.pow_succ]
   omega
def bmB (set : Int) (i : Nat) : UInt8 := UInt8.ofNat (bmV set i 8).toNat
def bmL (set : Int) : Nat → Nat
 | 0 => 0
 | i + 1 => if bmV set i 8 ≠ 0 then i + 1 else bmL set i
theorem Kn2 (set : Int) : ∀ i, bmL set i ≤ i
 | 0 => Nat.le_refl _
 | i + 1 => by have := Kn2 set i; simp only [bmL]; split <;> omega
def bmap (set : Int) : List UInt8 := ((List.range 8).map (bmB set)).take (bmL set 8)
theorem Jf6 (set : Int) (p q : PV) (i : Nat) (hi : i < 8) (N : Nat) (hN : 8 < N) :
  Hg5.ev S N [.i .u64 set, p, q, .i .i64 (i : Int)] = some (.yld 2 [.i .i64 (bmV set i 8)]) := by
 refine Ay0 8 (fun j => [.i .i64 (bmV set i j), .i .i64 (j : Int)]) (fun j => .yld 2 [.i .i64 (bmV set i 8)]) rfl hN (fun j hj => ?_) ?_
 ·left
  have hb : IntKind.u64.bits = 64 := rfl
  have hi' : i * 8 + j < IntKind.u64.bits := by rw [hb]; omega
  have e : ((i : Int) * 8 + (j : Int)) = ((i * 8 + j : Nat) : Int) := by simp
  have h0 : X.bin .shr (.i .u64 set) (.i .u64 ((i * 8 + j : Nat) : Int)) = some (.i .u64 (set / 2 ^ (i * 8 + j))) := Lm7 _ _ _ _ hi'
  have h1 : set / 2 ^ (i * 8 + j) % 2 = bit set (i * 8 + j) := rfl
  have h2 := Jf2 set i j
  have h3 : (2 : Int) ^ j ≤ 128 := (by decide : ∀ j, j < 8 → (2 : Int) ^ j ≤ 128) j hj
  have h4 := Kn4 set (i * 8 + j)
  simp (disch := omega) only [Bm3, Fc6, and1, h0, h1, ← e, EVP, ↓reduceIte, EV, Nat.reduceAdd, Nat.reduceEqDiff, Int.reduceToNat, reduceCtorEq]
  refine ⟨?_, trivial⟩
  rw [e, h0]
  simp (disch := omega) only [Fc6, and1, h0, h1, EVP, ↓reduceIte, EV, Nat.reduceAdd, Nat.reduceEqDiff, Int.reduceToNat, reduceCtorEq]
  rfl
 ·simp (disch := omega) only [Bm3, EVP, ↓reduceIte, EV, Nat.reduceAdd, Nat.reduceEqDiff, Int.reduceToNat, reduceCtorEq]
  simp [Out.goes]

theorem Jf7 (set : Int) (N : Nat) (hN : 8 < N) :
  Hh0.ev S N [.i .u64 set] = some (.yld 0 [.l 1 (Ak4 ((List.range 8).map (bmB set))), .i .i64 (bmL set 8 : Int)]) := by
 refine Ay0 8 (fun i => [.l 1 (Ak4 ((List.range i).map (bmB set))), .i .i64 (bmL set i : Int), .i .i64 (i : Int)]) (fun _ => .yld 0 [.l 1 (Ak4 ((List.range 8).map (bmB set))), .i .i64 (bmL set 8 : Int)]) rfl hN (fun i hi => ?_) ?_
 ·left
  have h1 := Jf6 set (.l 1 (Ak4 ((List.range i).map (bmB set)))) (.i .i64 (bmL set i : Int)) i hi N hN
  have h2 := Jf2 set i 8
  have h3 : (2 : Int) ^ 8 = 256 := rfl
  have h4 := Ds6 (bmV set i 8) (by omega) (by omega)
  have h5 : (Ak4 ((List.range i).map (bmB set))).length = i := by simp [Bq3]
  have h6 : Ak4 ((List.range (i + 1)).map (bmB set)) = Ak4 ((List.range i).map (bmB set)) ++ [.i .u8 (bmV set i 8)] := by
   rw [List.range_succ, List.map_append, ← h4]
   exact (Bw4 _ _).symm
  rw [h6]
  by_cases h7 : bmV set i 8 = 0
  ·simp (disch := omega) only [Bm3, h1, bmL, h7, EVP, ↓reduceIte, EV, Nat.reduceAdd, Nat.reduceEqDiff, Int.reduceToNat, reduceCtorEq]
   simp
  ·simp (disch := omega) only [Bm3, h1, bmL, EVP, ↓reduceIte, EV, Nat.reduceAdd, Nat.reduceEqDiff, Int.reduceToNat, reduceCtorEq]
   simp [h7]
 ·simp (disch := omega) only [Bm3, EVP, ↓reduceIte, EV, Nat.reduceAdd, Nat.reduceEqDiff, Int.reduceToNat, reduceCtorEq]
  simp [Out.goes]
theorem Jf5 (set : Int) : S Dc6 1 [.i .u64 set] = some [.s (bmap set)] := by
 refine Ln9 (N := 9) rfl ?_
 have h1 := Kn2 set 8
 have h2 : (Ak4 ((List.range 8).map (bmB set))).length = 8 := by simp [Bq3]
 have h3 : List.drop 0 (List.take (bmL set 8) (Ak4 ((List.range 8).map (bmB set)))) = Ak4 (bmap set) := by
  simp only [List.drop_zero, bmap, Ak4, List.map_take]
 simp (disch := omega) only [Bm3, Jf7, h3, EVP, ↓reduceIte, EV, Nat.reduceAdd, Nat.reduceEqDiff, Int.reduceToNat, reduceCtorEq]
theorem Kb4 (set : Int) : (bmap set).length ≤ 8 := by simp [bmap]; omega

def Kp3 (d : Dat) : List UInt8 := if d.v6 then be d.hi 8 ++ be d.lo 8 else be d.lo 4
theorem Fs3 (d : Dat) (h : d.wf) : S Dc7 1 [Ag2 d] = some (if Bx8 d = true then [.s (Kp3 d), .i .i64 0] else [.s [], .i .i64 3]) := by
 refine Lp2 (N := 1) rfl ?_
 have h1 := h.hi
 have h2 := h.lo
 have a1 := Bf1 d.hi 8 (by omega) h1.1 h1.2
 have a2 := Bf1 d.lo 8 (by omega) h2.1 h2.2
 have a3 := Bf1 d.lo 4 (by omega) h2.1 h2.2
 have b1 := Ad0 d.hi 8
 have b2 := Ad0 d.lo 8
 simp only [Int.cast_ofNat_Int] at a1 a2 a3
 unfold Kp3
 rcases Bool.eq_false_or_eq_true (Bx8 d) with h3 | h3 <;> rcases Bool.eq_false_or_eq_true d.v6 with h4 | h4 <;> simp (disch := omega) only [Lg4, Dm4, h3, h4, a1, a2, a3, EVP, ↓reduceIte, EV, Nat.reduceAdd, Nat.reduceEqDiff, Int.reduceToNat, reduceCtorEq]

def usd (t : Int) (d : Dat) : Dat :=
 if t = 1 ∨ t = 28 then ⟨d.v6, d.hi, d.lo, [], [], [], 0, 0, 0, 0, 0, 0, 0⟩
 else if t = 2 ∨ t = 5 ∨ t = 12 ∨ t = 39 then ⟨false, 0, 0, d.host, [], [], 0, 0, 0, 0, 0, 0, 0⟩
 else if t = 6 then ⟨false, 0, 0, d.host, d.mail, [], d.a, d.b, d.c, d.d, d.e, 0, 0⟩
 else if t = 15 then ⟨false, 0, 0, d.host, [], [], d.a, 0, 0, 0, 0, 0, 0⟩
 else if t = 16 then ⟨false, 0, 0, [], [], d.text, 0, 0, 0, 0, 0, 0, 0⟩
 else if t = 33 then ⟨false, 0, 0, d.host, [], [], d.a, d.b, d.c, 0, 0, 0, 0⟩
 else if t = 43 ∨ t = 48 then ⟨false, 0, 0, [], [], d.text, d.a, d.b, d.c, 0, 0, 0, 0⟩
 else if t = 46 then ⟨false, 0, 0, d.host, [], d.text, d.a, d.b, d.c, d.d, d.e, d.f, 0⟩
 else ⟨false, 0, 0, d.host, [], [], 0, 0, 0, 0, 0, 0, d.bits⟩
theorem Ax7 (t : Int) (d : Dat) : S Dd7 2 [.i .i64 t, d.pv] = some [(usd t d).pv] := by
 refine Ls5 (N := 1) rfl ?_
 rcases t15 t with rfl | rfl | rfl | rfl | rfl | rfl | rfl | rfl | rfl | rfl | rfl | rfl | rfl | rfl | ⟨h0, h1, h2, h3, h4, h5, h6, h7, h8, h9, h10, h11, h12, h13⟩
 all_goals simp (disch := omega) only [Lh7, EVP, ↓reduceIte, EV, Nat.reduceAdd, Nat.reduceEqDiff, Int.reduceToNat, reduceCtorEq]
 all_goals first | rfl | (unfold usd; simp [*])
end Go.X.G
/- Data of records: which are valid. -/
namespace Go.X.G
open Go Go.X

def Aw3 (t : Int) (d : Dat) : Bool :=
 if t = 1 then Bx8 d && !d.v6
 else if t = 28 then d.v6
 else if t = 6 then Af5 d.host && Af5 d.mail && inB d.a 4294967295 && inB d.b 2147483647 && inB d.c 2147483647 && inB d.d 2147483647 && inB d.e 2147483647
 else if t = 15 then Af5 d.host && inB d.a 65535
 else if t = 16 then decide (d.text.length ≤ 255)
 else if t = 33 then Af5 d.host && inB d.a 65535 && inB d.b 65535 && inB d.c 65535
 else if t = 43 then inB d.a 65535 && inB d.b 255 && inB d.c 255 && As1 d.text
 else if t = 46 then knw d.a && decide (d.a ≠ 46) && inB d.b 127 && inB d.c 2147483647 && inB d.d 4294967295 && inB d.e 4294967295 && inB d.f 65535 && Af5 d.host && As1 d.text
 else if t = 47 then vld d.host && decide (d.bits ≠ 0) && allK d.bits 0 64
 else if t = 48 then (decide (d.a = 256) || decide (d.a = 257)) && decide (d.b = 3) && inB d.c 255 && As1 d.text
 else Af5 d.host
def vldD (t : Int) (d : Dat) : Bool := knw t && decide (usd t d = d) && Aw3 t d
theorem Aq5 (t : Int) (d : Dat) (h : d.wf) : S Ck7 2 [.i .i64 t, d.pv] = some [.b (vldD t d)] := by
 refine Mj3 (N := 1) rfl ?_
 have g1 := h.host
 have g2 := h.mail
 have g3 := h.text
 unfold strr at g1 g2 g3
 rcases Bool.eq_false_or_eq_true (knw t) with hk | hk
 ·by_cases hu : usd t d = d
  ·rcases t15 t with rfl | rfl | rfl | rfl | rfl | rfl | rfl | rfl | rfl | rfl | rfl | rfl | rfl | rfl | ⟨h0, h1, h2, h3, h4, h5, h6, h7, h8, h9, h10, h11, h12, h13⟩
   ·rcases ch2 (Bx8 d) (d.v6) with e0 | ⟨e0, e1⟩ | ⟨e0, e1⟩
    all_goals simp (disch := omega) only [Ab7, Ak1, Ax7, Dm4, EVP, ↓reduceIte, EV, Nat.reduceAdd, Nat.reduceEqDiff, Int.reduceToNat, reduceCtorEq, hk, hu, *]
    all_goals (unfold vldD Aw3; simp [*])
   ·simp (disch := omega) only [Ab7, Ak1, Ax7, Az3, EVP, ↓reduceIte, EV, Nat.reduceAdd, Nat.reduceEqDiff, Int.reduceToNat, reduceCtorEq, hk, hu]
    unfold vldD Aw3; simp [*]
   ·simp (disch := omega) only [Ab7, Ak1, Ax7, Az3, EVP, ↓reduceIte, EV, Nat.reduceAdd, Nat.reduceEqDiff, Int.reduceToNat, reduceCtorEq, hk, hu]
    unfold vldD Aw3; simp [*]
   ·rcases ch7 (Af5 d.host) (Af5 d.mail) (inB d.a 4294967295) (inB d.b 2147483647) (inB d.c 2147483647) (inB d.d 2147483647) (inB d.e 2147483647) with e0 | ⟨e0, e1⟩ | ⟨e0, e1, e2⟩ | ⟨e0, e1, e2, e3⟩ | ⟨e0, e1, e2, e3, e4⟩ | ⟨e0, e1, e2, e3, e4, e5⟩ | ⟨e0, e1, e2, e3, e4, e5, e6⟩ | ⟨e0, e1, e2, e3, e4, e5, e6⟩
    all_goals simp (disch := omega) only [Ab7, Ak1, Ax7, Az3, Jn5, Gh0, EVP, ↓reduceIte, EV, Nat.reduceAdd, Nat.reduceEqDiff, Int.reduceToNat, reduceCtorEq, hk, hu, *]
    all_goals (unfold vldD Aw3; simp [*])
   ·simp (disch := omega) only [Ab7, Ak1, Ax7, Az3, EVP, ↓reduceIte, EV, Nat.reduceAdd, Nat.reduceEqDiff, Int.reduceToNat, reduceCtorEq, hk, hu]
    unfold vldD Aw3; simp [*]
   ·rcases ch2 (Af5 d.host) (inB d.a 65535) with e0 | ⟨e0, e1⟩ | ⟨e0, e1⟩
    all_goals simp (disch := omega) only [Ab7, Ak1, Ax7, Az3, Gh0, EVP, ↓reduceIte, EV, Nat.reduceAdd, Nat.reduceEqDiff, Int.reduceToNat, reduceCtorEq, hk, hu, *]
    all_goals (unfold vldD Aw3; simp [*])
   ·simp (disch := omega) only [Ab7, Ak1, Ax7, Az3, EVP, ↓reduceIte, EV, Nat.reduceAdd, Nat.reduceEqDiff, Int.reduceToNat, reduceCtorEq, hk, hu]
    unfold vldD Aw3; simp [*]; omega
   ·simp (disch := omega) only [Ab7, Ak1, Ax7, Az3, EVP, ↓reduceIte, EV, Nat.reduceAdd, Nat.reduceEqDiff, Int.reduceToNat, reduceCtorEq, hk, hu]
    unfold vldD Aw3; simp [*]
   ·rcases ch4 (Af5 d.host) (inB d.a 65535) (inB d.b 65535) (inB d.c 65535) with e0 | ⟨e0, e1⟩ | ⟨e0, e1, e2⟩ | ⟨e0, e1, e2, e3⟩ | ⟨e0, e1, e2, e3⟩
    all_goals simp (disch := omega) only [Ab7, Ak1, Ax7, Az3, Gh0, EVP, ↓reduceIte, EV, Nat.reduceAdd, Nat.reduceEqDiff, Int.reduceToNat, reduceCtorEq, hk, hu, *]
    all_goals (unfold vldD Aw3; simp [*])
   ·simp (disch := omega) only [Ab7, Ak1, Ax7, Az3, EVP, ↓reduceIte, EV, Nat.reduceAdd, Nat.reduceEqDiff, Int.reduceToNat, reduceCtorEq, hk, hu]
    unfold vldD Aw3; simp [*]
   ·rcases ch4 (inB d.a 65535) (inB d.b 255) (inB d.c 255) (As1 d.text) with e0 | ⟨e0, e1⟩ | ⟨e0, e1, e2⟩ | ⟨e0, e1, e2, e3⟩ | ⟨e0, e1, e2, e3⟩
    all_goals simp (disch := omega) only [Ab7, Ak1, Ax7, Gh0, Cw5, EVP, ↓reduceIte, EV, Nat.reduceAdd, Nat.reduceEqDiff, Int.reduceToNat, reduceCtorEq, hk, hu, *]
    all_goals (unfold vldD Aw3; simp [*])
   ·rcases ch9 (knw d.a) (decide (d.a ≠ 46)) (inB d.b 127) (inB d.c 2147483647) (inB d.d 4294967295) (inB d.e 4294967295) (inB d.f 65535) (Af5 d.host) (As1 d.text) with e0 | ⟨e0, e1⟩ | ⟨e0, e1, e2⟩ | ⟨e0, e1, e2, e3⟩ | ⟨e0, e1, e2, e3, e4⟩ | ⟨e0, e1, e2, e3, e4, e5⟩ | ⟨e0, e1, e2, e3, e4, e5, e6⟩ | ⟨e0, e1, e2, e3, e4, e5, e6, e7⟩ | ⟨e0, e1, e2, e3, e4, e5, e6, e7, e8⟩ | ⟨e0, e1, e2, e3, e4, e5, e6, e7, e8⟩
    all_goals simp (disch := omega) only [Ab7, Ak1, Ax7, Az3, Gh0, Cw5, EVP, ↓reduceIte, EV, Nat.reduceAdd, Nat.reduceEqDiff, Int.reduceToNat, reduceCtorEq, hk, hu, *]
    all_goals (unfold vldD Aw3; simp [*])
   ·rcases ch3 (vld d.host) (decide (d.bits ≠ 0)) (allK d.bits 0 64) with e0 | ⟨e0, e1⟩ | ⟨e0, e1, e2⟩ | ⟨e0, e1, e2⟩
    all_goals simp (disch := omega) only [Ab7, Ak1, Ax7, Aq6, Mg3, EVP, ↓reduceIte, EV, Nat.reduceAdd, Nat.reduceEqDiff, Int.reduceToNat, reduceCtorEq, hk, hu, *]
    all_goals (unfold vldD Aw3; simp [*])
   ·rcases ch4 (decide (d.a = 256) || decide (d.a = 257)) (decide (d.b = 3)) (inB d.c 255) (As1 d.text) with e0 | ⟨e0, e1⟩ | ⟨e0, e1, e2⟩ | ⟨e0, e1, e2, e3⟩ | ⟨e0, e1, e2, e3⟩
    all_goals simp (disch := omega) only [Ab7, Ak1, Ax7, Gh0, Cw5, EVP, ↓reduceIte, EV, Nat.reduceAdd, Nat.reduceEqDiff, Int.reduceToNat, reduceCtorEq, hk, hu, *]
    all_goals (unfold vldD Aw3; simp [*])
   ·simp [knw, *] at hk
  ·simp (disch := omega) only [Ab7, Ak1, Ax7, EVP, ↓reduceIte, EV, Nat.reduceAdd, Nat.reduceEqDiff, Int.reduceToNat, reduceCtorEq, hk, hu]
   unfold vldD
   simp [hu]
 ·simp (disch := omega) only [Ab7, Ak1, EVP, ↓reduceIte, EV, Nat.reduceAdd, Nat.reduceEqDiff, Int.reduceToNat, reduceCtorEq, hk]
  unfold vldD
  simp [hk]

def Bl4 (t : Int) (d : Dat) : List UInt8 :=
 if t = 1 ∨ t = 28 then Kp3 d
 else if t = 6 then Bl3 d.host ++ Bl3 d.mail ++ be d.a 4 ++ be d.b 4 ++ be d.c 4 ++ be d.d 4 ++ be d.e 4
 else if t = 15 then be d.a 2 ++ Bl3 d.host
 else if t = 16 then be (d.text.length : Int) 1 ++ d.text
 else if t = 33 then be d.a 2 ++ be d.b 2 ++ be d.c 2 ++ Bl3 d.host
 else if t = 43 ∨ t = 48 then be d.a 2 ++ be d.b 1 ++ be d.c 1 ++ d.text
 else if t = 46 then be d.a 2 ++ be 253 1 ++ be d.b 1 ++ be d.c 4 ++ be d.d 4 ++ be d.e 4 ++ be d.f 2 ++ Bl3 d.host ++ d.text
 else if t = 47 then Bl3 d.host ++ be 0 1 ++ be ((bmap d.bits).length : Int) 1 ++ bmap d.bits
 else Bl3 d.host
theorem knw_cases {t : Int} (h : knw t = true) : t = 1 ∨ t = 2 ∨ t = 5 ∨ t = 6 ∨ t = 12 ∨ t = 15 ∨ t = 16 ∨ t = 28 ∨ t = 33 ∨ t = 39 ∨ t = 43 ∨ t = 46 ∨ t = 47 ∨ t = 48 := by
 simp [knw] at h; omega
theorem Bh8 (v : Int) (h0 : 0 ≤ v) (h1 : v ≤ 9223372036854775807) : S Aq9 2 [.i .i64 v, .i .i64 1] = some [.s (be v 1)] := An2 v 1 (by omega) h0 h1
theorem Bh7 (v : Int) (h0 : 0 ≤ v) (h1 : v ≤ 9223372036854775807) : S Aq9 2 [.i .i64 v, .i .i64 2] = some [.s (be v 2)] := An2 v 2 (by omega) h0 h1
theorem Jn8 (v : Int) (h0 : 0 ≤ v) (h1 : v ≤ 9223372036854775807) : S Aq9 2 [.i .i64 v, .i .i64 4] = some [.s (be v 4)] := An2 v 4 (by omega) h0 h1
theorem Bz6 (t : Int) (d : Dat) (h : d.wf) : S Cj6 2 [.i .i64 t, d.pv] = some (if vldD t d = true then [.s (Bl4 t d), .i .i64 0] else if knw t = true then [.s [], .i .i64 5] else [.s [], .i .i64 4]) := by
 refine Lp7 (N := 1) rfl ?_
 have g1 := h.host
 have g2 := h.mail
 have g3 := h.text
 unfold strr at g1 g2 g3
 have g4 := Dx7 d.host
 have g5 := Dx7 d.mail
 have g6 := Kb4 d.bits
 rcases Bool.eq_false_or_eq_true (knw t) with hk | hk
 ·rcases Bool.eq_false_or_eq_true (vldD t d) with hv | hv
  ·rw [if_pos hv]
   have hv' := hv
   rcases knw_cases hk with rfl | rfl | rfl | rfl | rfl | rfl | rfl | rfl | rfl | rfl | rfl | rfl | rfl | rfl
   ·simp [vldD, Aw3] at hv'
    simp (disch := omega) only [Ab6, Ak1, Aq5 _ _ h, Fs3 d h, hk, hv, hv'.2.1, EVP, ↓reduceIte, EV, Nat.reduceAdd, Nat.reduceEqDiff, Int.reduceToNat, reduceCtorEq]
    rfl
   ·simp (disch := omega) only [Ab6, Ak1, Aq5 _ _ h, Aq3, hk, hv, EVP, ↓reduceIte, EV, Nat.reduceAdd, Nat.reduceEqDiff, Int.reduceToNat, reduceCtorEq]
    rfl
   ·simp (disch := omega) only [Ab6, Ak1, Aq5 _ _ h, Aq3, hk, hv, EVP, ↓reduceIte, EV, Nat.reduceAdd, Nat.reduceEqDiff, Int.reduceToNat, reduceCtorEq]
    rfl
   ·simp [vldD, Aw3, inB, As1] at hv'
    simp (disch := first | omega | (simp only [List.length_append, Ad0]; omega)) only [Ab6, Ak1, Aq5 _ _ h, Aq3, Jn8, hk, hv, EVP, ↓reduceIte, EV, Nat.reduceAdd, Nat.reduceEqDiff, Int.reduceToNat, reduceCtorEq]
    rfl
   ·simp (disch := omega) only [Ab6, Ak1, Aq5 _ _ h, Aq3, hk, hv, EVP, ↓reduceIte, EV, Nat.reduceAdd, Nat.reduceEqDiff, Int.reduceToNat, reduceCtorEq]
    rfl
   ·simp [vldD, Aw3, inB, As1] at hv'
    simp (disch := first | omega | (simp only [List.length_append, Ad0]; omega)) only [Ab6, Ak1, Aq5 _ _ h, Aq3, Bh7, hk, hv, EVP, ↓reduceIte, EV, Nat.reduceAdd, Nat.reduceEqDiff, Int.reduceToNat, reduceCtorEq]
    rfl
   ·simp [vldD, Aw3, inB, As1] at hv'
    simp (disch := first | omega | (simp only [List.length_append, Ad0]; omega)) only [Ab6, Ak1, Aq5 _ _ h, Aq3, Bh8, hk, hv, EVP, ↓reduceIte, EV, Nat.reduceAdd, Nat.reduceEqDiff, Int.reduceToNat, reduceCtorEq]
    rfl
   ·simp [vldD, Aw3] at hv'
    have ha : Bx8 d = true := by simp [Bx8, hv'.2]
    simp (disch := omega) only [Ab6, Ak1, Aq5 _ _ h, Fs3 d h, hk, hv, ha, EVP, ↓reduceIte, EV, Nat.reduceAdd, Nat.reduceEqDiff, Int.reduceToNat, reduceCtorEq]
    rfl
   ·simp [vldD, Aw3, inB, As1] at hv'
    simp (disch := first | omega | (simp only [List.length_append, Ad0]; omega)) only [Ab6, Ak1, Aq5 _ _ h, Aq3, Bh7, hk, hv, EVP, ↓reduceIte, EV, Nat.reduceAdd, Nat.reduceEqDiff, Int.reduceToNat, reduceCtorEq]
    rfl
   ·simp (disch := omega) only [Ab6, Ak1, Aq5 _ _ h, Aq3, hk, hv, EVP, ↓reduceIte, EV, Nat.reduceAdd, Nat.reduceEqDiff, Int.reduceToNat, reduceCtorEq]
    rfl
   ·simp [vldD, Aw3, inB, As1] at hv'
    simp (disch := first | omega | (simp only [List.length_append, Ad0]; omega)) only [Ab6, Ak1, Aq5 _ _ h, Aq3, Bh8, Bh7, hk, hv, EVP, ↓reduceIte, EV, Nat.reduceAdd, Nat.reduceEqDiff, Int.reduceToNat, reduceCtorEq]
    rfl
   ·simp [vldD, Aw3, inB, As1] at hv'
    have k1 : 0 ≤ d.a := by have := knw_cases hv'.2.1.1.1.1.1.1.1.1; omega
    have k2 := h.a.2
    simp (disch := first | omega | (simp only [List.length_append, Ad0]; omega)) only [Ab6, Ak1, Aq5 _ _ h, Aq3, Bh8, Bh7, Jn8, hk, hv, EVP, ↓reduceIte, EV, Nat.reduceAdd, Nat.reduceEqDiff, Int.reduceToNat, reduceCtorEq]
    rfl
   ·simp (disch := first | omega | (simp only [List.length_append, Ad0]; omega)) only [Ab6, Ak1, Aq5 _ _ h, Aq3, Jf5, Bh8, hk, hv, EVP, ↓reduceIte, EV, Nat.reduceAdd, Nat.reduceEqDiff, Int.reduceToNat, reduceCtorEq]
    rfl
   ·simp [vldD, Aw3, inB, As1] at hv'
    simp (disch := first | omega | (simp only [List.length_append, Ad0]; omega)) only [Ab6, Ak1, Aq5 _ _ h, Aq3, Bh8, Bh7, hk, hv, EVP, ↓reduceIte, EV, Nat.reduceAdd, Nat.reduceEqDiff, Int.reduceToNat, reduceCtorEq]
    rfl
  ·simp (disch := omega) only [Ab6, Ak1, Aq5 _ _ h, hk, hv, EVP, ↓reduceIte, EV, Nat.reduceAdd, Nat.reduceEqDiff, Int.reduceToNat, reduceCtorEq]
 ·have hv : vldD t d = false := by simp [vldD, hk]
  simp (disch := omega) only [Ab6, Ak1, hk, hv, EVP, ↓reduceIte, EV, Nat.reduceAdd, Nat.reduceEqDiff, Int.reduceToNat, reduceCtorEq]

def cmpD (t : Int) (a b : Dat) : Int :=
 if vldD t a && vldD t b then cmpS (Bl4 t a) (Bl4 t b) else if vldD t a then -1 else if vldD t b then 1 else 0
theorem Ff9 (t : Int) (a b : Dat) (ha : a.wf) (hb : b.wf) : S Dd3 3 [.i .i64 t, a.pv, b.pv] = some [.i .i64 (cmpD t a b)] := by
 refine Lr6 (N := 1) rfl ?_
 unfold cmpD cmpS
 rcases Bool.eq_false_or_eq_true (vldD t a) with h1 | h1 <;> rcases Bool.eq_false_or_eq_true (vldD t b) with h2 | h2
 ·simp (disch := omega) only [Kd1, Bz6 _ _ ha, Bz6 _ _ hb, h1, h2, EVP, ↓reduceIte, EV, Nat.reduceAdd, Nat.reduceEqDiff, Int.reduceToNat, reduceCtorEq]
  cases Op.bytesLess (Bl4 t a) (Bl4 t b)
  ·by_cases h3 : Bl4 t a = Bl4 t b <;> simp [h3]
  ·simp
 all_goals rcases Bool.eq_false_or_eq_true (knw t) with h3 | h3 <;> simp (disch := omega) [Kd1, Bz6 _ _ ha, Bz6 _ _ hb, h1, h2, h3, EVP, ↓reduceIte, EV, Nat.reduceAdd, Nat.reduceEqDiff, Int.reduceToNat, reduceCtorEq]
end Go.X.G
/- Lists of records: what the reference's functions give. -/
namespace Go.X.G
open Go Go.X

def vldR (r : Rec) : Bool := vld r.name && knw r.typ && decide (0 ≤ r.ttl) && decide (r.ttl ≤ 2147483647) && vldD r.typ r.data
theorem Dm3 (r : Rec) (h : r.wf) : S Hb5 1 [r.pv] = some [.b (vldR r)] := by
 refine Mn9 (N := 1) rfl ?_
 have g := h.name
 unfold strr at g
 unfold vldR
 by_cases h0 : 0 ≤ r.ttl <;> by_cases h1 : r.ttl ≤ 2147483647
 all_goals rcases ch3 (vld r.name) (knw r.typ) (vldD r.typ r.data) with e0 | ⟨e0, e1⟩ | ⟨e0, e1, e2⟩ | ⟨e0, e1, e2⟩
 all_goals simp (disch := omega) [Mh2, Aq6, Ak1, Aq5 _ _ h.data, EVP, ↓reduceIte, EV, Nat.reduceAdd, Nat.reduceEqDiff, Int.reduceToNat, reduceCtorEq, *]

def cmpI (a b : Int) : Int := if a < b then -1 else if b < a then 1 else 0
theorem Gd2 (a b : Int) : S Dd4 2 [.i .i64 a, .i .i64 b] = some [.i .i64 (cmpI a b)] := by
 refine Lr7 (N := 1) rfl ?_
 unfold cmpI
 simp (disch := omega) only [Lh2, EVP, ↓reduceIte, EV, Nat.reduceAdd, Nat.reduceEqDiff, Int.reduceToNat, reduceCtorEq]
 grind
def cmpF (a b : Rec) : Int :=
 if cmpN a.name b.name ≠ 0 then cmpN a.name b.name else if cmpI a.typ b.typ ≠ 0 then cmpI a.typ b.typ else cmpD a.typ a.data b.data
theorem Dh7 (a b : Rec) (ha : a.wf) (hb : b.wf) : S Ck6 2 [a.pv, b.pv] = some [.i .i64 (cmpF a b)] := by
 refine Mj2 (N := 1) rfl ?_
 have g1 := ha.name
 have g2 := hb.name
 unfold strr at g1 g2
 unfold cmpF
 simp (disch := omega) only [Ll4, Bl0, Gd2, Ff9 _ _ _ ha.data hb.data, EVP, ↓reduceIte, EV, Nat.reduceAdd, Nat.reduceEqDiff, Int.reduceToNat, reduceCtorEq]
 by_cases h1 : cmpN a.name b.name = 0 <;> by_cases h2 : cmpI a.typ b.typ = 0 <;> simp [h1, h2]

def isK (n : List UInt8) (t : Int) (r : Rec) : Bool := decide (r.name = n) && decide (r.typ = t)
def findR (l : List Rec) (n : List UInt8) (t : Int) : List Rec := l.filter (isK n t)
theorem Ad7 (l : List Rec) (n : List UInt8) (t : Int) (hl : l.length ≤ 1000000) : S Dc3 3 [Aj1 l, .s n, .i .i64 t] = some [Aj1 (findR l n t)] := by
 refine Mp0 (N := l.length + 1) rfl ?_
 have key : Kh4.ev S (l.length + 1) [Aj1 l, .s n, .i .i64 t] = some (.yld 0 [Aj1 ([] ++ findR l n t)]) := by
  refine Ak5 l (fun i (g : List Rec) => [Aj1 g, .i .i64 (i : Int)]) (fun i g r => .yld 0 [Aj1 (g ++ findR r n t)]) (fun i g => g.length ≤ i) [] rfl (Nat.zero_le _) (by omega) (fun i g c r hd hi hc hI => ?_) (fun g hI => ?_)
  ·left
   by_cases h : isK n t c = true
   ·refine ⟨g ++ [c], ?_, by simp; omega, by simp [findR, h]⟩
    simp [isK] at h
    simp (disch := omega) only [Gm8, hc, h.1, h.2, EVP, ↓reduceIte, EV, Nat.reduceAdd, Nat.reduceEqDiff, Int.reduceToNat, reduceCtorEq]
   ·refine ⟨g, ?_, by omega, by simp [findR, h]⟩
    simp [isK] at h
    by_cases h1 : c.name = n
    ·simp (disch := omega) only [Gm8, hc, h1, h h1, EVP, ↓reduceIte, EV, Nat.reduceAdd, Nat.reduceEqDiff, Int.reduceToNat, reduceCtorEq]
    ·simp (disch := omega) only [Gm8, hc, h1, EVP, ↓reduceIte, EV, Nat.reduceAdd, Nat.reduceEqDiff, Int.reduceToNat, reduceCtorEq]
  ·simp (disch := omega) only [Gm8, EVP, ↓reduceIte, EV, Nat.reduceAdd, Nat.reduceEqDiff, Int.reduceToNat, reduceCtorEq]
   simp [findR, Out.goes]
 simp (disch := omega) only [Gm8, key, EVP, ↓reduceIte, EV, Nat.reduceAdd, Nat.reduceEqDiff, Int.reduceToNat, reduceCtorEq]
theorem Fs5 (l : List Rec) (n : List UInt8) (t : Int) (hl : l.length ≤ 1000000) : S Hb0 3 [Aj1 l, .s n, .i .i64 t] = some [Aj1 (findR l n t)] := by
 refine Mn3 (N := l.length + 1) rfl ?_
 have key : Kg9.ev S (l.length + 1) [Aj1 l, .s n, .i .i64 t] = some (.yld 0 [Aj1 ([] ++ findR l n t)]) := by
  refine Ak5 l (fun i (g : List Rec) => [Aj1 g, .i .i64 (i : Int)]) (fun i g r => .yld 0 [Aj1 (g ++ findR r n t)]) (fun i g => g.length ≤ i) [] rfl (Nat.zero_le _) (by omega) (fun i g c r hd hi hc hI => ?_) (fun g hI => ?_)
  ·left
   by_cases h : isK n t c = true
   ·refine ⟨g ++ [c], ?_, by simp; omega, by simp [findR, h]⟩
    simp [isK] at h
    simp (disch := omega) only [Gm6, hc, h.1, h.2, EVP, ↓reduceIte, EV, Nat.reduceAdd, Nat.reduceEqDiff, Int.reduceToNat, reduceCtorEq]
   ·refine ⟨g, ?_, by omega, by simp [findR, h]⟩
    simp [isK] at h
    by_cases h1 : c.name = n
    ·simp (disch := omega) only [Gm6, hc, h1, h h1, EVP, ↓reduceIte, EV, Nat.reduceAdd, Nat.reduceEqDiff, Int.reduceToNat, reduceCtorEq]
    ·by_cases h2 : c.typ = t <;> simp (disch := omega) only [Gm6, hc, h1, h2, EVP, ↓reduceIte, EV, Nat.reduceAdd, Nat.reduceEqDiff, Int.reduceToNat, reduceCtorEq]
  ·simp (disch := omega) only [Gm6, EVP, ↓reduceIte, EV, Nat.reduceAdd, Nat.reduceEqDiff, Int.reduceToNat, reduceCtorEq]
   simp [findR, Out.goes]
 simp (disch := omega) only [Gm6, key, EVP, ↓reduceIte, EV, Nat.reduceAdd, Nat.reduceEqDiff, Int.reduceToNat, reduceCtorEq]

theorem Bq6 (a b : List Rec) (ha : a.length ≤ 1000000) : S Hb4 2 [Aj1 a, Aj1 b] = some [.b (decide (a = b))] := by
 refine Mn8 (N := a.length + 1) rfl ?_
 by_cases hl : a.length = b.length
 ·have key : Kh3.ev S (a.length + 1) [Aj1 a, Aj1 b] = some (if a.drop 0 = b.drop 0 then .yld 0 [] else .ret [.b false]) := by
   refine Aq1 a (fun i => [.i .i64 (i : Int)]) (fun i r => if r = b.drop i then .yld 0 [] else .ret [.b false]) rfl (by omega) (fun i c r hd hi hc => ?_) ?_
   ·obtain ⟨y, r', hb, hd2, hd3⟩ : ∃ y r', b[i]? = some y ∧ b.drop i = y :: r' ∧ b.drop (i + 1) = r' := ⟨b[i]'(by omega), _, List.getElem?_eq_getElem (by omega), List.drop_eq_getElem_cons (by omega), rfl⟩
    rw [hd2, hd3]
    by_cases h : c = y
    ·subst h
     left
     simp (disch := omega) only [Fs8, hc, hb, EVP, ↓reduceIte, EV, Nat.reduceAdd, Nat.reduceEqDiff, Int.reduceToNat, reduceCtorEq]
     simp
    ·right
     simp (disch := omega) only [Fs8, hc, hb, h, EVP, ↓reduceIte, EV, Nat.reduceAdd, Nat.reduceEqDiff, Int.reduceToNat, reduceCtorEq]
     simp [h, Out.goes]
   ·have hd2 : b.drop a.length = [] := List.drop_eq_nil_of_le (by omega)
    rw [hd2]
    simp (disch := omega) only [Fs8, EVP, ↓reduceIte, EV, Nat.reduceAdd, Nat.reduceEqDiff, Int.reduceToNat, reduceCtorEq]
    simp [Out.goes]
  simp only [List.drop_zero] at key
  by_cases h : a = b
  ·rw [if_pos h] at key
   simp (disch := omega) only [Fs8, key, EVP, ↓reduceIte, EV, Nat.reduceAdd, Nat.reduceEqDiff, Int.reduceToNat, reduceCtorEq]
   try simp [h]
  ·rw [if_neg h] at key
   simp (disch := omega) only [Fs8, key, EVP, ↓reduceIte, EV, Nat.reduceAdd, Nat.reduceEqDiff, Int.reduceToNat, reduceCtorEq]
   try simp [h]
 ·have h : a ≠ b := fun h => hl (by rw [h])
  simp (disch := omega) [Fs8, h, EVP, ↓reduceIte, EV, Nat.reduceAdd, Nat.reduceEqDiff, Int.reduceToNat, reduceCtorEq]

def insR (x : Rec) : List Rec → List Rec
 | [] => [x]
 | y :: r => if cmpF y x < 0 then y :: insR x r else if cmpF y x = 0 then (if x.ttl < y.ttl then x :: r else y :: r) else x :: y :: r
def Gy7 (l : List Rec) : List Rec := l.foldl (fun acc x => insR x acc) []
def Ah1 (x : Rec) : List Rec → Nat
 | [] => 0
 | y :: r => if cmpF y x < 0 then Ah1 x r + 1 else 0
theorem Fl9 (x : Rec) : ∀ l, Ah1 x l ≤ l.length
 | [] => Nat.le_refl _
 | y :: r => by have := Fl9 x r; simp only [Ah1]; split <;> simp; omega
theorem Hl6 (x : Rec) : ∀ (l : List Rec), insR x l = match l[Ah1 x l]? with
  | some y => if cmpF y x = 0 then (if x.ttl < y.ttl then l.set (Ah1 x l) x else l) else l.take (Ah1 x l) ++ [x] ++ l.drop (Ah1 x l)
  | none => l.take (Ah1 x l) ++ [x] ++ l.drop (Ah1 x l)
 | [] => rfl
 | y :: r => by
   simp only [insR, Ah1]
   by_cases h : cmpF y x < 0
   ·simp only [if_pos h, List.getElem?_cons_succ]
    rw [Hl6 x r]
    cases h2 : r[Ah1 x r]? with
    | none => simp
    | some z => by_cases h3 : cmpF z x = 0 <;> by_cases h4 : x.ttl < z.ttl <;> simp [h3, h4]
   ·simp only [if_neg h, List.getElem?_cons_zero]
    by_cases h3 : cmpF y x = 0 <;> by_cases h4 : x.ttl < y.ttl <;> simp [h3, h4]
theorem Fm5 (x : Rec) : ∀ l, (insR x l).length ≤ l.length + 1
 | [] => by simp [insR]
 | y :: r => by
   have := Fm5 x r
   simp only [insR]
   split
   ·simp; omega
   ·split
    ·split <;> simp
    ·simp
theorem insR_mem (x : Rec) : ∀ (l : List Rec) (y : Rec), y ∈ insR x l → y = x ∨ y ∈ l
 | [], y, h => by simp [insR] at h; exact .inl h
 | z :: r, y, h => by
   simp only [insR] at h
   split at h
   ·simp at h
    rcases h with h | h
    ·exact .inr (by simp [h])
    ·rcases insR_mem x r y h with h | h
     ·exact .inl h
     ·exact .inr (by simp [h])
   ·split at h
    ·split at h
     ·simp at h; rcases h with h | h
      ·exact .inl h
      ·exact .inr (by simp [h])
     ·exact .inr h
    ·simp at h; rcases h with h | h
     ·exact .inl h
     ·exact .inr (by simpa using h)
theorem Ld9 (l g : List Rec) (i : Nat) (x : Rec) (hx : l[i]? = some x) (hw : ∀ r ∈ l, r.wf) (hg : ∀ r ∈ g, r.wf) (N : Nat) (hN : g.length < N) (hl : g.length ≤ 1000000) :
  Hg3.ev S N [Aj1 l, Aj1 g, .i .i64 (i : Int)] = some (.yld 2 [.i .i64 (Ah1 x g : Int)]) := by
 have key : Hg3.ev S N [Aj1 l, Aj1 g, .i .i64 (i : Int)] = some (.yld 2 [.i .i64 ((0 + Ah1 x g : Nat) : Int)]) := by
  refine Aq1 g (fun k => [.i .i64 (k : Int)]) (fun k r => .yld 2 [.i .i64 ((k + Ah1 x r : Nat) : Int)]) rfl hN (fun k c r hd hk hc => ?_) ?_
  ·have h1 := Dh7 c x (hg c (List.mem_of_getElem? hc)) (hw x (List.mem_of_getElem? hx))
   by_cases h : cmpF c x < 0
   ·left
    simp (disch := omega) only [Cv6, hc, hx, h1, h, EVP, ↓reduceIte, EV, Nat.reduceAdd, Nat.reduceEqDiff, Int.reduceToNat, reduceCtorEq]
    refine ⟨trivial, ?_⟩
    simp only [Ah1, if_pos h]
    congr 3; push_cast; omega
   ·right
    simp (disch := omega) only [Cv6, hc, hx, h1, EVP, ↓reduceIte, EV, Nat.reduceAdd, Nat.reduceEqDiff, Int.reduceToNat, reduceCtorEq]
    simp [Ah1, h, Out.goes]
  ·simp (disch := omega) only [Cv6, EVP, ↓reduceIte, EV, Nat.reduceAdd, Nat.reduceEqDiff, Int.reduceToNat, reduceCtorEq]
   simp [Ah1, Out.goes]
 simpa using key
theorem Lf0 (l : List Rec) (hw : ∀ r ∈ l, r.wf) (N : Nat) (hN : l.length < N) (hl : l.length ≤ 1000000) :
  Kh2.ev S N [Aj1 l] = some (.yld 0 [Aj1 (Gy7 l)]) := by
 refine Ak5 l (fun i (g : List Rec) => [Aj1 g, .i .i64 (i : Int)]) (fun i g r => .yld 0 [Aj1 (r.foldl (fun acc x => insR x acc) g)]) (fun i g => g.length ≤ i ∧ ∀ r ∈ g, r.wf) [] rfl ⟨Nat.le_refl _, fun r h => by cases h⟩ hN (fun i g c r hd hi hc hI => ?_) (fun g hI => ?_)
 ·left
  obtain ⟨h1, h2⟩ := hI
  have hcw := hw c (List.mem_of_getElem? hc)
  have h3 := Ld9 l g i c hc hw h2 N (by omega) (by omega)
  have h4 := Fl9 c g
  have h5 := Fm5 c g
  refine ⟨insR c g, ?_, ⟨by omega, fun r hr => ?_⟩, rfl⟩
  ·rw [Hl6]
   cases h6 : g[Ah1 c g]? with
   | none =>
     have h7 := List.getElem?_eq_none_iff.1 h6
     have h8 : Ah1 c g = g.length := by omega
     simp (disch := first | omega | (simp; omega)) only [Cv6, hc, h3, h8, EVP, ↓reduceIte, EV, Nat.reduceAdd, Nat.reduceEqDiff, Int.reduceToNat, reduceCtorEq]
     simp
   | some y =>
     have h7 := (List.getElem?_eq_some_iff.1 h6).1
     have h8 := Dh7 y c (h2 y (List.mem_of_getElem? h6)) hcw
     by_cases h9 : cmpF y c = 0
     ·by_cases h10 : c.ttl < y.ttl
      ·simp (disch := omega) only [Cv6, hc, h3, h6, h8, h9, h10, EVP, ↓reduceIte, EV, Nat.reduceAdd, Nat.reduceEqDiff, Int.reduceToNat, reduceCtorEq]
      ·simp (disch := omega) only [Cv6, hc, h3, h6, h8, h9, h10, EVP, ↓reduceIte, EV, Nat.reduceAdd, Nat.reduceEqDiff, Int.reduceToNat, reduceCtorEq]
     ·simp (disch := first | omega | (simp; omega)) only [Cv6, hc, h3, h6, h8, h9, EVP, ↓reduceIte, EV, Nat.reduceAdd, Nat.reduceEqDiff, Int.reduceToNat, reduceCtorEq]
      simp
  ·rcases insR_mem c g r hr with h | h
   ·subst h; exact hcw
   ·exact h2 r h
 ·simp (disch := omega) only [Cv6, EVP, ↓reduceIte, EV, Nat.reduceAdd, Nat.reduceEqDiff, Int.reduceToNat, reduceCtorEq]
  simp [Out.goes]
theorem Bz7 (l : List Rec) (hw : ∀ r ∈ l, r.wf) (hl : l.length ≤ 1000000) : S Hb3 1 [Aj1 l] = some [Aj1 (Gy7 l)] := by
 refine Mn7 (N := l.length + 1) rfl ?_
 simp (disch := omega) only [Cv6, Lf0 l hw, EVP, ↓reduceIte, EV, Nat.reduceAdd, Nat.reduceEqDiff, Int.reduceToNat, reduceCtorEq]
end Go.X.G
/- Zones: what the reference's check gives. -/
namespace Go.X.G
open Go Go.X

def Aw9 (n top : List UInt8) : Bool := decide (n ≠ top) && under n top
theorem Ag1 (n top : List UInt8) (hn : n.length ≤ 9223372036854775807) (ht : top.length ≤ 9223372036854775807) : S Cy5 2 [.s n, .s top] = some [.b (Aw9 n top)] := by
 refine Mm3 (N := 1) rfl ?_
 unfold Aw9
 by_cases h : n = top
 ·simp (disch := omega) only [Lf6, Aw0, h, EVP, ↓reduceIte, EV, Nat.reduceAdd, Nat.reduceEqDiff, Int.reduceToNat, reduceCtorEq]
  simp
 ·simp (disch := omega) only [Lf6, Aw0, h, EVP, ↓reduceIte, EV, Nat.reduceAdd, Nat.reduceEqDiff, Int.reduceToNat, reduceCtorEq]
  simp
def hasR (l : List Rec) (n : List UInt8) (t : Int) : Bool := decide (0 < (findR l n t).length)
theorem Bk5 (l : List Rec) (n : List UInt8) (t : Int) (hl : l.length ≤ 1000000) : S Gf3 3 [Aj1 l, .s n, .i .i64 t] = some [.b (hasR l n t)] := by
 refine Mn6 (N := 1) rfl ?_
 unfold hasR
 simp (disch := omega) only [Mh1, Ad7, EVP, ↓reduceIte, EV, Nat.reduceAdd, Nat.reduceEqDiff, Int.reduceToNat, reduceCtorEq]
 simp
def Ac0 (r x : Rec) : Bool :=
 !decide (x.name = r.name) || (!(decide (x.typ = r.typ) && decide (r.typ ≠ 46) && decide (x.ttl ≠ r.ttl)) && !(decide (x.typ = r.typ) && (decide (r.typ = 6) || decide (r.typ = 5) || decide (r.typ = 39)) && decide (x ≠ r)) &&
  !(decide (r.typ = 5) && decide (x.typ ≠ 5) && decide (x.typ ≠ 46) && decide (x.typ ≠ 47)))
def Bw5 (z : Zone) (r : Rec) : Bool := z.recs.all (Ac0 r)
theorem Jg1 (z : Zone) (r : Rec) (N : Nat) (hN : z.recs.length < N) (hz : z.recs.length ≤ 1000000) :
  Kh1.ev S N [z.pv, r.pv] = some (if Bw5 z r = true then .yld 0 [] else .ret [.b false]) := by
 refine Aq1 z.recs (fun i => [.i .i64 (i : Int)]) (fun i l => if l.all (Ac0 r) = true then .yld 0 [] else .ret [.b false]) rfl hN (fun i c l hd hi hc => ?_) ?_
 ·have key : Fr4.ev S N ([z.pv, r.pv] ++ [.i .i64 (i : Int)]) = some (if Ac0 r c = true then .yld 1 [.i .i64 ((i : Int) + 1)] else .ret [.b false]) := by
   by_cases h1 : c.name = r.name
   ·by_cases h2 : c.typ = r.typ
    ·simp (disch := omega) only [Gm7, Dm6, hc, h1, h2, EVP, ↓reduceIte, EV, Nat.reduceAdd, Nat.reduceEqDiff, Int.reduceToNat, reduceCtorEq]
     simp only [Ac0, h1, h2]
     grind
    ·simp (disch := omega) only [Gm7, Dm6, hc, h1, h2, EVP, ↓reduceIte, EV, Nat.reduceAdd, Nat.reduceEqDiff, Int.reduceToNat, reduceCtorEq]
     simp only [Ac0, h1, h2]
     grind
   ·simp (disch := omega) only [Gm7, hc, h1, EVP, ↓reduceIte, EV, Nat.reduceAdd, Nat.reduceEqDiff, Int.reduceToNat, reduceCtorEq]
    simp [Ac0, h1]
  rw [key]
  rcases Bool.eq_false_or_eq_true (Ac0 r c) with h | h <;> simp [h, Out.goes]
 ·simp (disch := omega) [Gm7, EVP, ↓reduceIte, EV, Nat.reduceAdd, Nat.reduceEqDiff, Int.reduceToNat, reduceCtorEq, Out.goes]
theorem Jg0 (z : Zone) (r : Rec) (hz : z.recs.length ≤ 1000000) : S Hb2 2 [z.pv, r.pv] = some [.b (Bw5 z r)] := by
 refine Mn5 (N := z.recs.length + 1) rfl ?_
 simp (disch := omega) only [Gm7, Jg1, EVP, ↓reduceIte, EV, Nat.reduceAdd, Nat.reduceEqDiff, Int.reduceToNat, reduceCtorEq]
 cases Bw5 z r <;> simp

def Az2 (z : Zone) (r x : Rec) : Bool :=
 !(decide (x.typ = 39) && Aw9 r.name x.name) && !(decide (x.typ = 2) && Aw9 x.name z.origin && Aw9 r.name x.name && decide (r.typ ≠ 1) && decide (r.typ ≠ 28))
def Dr9 (t : Int) : Bool := decide (t = 2) || decide (t = 43) || decide (t = 47) || decide (t = 46) || decide (t = 1) || decide (t = 28)
def Cx2 (z : Zone) (r : Rec) : Bool :=
 if (lbl r.name)[0]? = some [42] ∧ (r.typ = 2 ∨ r.typ = 39) then false
 else z.recs.all (Az2 z r) && (if Aw9 r.name z.origin && hasR z.recs r.name 2 then Dr9 r.typ else decide (r.typ ≠ 43))
theorem Bd6 (z : Zone) (r : Rec) (hz : z.wf) (hr : r.wf) (p : PV) (N : Nat) (hN : z.recs.length < N) (hl : z.recs.length ≤ 1000000) :
  Kh0.ev S N [z.pv, r.pv, p] = some (if z.recs.all (Az2 z r) = true then .yld 0 [] else .ret [.b false]) := by
 have g1 := hz.origin
 have g2 := hr.name
 unfold strr at g1 g2
 refine Aq1 z.recs (fun i => [.i .i64 (i : Int)]) (fun i l => if l.all (Az2 z r) = true then .yld 0 [] else .ret [.b false]) rfl hN (fun i c l hd hi hc => ?_) ?_
 ·have g3 := (hz.recs.2 c (List.mem_of_getElem? hc)).name
  unfold strr at g3
  have key : Fr3.ev S N ([z.pv, r.pv, p] ++ [.i .i64 (i : Int)]) = some (if Az2 z r c = true then .yld 1 [.i .i64 ((i : Int) + 1)] else .ret [.b false]) := by
   by_cases h1 : c.typ = 39
   ·have h2 : c.typ ≠ 2 := by omega
    rcases Bool.eq_false_or_eq_true (Aw9 r.name c.name) with h3 | h3 <;> simp (disch := omega) only [Cv5, Ag1, hc, h1, h3, EVP, ↓reduceIte, EV, Nat.reduceAdd, Nat.reduceEqDiff, Int.reduceToNat, reduceCtorEq] <;> simp [Az2, h1, h3]
   ·by_cases h2 : c.typ = 2
    ·rcases Bool.eq_false_or_eq_true (Aw9 r.name c.name) with h3 | h3 <;> rcases Bool.eq_false_or_eq_true (Aw9 c.name z.origin) with h4 | h4 <;> simp (disch := omega) only [Cv5, Ag1, hc, h2, h3, h4, EVP, ↓reduceIte, EV, Nat.reduceAdd, Nat.reduceEqDiff, Int.reduceToNat, reduceCtorEq] <;> simp [Az2, h2, h3, h4]
     by_cases h5 : r.typ = 1 <;> by_cases h6 : r.typ = 28 <;> simp [h5, h6]
    ·simp (disch := omega) only [Cv5, hc, h1, h2, EVP, ↓reduceIte, EV, Nat.reduceAdd, Nat.reduceEqDiff, Int.reduceToNat, reduceCtorEq]
     simp [Az2, h1, h2]
  rw [key]
  rcases Bool.eq_false_or_eq_true (Az2 z r c) with h | h <;> simp [h, Out.goes]
 ·simp (disch := omega) [Cv5, EVP, ↓reduceIte, EV, Nat.reduceAdd, Nat.reduceEqDiff, Int.reduceToNat, reduceCtorEq, Out.goes]
theorem Hy0 (z : Zone) (r : Rec) (hz : z.wf) (hr : r.wf) (hl : z.recs.length ≤ 1000000) : S Hb1 2 [z.pv, r.pv] = some [.b (Cx2 z r)] := by
 refine Mn4 (N := z.recs.length + 1) rfl ?_
 have g1 := hz.origin
 have g2 := hr.name
 unfold strr at g1 g2
 have g3 := Av6 r.name
 have tail : T.ev S (z.recs.length + 1) Cr1 [z.pv, r.pv, Aj3 (lbl r.name)] = some (.ret [.b (z.recs.all (Az2 z r) && (if Aw9 r.name z.origin && hasR z.recs r.name 2 then Dr9 r.typ else decide (r.typ ≠ 43)))]) := by
  rcases Bool.eq_false_or_eq_true (z.recs.all (Az2 z r)) with h0 | h0
  ·rcases Bool.eq_false_or_eq_true (Aw9 r.name z.origin) with h1 | h1 <;> rcases Bool.eq_false_or_eq_true (hasR z.recs r.name 2) with h2 | h2
   ·simp (disch := omega) only [Cv5, Bd6 z r hz hr, Ag1, Bk5, h0, h1, h2, EVP, ↓reduceIte, EV, Nat.reduceAdd, Nat.reduceEqDiff, Int.reduceToNat, reduceCtorEq]
    simp only [Dr9]
    grind
   all_goals simp (disch := omega) only [Cv5, Bd6 z r hz hr, Ag1, Bk5, h0, h1, h2, EVP, ↓reduceIte, EV, Nat.reduceAdd, Nat.reduceEqDiff, Int.reduceToNat, reduceCtorEq]
   all_goals simp
  ·simp (disch := omega) only [Cv5, Bd6 z r hz hr, h0, EVP, ↓reduceIte, EV, Nat.reduceAdd, Nat.reduceEqDiff, Int.reduceToNat, reduceCtorEq]
   simp
 unfold Cx2
 cases h : lbl r.name with
 | nil =>
   rw [h] at tail
   simp (disch := first | omega | (simp; omega)) only [↓tail, Cv5, Az1, h, EVP, ↓reduceIte, EV, Nat.reduceAdd, Nat.reduceEqDiff, Int.reduceToNat, reduceCtorEq]
   simp
 | cons a l =>
   rw [h] at tail
   have g4 : 0 < ((a :: l).length : Int) := by simp only [List.length_cons]; omega
   by_cases h1 : a = [42] <;> by_cases h2 : r.typ = 2 <;> by_cases h3 : r.typ = 39
   all_goals first | omega | skip
   all_goals try subst h1
   all_goals simp (disch := first | omega | (simp; omega)) only [↓tail, Cv5, Az1, h, h2, h3, EVP, ↓reduceIte, EV, Nat.reduceAdd, Nat.reduceEqDiff, Int.reduceToNat, reduceCtorEq]
   all_goals simp [h2, h3, *]

def Bd4 (z : Zone) (r : Rec) : Bool := under r.name z.origin && !(decide (r.typ = 6) && decide (r.name ≠ z.origin)) && Bw5 z r && Cx2 z r
def Bq2 (z : Zone) : Int :=
 if vld z.origin = false then 2
 else if 2048 < z.recs.length then 9
 else if z.recs.all (fun r => decide ((findR z.recs r.name r.typ).length ≤ 64)) = false then 9
 else if z.recs.all vldR = false then 5
 else if z.recs ≠ Gy7 z.recs then 7
 else if (findR z.recs z.origin 6).length ≠ 1 ∨ hasR z.recs z.origin 2 = false then 13
 else if z.recs.all (Bd4 z) = false then 13
 else 0
theorem Ar3 (z : Zone) (N : Nat) (hN : z.recs.length < N) (hl : z.recs.length ≤ 1000000) (p : PV) :
  Km3.ev S N [z.pv, p] = some (if z.recs.all (fun r => decide ((findR z.recs r.name r.typ).length ≤ 64)) = true then .yld 0 [] else .ret [.i .i64 9]) := by
 refine Aq1 z.recs (fun i => [.i .i64 (i : Int)]) (fun i l => if l.all (fun r => decide ((findR z.recs r.name r.typ).length ≤ 64)) = true then .yld 0 [] else .ret [.i .i64 9]) rfl hN (fun i c l hd hi hc => ?_) ?_
 ·by_cases h : (findR z.recs c.name c.typ).length ≤ 64
  ·left
   simp (disch := omega) only [Al5, Ad7, hc, EVP, ↓reduceIte, EV, Nat.reduceAdd, Nat.reduceEqDiff, Int.reduceToNat, reduceCtorEq]
   simp [h]
  ·right
   simp (disch := omega) only [Al5, Ad7, hc, EVP, ↓reduceIte, EV, Nat.reduceAdd, Nat.reduceEqDiff, Int.reduceToNat, reduceCtorEq]
   simp [h, Out.goes]
 ·simp (disch := omega) [Al5, EVP, ↓reduceIte, EV, Nat.reduceAdd, Nat.reduceEqDiff, Int.reduceToNat, reduceCtorEq, Out.goes]
theorem Bq7 (z : Zone) (hz : z.wf) (N : Nat) (hN : z.recs.length < N) (hl : z.recs.length ≤ 1000000) (p : PV) :
  Kg0.ev S N [z.pv, p] = some (if z.recs.all vldR = true then .yld 0 [] else .ret [.i .i64 5]) := by
 refine Aq1 z.recs (fun i => [.i .i64 (i : Int)]) (fun i l => if l.all vldR = true then .yld 0 [] else .ret [.i .i64 5]) rfl hN (fun i c l hd hi hc => ?_) ?_
 ·have hw := hz.recs.2 c (List.mem_of_getElem? hc)
  rcases Bool.eq_false_or_eq_true (vldR c) with h | h
  ·left
   simp (disch := omega) only [Al5, Dm3 c hw, hc, h, EVP, ↓reduceIte, EV, Nat.reduceAdd, Nat.reduceEqDiff, Int.reduceToNat, reduceCtorEq]
   simp [h]
  ·right
   simp (disch := omega) only [Al5, Dm3 c hw, hc, h, EVP, ↓reduceIte, EV, Nat.reduceAdd, Nat.reduceEqDiff, Int.reduceToNat, reduceCtorEq]
   simp [h, Out.goes]
 ·simp (disch := omega) [Al5, EVP, ↓reduceIte, EV, Nat.reduceAdd, Nat.reduceEqDiff, Int.reduceToNat, reduceCtorEq, Out.goes]
theorem Kc7 (z : Zone) (hz : z.wf) (N : Nat) (hN : z.recs.length < N) (hl : z.recs.length ≤ 1000000) (p1 p2 p3 p4 p5 : PV) :
  Kf8.ev S N [z.pv, p1, p2, p3, p4, p5] = some (if z.recs.all (Bd4 z) = true then .yld 0 [] else .ret [.i .i64 13]) := by
 have g1 := hz.origin
 unfold strr at g1
 refine Aq1 z.recs (fun i => [.i .i64 (i : Int)]) (fun i l => if l.all (Bd4 z) = true then .yld 0 [] else .ret [.i .i64 13]) rfl hN (fun i c l hd hi hc => ?_) ?_
 ·have hw := hz.recs.2 c (List.mem_of_getElem? hc)
  have g2 := hw.name
  unfold strr at g2
  have key : Fp8.ev S N ([z.pv, p1, p2, p3, p4, p5] ++ [.i .i64 (i : Int)]) = some (if Bd4 z c = true then .yld 1 [.i .i64 ((i : Int) + 1)] else .ret [.i .i64 13]) := by
   rcases Bool.eq_false_or_eq_true (under c.name z.origin) with h1 | h1
   ·by_cases h2 : c.typ = 6 <;> by_cases h3 : c.name = z.origin
    all_goals try rw [h3] at h1 g2
    all_goals rcases ch2 (Bw5 z c) (Cx2 z c) with e0 | ⟨e0, e1⟩ | ⟨e0, e1⟩
    all_goals simp (disch := omega) only [Al5, Aw0, Jg0, Hy0 z c hz hw, hc, h1, h2, h3, EVP, ↓reduceIte, EV, Nat.reduceAdd, Nat.reduceEqDiff, Int.reduceToNat, reduceCtorEq, *]
    all_goals simp [Bd4, h1, h2, h3, *]
   ·simp (disch := omega) only [Al5, Aw0, hc, h1, EVP, ↓reduceIte, EV, Nat.reduceAdd, Nat.reduceEqDiff, Int.reduceToNat, reduceCtorEq]
    simp [Bd4, h1]
  rw [key]
  rcases Bool.eq_false_or_eq_true (Bd4 z c) with h | h <;> simp [h, Out.goes]
 ·simp (disch := omega) [Al5, EVP, ↓reduceIte, EV, Nat.reduceAdd, Nat.reduceEqDiff, Int.reduceToNat, reduceCtorEq, Out.goes]
theorem Gl6 (z : Zone) (hz : z.wf) : S Hd1 1 [z.pv] = some [.i .i64 (Bq2 z)] := by
 refine Mt1 (N := z.recs.length + 1) rfl ?_
 have g1 := hz.origin
 unfold strr at g1
 unfold Bq2
 rcases Bool.eq_false_or_eq_true (vld z.origin) with h1 | h1
 ·by_cases h2 : 2048 < z.recs.length
  ·simp (disch := omega) only [Al5, Aq6, h1, h2, EVP, ↓reduceIte, EV, Nat.reduceAdd, Nat.reduceEqDiff, Int.reduceToNat, reduceCtorEq]
  ·rcases Bool.eq_false_or_eq_true (z.recs.all (fun r => decide ((findR z.recs r.name r.typ).length ≤ 64))) with h3 | h3
   ·rcases Bool.eq_false_or_eq_true (z.recs.all vldR) with h4 | h4
    ·by_cases h5 : z.recs = Gy7 z.recs
     ·by_cases h6 : (findR z.recs z.origin 6).length = 1
      ·rcases Bool.eq_false_or_eq_true (hasR z.recs z.origin 2) with h7 | h7
       ·rcases Bool.eq_false_or_eq_true (z.recs.all (Bd4 z)) with h8 | h8 <;> simp (disch := omega) only [Al5, Aq6, Ar3, Bq7 z hz, Kc7 z hz, Bz7 _ hz.recs.2, Bq6, Ad7, Bk5, h1, h2, h3, h4, ← h5, h6, h7, h8, EVP, ↓reduceIte, EV, Nat.reduceAdd, Nat.reduceEqDiff, Int.reduceToNat, reduceCtorEq] <;> simp
       ·simp (disch := omega) only [Al5, Aq6, Ar3, Bq7 z hz, Bz7 _ hz.recs.2, Bq6, Ad7, Bk5, h1, h2, h3, h4, ← h5, h6, h7, EVP, ↓reduceIte, EV, Nat.reduceAdd, Nat.reduceEqDiff, Int.reduceToNat, reduceCtorEq]
        simp
      ·simp (disch := omega) only [Al5, Aq6, Ar3, Bq7 z hz, Bz7 _ hz.recs.2, Bq6, Ad7, Bk5, h1, h2, h3, h4, ← h5, h6, EVP, ↓reduceIte, EV, Nat.reduceAdd, Nat.reduceEqDiff, Int.reduceToNat, reduceCtorEq]
       simp
     ·simp (disch := omega) only [Al5, Aq6, Ar3, Bq7 z hz, Bz7 _ hz.recs.2, Bq6, h1, h2, h3, h4, h5, EVP, ↓reduceIte, EV, Nat.reduceAdd, Nat.reduceEqDiff, Int.reduceToNat, reduceCtorEq]
    ·simp (disch := omega) only [Al5, Aq6, Ar3, Bq7 z hz, h1, h2, h3, h4, EVP, ↓reduceIte, EV, Nat.reduceAdd, Nat.reduceEqDiff, Int.reduceToNat, reduceCtorEq]
   ·simp (disch := omega) only [Al5, Aq6, Ar3, h1, h2, h3, EVP, ↓reduceIte, EV, Nat.reduceAdd, Nat.reduceEqDiff, Int.reduceToNat, reduceCtorEq]
 ·simp (disch := omega) only [Al5, Aq6, h1, EVP, ↓reduceIte, EV, Nat.reduceAdd, Nat.reduceEqDiff, Int.reduceToNat, reduceCtorEq]
end Go.X.G
/- Names on the way up; delegations above a name. -/
namespace Go.X.G
open Go Go.X

def upN (o n : List UInt8) : List (List UInt8) := (List.range ((lbl n).length - (lbl o).length + 1)).map fun k => jn ((lbl n).drop k)
theorem Ad9 {o n x : List UInt8} (h : under n o = true) : x ∈ upN o n ↔ under n x = true ∧ under x o = true := by
 obtain ⟨hn, ho, hs⟩ := Aj8.1 h
 have hle := hs.length_le
 rw [List.suffix_iff_eq_drop] at hs
 unfold upN
 rw [List.mem_map]
 constructor
 ·rintro ⟨k, hk, rfl⟩
  rw [List.mem_range] at hk
  obtain ⟨v1, v2⟩ := Ag4 hn k
  refine ⟨Aj8.2 ⟨hn, v1, by rw [v2]; exact List.drop_suffix _ _⟩, Aj8.2 ⟨v1, ho, ?_⟩⟩
  rw [v2, hs]
  have : (lbl n).length - (lbl o).length = k + ((lbl n).length - (lbl o).length - k) := by omega
  rw [this, ← List.drop_drop]
  exact List.drop_suffix _ _
 ·rintro ⟨h1, h2⟩
  obtain ⟨_, hx, h3⟩ := Aj8.1 h1
  obtain ⟨_, _, h4⟩ := Aj8.1 h2
  have l1 := h3.length_le
  have l2 := h4.length_le
  rw [List.suffix_iff_eq_drop] at h3
  refine ⟨(lbl n).length - (lbl x).length, ?_, ?_⟩
  ·rw [List.mem_range]; omega
  ·rw [← h3]; exact (Ar4 hx).symm
theorem Cw3 (o n : List UInt8) : (upN o n).length ≤ 256 := by
 have := Av6 n
 simp [upN]; omega
theorem Al7 {o n : List UInt8} {k : Nat} (hk : k ≤ (lbl n).length - (lbl o).length) : (upN o n)[k]? = some (jn ((lbl n).drop k)) := by
 unfold upN
 rw [List.getElem?_map, List.getElem?_range (by omega)]; rfl
theorem Bf8 {n : List UInt8} (h : vld n = true) : jn ((lbl n).drop 0) = n := by rw [List.drop_zero]; exact (Ar4 h).symm
theorem At8 {o n : List UInt8} (h : under n o = true) {k : Nat} (hk : k ≤ (lbl n).length - (lbl o).length) : jn ((lbl n).drop k) = o ↔ k = (lbl n).length - (lbl o).length := by
 obtain ⟨hn, ho, hs⟩ := Aj8.1 h
 have hle := hs.length_le
 rw [List.suffix_iff_eq_drop] at hs
 obtain ⟨v1, v2⟩ := Ag4 hn k
 constructor
 ·intro e
  have := congrArg (fun x => (lbl x).length) e
  simp only [v2, List.length_drop] at this
  omega
 ·rintro rfl
  rw [← hs]; exact (Ar4 ho).symm
theorem Dy0 {o n : List UInt8} (h : under n o = true) {k : Nat} (hk : k < (lbl n).length - (lbl o).length) : parentN (jn ((lbl n).drop k)) = jn ((lbl n).drop (k + 1)) ∧ Bg3 (jn ((lbl n).drop k)) = true := by
 obtain ⟨hn, ho, hs⟩ := Aj8.1 h
 obtain ⟨v1, v2⟩ := Ag4 hn k
 have hne : jn ((lbl n).drop k) ≠ [46] := by
  intro e
  have := (Am4 v1).2 e
  rw [v2] at this
  have := congrArg List.length this
  simp at this
  omega
 unfold parentN Bg3
 rw [if_pos ⟨v1, hne⟩, v2, List.drop_drop]
 exact ⟨rfl, by simp [v1, hne]⟩
theorem Hy3 {o : List UInt8} (ho : vld o = true) : under (parentN o) o = false := by
 rcases Bool.eq_false_or_eq_true (under (parentN o) o) with h | h
 ·obtain ⟨_, _, h2⟩ := Aj8.1 h
  unfold parentN at h2
  by_cases hr : o = [46]
  ·rw [if_neg (by simp [hr])] at h2
   unfold parentN at h
   rw [if_neg (by simp [hr])] at h
   obtain ⟨h3, _, _⟩ := Aj8.1 h
   simp [vld, nm] at h3
  ·rw [if_pos ⟨ho, hr⟩, (Ag4 ho 1).2] at h2
   have := h2.length_le
   have hne : lbl o ≠ [] := fun e => hr ((Am4 ho).1 e)
   have := List.length_pos_iff.2 hne
   simp at *
   omega
 ·exact h
theorem Cz6 (l : List (List UInt8)) (i j : Nat) (h : i < j) (hj : j ≤ l.length) : (flat (l.drop j)).length < (flat (l.drop i)).length := by
 have e : l.drop i = (l.drop i).take (j - i) ++ l.drop j := by
  have := (List.take_append_drop (j - i) (l.drop i)).symm
  rw [List.drop_drop, show i + (j - i) = j by omega] at this
  exact this
 rw [e, Ap9, List.length_append]
 have : 0 < (flat ((l.drop i).take (j - i))).length := by
  cases hc : (l.drop i).take (j - i) with
  | nil =>
    have := congrArg List.length hc
    simp at this; omega
  | cons x r => simp [flat]; omega
 omega
theorem Jn3 {n a b : List UInt8} (ha : under n a = true) (hb : under n b = true) : a.length < b.length ↔ (lbl a).length < (lbl b).length := by
 have key : ∀ {a b : List UInt8}, under n a = true → under n b = true → (lbl a).length < (lbl b).length → a.length < b.length := by
  intro a b ha hb hl
  obtain ⟨hn, va, sa⟩ := Aj8.1 ha
  obtain ⟨_, vb, sb⟩ := Aj8.1 hb
  have la := sa.length_le
  have lb := sb.length_le
  rw [List.suffix_iff_eq_drop] at sa sb
  rw [Ar4 va, Ar4 vb]
  have hbne : lbl b ≠ [] := fun e => by rw [e] at hl; simp at hl
  have e2 : jn (lbl b) = flat (lbl b) := by unfold jn; rw [if_neg hbne]
  rw [e2]
  by_cases ha0 : lbl a = []
  ·have e1 : jn (lbl a) = [46] := by unfold jn; rw [if_pos ha0]
   rw [e1]
   have := Az9 (At6 vb) hbne
   simp; omega
  ·have e1 : jn (lbl a) = flat (lbl a) := by unfold jn; rw [if_neg ha0]
   rw [e1, sa, sb]
   exact Cz6 _ _ _ (by omega) (by omega)
 constructor
 ·intro h
  rcases Nat.lt_or_ge (lbl a).length (lbl b).length with h1 | h1
  ·exact h1
  ·rcases Nat.lt_or_eq_of_le h1 with h2 | h2
   ·have := key hb ha h2; omega
   ·obtain ⟨_, va, sa⟩ := Aj8.1 ha
    obtain ⟨_, vb, sb⟩ := Aj8.1 hb
    rw [List.suffix_iff_eq_drop] at sa sb
    have : a = b := As7 va vb (by rw [sa, sb, h2])
    subst this; omega
 ·exact key ha hb

def Ak8 (z : Zone) (r : Rec) : Bool := decide (r.typ = 2) && Aw9 r.name z.origin
def cutF (z : Zone) (n : List UInt8) : List UInt8 → List Rec → List UInt8
 | b, [] => b
 | b, r :: rs => cutF z n (if Ak8 z r && under n r.name && (decide (b = []) || decide ((lbl r.name).length < (lbl b).length)) then r.name else b) rs
def cutN (z : Zone) (n : List UInt8) : List UInt8 := cutF z n [] z.recs
theorem Ej9 (z : Zone) (n : List UInt8) : ∀ (l : List Rec) (b : List UInt8), (b = [] ∨ under n b = true) →
  (cutF z n b l = [] → b = [] ∧ ∀ r ∈ l, Ak8 z r = true → under n r.name = false) ∧
  (cutF z n b l ≠ [] → under n (cutF z n b l) = true ∧ (cutF z n b l = b ∨ ∃ r ∈ l, Ak8 z r = true ∧ r.name = cutF z n b l) ∧ (b ≠ [] → (lbl (cutF z n b l)).length ≤ (lbl b).length) ∧ ∀ r ∈ l, Ak8 z r = true → under n r.name = true → (lbl (cutF z n b l)).length ≤ (lbl r.name).length)
 | [], b, hb => by
   simp only [cutF]
   refine ⟨fun h => ⟨h, fun r hr => by simp at hr⟩, fun h => ⟨hb.resolve_left h, .inl trivial, fun _ => Nat.le_refl _, fun r hr => by simp at hr⟩⟩
 | r :: rs, b, hb => by
   simp only [cutF]
   have hne : under n r.name = true → r.name ≠ [] := fun h e => by
    have := (Aj8.1 h).2.1
    rw [e] at this
    simp [vld, nm] at this
   by_cases hc : (Ak8 z r && under n r.name && (decide (b = []) || decide ((lbl r.name).length < (lbl b).length))) = true
   ·rw [if_pos hc]
    simp only [Bool.and_eq_true, Bool.or_eq_true, decide_eq_true_eq] at hc
    obtain ⟨⟨c1, c2⟩, c3⟩ := hc
    obtain ⟨h1, h2⟩ := Ej9 z n rs r.name (.inr c2)
    refine ⟨fun h => absurd (h1 h).1 (hne c2), fun h => ?_⟩
    obtain ⟨g1, g2, g3, g4⟩ := h2 h
    refine ⟨g1, .inr ?_, fun hb0 => ?_, fun x hx hx1 hx2 => ?_⟩
    ·rcases g2 with g2 | ⟨x, hx, g2⟩
     ·exact ⟨r, .head _, c1, g2.symm⟩
     ·exact ⟨x, .tail _ hx, g2⟩
    ·have := g3 (hne c2)
     rcases c3 with c3 | c3
     ·exact absurd c3 hb0
     ·omega
    ·rcases List.mem_cons.1 hx with rfl | hx
     ·exact g3 (hne c2)
     ·exact g4 x hx hx1 hx2
   ·rw [if_neg hc]
    obtain ⟨h1, h2⟩ := Ej9 z n rs b hb
    have hr : Ak8 z r = true → under n r.name = true → b ≠ [] ∧ (lbl b).length ≤ (lbl r.name).length := by
     intro c1 c2
     simp only [c1, c2, Bool.and_self, Bool.true_and, Bool.or_eq_true, decide_eq_true_eq, not_or, Nat.not_lt] at hc
     exact hc
    refine ⟨fun h => ?_, fun h => ?_⟩
    ·obtain ⟨g1, g2⟩ := h1 h
     refine ⟨g1, fun x hx hx1 => ?_⟩
     rcases List.mem_cons.1 hx with rfl | hx
     ·rcases Bool.eq_false_or_eq_true (under n x.name) with h3 | h3
      ·exact absurd g1 (hr hx1 h3).1
      ·exact h3
     ·exact g2 x hx hx1
    ·obtain ⟨g1, g2, g3, g4⟩ := h2 h
     refine ⟨g1, ?_, g3, fun x hx hx1 hx2 => ?_⟩
     ·rcases g2 with g2 | ⟨x, hx, g2⟩
      ·exact .inl g2
      ·exact .inr ⟨x, .tail _ hx, g2⟩
     ·rcases List.mem_cons.1 hx with rfl | hx
      ·obtain ⟨q1, q2⟩ := hr hx1 hx2
       have := g3 q1
       omega
      ·exact g4 x hx hx1 hx2
def hidN (z : Zone) (n : List UInt8) : Bool := z.recs.any fun r => Ak8 z r && decide (r.name ≠ n) && under n r.name
theorem Bq8 {a b : List UInt8} (h1 : under a b = true) (h2 : (lbl a).length ≤ (lbl b).length) : a = b := by
 obtain ⟨va, vb, s⟩ := Aj8.1 h1
 exact As7 va vb (s.eq_of_length_le h2).symm
theorem Lv4 (z : Zone) (n : List UInt8) : hidN z n = (decide (cutN z n ≠ []) && decide (cutN z n ≠ n)) := by
 obtain ⟨h1, h2⟩ := Ej9 z n z.recs [] (.inl rfl)
 have e : cutN z n = cutF z n [] z.recs := rfl
 rw [← e] at h1 h2
 rw [Bool.eq_iff_iff]
 unfold hidN
 simp only [List.any_eq_true, Bool.and_eq_true, decide_eq_true_eq]
 constructor
 ·rintro ⟨r, hr, ⟨c1, c2⟩, c3⟩
  have hne : cutN z n ≠ [] := fun h => by
   have := (h1 h).2 r hr c1
   rw [c3] at this; cases this
  refine ⟨hne, fun h => ?_⟩
  obtain ⟨_, _, _, g4⟩ := h2 hne
  have := g4 r hr c1 c3
  rw [h] at this
  exact c2 (Bq8 c3 this).symm
 ·rintro ⟨hne, hnn⟩
  obtain ⟨g1, g2, _, _⟩ := h2 hne
  rcases g2 with g2 | ⟨r, hr, c1, c2⟩
  ·exact absurd g2 hne
  ·exact ⟨r, hr, ⟨c1, by rw [c2]; exact hnn⟩, by rw [c2]; exact g1⟩

def allN (z : Zone) : List (List UInt8) := (z.recs.filter fun r => under r.name z.origin && !hidN z r.name).flatMap fun r => upN z.origin r.name
def namesN (z : Zone) : List (List UInt8) := setN (allN z)
def inNZ (z : Zone) (x : List UInt8) : Prop := ∃ r ∈ z.recs, under r.name z.origin = true ∧ hidN z r.name = false ∧ under r.name x = true ∧ under x z.origin = true
theorem Fs1 (z : Zone) (x : List UInt8) : x ∈ allN z ↔ inNZ z x := by
 unfold allN inNZ
 simp only [List.mem_flatMap, List.mem_filter, Bool.and_eq_true, Bool.not_eq_true']
 constructor
 ·rintro ⟨r, ⟨hr, h1, h2⟩, h3⟩
  obtain ⟨h4, h5⟩ := (Ad9 h1).1 h3
  exact ⟨r, hr, h1, h2, h4, h5⟩
 ·rintro ⟨r, hr, h1, h2, h4, h5⟩
  exact ⟨r, ⟨hr, h1, h2⟩, (Ad9 h1).2 ⟨h4, h5⟩⟩
theorem Fh8 (z : Zone) (l : List (List UInt8)) (h : ∀ x, x ∈ l ↔ inNZ z x) : setN l = namesN z :=
 Bd0 to_N _ _ (As2 _) (As2 _) fun x => by rw [Ag6, h, namesN, Ag6, Fs1]
theorem Cj5 (z : Zone) (x : List UInt8) : x ∈ namesN z ↔ inNZ z x := by
 unfold namesN; rw [Ag6, Fs1]
end Go.X.G
