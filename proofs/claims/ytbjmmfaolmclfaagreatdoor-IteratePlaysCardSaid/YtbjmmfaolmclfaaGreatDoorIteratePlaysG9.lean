/- Names: what the reference's functions give. -/
import Derived.Test.YtbjmmfaolmclfaaGreatDoorIteratePlaysG7
import Derived.Test.YtbjmmfaolmclfaaGreatDoorIteratePlaysG8

set_option maxHeartbeats 1000000
set_option linter.unusedVariables false
set_option linter.unusedSimpArgs false
namespace Go.X.G
open Go Go.X

def As4 (c : UInt8) : Bool := decide (97 ≤ (c.toNat : Int)) && decide ((c.toNat : Int) ≤ 122) || decide (48 ≤ (c.toNat : Int)) && decide ((c.toNat : Int) ≤ 57) || decide ((c.toNat : Int) = 45) || decide ((c.toNat : Int) = 95)
theorem Fb4 (c : UInt8) : (decide (97 ≤ (c.toNat : Int)) && decide ((c.toNat : Int) ≤ 122) || decide (48 ≤ (c.toNat : Int)) && decide ((c.toNat : Int) ≤ 57) || decide ((c.toNat : Int) = 45) || decide ((c.toNat : Int) = 95)) = As4 c := rfl
def Ad8 (s : List UInt8) : Bool := decide (s = [42]) || (decide (1 ≤ s.length) && decide (s.length ≤ 63) && s.all As4)

theorem Fb8 (s : List UInt8) (N : Nat) (hN : s.length < N) (hs : s.length ≤ 4294967296) :
  Gc6.ev S N [.s s] = some (if s.all As4 = true then .yld 0 [] else .ret [.b false]) := by
 refine Ak2 s (fun i => [.i .i64 (i : Int)]) (fun i r => if r.all As4 = true then .yld 0 [] else .ret [.b false]) rfl hN (fun i c r hd hi hc => ?_) ?_
 ·simp (disch := omega) only [Fg0, ↓reduceIte, EV, Nat.reduceAdd, Nat.reduceEqDiff, Int.reduceToNat, reduceCtorEq, hc, Fb4]
  cases h : As4 c <;> simp [h, Out.goes]
 ·simp (disch := omega) [Fg0, ↓reduceIte, EV, Nat.reduceAdd, Nat.reduceEqDiff, Int.reduceToNat, reduceCtorEq, Out.goes]

theorem Fb7 (s : List UInt8) (hs : s.length ≤ 4294967296) : S Cf6 1 [.s s] = some [.b (Ad8 s)] := by
 refine Kz5 (N := s.length + 1) rfl ?_
 simp (disch := omega) only [Fg0, Fb8, ↓reduceIte, EV, Nat.reduceAdd, Nat.reduceEqDiff, Int.reduceToNat, reduceCtorEq]
 unfold Ad8
 grind
end Go.X.G
/- Names: what the reference's functions give. -/
namespace Go.X.G
open Go Go.X

def spl (first : Bool) (cur : List UInt8) : List UInt8 → Option (List (List UInt8))
 | [] => some []
 | c :: r => if c = 46 then (if Ad8 cur = true ∧ (cur = [42] → first = true) then (spl false [] r).map (cur :: ·) else none) else spl first (cur ++ [c]) r
def nm (n : List UInt8) : Option (List (List UInt8)) :=
 if n = [46] then some [] else if 2 ≤ n.length ∧ n.length ≤ 254 ∧ n[n.length - 1]? = some 46 then spl true [] n else none
def lbl (n : List UInt8) : List (List UInt8) := (nm n).getD []
def vld (n : List UInt8) : Bool := (nm n).isSome

theorem Jv1 {α : Type} (n : List α) (i j : Nat) (c : α) (h : n[i]? = some c) (hj : j ≤ i) : (n.take (i + 1)).drop j = (n.take i).drop j ++ [c] := by
 have hi : i < n.length := (List.getElem?_eq_some_iff.1 h).1
 rw [List.take_add_one, h, List.drop_append_of_le_length (by simp; omega)]; rfl
theorem Jv2 {α : Type} (n : List α) (i : Nat) : (n.take i).drop i = [] := by
 rw [List.drop_eq_nil_iff]; simp; omega

def Bh2 (l : List (List UInt8)) : Option (List (List UInt8)) → Out
 | some ls => .yld 0 [.l 1 ((l ++ ls).map .s)]
 | none => .ret [.l 1 [], .b false]
theorem Ib2 (n : List UInt8) (N : Nat) (hN : n.length < N) (hs : n.length ≤ 1000) :
  It1.ev S N [.s n] = some (Bh2 [] (spl true [] n)) := by
 refine Ak8 n (fun i (g : List (List UInt8) × Nat) => [.l 1 (g.1.map .s), .i .i64 (g.2 : Int), .i .i64 (i : Int)]) (fun i g r => Bh2 g.1 (spl (decide (g.2 = 0)) ((n.take i).drop g.2) r)) (fun i g => g.1.length ≤ i ∧ g.2 ≤ i) ([], 0) rfl ⟨Nat.le_refl _, Nat.le_refl _⟩ hN (fun i g c r hd hi hc hI => ?_) (fun g hI => ?_)
 ·obtain ⟨l, st⟩ := g
  obtain ⟨h1, h2⟩ := hI
  simp only at h1 h2 ⊢
  have hl : ((n.take i).drop st).length ≤ 4294967296 := by simp; omega
  have hm : (l.map PV.s).length = l.length := List.length_map ..
  have hd' := Kq6 c 46 (by omega)
  by_cases hdot : c = 46
  ·have hdi := hd'.2 hdot
   simp (disch := omega) only [Cw7, ↓reduceIte, EV, Nat.reduceAdd, Nat.reduceEqDiff, Int.reduceToNat, reduceCtorEq, hc, Fb7]
   simp only [spl, if_pos hdot]
   by_cases h : Ad8 ((n.take i).drop st) = true ∧ ((n.take i).drop st = [42] → st = 0)
   ·obtain ⟨h3, h4⟩ := h
    left
    refine ⟨(l ++ [(n.take i).drop st], i + 1), ?_, ?_, ?_⟩
    ·rw [if_neg (by simp only [h3]; intro h; simp at h; have := h4 h.1; omega)]
     simp
    ·simp; omega
    ·simp only [Jv2]
     rw [if_pos ⟨h3, by simpa using h4⟩]
     cases h9 : spl false [] r <;> simp [h9, Bh2]
   ·right
    have h' : ¬ (Ad8 ((n.take i).drop st) = true ∧ ((n.take i).drop st = [42] → decide (st = 0) = true)) := by simpa using h
    rw [if_neg h']
    refine ⟨?_, rfl⟩
    rw [if_pos]
    ·rfl
    ·cases h5 : Ad8 ((n.take i).drop st)
     ·simp
     ·simp only [h5, true_and] at h
      have ⟨h6, h7⟩ := Classical.not_imp.1 h
      simp [h6]; omega
  ·have hdi : ¬ (c.toNat : Int) = 46 := fun h => hdot (hd'.1 h)
   left
   refine ⟨(l, st), ?_, ?_, ?_⟩
   ·simp (disch := omega) only [Cw7, ↓reduceIte, EV, Nat.reduceAdd, Nat.reduceEqDiff, Int.reduceToNat, reduceCtorEq, hc]
   ·simp only; omega
   ·simp only [spl]; rw [if_neg hdot, Jv1 n i st c hc h2]
 ·simp (disch := omega) [Cw7, ↓reduceIte, EV, Nat.reduceAdd, Nat.reduceEqDiff, Int.reduceToNat, reduceCtorEq, Out.goes, spl, Bh2]

theorem split_ok (n : List UInt8) (hs : n.length ≤ 9223372036854775807) : S Cc4 1 [.s n] = some [Aj7 (lbl n), .b (vld n)] := by
 refine Ly6 (N := n.length + 1) rfl ?_
 unfold Aj7 lbl vld nm
 by_cases h1 : n = [46]
 ·simp (disch := omega) [Cw7, ↓reduceIte, EV, Nat.reduceAdd, Nat.reduceEqDiff, Int.reduceToNat, reduceCtorEq, h1]
 ·rw [if_neg h1]
  by_cases h2 : n.length < 2
  ·simp (disch := omega) only [Cw7, ↓reduceIte, EV, Nat.reduceAdd, Nat.reduceEqDiff, Int.reduceToNat, reduceCtorEq, h1]
   have h3 : ¬ (2 ≤ n.length ∧ n.length ≤ 254 ∧ n[n.length - 1]? = some 46) := by omega
   rw [if_neg h3]; rfl
  ·by_cases h3 : 254 < n.length
   ·simp (disch := omega) only [Cw7, ↓reduceIte, EV, Nat.reduceAdd, Nat.reduceEqDiff, Int.reduceToNat, reduceCtorEq, h1]
    have h3 : ¬ (2 ≤ n.length ∧ n.length ≤ 254 ∧ n[n.length - 1]? = some 46) := by omega
    rw [if_neg h3]; rfl
   ·have h4 := List.getElem?_eq_getElem (l := n) (i := n.length - 1) (by omega)
    have h5 : ((n.length : Int) - 1).toNat = n.length - 1 := by omega
    have h6 := Kq6 (n[n.length - 1]'(by omega)) 46 (by omega)
    simp (disch := omega) only [Cw7, ↓reduceIte, EV, Nat.reduceAdd, Nat.reduceEqDiff, Int.reduceToNat, reduceCtorEq, h1, h4, h5, Ib2]
    by_cases h7 : n[n.length - 1]'(by omega) = 46
    ·rw [if_pos (show 2 ≤ n.length ∧ n.length ≤ 254 ∧ some (n[n.length - 1]'(by omega)) = some 46 from ⟨by omega, by omega, by rw [h7]⟩), if_neg (fun h => h (h6.2 h7))]
     cases h8 : spl true [] n
     ·simp [Bh2, Iw9]
     ·simp (disch := omega) [Cw7, Bh2, ↓reduceIte, EV, Nat.reduceAdd, Nat.reduceEqDiff, Int.reduceToNat, reduceCtorEq]
    ·rw [if_neg (show ¬ (2 ≤ n.length ∧ n.length ≤ 254 ∧ some (n[n.length - 1]'(by omega)) = some 46) from fun h => h7 (by simpa using h.2.2)), if_pos (show (((n[n.length - 1]'(by omega)).toNat : Int) ≠ 46) from fun h => h7 (h6.1 h))]
     rfl
end Go.X.G
/- Names: what the reference's functions give, ctd. -/
namespace Go.X.G
open Go Go.X

theorem Cp8 : ∀ (r : List UInt8) (f : Bool) (cur : List UInt8) (l : List (List UInt8)), spl f cur r = some l → l.length ≤ r.length
 | [], f, cur, l, h => by simp [spl] at h; simp [← h]
 | c :: r, f, cur, l, h => by
   simp only [spl] at h
   split at h
   ·split at h
    ·obtain ⟨m, hm, rfl⟩ := Option.map_eq_some_iff.1 h
     have := Cp8 r _ _ _ hm
     simp; omega
    ·cases h
   ·have := Cp8 r _ _ _ h
    simp; omega
theorem Kg7 {n : List UInt8} {l : List (List UInt8)} (h : nm n = some l) : l.length ≤ 254 := by
 unfold nm at h
 split at h
 ·injection h with h; subst h; simp
 ·split at h
  ·rename_i h2
   have := Cp8 _ _ _ _ h; omega
  ·cases h
theorem Ag3 (n : List UInt8) : (lbl n).length ≤ 254 := by
 unfold lbl
 cases h : nm n with
 | none => simp
 | some l => exact Kg7 h

theorem Al6 (n : List UInt8) (hs : n.length ≤ 9223372036854775807) : S Bw3 1 [.s n] = some [Aj7 (lbl n)] := by
 refine Kz3 (N := 1) rfl ?_
 simp (disch := omega) only [Kk6, split_ok, EVP, ↓reduceIte, EV, Nat.reduceAdd, Nat.reduceEqDiff, Int.reduceToNat, reduceCtorEq]

def cpre {α : Type} [DecidableEq α] : List α → List α → Nat
 | x :: xs, y :: ys => if x = y then cpre xs ys + 1 else 0
 | _, _ => 0
def Fk8 (a b : List (List UInt8)) : Nat := cpre a.reverse b.reverse
theorem Jw8 (a b : List (List UInt8)) (N : Nat) (hN : a.length < N) (ha : a.length ≤ 1000000) (hb : b.length ≤ 1000000) :
  Gb1.ev S N [Aj7 a, Aj7 b] = some (.yld 0 [.i .i64 (Fk8 a b : Int)]) := by
 have key := Aw8 (fn := S) (N := N) (η := [Aj7 a, Aj7 b]) (id := 1) (init := [(.c (.i .i64 (0)))]) (body := El5) (α := Nat) (fun k => [.i .i64 (k : Int)]) (fun k => .yld 0 [.i .i64 ((k + cpre (a.reverse.drop k) (b.reverse.drop k) : Nat) : Int)]) (fun k => k ≤ a.length ∧ k ≤ b.length) (fun k => a.length - k) 0 rfl ⟨Nat.zero_le _, Nat.zero_le _⟩ (by omega) ?_
 ·simpa [Fk8, Gb1] using key
 ·rintro k ⟨h1, h2⟩
  by_cases h3 : k < a.length
  ·by_cases h4 : k < b.length
   ·have e1 : ((a.length : Int) - 1 - k).toNat = a.length - 1 - k := by omega
    have e2 : ((b.length : Int) - 1 - k).toNat = b.length - 1 - k := by omega
    have g1 : a[a.length - 1 - k]? = some (a[a.length - 1 - k]'(by omega)) := List.getElem?_eq_getElem (by omega)
    have g2 : b[b.length - 1 - k]? = some (b[b.length - 1 - k]'(by omega)) := List.getElem?_eq_getElem (by omega)
    have d1 : a.reverse.drop k = (a[a.length - 1 - k]'(by omega)) :: a.reverse.drop (k + 1) := by
     rw [List.drop_eq_getElem_cons (by simpa using h3)]; simp
    have d2 : b.reverse.drop k = (b[b.length - 1 - k]'(by omega)) :: b.reverse.drop (k + 1) := by
     rw [List.drop_eq_getElem_cons (by simpa using h4)]; simp
    simp (disch := omega) only [Iy4, EVP, ↓reduceIte, EV, Nat.reduceAdd, Nat.reduceEqDiff, Int.reduceToNat, reduceCtorEq, e1, e2, g1, g2]
    rw [d1, d2]
    simp only [cpre]
    by_cases h : a[a.length - 1 - k]'(by omega) = b[b.length - 1 - k]'(by omega)
    ·left
     refine ⟨k + 1, by simp [h], ⟨by omega, by omega⟩, by omega, ?_⟩
     rw [if_pos h]
     congr 3
     push_cast
     omega
    ·right
     simp [h, Out.goes]
   ·right
    have d2 : b.reverse.drop k = [] := List.drop_eq_nil_of_le (by simp; omega)
    have z : cpre (a.reverse.drop k) [] = 0 := by cases a.reverse.drop k <;> rfl
    rw [d2, z]
    simp (disch := omega) [Iy4, EVP, ↓reduceIte, EV, Nat.reduceAdd, Nat.reduceEqDiff, Int.reduceToNat, reduceCtorEq, Out.goes]
  ·right
   have d1 : a.reverse.drop k = [] := List.drop_eq_nil_of_le (by simp; omega)
   have z : cpre [] (b.reverse.drop k) = 0 := rfl
   rw [d1, z]
   simp (disch := omega) [Iy4, EVP, ↓reduceIte, EV, Nat.reduceAdd, Nat.reduceEqDiff, Int.reduceToNat, reduceCtorEq, Out.goes]
theorem Jw7 (a b : List (List UInt8)) (ha : a.length ≤ 1000000) (hb : b.length ≤ 1000000) : S Gw0 2 [Aj7 a, Aj7 b] = some [.i .i64 (Fk8 a b : Int)] := by
 refine Ly5 (N := a.length + 1) rfl ?_
 simp (disch := omega) only [Iy4, Jw8, EVP, ↓reduceIte, EV, Nat.reduceAdd, Nat.reduceEqDiff, Int.reduceToNat, reduceCtorEq]

def Ak4 (n top : List UInt8) : Bool := vld n && vld top && decide (Fk8 (lbl n) (lbl top) = (lbl top).length)
theorem Aq2 (n top : List UInt8) (hn : n.length ≤ 9223372036854775807) (ht : top.length ≤ 9223372036854775807) : S Am8 2 [.s n, .s top] = some [.b (Ak4 n top)] := by
 refine Ld0 (N := 1) rfl ?_
 have h1 := Ag3 n
 have h2 := Ag3 top
 unfold Ak4
 cases h3 : vld n <;> cases h4 : vld top <;> simp (disch := omega) only [Lw5, split_ok, Jw7, h3, h4, EVP, ↓reduceIte, EV, Nat.reduceAdd, Nat.reduceEqDiff, Int.reduceToNat, reduceCtorEq]
 all_goals (simp; try omega)

def cmpS (a b : List UInt8) : Int := if Op.bytesLess a b then -1 else if a = b then 0 else 1
end Go.X.G
/- Data of records: what the reference's functions give. -/
namespace Go.X.G
open Go Go.X

def mnem (t : Int) : List UInt8 :=
 if t = 1 then [65] else if t = 2 then [78, 83] else if t = 5 then [67, 78, 65, 77, 69] else if t = 6 then [83, 79, 65] else if t = 12 then [80, 84, 82]
 else if t = 15 then [77, 88] else if t = 16 then [84, 88, 84] else if t = 28 then [65, 65, 65, 65] else if t = 33 then [83, 82, 86] else if t = 39 then [68, 78, 65, 77, 69]
 else if t = 43 then [68, 83] else if t = 46 then [82, 82, 83, 73, 71] else if t = 47 then [78, 83, 69, 67] else if t = 48 then [68, 78, 83, 75, 69, 89] else []
theorem t15 (t : Int) : t = 1 ∨ t = 2 ∨ t = 5 ∨ t = 6 ∨ t = 12 ∨ t = 15 ∨ t = 16 ∨ t = 28 ∨ t = 33 ∨ t = 39 ∨ t = 43 ∨ t = 46 ∨ t = 47 ∨ t = 48 ∨ (t ≠ 1 ∧ t ≠ 2 ∧ t ≠ 5 ∧ t ≠ 6 ∧ t ≠ 12 ∧ t ≠ 15 ∧ t ≠ 16 ∧ t ≠ 28 ∧ t ≠ 33 ∧ t ≠ 39 ∧ t ≠ 43 ∧ t ≠ 46 ∧ t ≠ 47 ∧ t ≠ 48) := by omega
theorem Ec4 (t : Int) : S Gv9 1 [.i .i64 t] = some [.s (mnem t)] := by
 refine Ly4 (N := 1) rfl ?_
 rcases t15 t with rfl | rfl | rfl | rfl | rfl | rfl | rfl | rfl | rfl | rfl | rfl | rfl | rfl | rfl | ⟨h0, h1, h2, h3, h4, h5, h6, h7, h8, h9, h10, h11, h12, h13⟩
 all_goals simp (disch := omega) only [Lq9, EVP, ↓reduceIte, EV, Nat.reduceAdd, Nat.reduceEqDiff, Int.reduceToNat, reduceCtorEq]
 all_goals first | rfl | (unfold mnem; simp only [if_neg, *]; rfl)
def knw (t : Int) : Bool := decide (t = 1) || decide (t = 2) || decide (t = 5) || decide (t = 6) || decide (t = 12) || decide (t = 15) || decide (t = 16) || decide (t = 28) || decide (t = 33) || decide (t = 39) || decide (t = 43) || decide (t = 46) || decide (t = 47) || decide (t = 48)
theorem Ig7 (t : Int) : decide (mnem t ≠ []) = knw t := by
 unfold mnem knw
 rcases t15 t with rfl | rfl | rfl | rfl | rfl | rfl | rfl | rfl | rfl | rfl | rfl | rfl | rfl | rfl | ⟨h0, h1, h2, h3, h4, h5, h6, h7, h8, h9, h10, h11, h12, h13⟩
 all_goals simp [*]
theorem Ix2 (t : Int) : S Gx6 1 [.i .i64 t] = some [.b (knw t)] := by
 refine Lc9 (N := 1) rfl ?_
 simp (disch := omega) only [Lw4, Ec4, Ig7, EVP, ↓reduceIte, EV, Nat.reduceAdd, Nat.reduceEqDiff, Int.reduceToNat, reduceCtorEq]
end Go.X.G
/- Data of records: bytes. -/
namespace Go.X.G
open Go Go.X

end Go.X.G
/- Data of records: the wire form. -/
namespace Go.X.G
open Go Go.X

end Go.X.G
/- Data of records: which are valid. -/
namespace Go.X.G
open Go Go.X

end Go.X.G
/- Lists of records: what the reference's functions give. -/
namespace Go.X.G
open Go Go.X

def isK (n : List UInt8) (t : Int) (r : Rec) : Bool := decide (r.name = n) && decide (r.typ = t)
def findR (l : List Rec) (n : List UInt8) (t : Int) : List Rec := l.filter (isK n t)
theorem Al8 (l : List Rec) (n : List UInt8) (t : Int) (hl : l.length ≤ 1000000) : S Bw1 3 [Aj2 l, .s n, .i .i64 t] = some [Aj2 (findR l n t)] := by
 refine Kx2 (N := l.length + 1) rfl ?_
 have key : Gb2.ev S (l.length + 1) [Aj2 l, .s n, .i .i64 t] = some (.yld 0 [Aj2 ([] ++ findR l n t)]) := by
  refine Ak8 l (fun i (g : List Rec) => [Aj2 g, .i .i64 (i : Int)]) (fun i g r => .yld 0 [Aj2 (g ++ findR r n t)]) (fun i g => g.length ≤ i) [] rfl (Nat.zero_le _) (by omega) (fun i g c r hd hi hc hI => ?_) (fun g hI => ?_)
  ·left
   by_cases h : isK n t c = true
   ·refine ⟨g ++ [c], ?_, by simp; omega, by simp [findR, h]⟩
    simp [isK] at h
    simp (disch := omega) only [Cw9, hc, h.1, h.2, EVP, ↓reduceIte, EV, Nat.reduceAdd, Nat.reduceEqDiff, Int.reduceToNat, reduceCtorEq]
   ·refine ⟨g, ?_, by omega, by simp [findR, h]⟩
    simp [isK] at h
    by_cases h1 : c.name = n
    ·simp (disch := omega) only [Cw9, hc, h1, h h1, EVP, ↓reduceIte, EV, Nat.reduceAdd, Nat.reduceEqDiff, Int.reduceToNat, reduceCtorEq]
    ·simp (disch := omega) only [Cw9, hc, h1, EVP, ↓reduceIte, EV, Nat.reduceAdd, Nat.reduceEqDiff, Int.reduceToNat, reduceCtorEq]
  ·simp (disch := omega) only [Cw9, EVP, ↓reduceIte, EV, Nat.reduceAdd, Nat.reduceEqDiff, Int.reduceToNat, reduceCtorEq]
   simp [findR, Out.goes]
 simp (disch := omega) only [Cw9, key, EVP, ↓reduceIte, EV, Nat.reduceAdd, Nat.reduceEqDiff, Int.reduceToNat, reduceCtorEq]
theorem Al7 (l : List Rec) (n : List UInt8) (t : Int) (hl : l.length ≤ 1000000) : S At7 3 [Aj2 l, .s n, .i .i64 t] = some [Aj2 (findR l n t)] := by
 refine Kc2 (N := l.length + 1) rfl ?_
 have key : Gd4.ev S (l.length + 1) [Aj2 l, .s n, .i .i64 t] = some (.yld 0 [Aj2 ([] ++ findR l n t)]) := by
  refine Ak8 l (fun i (g : List Rec) => [Aj2 g, .i .i64 (i : Int)]) (fun i g r => .yld 0 [Aj2 (g ++ findR r n t)]) (fun i g => g.length ≤ i) [] rfl (Nat.zero_le _) (by omega) (fun i g c r hd hi hc hI => ?_) (fun g hI => ?_)
  ·left
   by_cases h : isK n t c = true
   ·refine ⟨g ++ [c], ?_, by simp; omega, by simp [findR, h]⟩
    simp [isK] at h
    simp (disch := omega) only [Cx7, hc, h.1, h.2, EVP, ↓reduceIte, EV, Nat.reduceAdd, Nat.reduceEqDiff, Int.reduceToNat, reduceCtorEq]
   ·refine ⟨g, ?_, by omega, by simp [findR, h]⟩
    simp [isK] at h
    by_cases h1 : c.name = n
    ·simp (disch := omega) only [Cx7, hc, h1, h h1, EVP, ↓reduceIte, EV, Nat.reduceAdd, Nat.reduceEqDiff, Int.reduceToNat, reduceCtorEq]
    ·by_cases h2 : c.typ = t <;> simp (disch := omega) only [Cx7, hc, h1, h2, EVP, ↓reduceIte, EV, Nat.reduceAdd, Nat.reduceEqDiff, Int.reduceToNat, reduceCtorEq]
  ·simp (disch := omega) only [Cx7, EVP, ↓reduceIte, EV, Nat.reduceAdd, Nat.reduceEqDiff, Int.reduceToNat, reduceCtorEq]
   simp [findR, Out.goes]
 simp (disch := omega) only [Cx7, key, EVP, ↓reduceIte, EV, Nat.reduceAdd, Nat.reduceEqDiff, Int.reduceToNat, reduceCtorEq]

end Go.X.G
/- The library's functions on strings. -/
namespace Go.X.G
open Go Go.X

theorem Jf5 (x : List UInt8) (c : UInt8) : S Eg0 2 [.s x, .i .u8 (c.toNat : Int)] = some [.i .i64 (x.count c : Int)] :=
 Kw6 (args := [.s x, .i .u8 (c.toNat : Int)]) (by simp [XK.run, Fq0, Lib.countByte])
theorem Jb5 (x : List UInt8) (c : UInt8) : S Ef9 2 [.s x, .i .u8 (c.toNat : Int)] = some [.i .i64 (Lib.indexByte x c)] :=
 Kw4 (args := [.s x, .i .u8 (c.toNat : Int)]) (by simp [XK.run, Fq0])
theorem Cw2 (x : List UInt8) (c : UInt8) : S Cd2 2 [.s x, .i .u8 (c.toNat : Int)] = some [.i .i64 (Lib.indexByte x c)] := by
 refine Kw9 (N := 1) rfl ?_
 simp (disch := omega) only [Kk2, Jb5, EVP, ↓reduceIte, EV, Nat.reduceAdd, Nat.reduceEqDiff, Int.reduceToNat, reduceCtorEq]
theorem Am4 (c : UInt8) : ∀ (x : List UInt8), c ∉ x → Lib.indexByte x c = -1
 | [], _ => rfl
 | b :: l, h => by
   have h1 : b ≠ c := fun e => h (by simp [e])
   have h2 := Am4 c l (fun e => h (by simp [e]))
   simp [Lib.indexByte, h1, h2]
theorem Am3 (c : UInt8) (post : List UInt8) : ∀ (pre : List UInt8), c ∉ pre → Lib.indexByte (pre ++ c :: post) c = (pre.length : Int)
 | [], _ => by simp [Lib.indexByte]
 | b :: l, h => by
   have h1 : b ≠ c := fun e => h (by simp [e])
   have h2 := Am3 c post l (fun e => h (by simp [e]))
   simp only [List.cons_append, Lib.indexByte, h2]
   simp [h1]
   try omega
theorem dot_split (c : UInt8) : ∀ (s : List UInt8), c ∉ s ∨ ∃ pre post, s = pre ++ c :: post ∧ c ∉ pre
 | [] => .inl (by simp)
 | b :: l => by
   by_cases h : b = c
   ·exact .inr ⟨[], l, by simp [h], by simp⟩
   ·rcases dot_split c l with h1 | ⟨pre, post, rfl, h2⟩
    ·exact .inl (by simp [h1, Ne.symm h])
    ·exact .inr ⟨b :: pre, post, by simp, by simp [h2, Ne.symm h]⟩
def pcs (cur : List UInt8) : List UInt8 → List (List UInt8)
 | [] => [cur]
 | c :: r => if c = 46 then cur :: pcs [] r else pcs (cur ++ [c]) r
def cut (s : List UInt8) : List (List UInt8) := pcs [] s
theorem Gq4 (post : List UInt8) : ∀ (pre cur : List UInt8), (46 : UInt8) ∉ pre → pcs cur (pre ++ 46 :: post) = (cur ++ pre) :: pcs [] post
 | [], cur, _ => by simp [pcs]
 | b :: l, cur, h => by
   have h1 : b ≠ 46 := fun e => h (by simp [e])
   have h2 := Gq4 post l (cur ++ [b]) (fun e => h (by simp [e]))
   simp [pcs, h1, h2]
theorem Bt2 : ∀ (s cur : List UInt8), (46 : UInt8) ∉ s → pcs cur s = [cur ++ s]
 | [], cur, _ => by simp [pcs]
 | b :: l, cur, h => by
   have h1 : b ≠ 46 := fun e => h (by simp [e])
   have h2 := Bt2 l (cur ++ [b]) (fun e => h (by simp [e]))
   simp [pcs, h1, h2]
theorem Gh5 (s : List UInt8) : (cut s).length = s.count 46 + 1 := by
 have : ∀ (s cur : List UInt8), (pcs cur s).length = s.count 46 + 1 := by
  intro s
  induction s with
  | nil => intro cur; rfl
  | cons c r ih =>
    intro cur
    by_cases h : c = 46 <;> simp [pcs, h, ih]
 exact this s []
theorem Fd6 (s : List UInt8) (hs : s.length ≤ 9223372036854775807) : S Cc9 2 [.s s, .s [46]] = some [.i .i64 (Lib.indexByte s 46)] := by
 refine Kw5 (N := 1) rfl ?_
 have h1 := Cw2 s 46
 have e : (((46 : UInt8).toNat : Nat) : Int) = 46 := rfl
 rw [e] at h1
 by_cases h : [46] = s
 ·subst h
  simp (disch := omega) only [Ip5, EVP, ↓reduceIte, EV, Nat.reduceAdd, Nat.reduceEqDiff, Int.reduceToNat, reduceCtorEq]
  rfl
 ·simp (disch := omega) only [Ip5, h, h1, e, EVP, ↓reduceIte, EV, Nat.reduceAdd, Nat.reduceEqDiff, Int.reduceToNat, reduceCtorEq]
theorem Cn2 (s : List UInt8) (hs : s.length ≤ 9223372036854775807) : S Bl2 2 [.s s, .s [46]] = some [.i .i64 (Lib.indexByte s 46)] := by
 refine Kx0 (N := 1) rfl ?_
 simp (disch := omega) only [Kk3, Fd6, EVP, ↓reduceIte, EV, Nat.reduceAdd, Nat.reduceEqDiff, Int.reduceToNat, reduceCtorEq]
theorem Ix8 (s : List UInt8) : S Cd3 2 [.s s, .s [46]] = some [.i .i64 (s.count 46 : Int)] := by
 refine Kx1 (N := 1) rfl ?_
 have h1 := Jf5 s 46
 have e : (((46 : UInt8).toNat : Nat) : Int) = 46 := rfl
 rw [e] at h1
 simp (disch := omega) only [Kk4, h1, e, EVP, ↓reduceIte, EV, Nat.reduceAdd, Nat.reduceEqDiff, Int.reduceToNat, reduceCtorEq]

def Gf8 (done rest : List (List UInt8)) : Out :=
 .yld 0 [.s ((done ++ rest).getLastD []), Aj7 ((done ++ rest).dropLast ++ [[]]), .i .i64 (((done ++ rest).length : Int) - 1)]
theorem Dj3 (s : List UInt8) (N : Nat) (hN : s.length < N) (hs : s.length ≤ 1000000) (p q : PV) :
  Ct6.ev S N [.s s, .s [46], .i .i64 0, p, .i .i64 ((s.count 46 : Int) + 1)] = some (Gf8 [] (cut s)) := by
 have hc0 : s.count 46 ≤ s.length := List.count_le_length
 have key := Aw8 (fn := S) (N := N) (η := [.s s, .s [46], .i .i64 0, p, .i .i64 ((s.count 46 : Int) + 1)]) (id := 1) (init := [(.v 0), (.rep 1 (.mn (.v 4) (.bin .add (.slen (.v 0)) (.c (.i .i64 (1))))) (.c (.s []))), (.c (.i .i64 (0)))]) (body := Cv4) (α := List (List UInt8) × List UInt8)
  (fun a => [.s a.2, Aj7 (a.1 ++ List.replicate (a.2.count 46 + 1) []), .i .i64 (a.1.length : Int)]) (fun a => Gf8 a.1 (cut a.2)) (fun a => a.1.length + a.2.count 46 = s.count 46 ∧ a.2.length ≤ s.length) (fun a => a.2.length) ([], s) ?_ ⟨by simp, Nat.le_refl _⟩ hN ?_
 ·simpa [Ct6] using key
 ·have e : ((s.count 46 : Int) + 1).toNat = s.count 46 + 1 := by omega
  simp (disch := omega) only [e, EVP, ↓reduceIte, EV, Nat.reduceAdd, Nat.reduceEqDiff, Int.reduceToNat, reduceCtorEq]
 ·rintro ⟨done, rest⟩ ⟨h1, h2⟩
  simp only at h1 h2 ⊢
  rcases dot_split 46 rest with h | ⟨pre, post, rfl, h⟩
  ·right
   have c0 : rest.count 46 = 0 := List.count_eq_zero.2 h
   have i0 := Am4 46 rest h
   have cu : cut rest = [rest] := by simpa [cut] using Bt2 rest [] h
   refine ⟨?_, rfl⟩
   rw [c0]
   rw [c0] at h1
   simp (disch := omega) only [Ff8, Cn2, i0, EVP, ↓reduceIte, EV, Nat.reduceAdd, Nat.reduceEqDiff, Int.reduceToNat, reduceCtorEq]
   simp [Gf8, cu, List.getLastD_eq_getLast?]
  ·left
   have c0 : (pre ++ 46 :: post).count 46 = post.count 46 + 1 := by
    rw [List.count_append, List.count_eq_zero.2 h]; simp
   have i0 := Am3 46 post pre h
   have cu : cut (pre ++ 46 :: post) = pre :: cut post := by simpa [cut] using Gq4 post pre [] h
   have hl : (pre ++ 46 :: post).length = pre.length + post.length + 1 := by simp; omega
   have sl1 : List.drop (0 : Int).toNat (List.take ((pre.length : Int) + 0).toNat (pre ++ 46 :: post)) = pre := by
    simp
   have sl2 : List.drop ((pre.length : Int) + 1).toNat (List.take (pre ++ 46 :: post).length (pre ++ 46 :: post)) = post := by
    have : ((pre.length : Int) + 1).toNat = pre.length + 1 := by omega
    rw [this, List.take_length, List.drop_append]
    simp
   have sl3 : (done ++ [] :: [] :: List.replicate (post.count 46) ([] : List UInt8)).length = done.length + post.count 46 + 2 := by simp; omega
   refine ⟨(done ++ [pre], post), ?_, ⟨by simp; omega, by simp only; omega⟩, by simp; omega, by simp [Gf8, cu]⟩
   rw [c0]
   rw [c0] at h1
   simp (disch := omega) only [Ff8, Cn2, i0, sl1, sl2, EVP, ↓reduceIte, EV, Nat.reduceAdd, Nat.reduceEqDiff, Int.reduceToNat, reduceCtorEq]
   simp [List.replicate_succ, List.set_append]
theorem Dj2 (s : List UInt8) (hs : s.length ≤ 1000000) : S Cd9 4 [.s s, .s [46], .i .i64 0, .i .i64 (-1)] = some [Aj7 (cut s)] := by
 refine Ky4 (N := s.length + 1) rfl ?_
 have h1 := Gh5 s
 have h2 : s.count 46 ≤ s.length := List.count_le_length
 obtain ⟨l, x, hx⟩ : ∃ l x, cut s = l ++ [x] := ⟨(cut s).dropLast, (cut s).getLast (by intro e; simp [e] at h1), (List.dropLast_concat_getLast _).symm⟩
 have h3 : l.length = s.count 46 := by rw [hx] at h1; simpa using h1
 have h4 : ((l.length : Int) + 1 - 1) = (l.length : Int) := by omega
 have h5 : ((l ++ [([] : List UInt8)]).length : Int) = l.length + 1 := by simp
 have h6 : ((l ++ [x]).length : Int) = l.length + 1 := by simp
 have g1 : (l ++ [([] : List UInt8)])[l.length]? = some [] := by simp
 have g2 : (l ++ [x]).getLastD [] = x := by simp [List.getLastD_eq_getLast?]
 have g3 : (l ++ [([] : List UInt8)]).set l.length x = l ++ [x] := by simp
 have hk := Dj3 s (s.length + 1) (by omega) hs (.i .i64 (-1)) .u
 rw [hx] at hk ⊢
 simp only [Gf8, List.nil_append, List.dropLast_concat] at hk
 simp (disch := omega) only [Ff8, Ix8, hk, h4, h6, g1, g2, g3, EVP, ↓reduceIte, EV, Nat.reduceAdd, Nat.reduceEqDiff, Int.reduceToNat, reduceCtorEq]
 have g4 : ((l.length : Int) + 1).toNat = (l ++ [x]).length := by simp
 rw [g4, List.take_length]
 rfl
theorem Cn1 (s : List UInt8) (hs : s.length ≤ 1000000) : S Bm8 2 [.s s, .s [46]] = some [Aj7 (cut s)] := by
 refine Kc5 (N := 1) rfl ?_
 simp (disch := omega) only [Kq2, Dj2, EVP, ↓reduceIte, EV, Nat.reduceAdd, Nat.reduceEqDiff, Int.reduceToNat, reduceCtorEq]
theorem Cw3 (s t : List UInt8) (hs : s.length ≤ 9223372036854775807) : S Cf0 2 [.s s, .s t] = some [.b (t.isSuffixOf s)] := by
 refine Ky5 (N := 1) rfl ?_
 by_cases h : t.length ≤ s.length
 ·have e : ((s.length : Int) - (t.length : Int)).toNat = s.length - t.length := by omega
  simp (disch := omega) only [Ip7, e, EVP, ↓reduceIte, EV, Nat.reduceAdd, Nat.reduceEqDiff, Int.reduceToNat, reduceCtorEq]
  simp only [List.take_length]
  congr 4
  rw [Bool.eq_iff_iff, List.isSuffixOf_iff_suffix, decide_eq_true_eq]
  refine ⟨fun h => h ▸ List.drop_suffix _ _, fun h => ?_⟩
  obtain ⟨p, rfl⟩ := h
  simp
 ·have h2 : t.isSuffixOf s = false := by
   rw [Bool.eq_false_iff, ne_eq, List.isSuffixOf_iff_suffix]
   exact fun h' => h h'.length_le
  simp (disch := omega) only [Ip7, h2, EVP, ↓reduceIte, EV, Nat.reduceAdd, Nat.reduceEqDiff, Int.reduceToNat, reduceCtorEq]
theorem Ah3 (s t : List UInt8) (hs : s.length ≤ 9223372036854775807) : S Bm9 2 [.s s, .s t] = some [.b (t.isSuffixOf s)] := by
 refine Kc6 (N := 1) rfl ?_
 simp (disch := omega) only [Kq3, Cw3, EVP, ↓reduceIte, EV, Nat.reduceAdd, Nat.reduceEqDiff, Int.reduceToNat, reduceCtorEq]
end Go.X.G
/- Names and their labels. -/
namespace Go.X.G
open Go Go.X

def flat (l : List (List UInt8)) : List UInt8 := l.flatMap fun x => x ++ [46]
def jn (l : List (List UInt8)) : List UInt8 := if l = [] then [46] else flat l
def Aw0 (first : Bool) : List (List UInt8) → Bool
 | [] => true
 | p :: r => Ad8 p && (!decide (p = [42]) || first) && Aw0 false r
theorem Jb0 : As4 46 = false := by decide
theorem Ap7 {p : List UInt8} (h : Ad8 p = true) : (46 : UInt8) ∉ p := by
 unfold Ad8 at h
 simp at h
 rcases h with rfl | ⟨_, h⟩
 ·decide
 ·intro h2
  have := h 46 h2
  rw [Jb0] at this
  cases this
theorem Eh6 {p : List UInt8} (h : Ad8 p = true) : p ≠ [] := by
 rintro rfl
 simp [Ad8] at h
theorem Ay8 {p : List UInt8} : ∀ {f : Bool} {l : List (List UInt8)}, Aw0 f l = true → p ∈ l → Ad8 p = true
 | f, q :: r, h, hp => by
   simp only [Aw0, Bool.and_eq_true] at h
   rcases List.mem_cons.1 hp with rfl | hp
   ·exact h.1.1
   ·exact Ay8 h.2 hp
theorem Fc0 : ∀ {l : List (List UInt8)}, Aw0 false l = true → Aw0 true l = true
 | [], _ => rfl
 | p :: r, h => by
   simp only [Aw0, Bool.and_eq_true] at h ⊢
   exact ⟨⟨h.1.1, by simp⟩, h.2⟩
theorem Cl1 : ∀ {f : Bool} {a b : List (List UInt8)}, Aw0 f (a ++ b) = (Aw0 f a && Aw0 (f && a.isEmpty) b)
 | f, [], b => by simp [Aw0]
 | f, p :: r, b => by
   simp only [List.cons_append, Aw0, Cl1 (a := r)]
   simp [Bool.and_assoc]
theorem Fc1 {f : Bool} {l : List (List UInt8)} (h : Aw0 f l = true) (k : Nat) : Aw0 f (l.drop k) = true := by
 rw [← List.take_append_drop k l, Cl1, Bool.and_eq_true] at h
 have h2 := h.2
 cases f with
 | false => simpa using h2
 | true =>
   cases he : (l.take k).isEmpty with
   | true => rw [he] at h2; exact h2
   | false => rw [he] at h2; exact Fc0 h2
theorem Bq6 : ∀ (m : List UInt8) (f : Bool) (cur : List UInt8), spl f cur (m ++ [46]) = if Aw0 f (pcs cur m) = true then some (pcs cur m) else none
 | [], f, cur => by
   simp only [List.nil_append, spl, if_true, pcs, Aw0, Option.map_some, Bool.and_true]
   by_cases h : Ad8 cur = true <;> by_cases h2 : cur = [42] <;> cases f <;> simp [h, h2]
 | c :: r, f, cur => by
   simp only [List.cons_append, spl, pcs]
   by_cases hc : c = 46
   ·simp only [if_pos hc]
    rw [Bq6 r false []]
    simp only [Aw0]
    by_cases h : Ad8 cur = true <;> by_cases h2 : cur = [42] <;> cases f <;> by_cases h3 : Aw0 false (pcs [] r) = true <;> simp [h, h2, h3]
   ·simp only [if_neg hc]
    exact Bq6 r f (cur ++ [c])
theorem Bv6 (b : List UInt8) : ∀ (a cur : List UInt8), pcs cur (a ++ 46 :: b) = pcs cur a ++ cut b
 | [], cur => by simp [pcs, cut]
 | c :: r, cur => by
   simp only [List.cons_append, pcs]
   split
   ·rw [Bv6 b r []]; rfl
   ·exact Bv6 b r _
theorem Bk4 : ∀ (m cur : List UInt8), flat (pcs cur m) = cur ++ m ++ [46]
 | [], cur => by simp [pcs, flat]
 | c :: r, cur => by
   simp only [pcs]
   split
   ·rename_i h
    have := Bk4 r []
    simp only [flat, List.flatMap_cons] at this ⊢
    rw [this, h]; simp
   ·rw [Bk4 r (cur ++ [c])]; simp
theorem Ck9 (a b : List (List UInt8)) : flat (a ++ b) = flat a ++ flat b := by simp [flat]
theorem Kf1 (cur m : List UInt8) : pcs cur m ≠ [] := by
 cases m with
 | nil => simp [pcs]
 | cons c r =>
   simp only [pcs]
   split
   ·simp
   ·intro h
    have := Bk4 r (cur ++ [c])
    rw [h] at this
    simp [flat] at this
theorem Bk5 : ∀ (l : List (List UInt8)), (∀ p ∈ l, (46 : UInt8) ∉ p) → cut (flat l) = l ++ [[]]
 | [], _ => rfl
 | p :: l, h => by
   have h1 : flat (p :: l) = p ++ 46 :: flat l := by simp [flat]
   rw [h1]
   show pcs [] _ = _
   rw [Bv6, Bt2 p [] (h p (by simp)), Bk5 l (fun q hq => h q (by simp [hq]))]
   simp
theorem Ag7 : ∀ (l : List (List UInt8)), l ≠ [] → ∃ m, flat l = m ++ [46]
 | [p], _ => ⟨p, by simp [flat]⟩
 | p :: q :: r, _ => by
   obtain ⟨m, hm⟩ := Ag7 (q :: r) (by simp)
   exact ⟨p ++ [46] ++ m, by simp only [flat, List.flatMap_cons] at hm ⊢; rw [hm]; simp⟩
theorem El0 {l : List (List UInt8)} (hl : l ≠ []) (h : ∀ p ∈ l, (46 : UInt8) ∉ p) {m : List UInt8} (hm : flat l = m ++ [46]) : cut m = l := by
 have h1 := Bk5 l h
 rw [hm] at h1
 have h2 : cut (m ++ [46]) = cut m ++ [[]] := by
  show pcs [] (m ++ 46 :: []) = _
  rw [Bv6]; rfl
 rw [h2] at h1
 exact List.append_cancel_right h1
theorem Ab8 {l : List (List UInt8)} (h : Aw0 true l = true) (hl : l ≠ []) : 2 ≤ (flat l).length := by
 cases l with
 | nil => exact absurd rfl hl
 | cons p r =>
   have h1 := Eh6 (Ay8 h (List.mem_cons_self ..))
   have : 0 < p.length := List.length_pos_iff.2 h1
   simp [flat]; omega
theorem Jy5 {l : List (List UInt8)} (h : Aw0 true l = true) (hl : l ≠ []) (hlen : (flat l).length ≤ 254) : nm (flat l) = some l := by
 obtain ⟨m, hm⟩ := Ag7 l hl
 have h1 := El0 hl (fun p hp => Ap7 (Ay8 h hp)) hm
 have h2 := Ab8 h hl
 unfold nm
 rw [if_neg (by intro e; rw [e] at h2; simp at h2), if_pos ⟨h2, hlen, by rw [hm]; simp⟩, hm, Bq6]
 have : pcs [] m = l := h1
 rw [this, if_pos h]
theorem Jy4 {n : List UInt8} {l : List (List UInt8)} (h : nm n = some l) : (n = [46] ∧ l = []) ∨ (l ≠ [] ∧ Aw0 true l = true ∧ n = flat l ∧ n.length ≤ 254) := by
 unfold nm at h
 split at h
 ·rename_i e; injection h with h; exact .inl ⟨e, h.symm⟩
 ·split at h
  ·rename_i h1
   right
   obtain ⟨h2, h3, h4⟩ := h1
   obtain ⟨m, hm⟩ : ∃ m, n = m ++ [46] := by
    refine ⟨n.dropLast, ?_⟩
    have : n ≠ [] := by intro e; simp [e] at h2
    have h5 := List.dropLast_concat_getLast this
    rw [← h5]
    congr 1
    ·simp
    ·have h6 : n[n.length - 1]? = some (n.getLast this) := by rw [List.getLast_eq_getElem]; exact List.getElem?_eq_getElem _
     rw [h6] at h4
     injection h4 with h4
     simp [h4]
   rw [hm, Bq6] at h
   split at h
   ·rename_i h5
    injection h with h
    subst h
    refine ⟨Kf1 _ _, h5, ?_, by omega⟩
    rw [Bk4, hm]; simp
   ·cases h
  ·cases h
theorem Jq3 {n : List UInt8} : vld n = true ↔ nm n = some (lbl n) := by
 unfold vld lbl
 cases nm n <;> simp
theorem vld_cases {n : List UInt8} (h : vld n = true) : (n = [46] ∧ lbl n = []) ∨ (lbl n ≠ [] ∧ Aw0 true (lbl n) = true ∧ n = flat (lbl n) ∧ n.length ≤ 254) := Jy4 (Jq3.1 h)
theorem Ed6 {n : List UInt8} (h : vld n = true) : Aw0 true (lbl n) = true := by
 rcases vld_cases h with ⟨_, h⟩ | ⟨_, h, _⟩
 ·rw [h]; rfl
 ·exact h
theorem Fg4 {n : List UInt8} (h : vld n = true) : n = jn (lbl n) := by
 unfold jn
 rcases vld_cases h with ⟨h1, h2⟩ | ⟨h1, _, h2, _⟩
 ·rw [h2, if_pos rfl]; exact h1
 ·rw [if_neg h1]; exact h2
theorem Ar3 {n : List UInt8} (h : vld n = true) : n.length ≤ 254 := by
 rcases vld_cases h with ⟨h1, _⟩ | ⟨_, _, _, h⟩
 ·simp [h1]
 ·exact h
theorem Ck1 : lbl [46] = [] := rfl
theorem Cl6 {l : List (List UInt8)} (h : Aw0 true l = true) (hl : l ≠ []) : flat l ≠ [46] := by
 intro e
 have := Ab8 h hl
 rw [e] at this; simp at this
theorem Ck3 {n : List UInt8} (h : vld n = true) : lbl n = [] ↔ n = [46] := by
 rcases vld_cases h with ⟨h1, h2⟩ | ⟨h1, h2, h3, _⟩
 ·simp [h1, Ck1]
 ·constructor
  ·intro e; exact absurd e h1
  ·intro e; rw [h3] at e; exact absurd e (Cl6 h2 h1)
theorem Kq4 {l : List (List UInt8)} (h : Aw0 true l = true) (hlen : (flat l).length ≤ 254) : vld (jn l) = true ∧ lbl (jn l) = l := by
 unfold jn
 by_cases hl : l = []
 ·subst hl; exact ⟨rfl, rfl⟩
 ·rw [if_neg hl]
  have := Jy5 h hl hlen
  exact ⟨by simp [vld, this], by simp [lbl, this]⟩
theorem Jb1 {a b : List UInt8} (ha : vld a = true) (hb : vld b = true) (h : lbl a = lbl b) : a = b := by
 rw [Fg4 ha, Fg4 hb, h]
theorem Ck8 (l : List (List UInt8)) (k : Nat) : (flat (l.drop k)).length ≤ (flat l).length := by
 have : flat l = flat (l.take k) ++ flat (l.drop k) := by rw [← Ck9, List.take_append_drop]
 rw [this, List.length_append]; omega
theorem Ah5 {n : List UInt8} (h : vld n = true) (k : Nat) : vld (jn ((lbl n).drop k)) = true ∧ lbl (jn ((lbl n).drop k)) = (lbl n).drop k := by
 refine Kq4 (Fc1 (Ed6 h) k) ?_
 rcases vld_cases h with ⟨_, h1⟩ | ⟨_, _, h1, h2⟩
 ·rw [h1]; simp [flat]
 ·have := Ck8 (lbl n) k
  rw [← h1] at this; omega
theorem Bn3 {s : List UInt8} (h : Ad8 s = true) : s.length ≤ 63 := by
 unfold Ad8 at h
 simp at h
 rcases h with h | h
 ·simp [h]
 ·omega
theorem Ck2 {n : List UInt8} (h : vld n = false) : lbl n = [] := by
 unfold lbl; unfold vld at h
 cases h1 : nm n with
 | none => rfl
 | some l => rw [h1] at h; cases h
theorem Ch0 (n : List UInt8) : ∀ x ∈ lbl n, Ad8 x = true := fun x hx => by
 rcases Bool.eq_false_or_eq_true (vld n) with h | h
 ·exact Ay8 (Ed6 h) hx
 ·rw [Ck2 h] at hx; cases hx
theorem Iy9 {n : List UInt8} (h : vld n = true) : 0 < n.length := by
 rcases vld_cases h with ⟨h1, _⟩ | ⟨h1, h2, h3, _⟩
 ·simp [h1]
 ·have := Ab8 h2 h1
  rw [h3]; omega
end Go.X.G
/- Names: what the program's functions give. -/
namespace Go.X.G
open Go Go.X

def ord (s : List UInt8) : Bool := decide (1 ≤ s.length) && decide (s.length ≤ 63) && s.all As4
theorem Ch8 (s : List UInt8) : Ad8 s = (decide (s = [42]) || ord s) := rfl
theorem Ef6 : ord [42] = false := by decide
theorem Cs3 (s : List UInt8) (N : Nat) (hN : s.length < N) (hs : s.length ≤ 9223372036854775807) :
  Gd6.ev S N [.s s] = some (if s.all As4 = true then .yld 0 [] else .ret [.b false]) := by
 refine Ak2 s (fun i => [.i .i64 (i : Int)]) (fun i r => if r.all As4 = true then .yld 0 [] else .ret [.b false]) rfl hN (fun i c r hd hi hc => ?_) ?_
 ·have key : Cv5.ev S N ([.s s] ++ [.i .i64 (i : Int)]) = some (if As4 c = true then .yld 1 [.i .i64 ((i : Int) + 1)] else .ret [.b false]) := by
   simp (disch := omega) only [Cx9, hc, EVP, ↓reduceIte, EV, Nat.reduceAdd, Nat.reduceEqDiff, Int.reduceToNat, reduceCtorEq]
   unfold As4
   grind
  rw [key]
  rcases Bool.eq_false_or_eq_true (As4 c) with h | h <;> simp [h, Out.goes]
 ·simp (disch := omega) [Cx9, EVP, ↓reduceIte, EV, Nat.reduceAdd, Nat.reduceEqDiff, Int.reduceToNat, reduceCtorEq, Out.goes]
theorem Az6 (s : List UInt8) (hs : s.length ≤ 9223372036854775807) : S Bm7 1 [.s s] = some [.b (ord s)] := by
 refine Kc4 (N := s.length + 1) rfl ?_
 unfold ord
 by_cases h1 : s = []
 ·subst h1
  simp (disch := omega) [Cx9, EVP, ↓reduceIte, EV, Nat.reduceAdd, Nat.reduceEqDiff, Int.reduceToNat, reduceCtorEq]
 ·have h2 : 1 ≤ s.length := List.length_pos_iff.2 h1
  by_cases h3 : s.length ≤ 63
  ·simp (disch := omega) only [Cx9, Cs3, h1, EVP, ↓reduceIte, EV, Nat.reduceAdd, Nat.reduceEqDiff, Int.reduceToNat, reduceCtorEq]
   cases s.all As4 <;> simp [h2, h3]
  ·simp (disch := omega) only [Cx9, h1, EVP, ↓reduceIte, EV, Nat.reduceAdd, Nat.reduceEqDiff, Int.reduceToNat, reduceCtorEq]
   simp [h3]
def okP (i : Nat) (p : List UInt8) : Bool := ord p || (decide (i = 0) && decide (p = [42]))
def okPs : Nat → List (List UInt8) → Bool
 | _, [] => true
 | i, p :: r => okP i p && okPs (i + 1) r
theorem Cc0 : ∀ (l : List (List UInt8)) (i : Nat), okPs i l = Aw0 (decide (i = 0)) l
 | [], _ => rfl
 | p :: r, i => by
   have h1 := Cc0 r (i + 1)
   simp only [okPs, Aw0, h1, okP, Ch8]
   by_cases h2 : p = [42]
   ·subst h2
    by_cases h3 : i = 0 <;> simp [Ef6, h3]
   ·simp [h2]
theorem Ix0 (p q : PV) (l : List (List UInt8)) (hl : l.length ≤ 1000000) (hw : ∀ x ∈ l, x.length ≤ 9223372036854775807) (N : Nat) (hN : l.length < N) :
  It6.ev S N [p, q, Aj7 l] = some (if okPs 0 l = true then .yld 0 [] else .ret [.b false]) := by
 refine Ak2 l (fun i => [.i .i64 (i : Int)]) (fun i r => if okPs i r = true then .yld 0 [] else .ret [.b false]) rfl hN (fun i c r hd hi hc => ?_) ?_
 ·have hcw := hw c (List.mem_of_getElem? hc)
  have key : El6.ev S N ([p, q, Aj7 l] ++ [.i .i64 (i : Int)]) = some (if okP i c = true then .yld 1 [.i .i64 ((i : Int) + 1)] else .ret [.b false]) := by
   rcases Bool.eq_false_or_eq_true (ord c) with h1 | h1
   ·simp (disch := omega) only [Br2, Az6, hc, h1, EVP, ↓reduceIte, EV, Nat.reduceAdd, Nat.reduceEqDiff, Int.reduceToNat, reduceCtorEq]
    simp [okP, h1]
   ·by_cases h2 : i = 0
    ·subst h2
     by_cases h3 : c = [42]
     ·subst h3
      simp (disch := omega) only [Br2, Az6, hc, h1, EVP, ↓reduceIte, EV, Nat.reduceAdd, Nat.reduceEqDiff, Int.reduceToNat, reduceCtorEq]
      simp [okP]
     ·simp (disch := omega) only [Br2, Az6, hc, h1, h3, EVP, ↓reduceIte, EV, Nat.reduceAdd, Nat.reduceEqDiff, Int.reduceToNat, reduceCtorEq]
      simp [okP, h1, h3]
    ·simp (disch := omega) only [Br2, Az6, hc, h1, EVP, ↓reduceIte, EV, Nat.reduceAdd, Nat.reduceEqDiff, Int.reduceToNat, reduceCtorEq]
     simp [okP, h1, h2]
  rw [key]
  rcases Bool.eq_false_or_eq_true (okP i c) with h | h <;> simp [h, okPs, Out.goes]
 ·simp (disch := omega) only [Br2, EVP, ↓reduceIte, EV, Nat.reduceAdd, Nat.reduceEqDiff, Int.reduceToNat, reduceCtorEq]
  simp [Out.goes, okPs]
theorem Bt3 : ∀ (m cur : List UInt8) (x : List UInt8), x ∈ pcs cur m → x.length ≤ cur.length + m.length
 | [], cur, x, h => by simp [pcs] at h; subst h; simp
 | c :: r, cur, x, h => by
   simp only [pcs] at h
   split at h
   ·rcases List.mem_cons.1 h with rfl | h
    ·omega
    ·have := Bt3 r [] x h; simp at this ⊢; omega
   ·have := Bt3 r _ x h; simp at this ⊢; omega
theorem Im5 (m x : List UInt8) (h : x ∈ cut m) : x.length ≤ m.length := by simpa using Bt3 m [] x h
theorem Lk6 (m : List UInt8) : (cut m).length ≤ m.length + 1 := by
 have := Gh5 m
 have : m.count 46 ≤ m.length := List.count_le_length
 omega
theorem Fh2 (n : List UInt8) : ([46] : List UInt8).isSuffixOf n = true ↔ ∃ m, n = m ++ [46] := by
 rw [List.isSuffixOf_iff_suffix]
 exact ⟨fun ⟨m, h⟩ => ⟨m, h.symm⟩, fun ⟨m, h⟩ => ⟨m, h.symm⟩⟩
theorem Iy8 (m : List UInt8) (hm : m ≠ []) (hl : m.length ≤ 253) : vld (m ++ [46]) = okPs 0 (cut m) := by
 have h1 : m ++ [46] ≠ [46] := fun e => hm (List.append_cancel_right (bs := [46]) (by simpa using e))
 have h2 : 0 < m.length := List.length_pos_iff.2 hm
 unfold vld nm
 rw [if_neg h1, if_pos ⟨by simp; omega, by simp; omega, by simp⟩, Bq6, Cc0]
 have e : pcs [] m = cut m := rfl
 have e2 : Aw0 (decide ((0 : Nat) = 0)) (cut m) = Aw0 true (cut m) := rfl
 rw [e, e2]
 cases Aw0 true (cut m) <;> rfl
theorem Ig6 (m : List UInt8) (h : vld (m ++ [46]) = true) (hm : m ≠ []) : lbl (m ++ [46]) = cut m := by
 rcases vld_cases h with ⟨h1, _⟩ | ⟨h1, h2, h3, _⟩
 ·exact absurd (List.append_cancel_right (bs := [46]) (by simpa using h1)) hm
 ·exact (El0 h1 (fun p hp => Ap7 (Ay8 h2 hp)) h3.symm).symm
theorem Ad1 (n : List UInt8) (hn : n.length ≤ 9223372036854775807) : S Cc6 1 [.s n] = some [.b (vld n)] := by
 refine Lb5 (N := 300) rfl ?_
 by_cases h0 : n = [46]
 ·subst h0
  simp (disch := omega) only [Br2, EVP, ↓reduceIte, EV, Nat.reduceAdd, Nat.reduceEqDiff, Int.reduceToNat, reduceCtorEq]
  rfl
 ·by_cases h1 : 255 ≤ n.length
  ·have hv : vld n = false := by
    rw [Bool.eq_false_iff]; intro h; have := Ar3 h; omega
   simp (disch := omega) only [Br2, h0, hv, EVP, ↓reduceIte, EV, Nat.reduceAdd, Nat.reduceEqDiff, Int.reduceToNat, reduceCtorEq]
  ·rcases Bool.eq_false_or_eq_true (([46] : List UInt8).isSuffixOf n) with h2 | h2
   ·obtain ⟨m, rfl⟩ := (Fh2 n).1 h2
    have hm : m ≠ [] := fun e => h0 (by simp [e])
    have hl : (m ++ [46]).length = m.length + 1 := by simp
    have hml : m.length ≤ 1000000 := by omega
    have e : List.drop 0 (List.take (((m ++ [46]).length : Int) - 1).toNat (m ++ [46])) = m := by
     have : (((m ++ [46]).length : Int) - 1).toNat = m.length := by omega
     rw [this]; simp
    have hc := Lk6 m
    have hv := Iy8 m hm (by omega)
    have hk := Ix0 (.s (m ++ [46])) (.b true) (cut m) (by omega) (fun x hx => by have := Im5 m x hx; omega) 300 (by omega)
    simp (disch := omega) only [Br2, Ah3, Cn1, e, hk, h0, h2, EVP, ↓reduceIte, EV, Nat.reduceAdd, Nat.reduceEqDiff, Int.reduceToNat, reduceCtorEq]
    rw [hv]
    cases okPs 0 (cut m) <;> simp
   ·have hv : vld n = false := by
     rw [Bool.eq_false_iff]; intro h
     rcases vld_cases h with ⟨h3, _⟩ | ⟨h3, _, h5, _⟩
     ·exact h0 h3
     ·obtain ⟨m, hm⟩ := Ag7 _ h3
      have := (Fh2 n).2 ⟨m, h5.trans hm⟩
      rw [h2] at this; cases this
    simp (disch := omega) only [Br2, Ah3, h0, h2, hv, EVP, ↓reduceIte, EV, Nat.reduceAdd, Nat.reduceEqDiff, Int.reduceToNat, reduceCtorEq]
theorem Bp9 (n : List UInt8) (hn : n.length ≤ 9223372036854775807) : S Bm6 1 [.s n] = some [Aj7 (lbl n)] := by
 refine Kb9 (N := 1) rfl ?_
 by_cases h0 : n = [46]
 ·subst h0
  simp (disch := omega) only [Fg1, Ck1, EVP, ↓reduceIte, EV, Nat.reduceAdd, Nat.reduceEqDiff, Int.reduceToNat, reduceCtorEq]
 ·rcases Bool.eq_false_or_eq_true (vld n) with h1 | h1
  ·obtain ⟨m, hm, rfl⟩ : ∃ m, m ≠ [] ∧ n = m ++ [46] := by
    rcases vld_cases h1 with ⟨h3, _⟩ | ⟨h3, _, h5, _⟩
    ·exact absurd h3 h0
    ·obtain ⟨m, hm⟩ := Ag7 _ h3
     exact ⟨m, fun e => h0 (by rw [h5, hm, e]; rfl), h5.trans hm⟩
   have hl : (m ++ [46]).length = m.length + 1 := by simp
   have e : List.drop 0 (List.take (((m ++ [46]).length : Int) - 1).toNat (m ++ [46])) = m := by
    have : (((m ++ [46]).length : Int) - 1).toNat = m.length := by omega
    rw [this]; simp
   have hl2 := Ar3 h1
   have e2 := Ig6 m h1 hm
   simp (disch := omega) only [Fg1, Ad1, Cn1, e, e2, h0, h1, EVP, ↓reduceIte, EV, Nat.reduceAdd, Nat.reduceEqDiff, Int.reduceToNat, reduceCtorEq]
  ·have e : lbl n = [] := by
    unfold lbl; unfold vld at h1
    cases h : nm n with
    | none => rfl
    | some l => rw [h] at h1; cases h1
   simp (disch := omega) only [Fg1, Ad1, h0, h1, e, EVP, ↓reduceIte, EV, Nat.reduceAdd, Nat.reduceEqDiff, Int.reduceToNat, reduceCtorEq]

theorem Gg4 (p : List UInt8) (l : List (List UInt8)) : flat (p :: l) = p ++ 46 :: flat l := by simp [flat]
def Bt6 (n : List UInt8) : List UInt8 := if vld n = true ∧ n ≠ [46] then jn ((lbl n).drop 1) else []
def Jj8 (n : List UInt8) : Bool := vld n && !decide (n = [46])
def Gh0 (n top : List UInt8) : Bool := (decide (top = [46]) || decide (n = top)) || (46 :: top).isSuffixOf n
theorem Jf2 (n top : List UInt8) (hn : n.length ≤ 9223372036854775807) (ht : top.length ≤ 1000000) : S Gw4 2 [.s n, .s top] = some [.b (Gh0 n top)] := by
 refine Lz4 (N := 1) rfl ?_
 unfold Gh0
 have h0 : ([46] : List UInt8).length = 1 := rfl
 by_cases h1 : top = [46] <;> by_cases h2 : n = top <;> simp (disch := omega) only [Lv6, Ah3, h1, h2, EVP, ↓reduceIte, EV, Nat.reduceAdd, Nat.reduceEqDiff, Int.reduceToNat, reduceCtorEq]
 all_goals simp
theorem Dj7 {a b : List (List UInt8)} (ha : Aw0 true a = true) (hb : Aw0 true b = true) (h : (46 :: flat b) <:+ flat a) : b <:+ a := by
 obtain ⟨p, hp⟩ := h
 have h1 := Bk5 a (fun x hx => Ap7 (Ay8 ha hx))
 have h2 := Bk5 b (fun x hx => Ap7 (Ay8 hb hx))
 rw [← hp] at h1
 have h3 : cut (p ++ 46 :: flat b) = cut p ++ cut (flat b) := Bv6 (flat b) p []
 rw [h3, h2, ← List.append_assoc] at h1
 exact ⟨cut p, List.append_cancel_right h1⟩
theorem Im4 {n top : List UInt8} (hn : vld n = true) (ht : vld top = true) : Gh0 n top = true ↔ lbl top <:+ lbl n := by
 unfold Gh0
 simp only [Bool.or_eq_true, decide_eq_true_eq, List.isSuffixOf_iff_suffix]
 constructor
 ·rintro ((rfl | rfl) | h)
  ·rw [Ck1]; exact List.nil_suffix
  ·exact List.suffix_refl _
  ·rcases vld_cases ht with ⟨h1, h2⟩ | ⟨h1, h2, h3, _⟩
   ·rw [h2]; exact List.nil_suffix
   ·rcases vld_cases hn with ⟨h5, _⟩ | ⟨h5, h6, h7, _⟩
    ·rw [h5] at h
     have h9 := h.length_le
     have h8 := Ab8 h2 h1
     rw [← h3] at h8
     simp only [List.length_cons, List.length_nil] at h9; omega
    ·rw [h3, h7] at h
     exact Dj7 h6 h2 h
 ·intro h
  obtain ⟨p, hp⟩ := h
  rcases vld_cases ht with ⟨h1, h2⟩ | ⟨h1, h2, h3, _⟩
  ·exact .inl (.inl h1)
  ·by_cases hp0 : p = []
   ·left; right
    subst hp0
    exact Jb1 hn ht hp.symm
   ·right
    rcases vld_cases hn with ⟨_, h5⟩ | ⟨h5, h6, h7, _⟩
    ·rw [h5] at hp
     exact absurd (List.append_eq_nil_iff.1 hp).1 hp0
    ·obtain ⟨m, hm⟩ := Ag7 p hp0
     rw [h7, ← hp, Ck9, hm]
     exact ⟨m, by rw [List.append_assoc, ← h3]; simp⟩
theorem Bx9 {α : Type} [DecidableEq α] : ∀ (a b : List α), cpre a b = b.length ↔ b <+: a
 | [], [] => by simp [cpre]
 | [], y :: ys => by simp [cpre]
 | x :: xs, [] => by simp [cpre]
 | x :: xs, y :: ys => by
   have := Bx9 xs ys
   simp only [cpre]
   split
   ·rename_i h; subst h
    simp [this, List.cons_prefix_cons]
   ·rename_i h
    simp [List.cons_prefix_cons, Ne.symm h]
theorem Cz8 (a b : List (List UInt8)) : Fk8 a b = b.length ↔ b <:+ a := by
 unfold Fk8
 have := Bx9 a.reverse b.reverse
 rw [List.length_reverse] at this
 rw [this, List.reverse_prefix]
theorem Aw4 {n top : List UInt8} : Ak4 n top = true ↔ vld n = true ∧ vld top = true ∧ lbl top <:+ lbl n := by
 unfold Ak4
 simp [Cz8, and_assoc]
theorem Em7 {n top : List UInt8} (hn : vld n = true) (ht : vld top = true) : Gh0 n top = Ak4 n top := by
 rw [Bool.eq_iff_iff, Im4 hn ht, Aw4]
 simp [hn, ht]
theorem Aq6 (n top : List UInt8) (hn : n.length ≤ 9223372036854775807) (ht : top.length ≤ 9223372036854775807) : S Ap0 2 [.s n, .s top] = some [.b (Ak4 n top)] := by
 refine Ld5 (N := 1) rfl ?_
 rcases Bool.eq_false_or_eq_true (vld n) with h1 | h1
 ·rcases Bool.eq_false_or_eq_true (vld top) with h2 | h2
  ·have h3 := Ar3 h2
   simp (disch := omega) only [Jk8, Ad1, Jf2, h1, h2, EVP, ↓reduceIte, EV, Nat.reduceAdd, Nat.reduceEqDiff, Int.reduceToNat, reduceCtorEq]
   rw [Em7 h1 h2]
  ·have h3 : Ak4 n top = false := by simp [Ak4, h2]
   simp (disch := omega) only [Jk8, Ad1, h1, h2, h3, EVP, ↓reduceIte, EV, Nat.reduceAdd, Nat.reduceEqDiff, Int.reduceToNat, reduceCtorEq]
 ·have h3 : Ak4 n top = false := by simp [Ak4, h1]
  simp (disch := omega) only [Jk8, Ad1, h1, h3, EVP, ↓reduceIte, EV, Nat.reduceAdd, Nat.reduceEqDiff, Int.reduceToNat, reduceCtorEq]
end Go.X.G
/- Names: order, common ancestors, wildcards. -/
namespace Go.X.G
open Go Go.X

theorem Jy8 (l : List (List UInt8)) (hl : l.length ≤ 1000) (hw : ∀ x ∈ l, x.length ≤ 1000) (N : Nat) (hN : l.length < N) :
  Ct5.ev S N [Aj7 l] = some (.yld 0 [.s (flat l)]) := by
 have key : Ct5.ev S N [Aj7 l] = some (.yld 0 [.s ([] ++ flat l)]) := by
  refine Ak8 l (fun i (g : List UInt8) => [.s g, .i .i64 (i : Int)]) (fun i g r => .yld 0 [.s (g ++ flat r)]) (fun i g => g.length ≤ 1001 * i) [] rfl (Nat.le_refl _) hN (fun i g c r hd hi hc hI => ?_) (fun g hI => ?_)
  ·left
   have h1 := hw c (List.mem_of_getElem? hc)
   have h0 : ([46] : List UInt8).length = 1 := rfl
   refine ⟨g ++ c ++ [46], ?_, by simp; omega, by simp [flat]⟩
   simp (disch := first | omega | (simp only [List.length_append]; omega)) only [Ec8, hc, EVP, ↓reduceIte, EV, Nat.reduceAdd, Nat.reduceEqDiff, Int.reduceToNat, reduceCtorEq]
  ·simp (disch := omega) only [Ec8, EVP, ↓reduceIte, EV, Nat.reduceAdd, Nat.reduceEqDiff, Int.reduceToNat, reduceCtorEq]
   simp [flat, Out.goes]
 simpa using key
theorem Jy7 (l : List (List UInt8)) (hl : l.length ≤ 1000) (hw : ∀ x ∈ l, x.length ≤ 1000) : S Cd1 1 [Aj7 l] = some [.s (jn l)] := by
 refine Kw7 (N := l.length + 1) rfl ?_
 unfold jn
 by_cases h : l = []
 ·subst h
  simp (disch := first | omega | (simp; omega)) only [Ec8, EVP, ↓reduceIte, EV, Nat.reduceAdd, Nat.reduceEqDiff, Int.reduceToNat, reduceCtorEq]
 ·have h1 : 0 < l.length := List.length_pos_iff.2 h
  have hk := Jy8 l hl hw (l.length + 1) (by omega)
  simp (disch := omega) only [Ec8, hk, h, EVP, ↓reduceIte, EV, Nat.reduceAdd, Nat.reduceEqDiff, Int.reduceToNat, reduceCtorEq]
theorem Gz3 (n : List UInt8) : ∀ x ∈ lbl n, x.length ≤ 1000 := fun x hx => by
 have := Bn3 (Ch0 n x hx); omega
theorem Jj7 {n : List UInt8} (h : vld n = true) (k : Nat) : (jn ((lbl n).drop k)).length ≤ 254 := Ar3 (Ah5 h k).1
end Go.X.G
