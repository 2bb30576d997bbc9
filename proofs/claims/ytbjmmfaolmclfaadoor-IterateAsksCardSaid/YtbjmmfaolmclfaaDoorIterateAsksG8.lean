/- Names: what the reference's functions give. -/
import Derived.Test.YtbjmmfaolmclfaaDoorIterateAsksG6
import Derived.Test.YtbjmmfaolmclfaaDoorIterateAsksG7

set_option maxHeartbeats 1000000
set_option linter.unusedVariables false
set_option linter.unusedSimpArgs false
namespace Go.X.G
open Go Go.X

def lchar (c : UInt8) : Bool := decide (97 ≤ (c.toNat : Int)) && decide ((c.toNat : Int) ≤ 122) || decide (48 ≤ (c.toNat : Int)) && decide ((c.toNat : Int) ≤ 57) || decide ((c.toNat : Int) = 45) || decide ((c.toNat : Int) = 95)
theorem lchar_fold (c : UInt8) : (decide (97 ≤ (c.toNat : Int)) && decide ((c.toNat : Int) ≤ 122) || decide (48 ≤ (c.toNat : Int)) && decide ((c.toNat : Int) ≤ 57) || decide ((c.toNat : Int) = 45) || decide ((c.toNat : Int) = 95)) = lchar c := rfl
def isLab (s : List UInt8) : Bool := decide (s = [42]) || (decide (1 ≤ s.length) && decide (s.length ≤ 63) && s.all lchar)

end Go.X.G
/- Names: what the reference's functions give. -/
namespace Go.X.G
open Go Go.X

/-! ### split -/
def spl (first : Bool) (cur : List UInt8) : List UInt8 → Option (List (List UInt8))
  | [] => some []
  | c :: r => if c = 46 then (if isLab cur = true ∧ (cur = [42] → first = true) then (spl false [] r).map (cur :: ·) else none) else spl first (cur ++ [c]) r
/-- a name's labels -/
def nm (n : List UInt8) : Option (List (List UInt8)) :=
  if n = [46] then some [] else if 2 ≤ n.length ∧ n.length ≤ 254 ∧ n[n.length - 1]? = some 46 then spl true [] n else none
def lbl (n : List UInt8) : List (List UInt8) := (nm n).getD []
def vld (n : List UInt8) : Bool := (nm n).isSome

theorem td_snoc {α : Type} (n : List α) (i j : Nat) (c : α) (h : n[i]? = some c) (hj : j ≤ i) : (n.take (i + 1)).drop j = (n.take i).drop j ++ [c] := by
  have hi : i < n.length := (List.getElem?_eq_some_iff.1 h).1
  rw [List.take_add_one, h, List.drop_append_of_le_length (by simp; omega)]; rfl
theorem td_self {α : Type} (n : List α) (i : Nat) : (n.take i).drop i = [] := by
  rw [List.drop_eq_nil_iff]; simp; omega

def splOut (l : List (List UInt8)) : Option (List (List UInt8)) → Out
  | some ls => .yld 0 [.l 1 ((l ++ ls).map .s)]
  | none => .ret [.l 1 [], .b false]
end Go.X.G
/- Names: what the reference's functions give, ctd. -/
namespace Go.X.G
open Go Go.X

theorem spl_len : ∀ (r : List UInt8) (f : Bool) (cur : List UInt8) (l : List (List UInt8)), spl f cur r = some l → l.length ≤ r.length
  | [], f, cur, l, h => by simp [spl] at h; simp [← h]
  | c :: r, f, cur, l, h => by
    simp only [spl] at h
    split at h
    · split at h
      · obtain ⟨m, hm, rfl⟩ := Option.map_eq_some_iff.1 h
        have := spl_len r _ _ _ hm
        simp; omega
      · cases h
    · have := spl_len r _ _ _ h
      simp; omega
theorem nm_len {n : List UInt8} {l : List (List UInt8)} (h : nm n = some l) : l.length ≤ 254 := by
  unfold nm at h
  split at h
  · injection h with h; subst h; simp
  · split at h
    · rename_i h2
      have := spl_len _ _ _ _ h; omega
    · cases h
theorem lbl_len (n : List UInt8) : (lbl n).length ≤ 254 := by
  unfold lbl
  cases h : nm n with
  | none => simp
  | some l => exact nm_len h

/-- how many are the same from the beginning on -/
def cpre {α : Type} [DecidableEq α] : List α → List α → Nat
  | x :: xs, y :: ys => if x = y then cpre xs ys + 1 else 0
  | _, _ => 0
def sameN (a b : List (List UInt8)) : Nat := cpre a.reverse b.reverse
theorem cpre_le {α : Type} [DecidableEq α] : ∀ (a b : List α), cpre a b ≤ a.length ∧ cpre a b ≤ b.length
  | [], b => by simp [cpre]
  | x :: xs, [] => by simp [cpre]
  | x :: xs, y :: ys => by
    have := cpre_le xs ys
    simp only [cpre]
    split <;> simp <;> omega
theorem sameN_le (a b : List (List UInt8)) : sameN a b ≤ a.length ∧ sameN a b ≤ b.length := by
  have := cpre_le a.reverse b.reverse
  simpa [sameN] using this
def under (n top : List UInt8) : Bool := vld n && vld top && decide (sameN (lbl n) (lbl top) = (lbl top).length)
/-- a comparison of strings -/
def cmpS (a b : List UInt8) : Int := if Op.bytesLess a b then -1 else if a = b then 0 else 1
/-- the canonical order of names -/
def cmpN (a b : List UInt8) : Int :=
  if vld a && vld b then
    let k := sameN (lbl a) (lbl b)
    if k < (lbl a).length ∧ k < (lbl b).length then cmpS ((lbl a).getD ((lbl a).length - 1 - k) []) ((lbl b).getD ((lbl b).length - 1 - k) [])
    else if (lbl a).length < (lbl b).length then -1 else if (lbl b).length < (lbl a).length then 1 else 0
  else if vld a then -1 else if vld b then 1 else cmpS a b
end Go.X.G
/- Data of records: what the reference's functions give. -/
namespace Go.X.G
open Go Go.X

def mnem (t : Int) : List UInt8 :=
  if t = 1 then [65] else if t = 2 then [78, 83] else if t = 5 then [67, 78, 65, 77, 69] else if t = 6 then [83, 79, 65] else if t = 12 then [80, 84, 82]
  else if t = 15 then [77, 88] else if t = 16 then [84, 88, 84] else if t = 28 then [65, 65, 65, 65] else if t = 33 then [83, 82, 86] else if t = 39 then [68, 78, 65, 77, 69]
  else if t = 43 then [68, 83] else if t = 46 then [82, 82, 83, 73, 71] else if t = 47 then [78, 83, 69, 67] else if t = 48 then [68, 78, 83, 75, 69, 89] else []
theorem t15 (t : Int) : t = 1 ∨ t = 2 ∨ t = 5 ∨ t = 6 ∨ t = 12 ∨ t = 15 ∨ t = 16 ∨ t = 28 ∨ t = 33 ∨ t = 39 ∨ t = 43 ∨ t = 46 ∨ t = 47 ∨ t = 48 ∨ (t ≠ 1 ∧ t ≠ 2 ∧ t ≠ 5 ∧ t ≠ 6 ∧ t ≠ 12 ∧ t ≠ 15 ∧ t ≠ 16 ∧ t ≠ 28 ∧ t ≠ 33 ∧ t ≠ 39 ∧ t ≠ 43 ∧ t ≠ 46 ∧ t ≠ 47 ∧ t ≠ 48) := by omega
/-- a known type -/
def knw (t : Int) : Bool := decide (t = 1) || decide (t = 2) || decide (t = 5) || decide (t = 6) || decide (t = 12) || decide (t = 15) || decide (t = 16) || decide (t = 28) || decide (t = 33) || decide (t = 39) || decide (t = 43) || decide (t = 46) || decide (t = 47) || decide (t = 48)
theorem knw_mnem (t : Int) : decide (mnem t ≠ []) = knw t := by
  unfold mnem knw
  rcases t15 t with rfl | rfl | rfl | rfl | rfl | rfl | rfl | rfl | rfl | rfl | rfl | rfl | rfl | rfl | ⟨h0, h1, h2, h3, h4, h5, h6, h7, h8, h9, h10, h11, h12, h13⟩
  all_goals simp [*]
def addrOk (d : Dat) : Bool := d.v6 || (decide (d.hi = 0) && decide (d.lo < 4294967296))
def inB (n most : Int) : Bool := decide (0 ≤ n) && decide (n ≤ most)
def txtOk (s : List UInt8) : Bool := decide (1 ≤ s.length) && decide (s.length ≤ 255)
theorem vld_pos {n : List UInt8} (h : vld n = true) : 0 < n.length := by
  unfold vld nm at h
  split at h
  · rename_i e; simp [e]
  · split at h
    · omega
    · cases h
def hostOk (n : List UInt8) : Bool := vld n && decide (n[0]? ≠ some 42)
/-- one bit of a set -/
def bit (set : Int) (t : Nat) : Int := set / 2 ^ t % 2
theorem and1 (x : Int) : IntKind.u64.wrap ((BitVec.ofInt IntKind.u64.bits x &&& BitVec.ofInt IntKind.u64.bits 1).toNat : Int) = x % 2 := by
  have h2 : (BitVec.ofInt 64 x &&& BitVec.ofInt 64 1).toNat = (BitVec.ofInt 64 x).toNat % 2 := by
    rw [BitVec.toNat_and]
    show (BitVec.ofInt 64 x).toNat &&& 1 = _
    exact Nat.and_one_is_mod _
  show IntKind.u64.wrap (((BitVec.ofInt 64 x &&& BitVec.ofInt 64 1).toNat : Nat) : Int) = _
  rw [h2, BitVec.toNat_ofInt]
  rw [wu64] <;> omega
end Go.X.G
/- Data of records: bytes. -/
namespace Go.X.G
open Go Go.X

def allK (set : Int) (i : Nat) : Nat → Bool
  | 0 => true
  | k + 1 => (!decide (bit set i = 1) || knw (i : Int)) && allK set (i + 1) k
/-- a number in so many bytes, the greatest first -/
def be (v : Int) : Nat → List UInt8
  | 0 => []
  | n + 1 => UInt8.ofNat (v / 256 ^ n % 256).toNat :: be v n
theorem be_len (v : Int) : ∀ n, (be v n).length = n
  | 0 => rfl
  | n + 1 => by simp [be, be_len v n]
theorem of_byte (z : Int) (h1 : 0 ≤ z) (h2 : z < 256) : ((UInt8.ofNat z.toNat).toNat : Int) = z := by
  simp; omega
theorem div_pow (v : Int) (j : Nat) : v / 256 ^ j / 256 = v / 256 ^ (j + 1) := by
  rw [Int.pow_succ, Int.ediv_ediv_of_nonneg (Int.le_of_lt (Int.pow_pos (by decide)))]
theorem div_nn (v : Int) (j : Nat) (h : 0 ≤ v) : 0 ≤ v / 256 ^ j := Int.ediv_nonneg h (Int.le_of_lt (Int.pow_pos (by decide)))
theorem div_le (v : Int) (j : Nat) (h : 0 ≤ v) : v / 256 ^ j ≤ v := Int.ediv_le_self _ h

end Go.X.G
/- Data of records: the wire form. -/
namespace Go.X.G
open Go Go.X

theorem isLab_len {s : List UInt8} (h : isLab s = true) : s.length ≤ 63 := by
  unfold isLab at h
  simp at h
  rcases h with h | h
  · simp [h]
  · omega
theorem spl_each : ∀ (r : List UInt8) (f : Bool) (cur : List UInt8) (l : List (List UInt8)), spl f cur r = some l → ∀ x ∈ l, isLab x = true
  | [], f, cur, l, h => by simp [spl] at h; subst h; simp
  | c :: r, f, cur, l, h => by
    simp only [spl] at h
    split at h
    · split at h
      · rename_i h2
        obtain ⟨m, hm, rfl⟩ := Option.map_eq_some_iff.1 h
        intro x hx
        simp at hx
        rcases hx with rfl | hx
        · exact h2.1
        · exact spl_each r _ _ _ hm x hx
      · cases h
    · exact spl_each r _ _ _ h
theorem lbl_each (n : List UInt8) : ∀ x ∈ lbl n, isLab x = true := by
  unfold lbl nm
  split
  · simp
  · split
    · cases h : spl true [] n with
      | none => simp
      | some l => simpa using spl_each _ _ _ _ h
    · simp

def wireL (l : List (List UInt8)) : List UInt8 := l.flatMap fun x => be (x.length : Int) 1 ++ x
/-- a name's bytes -/
def wireN (n : List UInt8) : List UInt8 := wireL (lbl n) ++ be 0 1
theorem wireL_len : ∀ (l : List (List UInt8)), (∀ x ∈ l, isLab x = true) → (wireL l).length ≤ 64 * l.length
  | [], _ => by simp [wireL]
  | x :: l, h => by
    have h1 := isLab_len (h x (by simp))
    have h2 := wireL_len l (fun y hy => h y (by simp [hy]))
    simp only [wireL, List.flatMap_cons, List.length_append, be_len, List.length_cons] at h2 ⊢
    omega
theorem wireN_len (n : List UInt8) : (wireN n).length ≤ 20000 := by
  have h1 := wireL_len (lbl n) (lbl_each n)
  have h2 := lbl_len n
  simp only [wireN, List.length_append, be_len]
  omega
/-! ### the bitmap -/
def bmV (set : Int) (i : Nat) : Nat → Int
  | 0 => 0
  | j + 1 => bmV set i j * 2 + bit set (i * 8 + j)
theorem bit_01 (set : Int) (t : Nat) : 0 ≤ bit set t ∧ bit set t ≤ 1 := by unfold bit; omega
theorem bmV_bd (set : Int) (i : Nat) : ∀ j, 0 ≤ bmV set i j ∧ bmV set i j < 2 ^ j
  | 0 => by simp [bmV]
  | j + 1 => by
    have h1 := bmV_bd set i j
    have h2 := bit_01 set (i * 8 + j)
    simp only [bmV, Int.pow_succ]
    omega
def bmB (set : Int) (i : Nat) : UInt8 := UInt8.ofNat (bmV set i 8).toNat
def bmL (set : Int) : Nat → Nat
  | 0 => 0
  | i + 1 => if bmV set i 8 ≠ 0 then i + 1 else bmL set i
theorem bmL_le (set : Int) : ∀ i, bmL set i ≤ i
  | 0 => Nat.le_refl _
  | i + 1 => by have := bmL_le set i; simp only [bmL]; split <;> omega
def bmap (set : Int) : List UInt8 := ((List.range 8).map (bmB set)).take (bmL set 8)
theorem bmap_len (set : Int) : (bmap set).length ≤ 8 := by simp [bmap]; omega

/-! ### addresses -/
def wire2 (d : Dat) : List UInt8 := if d.v6 then be d.hi 8 ++ be d.lo 8 else be d.lo 4
/-! ### what fields a type has -/
def usd (t : Int) (d : Dat) : Dat :=
  if t = 1 ∨ t = 28 then ⟨d.v6, d.hi, d.lo, [], [], [], 0, 0, 0, 0, 0, 0, 0⟩
  else if t = 2 ∨ t = 5 ∨ t = 12 ∨ t = 39 then ⟨false, 0, 0, d.host, [], [], 0, 0, 0, 0, 0, 0, 0⟩
  else if t = 6 then ⟨false, 0, 0, d.host, d.mail, [], d.a, d.b, d.c, d.d, d.e, 0, 0⟩
  else if t = 15 then ⟨false, 0, 0, d.host, [], [], d.a, 0, 0, 0, 0, 0, 0⟩
  else if t = 16 then ⟨false, 0, 0, [], [], d.text, 0, 0, 0, 0, 0, 0, 0⟩
  else if t = 33 then ⟨false, 0, 0, d.host, [], [], d.a, d.b, d.c, 0, 0, 0, 0⟩
  else if t = 43 ∨ t = 48 then ⟨false, 0, 0, [], [], d.text, d.a, d.b, d.c, 0, 0, 0, 0⟩
  else if t = 46 then ⟨false, 0, 0, d.host, [], d.text, d.a, d.b, d.c, d.d, d.e, d.f, 0⟩
  else ⟨false, 0, 0, d.host, [], [], 0, 0, 0, 0, 0, 0, d.bits⟩
end Go.X.G
/- Data of records: which are valid. -/
namespace Go.X.G
open Go Go.X

def kindOk (t : Int) (d : Dat) : Bool :=
  if t = 1 then addrOk d && !d.v6
  else if t = 28 then d.v6
  else if t = 6 then hostOk d.host && hostOk d.mail && inB d.a 4294967295 && inB d.b 2147483647 && inB d.c 2147483647 && inB d.d 2147483647 && inB d.e 2147483647
  else if t = 15 then hostOk d.host && inB d.a 65535
  else if t = 16 then decide (d.text.length ≤ 255)
  else if t = 33 then hostOk d.host && inB d.a 65535 && inB d.b 65535 && inB d.c 65535
  else if t = 43 then inB d.a 65535 && inB d.b 255 && inB d.c 255 && txtOk d.text
  else if t = 46 then knw d.a && decide (d.a ≠ 46) && inB d.b 127 && inB d.c 2147483647 && inB d.d 4294967295 && inB d.e 4294967295 && inB d.f 65535 && hostOk d.host && txtOk d.text
  else if t = 47 then vld d.host && decide (d.bits ≠ 0) && allK d.bits 0 64
  else if t = 48 then (decide (d.a = 256) || decide (d.a = 257)) && decide (d.b = 3) && inB d.c 255 && txtOk d.text
  else hostOk d.host
def vldD (t : Int) (d : Dat) : Bool := knw t && decide (usd t d = d) && kindOk t d
def wireD (t : Int) (d : Dat) : List UInt8 :=
  if t = 1 ∨ t = 28 then wire2 d
  else if t = 6 then wireN d.host ++ wireN d.mail ++ be d.a 4 ++ be d.b 4 ++ be d.c 4 ++ be d.d 4 ++ be d.e 4
  else if t = 15 then be d.a 2 ++ wireN d.host
  else if t = 16 then be (d.text.length : Int) 1 ++ d.text
  else if t = 33 then be d.a 2 ++ be d.b 2 ++ be d.c 2 ++ wireN d.host
  else if t = 43 ∨ t = 48 then be d.a 2 ++ be d.b 1 ++ be d.c 1 ++ d.text
  else if t = 46 then be d.a 2 ++ be 253 1 ++ be d.b 1 ++ be d.c 4 ++ be d.d 4 ++ be d.e 4 ++ be d.f 2 ++ wireN d.host ++ d.text
  else if t = 47 then wireN d.host ++ be 0 1 ++ be ((bmap d.bits).length : Int) 1 ++ bmap d.bits
  else wireN d.host
theorem knw_cases {t : Int} (h : knw t = true) : t = 1 ∨ t = 2 ∨ t = 5 ∨ t = 6 ∨ t = 12 ∨ t = 15 ∨ t = 16 ∨ t = 28 ∨ t = 33 ∨ t = 39 ∨ t = 43 ∨ t = 46 ∨ t = 47 ∨ t = 48 := by
  simp [knw] at h; omega
/-- how data of a type are compared -/
def cmpD (t : Int) (a b : Dat) : Int :=
  if vldD t a && vldD t b then cmpS (wireD t a) (wireD t b) else if vldD t a then -1 else if vldD t b then 1 else 0
end Go.X.G
/- Lists of records: what the reference's functions give. -/
namespace Go.X.G
open Go Go.X

def vldR (r : Rec) : Bool := vld r.name && knw r.typ && decide (0 ≤ r.ttl) && decide (r.ttl ≤ 2147483647) && vldD r.typ r.data
/-- a comparison of numbers -/
def cmpI (a b : Int) : Int := if a < b then -1 else if b < a then 1 else 0
/-- the first three comparisons -/
def cmpF (a b : Rec) : Int :=
  if cmpN a.name b.name ≠ 0 then cmpN a.name b.name else if cmpI a.typ b.typ ≠ 0 then cmpI a.typ b.typ else cmpD a.typ a.data b.data
def isK (n : List UInt8) (t : Int) (r : Rec) : Bool := decide (r.name = n) && decide (r.typ = t)
def findR (l : List Rec) (n : List UInt8) (t : Int) : List Rec := l.filter (isK n t)
theorem FindP_ok (l : List Rec) (n : List UInt8) (t : Int) (hl : l.length ≤ 1000000) : S n_rrset_Find 3 [recsPV l, .s n, .i .i64 t] = some [recsPV (findR l n t)] := by
  refine s_rrset_Find (N := l.length + 1) rfl ?_
  have key : l0_rrset_Find.ev S (l.length + 1) [recsPV l, .s n, .i .i64 t] = some (.yld 0 [recsPV ([] ++ findR l n t)]) := by
    refine loop_acc l (fun i (g : List Rec) => [recsPV g, .i .i64 (i : Int)]) (fun i g r => .yld 0 [recsPV (g ++ findR r n t)]) (fun i g => g.length ≤ i) [] rfl (Nat.zero_le _) (by omega) (fun i g c r hd hi hc hI => ?_) (fun g hI => ?_)
    · left
      by_cases h : isK n t c = true
      · refine ⟨g ++ [c], ?_, by simp; omega, by simp [findR, h]⟩
        simp [isK] at h
        simp (disch := omega) only [x_rrset_Find, hc, h.1, h.2, EVP, ↓reduceIte, EV, if_true, if_false, Nat.reduceAdd, Nat.reduceEqDiff, Int.reduceToNat, ne_eq, not_true, not_false_eq_true, Bool.true_eq_false, reduceCtorEq]
      · refine ⟨g, ?_, by omega, by simp [findR, h]⟩
        simp [isK] at h
        by_cases h1 : c.name = n
        · simp (disch := omega) only [x_rrset_Find, hc, h1, h h1, EVP, ↓reduceIte, EV, if_true, if_false, Nat.reduceAdd, Nat.reduceEqDiff, Int.reduceToNat, ne_eq, not_true, not_false_eq_true, Bool.true_eq_false, reduceCtorEq]
        · by_cases h2 : c.typ = t <;> simp (disch := omega) only [x_rrset_Find, hc, h1, h2, EVP, ↓reduceIte, EV, if_true, if_false, Nat.reduceAdd, Nat.reduceEqDiff, Int.reduceToNat, ne_eq, not_true, not_false_eq_true, Bool.true_eq_false, reduceCtorEq]
    · simp (disch := omega) only [x_rrset_Find, EVP, ↓reduceIte, EV, if_true, if_false, Nat.reduceAdd, Nat.reduceEqDiff, Int.reduceToNat, ne_eq, not_true, not_false_eq_true, Bool.true_eq_false, reduceCtorEq]
      simp [findR, Out.goes]
  simp (disch := omega) only [x_rrset_Find, key, EVP, ↓reduceIte, EV, if_true, if_false, Nat.reduceAdd, Nat.reduceEqDiff, Int.reduceToNat, ne_eq, not_true, not_false_eq_true, Bool.true_eq_false, reduceCtorEq]

/-! ### sorting -/
def insR (x : Rec) : List Rec → List Rec
  | [] => [x]
  | y :: r => if cmpF y x < 0 then y :: insR x r else if cmpF y x = 0 then (if x.ttl < y.ttl then x :: r else y :: r) else x :: y :: r
def sortR (l : List Rec) : List Rec := l.foldl (fun acc x => insR x acc) []
def leadR (x : Rec) : List Rec → Nat
  | [] => 0
  | y :: r => if cmpF y x < 0 then leadR x r + 1 else 0
theorem leadR_le (x : Rec) : ∀ l, leadR x l ≤ l.length
  | [] => Nat.le_refl _
  | y :: r => by have := leadR_le x r; simp only [leadR]; split <;> simp; omega
theorem insR_at (x : Rec) : ∀ (l : List Rec), insR x l = match l[leadR x l]? with
    | some y => if cmpF y x = 0 then (if x.ttl < y.ttl then l.set (leadR x l) x else l) else l.take (leadR x l) ++ [x] ++ l.drop (leadR x l)
    | none => l.take (leadR x l) ++ [x] ++ l.drop (leadR x l)
  | [] => rfl
  | y :: r => by
    simp only [insR, leadR]
    by_cases h : cmpF y x < 0
    · simp only [if_pos h, List.getElem?_cons_succ]
      rw [insR_at x r]
      cases h2 : r[leadR x r]? with
      | none => simp
      | some z => by_cases h3 : cmpF z x = 0 <;> by_cases h4 : x.ttl < z.ttl <;> simp [h3, h4]
    · simp only [if_neg h, List.getElem?_cons_zero]
      by_cases h3 : cmpF y x = 0 <;> by_cases h4 : x.ttl < y.ttl <;> simp [h3, h4]
theorem insR_len (x : Rec) : ∀ l, (insR x l).length ≤ l.length + 1
  | [] => by simp [insR]
  | y :: r => by
    have := insR_len x r
    simp only [insR]
    split
    · simp; omega
    · split
      · split <;> simp
      · simp
theorem insR_mem (x : Rec) : ∀ (l : List Rec) (y : Rec), y ∈ insR x l → y = x ∨ y ∈ l
  | [], y, h => by simp [insR] at h; exact .inl h
  | z :: r, y, h => by
    simp only [insR] at h
    split at h
    · simp at h
      rcases h with h | h
      · exact .inr (by simp [h])
      · rcases insR_mem x r y h with h | h
        · exact .inl h
        · exact .inr (by simp [h])
    · split at h
      · split at h
        · simp at h; rcases h with h | h
          · exact .inl h
          · exact .inr (by simp [h])
        · exact .inr h
      · simp at h; rcases h with h | h
        · exact .inl h
        · exact .inr (by simpa using h)
end Go.X.G
/- The library's functions on strings. -/
namespace Go.X.G
open Go Go.X

theorem cntS_ok (x : List UInt8) (c : UInt8) : S n_internal_bytealg_CountString 2 [.s x, .i .u8 (c.toNat : Int)] = some [.i .i64 (x.count c : Int)] :=
  s_internal_bytealg_CountString (args := [.s x, .i .u8 (c.toNat : Int)]) (by simp [XK.run, runSB, Lib.countByte])
theorem idxS_ok (x : List UInt8) (c : UInt8) : S n_internal_bytealg_IndexByteString 2 [.s x, .i .u8 (c.toNat : Int)] = some [.i .i64 (Lib.indexByte x c)] :=
  s_internal_bytealg_IndexByteString (args := [.s x, .i .u8 (c.toNat : Int)]) (by simp [XK.run, runSB])
theorem IndexByteL_ok (x : List UInt8) (c : UInt8) : S n_internal_stringslite_IndexByte 2 [.s x, .i .u8 (c.toNat : Int)] = some [.i .i64 (Lib.indexByte x c)] := by
  refine s_internal_stringslite_IndexByte (N := 1) rfl ?_
  simp (disch := omega) only [x_internal_stringslite_IndexByte, idxS_ok, EVP, ↓reduceIte, EV, if_true, if_false, Nat.reduceAdd, Nat.reduceEqDiff, Int.reduceToNat, ne_eq, not_true, not_false_eq_true, Bool.true_eq_false, reduceCtorEq]
theorem indexByte_none (c : UInt8) : ∀ (x : List UInt8), c ∉ x → Lib.indexByte x c = -1
  | [], _ => rfl
  | b :: l, h => by
    have h1 : b ≠ c := fun e => h (by simp [e])
    have h2 := indexByte_none c l (fun e => h (by simp [e]))
    simp [Lib.indexByte, h1, h2]
theorem indexByte_some (c : UInt8) (post : List UInt8) : ∀ (pre : List UInt8), c ∉ pre → Lib.indexByte (pre ++ c :: post) c = (pre.length : Int)
  | [], _ => by simp [Lib.indexByte]
  | b :: l, h => by
    have h1 : b ≠ c := fun e => h (by simp [e])
    have h2 := indexByte_some c post l (fun e => h (by simp [e]))
    simp only [List.cons_append, Lib.indexByte, h2]
    simp [h1]
    try omega
theorem dot_split (c : UInt8) : ∀ (s : List UInt8), c ∉ s ∨ ∃ pre post, s = pre ++ c :: post ∧ c ∉ pre
  | [] => .inl (by simp)
  | b :: l => by
    by_cases h : b = c
    · exact .inr ⟨[], l, by simp [h], by simp⟩
    · rcases dot_split c l with h1 | ⟨pre, post, rfl, h2⟩
      · exact .inl (by simp [h1, Ne.symm h])
      · exact .inr ⟨b :: pre, post, by simp, by simp [h2, Ne.symm h]⟩
/-- the pieces between periods -/
def pcs (cur : List UInt8) : List UInt8 → List (List UInt8)
  | [] => [cur]
  | c :: r => if c = 46 then cur :: pcs [] r else pcs (cur ++ [c]) r
def cut (s : List UInt8) : List (List UInt8) := pcs [] s
theorem pcs_pre (post : List UInt8) : ∀ (pre cur : List UInt8), (46 : UInt8) ∉ pre → pcs cur (pre ++ 46 :: post) = (cur ++ pre) :: pcs [] post
  | [], cur, _ => by simp [pcs]
  | b :: l, cur, h => by
    have h1 : b ≠ 46 := fun e => h (by simp [e])
    have h2 := pcs_pre post l (cur ++ [b]) (fun e => h (by simp [e]))
    simp [pcs, h1, h2]
theorem pcs_none : ∀ (s cur : List UInt8), (46 : UInt8) ∉ s → pcs cur s = [cur ++ s]
  | [], cur, _ => by simp [pcs]
  | b :: l, cur, h => by
    have h1 : b ≠ 46 := fun e => h (by simp [e])
    have h2 := pcs_none l (cur ++ [b]) (fun e => h (by simp [e]))
    simp [pcs, h1, h2]
theorem cut_len (s : List UInt8) : (cut s).length = s.count 46 + 1 := by
  have : ∀ (s cur : List UInt8), (pcs cur s).length = s.count 46 + 1 := by
    intro s
    induction s with
    | nil => intro cur; rfl
    | cons c r ih =>
      intro cur
      by_cases h : c = 46 <;> simp [pcs, h, ih]
  exact this s []
theorem IndexL_dot (s : List UInt8) (hs : s.length ≤ 9223372036854775807) : S n_internal_stringslite_Index 2 [.s s, .s [46]] = some [.i .i64 (Lib.indexByte s 46)] := by
  refine s_internal_stringslite_Index (N := 1) rfl ?_
  have h1 := IndexByteL_ok s 46
  have e : (((46 : UInt8).toNat : Nat) : Int) = 46 := rfl
  rw [e] at h1
  by_cases h : [46] = s
  · subst h
    simp (disch := omega) only [x_internal_stringslite_Index, EVP, ↓reduceIte, EV, if_true, if_false, Nat.reduceAdd, Nat.reduceEqDiff, Int.reduceToNat, ne_eq, not_true, not_false_eq_true, Bool.true_eq_false, reduceCtorEq]
    rfl
  · simp (disch := omega) only [x_internal_stringslite_Index, h, h1, e, EVP, ↓reduceIte, EV, if_true, if_false, Nat.reduceAdd, Nat.reduceEqDiff, Int.reduceToNat, ne_eq, not_true, not_false_eq_true, Bool.true_eq_false, reduceCtorEq]
theorem Index_dot (s : List UInt8) (hs : s.length ≤ 9223372036854775807) : S n_strings_Index 2 [.s s, .s [46]] = some [.i .i64 (Lib.indexByte s 46)] := by
  refine s_strings_Index (N := 1) rfl ?_
  simp (disch := omega) only [x_strings_Index, IndexL_dot, EVP, ↓reduceIte, EV, if_true, if_false, Nat.reduceAdd, Nat.reduceEqDiff, Int.reduceToNat, ne_eq, not_true, not_false_eq_true, Bool.true_eq_false, reduceCtorEq]
theorem Count_dot (s : List UInt8) : S n_strings_Count 2 [.s s, .s [46]] = some [.i .i64 (s.count 46 : Int)] := by
  refine s_strings_Count (N := 1) rfl ?_
  have h1 := cntS_ok s 46
  have e : (((46 : UInt8).toNat : Nat) : Int) = 46 := rfl
  rw [e] at h1
  simp (disch := omega) only [x_strings_Count, h1, e, EVP, ↓reduceIte, EV, if_true, if_false, Nat.reduceAdd, Nat.reduceEqDiff, Int.reduceToNat, ne_eq, not_true, not_false_eq_true, Bool.true_eq_false, reduceCtorEq]

/-- what the loop of genSplit comes to -/
def gsOut (done rest : List (List UInt8)) : Out :=
  .yld 0 [.s ((done ++ rest).getLastD []), strsPV ((done ++ rest).dropLast ++ [[]]), .i .i64 (((done ++ rest).length : Int) - 1)]
theorem genSplit_l0 (s : List UInt8) (N : Nat) (hN : s.length < N) (hs : s.length ≤ 1000000) (p q : PV) :
    l0_strings_genSplit.ev S N [.s s, .s [46], .i .i64 0, p, .i .i64 ((s.count 46 : Int) + 1)] = some (gsOut [] (cut s)) := by
  have hc0 : s.count 46 ≤ s.length := List.count_le_length
  have key := loop_rule (fn := S) (N := N) (η := [.s s, .s [46], .i .i64 0, p, .i .i64 ((s.count 46 : Int) + 1)]) (id := 1) (init := [(.v 0), (.rep 1 (.mn (.v 4) (.bin .add (.slen (.v 0)) (.c (.i .i64 (1))))) (.c (.s []))), (.c (.i .i64 (0)))]) (body := b0_strings_genSplit) (α := List (List UInt8) × List UInt8)
    (fun a => [.s a.2, strsPV (a.1 ++ List.replicate (a.2.count 46 + 1) []), .i .i64 (a.1.length : Int)]) (fun a => gsOut a.1 (cut a.2)) (fun a => a.1.length + a.2.count 46 = s.count 46 ∧ a.2.length ≤ s.length) (fun a => a.2.length) ([], s) ?_ ⟨by simp, Nat.le_refl _⟩ hN ?_
  · simpa [l0_strings_genSplit] using key
  · have e : ((s.count 46 : Int) + 1).toNat = s.count 46 + 1 := by omega
    simp (disch := omega) only [e, EVP, ↓reduceIte, EV, if_true, if_false, Nat.reduceAdd, Nat.reduceEqDiff, Int.reduceToNat, ne_eq, not_true, not_false_eq_true, Bool.true_eq_false, reduceCtorEq]
  · rintro ⟨done, rest⟩ ⟨h1, h2⟩
    simp only at h1 h2 ⊢
    rcases dot_split 46 rest with h | ⟨pre, post, rfl, h⟩
    · right
      have c0 : rest.count 46 = 0 := List.count_eq_zero.2 h
      have i0 := indexByte_none 46 rest h
      have cu : cut rest = [rest] := by simpa [cut] using pcs_none rest [] h
      refine ⟨?_, rfl⟩
      rw [c0]
      rw [c0] at h1
      simp (disch := omega) only [x_strings_genSplit, Index_dot, i0, EVP, ↓reduceIte, EV, if_true, if_false, Nat.reduceAdd, Nat.reduceEqDiff, Int.reduceToNat, ne_eq, not_true, not_false_eq_true, Bool.true_eq_false, reduceCtorEq]
      simp [gsOut, cu, List.getLastD_eq_getLast?]
    · left
      have c0 : (pre ++ 46 :: post).count 46 = post.count 46 + 1 := by
        rw [List.count_append, List.count_eq_zero.2 h]; simp
      have i0 := indexByte_some 46 post pre h
      have cu : cut (pre ++ 46 :: post) = pre :: cut post := by simpa [cut] using pcs_pre post pre [] h
      have hl : (pre ++ 46 :: post).length = pre.length + post.length + 1 := by simp; omega
      have sl1 : List.drop (0 : Int).toNat (List.take ((pre.length : Int) + 0).toNat (pre ++ 46 :: post)) = pre := by
        simp
      have sl2 : List.drop ((pre.length : Int) + 1).toNat (List.take (pre ++ 46 :: post).length (pre ++ 46 :: post)) = post := by
        have : ((pre.length : Int) + 1).toNat = pre.length + 1 := by omega
        rw [this, List.take_length, List.drop_append]
        simp
      have sl3 : (done ++ [] :: [] :: List.replicate (post.count 46) ([] : List UInt8)).length = done.length + post.count 46 + 2 := by simp; omega
      refine ⟨(done ++ [pre], post), ?_, ⟨by simp; omega, by simp only; omega⟩, by simp; omega, by simp [gsOut, cu]⟩
      rw [c0]
      rw [c0] at h1
      simp (disch := omega) only [x_strings_genSplit, Index_dot, i0, sl1, sl2, EVP, ↓reduceIte, EV, if_true, if_false, Nat.reduceAdd, Nat.reduceEqDiff, Int.reduceToNat, ne_eq, not_true, not_false_eq_true, Bool.true_eq_false, reduceCtorEq]
      simp [List.replicate_succ, List.set_append]
theorem genSplit_ok (s : List UInt8) (hs : s.length ≤ 1000000) : S n_strings_genSplit 4 [.s s, .s [46], .i .i64 0, .i .i64 (-1)] = some [strsPV (cut s)] := by
  refine s_strings_genSplit (N := s.length + 1) rfl ?_
  have h1 := cut_len s
  have h2 : s.count 46 ≤ s.length := List.count_le_length
  obtain ⟨l, x, hx⟩ : ∃ l x, cut s = l ++ [x] := ⟨(cut s).dropLast, (cut s).getLast (by intro e; simp [e] at h1), (List.dropLast_concat_getLast _).symm⟩
  have h3 : l.length = s.count 46 := by rw [hx] at h1; simpa using h1
  have h4 : ((l.length : Int) + 1 - 1) = (l.length : Int) := by omega
  have h5 : ((l ++ [([] : List UInt8)]).length : Int) = l.length + 1 := by simp
  have h6 : ((l ++ [x]).length : Int) = l.length + 1 := by simp
  have g1 : (l ++ [([] : List UInt8)])[l.length]? = some [] := by simp
  have g2 : (l ++ [x]).getLastD [] = x := by simp [List.getLastD_eq_getLast?]
  have g3 : (l ++ [([] : List UInt8)]).set l.length x = l ++ [x] := by simp
  have hk := genSplit_l0 s (s.length + 1) (by omega) hs (.i .i64 (-1)) .u
  rw [hx] at hk ⊢
  simp only [gsOut, List.nil_append, List.dropLast_concat] at hk
  simp (disch := omega) only [x_strings_genSplit, Count_dot, hk, h4, h6, g1, g2, g3, EVP, ↓reduceIte, EV, if_true, if_false, Nat.reduceAdd, Nat.reduceEqDiff, Int.reduceToNat, ne_eq, not_true, not_false_eq_true, Bool.true_eq_false, reduceCtorEq]
  have g4 : ((l.length : Int) + 1).toNat = (l ++ [x]).length := by simp
  rw [g4, List.take_length]
  rfl
theorem Split_dot (s : List UInt8) (hs : s.length ≤ 1000000) : S n_strings_Split 2 [.s s, .s [46]] = some [strsPV (cut s)] := by
  refine s_strings_Split (N := 1) rfl ?_
  simp (disch := omega) only [x_strings_Split, genSplit_ok, EVP, ↓reduceIte, EV, if_true, if_false, Nat.reduceAdd, Nat.reduceEqDiff, Int.reduceToNat, ne_eq, not_true, not_false_eq_true, Bool.true_eq_false, reduceCtorEq]
theorem HasSuffixL_ok (s t : List UInt8) (hs : s.length ≤ 9223372036854775807) : S n_internal_stringslite_HasSuffix 2 [.s s, .s t] = some [.b (t.isSuffixOf s)] := by
  refine s_internal_stringslite_HasSuffix (N := 1) rfl ?_
  by_cases h : t.length ≤ s.length
  · have e : ((s.length : Int) - (t.length : Int)).toNat = s.length - t.length := by omega
    simp (disch := omega) only [x_internal_stringslite_HasSuffix, e, EVP, ↓reduceIte, EV, if_true, if_false, Nat.reduceAdd, Nat.reduceEqDiff, Int.reduceToNat, ne_eq, not_true, not_false_eq_true, Bool.true_eq_false, reduceCtorEq]
    simp only [List.take_length]
    congr 4
    rw [Bool.eq_iff_iff, List.isSuffixOf_iff_suffix, decide_eq_true_eq]
    refine ⟨fun h => h ▸ List.drop_suffix _ _, fun h => ?_⟩
    obtain ⟨p, rfl⟩ := h
    simp
  · have h2 : t.isSuffixOf s = false := by
      rw [Bool.eq_false_iff, ne_eq, List.isSuffixOf_iff_suffix]
      exact fun h' => h h'.length_le
    simp (disch := omega) only [x_internal_stringslite_HasSuffix, h2, EVP, ↓reduceIte, EV, if_true, if_false, Nat.reduceAdd, Nat.reduceEqDiff, Int.reduceToNat, ne_eq, not_true, not_false_eq_true, Bool.true_eq_false, reduceCtorEq]
theorem HasSuffix_ok (s t : List UInt8) (hs : s.length ≤ 9223372036854775807) : S n_strings_HasSuffix 2 [.s s, .s t] = some [.b (t.isSuffixOf s)] := by
  refine s_strings_HasSuffix (N := 1) rfl ?_
  simp (disch := omega) only [x_strings_HasSuffix, HasSuffixL_ok, EVP, ↓reduceIte, EV, if_true, if_false, Nat.reduceAdd, Nat.reduceEqDiff, Int.reduceToNat, ne_eq, not_true, not_false_eq_true, Bool.true_eq_false, reduceCtorEq]
end Go.X.G
/- Names and their labels. -/
namespace Go.X.G
open Go Go.X

def flat (l : List (List UInt8)) : List UInt8 := l.flatMap fun x => x ++ [46]
/-- a name out of its labels -/
def jn (l : List (List UInt8)) : List UInt8 := if l = [] then [46] else flat l
/-- labels that stand in this order in a name -/
def goodL (first : Bool) : List (List UInt8) → Bool
  | [] => true
  | p :: r => isLab p && (!decide (p = [42]) || first) && goodL false r
theorem lchar46 : lchar 46 = false := by decide
theorem isLab_dot {p : List UInt8} (h : isLab p = true) : (46 : UInt8) ∉ p := by
  unfold isLab at h
  simp at h
  rcases h with rfl | ⟨_, h⟩
  · decide
  · intro h2
    have := h 46 h2
    rw [lchar46] at this
    cases this
theorem isLab_ne {p : List UInt8} (h : isLab p = true) : p ≠ [] := by
  rintro rfl
  simp [isLab] at h
theorem goodL_mem {p : List UInt8} : ∀ {f : Bool} {l : List (List UInt8)}, goodL f l = true → p ∈ l → isLab p = true
  | f, q :: r, h, hp => by
    simp only [goodL, Bool.and_eq_true] at h
    rcases List.mem_cons.1 hp with rfl | hp
    · exact h.1.1
    · exact goodL_mem h.2 hp
theorem goodL_weak : ∀ {l : List (List UInt8)}, goodL false l = true → goodL true l = true
  | [], _ => rfl
  | p :: r, h => by
    simp only [goodL, Bool.and_eq_true] at h ⊢
    exact ⟨⟨h.1.1, by simp⟩, h.2⟩
theorem goodL_app : ∀ {f : Bool} {a b : List (List UInt8)}, goodL f (a ++ b) = (goodL f a && goodL (f && a.isEmpty) b)
  | f, [], b => by simp [goodL]
  | f, p :: r, b => by
    simp only [List.cons_append, goodL, goodL_app (a := r)]
    simp [Bool.and_assoc]
theorem goodL_drop {f : Bool} {l : List (List UInt8)} (h : goodL f l = true) (k : Nat) : goodL f (l.drop k) = true := by
  rw [← List.take_append_drop k l, goodL_app, Bool.and_eq_true] at h
  have h2 := h.2
  cases f with
  | false => simpa using h2
  | true =>
    cases he : (l.take k).isEmpty with
    | true => rw [he] at h2; exact h2
    | false => rw [he] at h2; exact goodL_weak h2
theorem spl_pcs : ∀ (m : List UInt8) (f : Bool) (cur : List UInt8), spl f cur (m ++ [46]) = if goodL f (pcs cur m) = true then some (pcs cur m) else none
  | [], f, cur => by
    simp only [List.nil_append, spl, if_true, pcs, goodL, Option.map_some, Bool.and_true]
    by_cases h : isLab cur = true <;> by_cases h2 : cur = [42] <;> cases f <;> simp [h, h2]
  | c :: r, f, cur => by
    simp only [List.cons_append, spl, pcs]
    by_cases hc : c = 46
    · simp only [if_pos hc]
      rw [spl_pcs r false []]
      simp only [goodL]
      by_cases h : isLab cur = true <;> by_cases h2 : cur = [42] <;> cases f <;> by_cases h3 : goodL false (pcs [] r) = true <;> simp [h, h2, h3]
    · simp only [if_neg hc]
      exact spl_pcs r f (cur ++ [c])
theorem pcs_app (b : List UInt8) : ∀ (a cur : List UInt8), pcs cur (a ++ 46 :: b) = pcs cur a ++ cut b
  | [], cur => by simp [pcs, cut]
  | c :: r, cur => by
    simp only [List.cons_append, pcs]
    split
    · rw [pcs_app b r []]; rfl
    · exact pcs_app b r _
theorem flat_pcs : ∀ (m cur : List UInt8), flat (pcs cur m) = cur ++ m ++ [46]
  | [], cur => by simp [pcs, flat]
  | c :: r, cur => by
    simp only [pcs]
    split
    · rename_i h
      have := flat_pcs r []
      simp only [flat, List.flatMap_cons] at this ⊢
      rw [this, h]; simp
    · rw [flat_pcs r (cur ++ [c])]; simp
theorem flat_app (a b : List (List UInt8)) : flat (a ++ b) = flat a ++ flat b := by simp [flat]
theorem pcs_ne (cur m : List UInt8) : pcs cur m ≠ [] := by
  cases m with
  | nil => simp [pcs]
  | cons c r =>
    simp only [pcs]
    split
    · simp
    · intro h
      have := flat_pcs r (cur ++ [c])
      rw [h] at this
      simp [flat] at this
/-- the labels of what is flat -/
theorem cut_flat : ∀ (l : List (List UInt8)), (∀ p ∈ l, (46 : UInt8) ∉ p) → cut (flat l) = l ++ [[]]
  | [], _ => rfl
  | p :: l, h => by
    have h1 : flat (p :: l) = p ++ 46 :: flat l := by simp [flat]
    rw [h1]
    show pcs [] _ = _
    rw [pcs_app, pcs_none p [] (h p (by simp)), cut_flat l (fun q hq => h q (by simp [hq]))]
    simp
theorem flat_inj {a b : List (List UInt8)} (ha : ∀ p ∈ a, (46 : UInt8) ∉ p) (hb : ∀ p ∈ b, (46 : UInt8) ∉ p) (h : flat a = flat b) : a = b := by
  have h1 := cut_flat a ha
  rw [h, cut_flat b hb] at h1
  exact (List.append_cancel_right h1).symm
theorem flat_last : ∀ (l : List (List UInt8)), l ≠ [] → ∃ m, flat l = m ++ [46]
  | [p], _ => ⟨p, by simp [flat]⟩
  | p :: q :: r, _ => by
    obtain ⟨m, hm⟩ := flat_last (q :: r) (by simp)
    exact ⟨p ++ [46] ++ m, by simp only [flat, List.flatMap_cons] at hm ⊢; rw [hm]; simp⟩
theorem cut_init {l : List (List UInt8)} (hl : l ≠ []) (h : ∀ p ∈ l, (46 : UInt8) ∉ p) {m : List UInt8} (hm : flat l = m ++ [46]) : cut m = l := by
  have h1 := cut_flat l h
  rw [hm] at h1
  have h2 : cut (m ++ [46]) = cut m ++ [[]] := by
    show pcs [] (m ++ 46 :: []) = _
    rw [pcs_app]; rfl
  rw [h2] at h1
  exact List.append_cancel_right h1
/-! ### valid names -/
theorem flat_len_pos {l : List (List UInt8)} (h : goodL true l = true) (hl : l ≠ []) : 2 ≤ (flat l).length := by
  cases l with
  | nil => exact absurd rfl hl
  | cons p r =>
    have h1 := isLab_ne (goodL_mem h (List.mem_cons_self ..))
    have : 0 < p.length := List.length_pos_iff.2 h1
    simp [flat]; omega
theorem nm_flat {l : List (List UInt8)} (h : goodL true l = true) (hl : l ≠ []) (hlen : (flat l).length ≤ 254) : nm (flat l) = some l := by
  obtain ⟨m, hm⟩ := flat_last l hl
  have h1 := cut_init hl (fun p hp => isLab_dot (goodL_mem h hp)) hm
  have h2 := flat_len_pos h hl
  unfold nm
  rw [if_neg (by intro e; rw [e] at h2; simp at h2), if_pos ⟨h2, hlen, by rw [hm]; simp⟩, hm, spl_pcs]
  have : pcs [] m = l := h1
  rw [this, if_pos h]
theorem nm_some {n : List UInt8} {l : List (List UInt8)} (h : nm n = some l) : (n = [46] ∧ l = []) ∨ (l ≠ [] ∧ goodL true l = true ∧ n = flat l ∧ n.length ≤ 254) := by
  unfold nm at h
  split at h
  · rename_i e; injection h with h; exact .inl ⟨e, h.symm⟩
  · split at h
    · rename_i h1
      right
      obtain ⟨h2, h3, h4⟩ := h1
      obtain ⟨m, hm⟩ : ∃ m, n = m ++ [46] := by
        refine ⟨n.dropLast, ?_⟩
        have : n ≠ [] := by intro e; simp [e] at h2
        have h5 := List.dropLast_concat_getLast this
        rw [← h5]
        congr 1
        · simp
        · have h6 : n[n.length - 1]? = some (n.getLast this) := by rw [List.getLast_eq_getElem]; exact List.getElem?_eq_getElem _
          rw [h6] at h4
          injection h4 with h4
          simp [h4]
      rw [hm, spl_pcs] at h
      split at h
      · rename_i h5
        injection h with h
        subst h
        refine ⟨pcs_ne _ _, h5, ?_, by omega⟩
        rw [flat_pcs, hm]; simp
      · cases h
    · cases h
theorem vld_iff {n : List UInt8} : vld n = true ↔ nm n = some (lbl n) := by
  unfold vld lbl
  cases nm n <;> simp
theorem vld_cases {n : List UInt8} (h : vld n = true) : (n = [46] ∧ lbl n = []) ∨ (lbl n ≠ [] ∧ goodL true (lbl n) = true ∧ n = flat (lbl n) ∧ n.length ≤ 254) := nm_some (vld_iff.1 h)
theorem vld_good {n : List UInt8} (h : vld n = true) : goodL true (lbl n) = true := by
  rcases vld_cases h with ⟨_, h⟩ | ⟨_, h, _⟩
  · rw [h]; rfl
  · exact h
theorem vld_jn {n : List UInt8} (h : vld n = true) : n = jn (lbl n) := by
  unfold jn
  rcases vld_cases h with ⟨h1, h2⟩ | ⟨h1, _, h2, _⟩
  · rw [h2, if_pos rfl]; exact h1
  · rw [if_neg h1]; exact h2
theorem vld_len {n : List UInt8} (h : vld n = true) : n.length ≤ 254 := by
  rcases vld_cases h with ⟨h1, _⟩ | ⟨_, _, _, h⟩
  · simp [h1]
  · exact h
theorem lbl_root : lbl [46] = [] := rfl
theorem vld_root : vld [46] = true := rfl
theorem flat_ne_root {l : List (List UInt8)} (h : goodL true l = true) (hl : l ≠ []) : flat l ≠ [46] := by
  intro e
  have := flat_len_pos h hl
  rw [e] at this; simp at this
theorem lbl_nil {n : List UInt8} (h : vld n = true) : lbl n = [] ↔ n = [46] := by
  rcases vld_cases h with ⟨h1, h2⟩ | ⟨h1, h2, h3, _⟩
  · simp [h1, lbl_root]
  · constructor
    · intro e; exact absurd e h1
    · intro e; rw [h3] at e; exact absurd e (flat_ne_root h2 h1)
theorem vld_of {l : List (List UInt8)} (h : goodL true l = true) (hlen : (flat l).length ≤ 254) : vld (jn l) = true ∧ lbl (jn l) = l := by
  unfold jn
  by_cases hl : l = []
  · subst hl; exact ⟨rfl, rfl⟩
  · rw [if_neg hl]
    have := nm_flat h hl hlen
    exact ⟨by simp [vld, this], by simp [lbl, this]⟩
theorem lbl_inj {a b : List UInt8} (ha : vld a = true) (hb : vld b = true) (h : lbl a = lbl b) : a = b := by
  rw [vld_jn ha, vld_jn hb, h]
theorem flat_len_drop (l : List (List UInt8)) (k : Nat) : (flat (l.drop k)).length ≤ (flat l).length := by
  have : flat l = flat (l.take k) ++ flat (l.drop k) := by rw [← flat_app, List.take_append_drop]
  rw [this, List.length_append]; omega
theorem vld_drop {n : List UInt8} (h : vld n = true) (k : Nat) : vld (jn ((lbl n).drop k)) = true ∧ lbl (jn ((lbl n).drop k)) = (lbl n).drop k := by
  refine vld_of (goodL_drop (vld_good h) k) ?_
  rcases vld_cases h with ⟨_, h1⟩ | ⟨_, _, h1, h2⟩
  · rw [h1]; simp [flat]
  · have := flat_len_drop (lbl n) k
    rw [← h1] at this; omega
theorem isLab_len' {s : List UInt8} (h : isLab s = true) : s.length ≤ 63 := by
  unfold isLab at h
  simp at h
  rcases h with h | h
  · simp [h]
  · omega
theorem lbl_none {n : List UInt8} (h : vld n = false) : lbl n = [] := by
  unfold lbl; unfold vld at h
  cases h1 : nm n with
  | none => rfl
  | some l => rw [h1] at h; cases h
theorem lbl_each' (n : List UInt8) : ∀ x ∈ lbl n, isLab x = true := fun x hx => by
  rcases Bool.eq_false_or_eq_true (vld n) with h | h
  · exact goodL_mem (vld_good h) hx
  · rw [lbl_none h] at hx; cases hx
theorem vld_pos' {n : List UInt8} (h : vld n = true) : 0 < n.length := by
  rcases vld_cases h with ⟨h1, _⟩ | ⟨h1, h2, h3, _⟩
  · simp [h1]
  · have := flat_len_pos h2 h1
    rw [h3]; omega
end Go.X.G
/- Names: what the program's functions give. -/
namespace Go.X.G
open Go Go.X

def ord (s : List UInt8) : Bool := decide (1 ≤ s.length) && decide (s.length ≤ 63) && s.all lchar
theorem isLab_ord (s : List UInt8) : isLab s = (decide (s = [42]) || ord s) := rfl
theorem ord_star : ord [42] = false := by decide
theorem ordinary_l0 (s : List UInt8) (N : Nat) (hN : s.length < N) (hs : s.length ≤ 9223372036854775807) :
    l0_dname_ordinary.ev S N [.s s] = some (if s.all lchar = true then .yld 0 [] else .ret [.b false]) := by
  refine loop_list s (fun i => [.i .i64 (i : Int)]) (fun i r => if r.all lchar = true then .yld 0 [] else .ret [.b false]) rfl hN (fun i c r hd hi hc => ?_) ?_
  · have key : b0_dname_ordinary.ev S N ([.s s] ++ [.i .i64 (i : Int)]) = some (if lchar c = true then .yld 1 [.i .i64 ((i : Int) + 1)] else .ret [.b false]) := by
      simp (disch := omega) only [x_dname_ordinary, hc, EVP, ↓reduceIte, EV, if_true, if_false, Nat.reduceAdd, Nat.reduceEqDiff, Int.reduceToNat, ne_eq, not_true, not_false_eq_true, Bool.true_eq_false, reduceCtorEq]
      unfold lchar
      grind
    rw [key]
    rcases Bool.eq_false_or_eq_true (lchar c) with h | h <;> simp [h, Out.goes]
  · simp (disch := omega) [x_dname_ordinary, EVP, ↓reduceIte, EV, if_true, if_false, Nat.reduceAdd, Nat.reduceEqDiff, Int.reduceToNat, ne_eq, not_true, not_false_eq_true, Bool.true_eq_false, reduceCtorEq, Out.goes]
theorem ordinary_ok (s : List UInt8) (hs : s.length ≤ 9223372036854775807) : S n_dname_ordinary 1 [.s s] = some [.b (ord s)] := by
  refine s_dname_ordinary (N := s.length + 1) rfl ?_
  unfold ord
  by_cases h1 : s = []
  · subst h1
    simp (disch := omega) [x_dname_ordinary, EVP, ↓reduceIte, EV, if_true, if_false, Nat.reduceAdd, Nat.reduceEqDiff, Int.reduceToNat, ne_eq, not_true, not_false_eq_true, Bool.true_eq_false, reduceCtorEq]
  · have h2 : 1 ≤ s.length := List.length_pos_iff.2 h1
    by_cases h3 : s.length ≤ 63
    · simp (disch := omega) only [x_dname_ordinary, ordinary_l0, h1, EVP, ↓reduceIte, EV, if_true, if_false, Nat.reduceAdd, Nat.reduceEqDiff, Int.reduceToNat, ne_eq, not_true, not_false_eq_true, Bool.true_eq_false, reduceCtorEq]
      cases s.all lchar <;> simp [h2, h3]
    · simp (disch := omega) only [x_dname_ordinary, h1, EVP, ↓reduceIte, EV, if_true, if_false, Nat.reduceAdd, Nat.reduceEqDiff, Int.reduceToNat, ne_eq, not_true, not_false_eq_true, Bool.true_eq_false, reduceCtorEq]
      simp [h3]
def okP (i : Nat) (p : List UInt8) : Bool := ord p || (decide (i = 0) && decide (p = [42]))
def okPs : Nat → List (List UInt8) → Bool
  | _, [] => true
  | i, p :: r => okP i p && okPs (i + 1) r
theorem okPs_good : ∀ (l : List (List UInt8)) (i : Nat), okPs i l = goodL (decide (i = 0)) l
  | [], _ => rfl
  | p :: r, i => by
    have h1 := okPs_good r (i + 1)
    simp only [okPs, goodL, h1, okP, isLab_ord]
    by_cases h2 : p = [42]
    · subst h2
      by_cases h3 : i = 0 <;> simp [ord_star, h3]
    · simp [h2]
theorem ValidP_l0 (p q : PV) (l : List (List UInt8)) (hl : l.length ≤ 1000000) (hw : ∀ x ∈ l, x.length ≤ 9223372036854775807) (N : Nat) (hN : l.length < N) :
    l0_dname_Valid.ev S N [p, q, strsPV l] = some (if okPs 0 l = true then .yld 0 [] else .ret [.b false]) := by
  refine loop_list l (fun i => [.i .i64 (i : Int)]) (fun i r => if okPs i r = true then .yld 0 [] else .ret [.b false]) rfl hN (fun i c r hd hi hc => ?_) ?_
  · have hcw := hw c (List.mem_of_getElem? hc)
    have key : b0_dname_Valid.ev S N ([p, q, strsPV l] ++ [.i .i64 (i : Int)]) = some (if okP i c = true then .yld 1 [.i .i64 ((i : Int) + 1)] else .ret [.b false]) := by
      rcases Bool.eq_false_or_eq_true (ord c) with h1 | h1
      · simp (disch := omega) only [x_dname_Valid, ordinary_ok, hc, h1, EVP, ↓reduceIte, EV, if_true, if_false, Nat.reduceAdd, Nat.reduceEqDiff, Int.reduceToNat, ne_eq, not_true, not_false_eq_true, Bool.true_eq_false, reduceCtorEq]
        simp [okP, h1]
      · by_cases h2 : i = 0
        · subst h2
          by_cases h3 : c = [42]
          · subst h3
            simp (disch := omega) only [x_dname_Valid, ordinary_ok, hc, h1, EVP, ↓reduceIte, EV, if_true, if_false, Nat.reduceAdd, Nat.reduceEqDiff, Int.reduceToNat, ne_eq, not_true, not_false_eq_true, Bool.true_eq_false, reduceCtorEq]
            simp [okP]
          · simp (disch := omega) only [x_dname_Valid, ordinary_ok, hc, h1, h3, EVP, ↓reduceIte, EV, if_true, if_false, Nat.reduceAdd, Nat.reduceEqDiff, Int.reduceToNat, ne_eq, not_true, not_false_eq_true, Bool.true_eq_false, reduceCtorEq]
            simp [okP, h1, h3]
        · simp (disch := omega) only [x_dname_Valid, ordinary_ok, hc, h1, EVP, ↓reduceIte, EV, if_true, if_false, Nat.reduceAdd, Nat.reduceEqDiff, Int.reduceToNat, ne_eq, not_true, not_false_eq_true, Bool.true_eq_false, reduceCtorEq]
          simp [okP, h1, h2]
    rw [key]
    rcases Bool.eq_false_or_eq_true (okP i c) with h | h <;> simp [h, okPs, Out.goes]
  · simp (disch := omega) only [x_dname_Valid, EVP, ↓reduceIte, EV, if_true, if_false, Nat.reduceAdd, Nat.reduceEqDiff, Int.reduceToNat, ne_eq, not_true, not_false_eq_true, Bool.true_eq_false, reduceCtorEq]
    simp [Out.goes, okPs]
theorem pcs_each : ∀ (m cur : List UInt8) (x : List UInt8), x ∈ pcs cur m → x.length ≤ cur.length + m.length
  | [], cur, x, h => by simp [pcs] at h; subst h; simp
  | c :: r, cur, x, h => by
    simp only [pcs] at h
    split at h
    · rcases List.mem_cons.1 h with rfl | h
      · omega
      · have := pcs_each r [] x h; simp at this ⊢; omega
    · have := pcs_each r _ x h; simp at this ⊢; omega
theorem cut_each (m x : List UInt8) (h : x ∈ cut m) : x.length ≤ m.length := by simpa using pcs_each m [] x h
theorem cut_le (m : List UInt8) : (cut m).length ≤ m.length + 1 := by
  have := cut_len m
  have : m.count 46 ≤ m.length := List.count_le_length
  omega
theorem suffix1 (n : List UInt8) : ([46] : List UInt8).isSuffixOf n = true ↔ ∃ m, n = m ++ [46] := by
  rw [List.isSuffixOf_iff_suffix]
  exact ⟨fun ⟨m, h⟩ => ⟨m, h.symm⟩, fun ⟨m, h⟩ => ⟨m, h.symm⟩⟩
theorem vld_snoc (m : List UInt8) (hm : m ≠ []) (hl : m.length ≤ 253) : vld (m ++ [46]) = okPs 0 (cut m) := by
  have h1 : m ++ [46] ≠ [46] := fun e => hm (List.append_cancel_right (bs := [46]) (by simpa using e))
  have h2 : 0 < m.length := List.length_pos_iff.2 hm
  unfold vld nm
  rw [if_neg h1, if_pos ⟨by simp; omega, by simp; omega, by simp⟩, spl_pcs, okPs_good]
  have e : pcs [] m = cut m := rfl
  have e2 : goodL (decide ((0 : Nat) = 0)) (cut m) = goodL true (cut m) := rfl
  rw [e, e2]
  cases goodL true (cut m) <;> rfl
theorem lbl_snoc (m : List UInt8) (h : vld (m ++ [46]) = true) (hm : m ≠ []) : lbl (m ++ [46]) = cut m := by
  rcases vld_cases h with ⟨h1, _⟩ | ⟨h1, h2, h3, _⟩
  · exact absurd (List.append_cancel_right (bs := [46]) (by simpa using h1)) hm
  · exact (cut_init h1 (fun p hp => isLab_dot (goodL_mem h2 hp)) h3.symm).symm
theorem ValidP_ok (n : List UInt8) (hn : n.length ≤ 9223372036854775807) : S n_dname_Valid 1 [.s n] = some [.b (vld n)] := by
  refine s_dname_Valid (N := 300) rfl ?_
  by_cases h0 : n = [46]
  · subst h0
    simp (disch := omega) only [x_dname_Valid, EVP, ↓reduceIte, EV, if_true, if_false, Nat.reduceAdd, Nat.reduceEqDiff, Int.reduceToNat, ne_eq, not_true, not_false_eq_true, Bool.true_eq_false, reduceCtorEq]
    rfl
  · by_cases h1 : 255 ≤ n.length
    · have hv : vld n = false := by
        rw [Bool.eq_false_iff]; intro h; have := vld_len h; omega
      simp (disch := omega) only [x_dname_Valid, h0, hv, EVP, ↓reduceIte, EV, if_true, if_false, Nat.reduceAdd, Nat.reduceEqDiff, Int.reduceToNat, ne_eq, not_true, not_false_eq_true, Bool.true_eq_false, reduceCtorEq]
    · rcases Bool.eq_false_or_eq_true (([46] : List UInt8).isSuffixOf n) with h2 | h2
      · obtain ⟨m, rfl⟩ := (suffix1 n).1 h2
        have hm : m ≠ [] := fun e => h0 (by simp [e])
        have hl : (m ++ [46]).length = m.length + 1 := by simp
        have hml : m.length ≤ 1000000 := by omega
        have e : List.drop 0 (List.take (((m ++ [46]).length : Int) - 1).toNat (m ++ [46])) = m := by
          have : (((m ++ [46]).length : Int) - 1).toNat = m.length := by omega
          rw [this]; simp
        have hc := cut_le m
        have hv := vld_snoc m hm (by omega)
        have hk := ValidP_l0 (.s (m ++ [46])) (.b true) (cut m) (by omega) (fun x hx => by have := cut_each m x hx; omega) 300 (by omega)
        simp (disch := omega) only [x_dname_Valid, HasSuffix_ok, Split_dot, e, hk, h0, h2, EVP, ↓reduceIte, EV, if_true, if_false, Nat.reduceAdd, Nat.reduceEqDiff, Int.reduceToNat, ne_eq, not_true, not_false_eq_true, Bool.true_eq_false, reduceCtorEq]
        rw [hv]
        cases okPs 0 (cut m) <;> simp
      · have hv : vld n = false := by
          rw [Bool.eq_false_iff]; intro h
          rcases vld_cases h with ⟨h3, _⟩ | ⟨h3, _, h5, _⟩
          · exact h0 h3
          · obtain ⟨m, hm⟩ := flat_last _ h3
            have := (suffix1 n).2 ⟨m, h5.trans hm⟩
            rw [h2] at this; cases this
        simp (disch := omega) only [x_dname_Valid, HasSuffix_ok, h0, h2, hv, EVP, ↓reduceIte, EV, if_true, if_false, Nat.reduceAdd, Nat.reduceEqDiff, Int.reduceToNat, ne_eq, not_true, not_false_eq_true, Bool.true_eq_false, reduceCtorEq]
theorem LabelsP_ok (n : List UInt8) (hn : n.length ≤ 9223372036854775807) : S n_dname_Labels 1 [.s n] = some [strsPV (lbl n)] := by
  refine s_dname_Labels (N := 1) rfl ?_
  by_cases h0 : n = [46]
  · subst h0
    simp (disch := omega) only [x_dname_Labels, lbl_root, EVP, ↓reduceIte, EV, if_true, if_false, Nat.reduceAdd, Nat.reduceEqDiff, Int.reduceToNat, ne_eq, not_true, not_false_eq_true, Bool.true_eq_false, reduceCtorEq]
  · rcases Bool.eq_false_or_eq_true (vld n) with h1 | h1
    · obtain ⟨m, hm, rfl⟩ : ∃ m, m ≠ [] ∧ n = m ++ [46] := by
        rcases vld_cases h1 with ⟨h3, _⟩ | ⟨h3, _, h5, _⟩
        · exact absurd h3 h0
        · obtain ⟨m, hm⟩ := flat_last _ h3
          exact ⟨m, fun e => h0 (by rw [h5, hm, e]; rfl), h5.trans hm⟩
      have hl : (m ++ [46]).length = m.length + 1 := by simp
      have e : List.drop 0 (List.take (((m ++ [46]).length : Int) - 1).toNat (m ++ [46])) = m := by
        have : (((m ++ [46]).length : Int) - 1).toNat = m.length := by omega
        rw [this]; simp
      have hl2 := vld_len h1
      have e2 := lbl_snoc m h1 hm
      simp (disch := omega) only [x_dname_Labels, ValidP_ok, Split_dot, e, e2, h0, h1, EVP, ↓reduceIte, EV, if_true, if_false, Nat.reduceAdd, Nat.reduceEqDiff, Int.reduceToNat, ne_eq, not_true, not_false_eq_true, Bool.true_eq_false, reduceCtorEq]
    · have e : lbl n = [] := by
        unfold lbl; unfold vld at h1
        cases h : nm n with
        | none => rfl
        | some l => rw [h] at h1; cases h1
      simp (disch := omega) only [x_dname_Labels, ValidP_ok, h0, h1, e, EVP, ↓reduceIte, EV, if_true, if_false, Nat.reduceAdd, Nat.reduceEqDiff, Int.reduceToNat, ne_eq, not_true, not_false_eq_true, Bool.true_eq_false, reduceCtorEq]

/-! ### parents, ancestors -/
theorem flat_cons (p : List UInt8) (l : List (List UInt8)) : flat (p :: l) = p ++ 46 :: flat l := by simp [flat]
def parentN (n : List UInt8) : List UInt8 := if vld n = true ∧ n ≠ [46] then jn ((lbl n).drop 1) else []
def hasPar (n : List UInt8) : Bool := vld n && !decide (n = [46])
/-- a list of labels that another one ends with -/
def endsN (n top : List UInt8) : Bool := (decide (top = [46]) || decide (n = top)) || (46 :: top).isSuffixOf n
theorem ends_ok (n top : List UInt8) (hn : n.length ≤ 9223372036854775807) (ht : top.length ≤ 1000000) : S n_dname_ends 2 [.s n, .s top] = some [.b (endsN n top)] := by
  refine s_dname_ends (N := 1) rfl ?_
  unfold endsN
  have h0 : ([46] : List UInt8).length = 1 := rfl
  by_cases h1 : top = [46] <;> by_cases h2 : n = top <;> simp (disch := omega) only [x_dname_ends, HasSuffix_ok, h1, h2, EVP, ↓reduceIte, EV, if_true, if_false, Nat.reduceAdd, Nat.reduceEqDiff, Int.reduceToNat, ne_eq, not_true, not_false_eq_true, Bool.true_eq_false, reduceCtorEq]
  all_goals simp
theorem flat_suffix {a b : List (List UInt8)} (ha : goodL true a = true) (hb : goodL true b = true) (h : (46 :: flat b) <:+ flat a) : b <:+ a := by
  obtain ⟨p, hp⟩ := h
  have h1 := cut_flat a (fun x hx => isLab_dot (goodL_mem ha hx))
  have h2 := cut_flat b (fun x hx => isLab_dot (goodL_mem hb hx))
  rw [← hp] at h1
  have h3 : cut (p ++ 46 :: flat b) = cut p ++ cut (flat b) := pcs_app (flat b) p []
  rw [h3, h2, ← List.append_assoc] at h1
  exact ⟨cut p, List.append_cancel_right h1⟩
theorem suffix_flat {a b : List (List UInt8)} (h : b <:+ a) : flat b <:+ flat a := by
  obtain ⟨p, rfl⟩ := h
  exact ⟨flat p, (flat_app p b).symm⟩
theorem ends_lbl {n top : List UInt8} (hn : vld n = true) (ht : vld top = true) : endsN n top = true ↔ lbl top <:+ lbl n := by
  unfold endsN
  simp only [Bool.or_eq_true, decide_eq_true_eq, List.isSuffixOf_iff_suffix]
  constructor
  · rintro ((rfl | rfl) | h)
    · rw [lbl_root]; exact List.nil_suffix
    · exact List.suffix_refl _
    · rcases vld_cases ht with ⟨h1, h2⟩ | ⟨h1, h2, h3, _⟩
      · rw [h2]; exact List.nil_suffix
      · rcases vld_cases hn with ⟨h5, _⟩ | ⟨h5, h6, h7, _⟩
        · rw [h5] at h
          have h9 := h.length_le
          have h8 := flat_len_pos h2 h1
          rw [← h3] at h8
          simp only [List.length_cons, List.length_nil] at h9; omega
        · rw [h3, h7] at h
          exact flat_suffix h6 h2 h
  · intro h
    obtain ⟨p, hp⟩ := h
    rcases vld_cases ht with ⟨h1, h2⟩ | ⟨h1, h2, h3, _⟩
    · exact .inl (.inl h1)
    · by_cases hp0 : p = []
      · left; right
        subst hp0
        exact lbl_inj hn ht hp.symm
      · right
        rcases vld_cases hn with ⟨_, h5⟩ | ⟨h5, h6, h7, _⟩
        · rw [h5] at hp
          exact absurd (List.append_eq_nil_iff.1 hp).1 hp0
        · obtain ⟨m, hm⟩ := flat_last p hp0
          rw [h7, ← hp, flat_app, hm]
          exact ⟨m, by rw [List.append_assoc, ← h3]; simp⟩
theorem cpre_prefix {α : Type} [DecidableEq α] : ∀ (a b : List α), cpre a b = b.length ↔ b <+: a
  | [], [] => by simp [cpre]
  | [], y :: ys => by simp [cpre]
  | x :: xs, [] => by simp [cpre]
  | x :: xs, y :: ys => by
    have := cpre_prefix xs ys
    simp only [cpre]
    split
    · rename_i h; subst h
      simp [this, List.cons_prefix_cons]
    · rename_i h
      simp [List.cons_prefix_cons, Ne.symm h]
theorem sameN_suffix (a b : List (List UInt8)) : sameN a b = b.length ↔ b <:+ a := by
  unfold sameN
  have := cpre_prefix a.reverse b.reverse
  rw [List.length_reverse] at this
  rw [this, List.reverse_prefix]
theorem under_iff {n top : List UInt8} : under n top = true ↔ vld n = true ∧ vld top = true ∧ lbl top <:+ lbl n := by
  unfold under
  simp [sameN_suffix, and_assoc]
theorem under_ends {n top : List UInt8} (hn : vld n = true) (ht : vld top = true) : endsN n top = under n top := by
  rw [Bool.eq_iff_iff, ends_lbl hn ht, under_iff]
  simp [hn, ht]
theorem UnderP_ok (n top : List UInt8) (hn : n.length ≤ 9223372036854775807) (ht : top.length ≤ 9223372036854775807) : S n_dname_Under 2 [.s n, .s top] = some [.b (under n top)] := by
  refine s_dname_Under (N := 1) rfl ?_
  rcases Bool.eq_false_or_eq_true (vld n) with h1 | h1
  · rcases Bool.eq_false_or_eq_true (vld top) with h2 | h2
    · have h3 := vld_len h2
      simp (disch := omega) only [x_dname_Under, ValidP_ok, ends_ok, h1, h2, EVP, ↓reduceIte, EV, if_true, if_false, Nat.reduceAdd, Nat.reduceEqDiff, Int.reduceToNat, ne_eq, not_true, not_false_eq_true, Bool.true_eq_false, reduceCtorEq]
      rw [under_ends h1 h2]
    · have h3 : under n top = false := by simp [under, h2]
      simp (disch := omega) only [x_dname_Under, ValidP_ok, h1, h2, h3, EVP, ↓reduceIte, EV, if_true, if_false, Nat.reduceAdd, Nat.reduceEqDiff, Int.reduceToNat, ne_eq, not_true, not_false_eq_true, Bool.true_eq_false, reduceCtorEq]
  · have h3 : under n top = false := by simp [under, h1]
    simp (disch := omega) only [x_dname_Under, ValidP_ok, h1, h3, EVP, ↓reduceIte, EV, if_true, if_false, Nat.reduceAdd, Nat.reduceEqDiff, Int.reduceToNat, ne_eq, not_true, not_false_eq_true, Bool.true_eq_false, reduceCtorEq]
end Go.X.G
/- Names: order, common ancestors, wildcards. -/
namespace Go.X.G
open Go Go.X

theorem bless_irrefl : ∀ (a : List UInt8), Op.bytesLess a a = false
  | [] => rfl
  | a :: x => by simp [Op.bytesLess, bless_irrefl x]
theorem compareBytes_eq : ∀ (a b : List UInt8), Lib.compareBytes a b = cmpS a b
  | [], [] => rfl
  | [], _ :: _ => rfl
  | _ :: _, [] => rfl
  | a :: x, b :: y => by
    have ih := compareBytes_eq x y
    unfold cmpS at ih ⊢
    simp only [Lib.compareBytes, Op.bytesLess, ih]
    by_cases h1 : a < b
    · simp [h1]
    · by_cases h2 : b < a
      · have h3 : a ≠ b := fun e => by subst e; exact h1 h2
        simp [h1, h2, h3]
      · have h3 : a = b := UInt8.le_antisymm (UInt8.not_lt.1 h2) (UInt8.not_lt.1 h1)
        subst h3
        simp [h1]
theorem cmpS_zero {a b : List UInt8} : cmpS a b = 0 ↔ a = b := by
  unfold cmpS
  by_cases h : a = b
  · subst h; simp [bless_irrefl]
  · cases h2 : Op.bytesLess a b <;> simp [h]
/-! ### comparing names, label by label from the last on -/
def cmpL : List (List UInt8) → List (List UInt8) → Option Int
  | x :: xs, y :: ys => if x = y then cmpL xs ys else some (cmpS x y)
  | _, _ => none
theorem cmpL_at : ∀ (a b : List (List UInt8)), cmpL a b = if cpre a b < a.length ∧ cpre a b < b.length then some (cmpS (a.getD (cpre a b) []) (b.getD (cpre a b) [])) else none
  | [], b => by simp [cmpL, cpre]
  | x :: xs, [] => by simp [cmpL, cpre]
  | x :: xs, y :: ys => by
    have ih := cmpL_at xs ys
    simp only [cmpL, cpre]
    by_cases h : x = y
    · simp only [if_pos h, ih]
      simp
    · simp [h]
def cmpLs (a b : List (List UInt8)) : Int := match cmpL a.reverse b.reverse with
  | some c => c
  | none => if a.length < b.length then -1 else if b.length < a.length then 1 else 0
theorem getD_rev (a : List (List UInt8)) (k : Nat) (h : k < a.length) : a.reverse.getD k [] = a.getD (a.length - 1 - k) [] := by
  simp [List.getD_eq_getElem?_getD, List.getElem?_reverse h]
theorem cmpN_ls {a b : List UInt8} (ha : vld a = true) (hb : vld b = true) : cmpN a b = cmpLs (lbl a) (lbl b) := by
  unfold cmpN cmpLs
  rw [cmpL_at]
  have e : cpre (lbl a).reverse (lbl b).reverse = sameN (lbl a) (lbl b) := rfl
  rw [e, ha, hb]
  simp only [List.length_reverse, Bool.and_self, if_true]
  by_cases h : sameN (lbl a) (lbl b) < (lbl a).length ∧ sameN (lbl a) (lbl b) < (lbl b).length
  · rw [if_pos h, if_pos h, getD_rev _ _ h.1, getD_rev _ _ h.2]
  · rw [if_neg h, if_neg h]
/-! ### common ancestors -/
def commonN (a b : List UInt8) : List UInt8 := if vld a = true ∧ vld b = true then jn ((lbl a).drop ((lbl a).length - sameN (lbl a) (lbl b))) else []
theorem take_cpre {α : Type} [DecidableEq α] : ∀ (a b : List α) (j : Nat), j ≤ a.length → (a.take j <+: b ↔ j ≤ cpre a b)
  | _, _, 0, _ => by simp
  | [], _, j + 1, h => by simp at h
  | x :: xs, [], j + 1, h => by simp [cpre]
  | x :: xs, y :: ys, j + 1, h => by
    have := take_cpre xs ys j (by simpa using h)
    simp only [List.take_succ_cons, cpre, List.cons_prefix_cons]
    by_cases hxy : x = y
    · simp [hxy, this]
    · simp [hxy]
theorem drop_same (a b : List (List UInt8)) (k : Nat) (h : k ≤ a.length) : a.drop k <:+ b ↔ a.length - k ≤ sameN a b := by
  unfold sameN
  rw [← take_cpre _ _ _ (by simp), ← List.reverse_prefix, List.reverse_drop]
theorem lbl_small (n : List UInt8) : ∀ x ∈ lbl n, x.length ≤ 1000 := fun x hx => by
  have := isLab_len' (lbl_each' n x hx); omega
theorem jn_len {n : List UInt8} (h : vld n = true) (k : Nat) : (jn ((lbl n).drop k)).length ≤ 254 := vld_len (vld_drop h k).1
/-- the length in bytes on the wire -/
def lenN (n : List UInt8) : Int := if n = [46] then 1 else if vld n = true then (n.length : Int) + 1 else 0
/-! ### wildcards -/
def starS (n : List UInt8) : List UInt8 := if n = [46] then [42, 46] else [42, 46] ++ n
def starOk (n : List UInt8) : Bool := vld n && !decide ((lbl n)[0]? = some [42]) && vld (starS n)
def starN (n : List UInt8) : List UInt8 := if starOk n = true then starS n else []
theorem star_first {n : List UInt8} (h : vld n = true) : (n[0]? = some 42 ↔ (lbl n)[0]? = some [42]) := by
  rcases vld_cases h with ⟨h1, h2⟩ | ⟨h1, h2, h3, _⟩
  · subst h1; simp [lbl_root]
  · cases hl : lbl n with
    | nil => exact absurd hl h1
    | cons p r =>
      rw [hl] at h2 h3
      have hp := goodL_mem h2 (List.mem_cons_self ..)
      have hne := isLab_ne hp
      cases p with
      | nil => exact absurd rfl hne
      | cons c q =>
        rw [h3, flat_cons]
        simp only [List.cons_append, List.getElem?_cons_zero, Option.some.injEq]
        constructor
        · rintro rfl
          unfold isLab at hp
          simp at hp
          rcases hp with h | h
          · rw [h]
          · exfalso
            have : lchar 42 = false := by decide
            rw [this] at h; simp at h
        · intro h; injection h
end Go.X.G
