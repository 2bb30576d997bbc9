/- The program's data. -/
import Derived.Test.YtfkfaliipkpcdaaGreatDoorLookupRespondsG6

set_option maxHeartbeats 1000000
set_option linter.unusedVariables false
set_option linter.unusedSimpArgs false
namespace Go.X
open Go

structure Dat where
 v6 : Bool
 hi : Int
 lo : Int
 host : List UInt8
 mail : List UInt8
 text : List UInt8
 a : Int
 b : Int
 c : Int
 d : Int
 e : Int
 f : Int
 bits : Int
 deriving DecidableEq
structure Rec where
 name : List UInt8
 typ : Int
 ttl : Int
 data : Dat
 deriving DecidableEq
structure Zone where
 origin : List UInt8
 recs : List Rec
 deriving DecidableEq
def i64r (x : Int) : Prop := -9223372036854775808 ≤ x ∧ x ≤ 9223372036854775807
def u64r (x : Int) : Prop := 0 ≤ x ∧ x ≤ 18446744073709551615
def strr (x : List UInt8) : Prop := x.length ≤ 9223372036854775807
structure Dat.wf (x : Dat) : Prop where
 hi : u64r x.hi
 lo : u64r x.lo
 host : strr x.host
 mail : strr x.mail
 text : strr x.text
 a : i64r x.a
 b : i64r x.b
 c : i64r x.c
 d : i64r x.d
 e : i64r x.e
 f : i64r x.f
 bits : u64r x.bits
structure Rec.wf (r : Rec) : Prop where
 name : strr r.name
 typ : i64r r.typ
 ttl : i64r r.ttl
 data : r.data.wf
def Gs7 (l : List Rec) : Prop := l.length ≤ 9223372036854775807 ∧ ∀ r ∈ l, r.wf
structure Zone.wf (z : Zone) : Prop where
 origin : strr z.origin
 recs : Gs7 z.recs
def Dat.cells (x : Dat) : List PV := [.b x.v6, .i .u64 x.hi, .i .u64 x.lo, .s x.host, .s x.mail, .s x.text, .i .i64 x.a, .i .i64 x.b, .i .i64 x.c, .i .i64 x.d, .i .i64 x.e, .i .i64 x.f, .i .u64 x.bits]
def Dat.pv (x : Dat) : PV := .a x.cells
def Rec.cells (x : Rec) : List PV := .s x.name :: .i .i64 x.typ :: .i .i64 x.ttl :: x.data.cells
def Rec.pv (x : Rec) : PV := .a x.cells
def Aj1 (l : List Rec) : PV := .l 16 (l.map Rec.pv)
def Zone.pv (x : Zone) : PV := .a [.s x.origin, Aj1 x.recs]
def Aj3 (l : List (List UInt8)) : PV := .l 1 (l.map .s)
def Ag2 (x : Dat) : PV := .a [.b x.v6, .i .u64 x.hi, .i .u64 x.lo]

theorem Ks1 (r : Rec) : Al3 0 16 r.pv = some r.pv := rfl
theorem Lv9 (r : Rec) : Bg6 16 r.pv = some r.pv := rfl
theorem Dy2 (r : Rec) : Al3 3 13 r.pv = some r.data.pv := rfl
theorem Dy3 (r : Rec) : Al3 3 3 r.pv = some (Ag2 r.data) := rfl
theorem Hv5 (r : Rec) : Aj7 0 r.pv = some (.s r.name) := rfl
theorem Hv4 (r : Rec) : Aj7 1 r.pv = some (.i .i64 r.typ) := rfl
theorem Hv3 (r : Rec) : Aj7 2 r.pv = some (.i .i64 r.ttl) := rfl
theorem Hv2 (r : Rec) : Aj7 3 r.pv = some (.b r.data.v6) := rfl
theorem Hv1 (r : Rec) : Aj7 4 r.pv = some (.i .u64 r.data.hi) := rfl
theorem Hv0 (r : Rec) : Aj7 5 r.pv = some (.i .u64 r.data.lo) := rfl
theorem Hq9 (r : Rec) : Aj7 6 r.pv = some (.s r.data.host) := rfl
theorem Hq8 (r : Rec) : Aj7 7 r.pv = some (.s r.data.mail) := rfl
theorem Hq7 (r : Rec) : Aj7 8 r.pv = some (.s r.data.text) := rfl
theorem Hq6 (r : Rec) : Aj7 9 r.pv = some (.i .i64 r.data.a) := rfl
theorem Gb5 (r : Rec) : Aj7 10 r.pv = some (.i .i64 r.data.b) := rfl
theorem Gb4 (r : Rec) : Aj7 11 r.pv = some (.i .i64 r.data.c) := rfl
theorem Gb3 (r : Rec) : Aj7 12 r.pv = some (.i .i64 r.data.d) := rfl
theorem Gb2 (r : Rec) : Aj7 13 r.pv = some (.i .i64 r.data.e) := rfl
theorem Gb1 (r : Rec) : Aj7 14 r.pv = some (.i .i64 r.data.f) := rfl
theorem Gb0 (r : Rec) : Aj7 15 r.pv = some (.i .u64 r.data.bits) := rfl
theorem Ks3 (r : Dat) : Al3 0 13 r.pv = some r.pv := rfl
theorem Dy4 (r : Dat) : Al3 0 3 r.pv = some (Ag2 r) := rfl
theorem Lw1 (r : Dat) : Bg6 13 r.pv = some r.pv := rfl
theorem Hx5 (r : Dat) : Aj7 0 r.pv = some (.b r.v6) := rfl
theorem Hx4 (r : Dat) : Aj7 1 r.pv = some (.i .u64 r.hi) := rfl
theorem Hx3 (r : Dat) : Aj7 2 r.pv = some (.i .u64 r.lo) := rfl
theorem Hx2 (r : Dat) : Aj7 3 r.pv = some (.s r.host) := rfl
theorem Hx1 (r : Dat) : Aj7 4 r.pv = some (.s r.mail) := rfl
theorem Hx0 (r : Dat) : Aj7 5 r.pv = some (.s r.text) := rfl
theorem Hw9 (r : Dat) : Aj7 6 r.pv = some (.i .i64 r.a) := rfl
theorem Hw8 (r : Dat) : Aj7 7 r.pv = some (.i .i64 r.b) := rfl
theorem Hw7 (r : Dat) : Aj7 8 r.pv = some (.i .i64 r.c) := rfl
theorem Hw6 (r : Dat) : Aj7 9 r.pv = some (.i .i64 r.d) := rfl
theorem Gc5 (r : Dat) : Aj7 10 r.pv = some (.i .i64 r.e) := rfl
theorem Gc4 (r : Dat) : Aj7 11 r.pv = some (.i .i64 r.f) := rfl
theorem Gc3 (r : Dat) : Aj7 12 r.pv = some (.i .u64 r.bits) := rfl
theorem Kz2 (r : Dat) : Bg6 3 (Ag2 r) = some (Ag2 r) := rfl
theorem Jt1 (r : Dat) : Al3 0 3 (Ag2 r) = some (Ag2 r) := rfl
theorem Gc8 (r : Dat) : Aj7 0 (Ag2 r) = some (.b r.v6) := rfl
theorem Gc7 (r : Dat) : Aj7 1 (Ag2 r) = some (.i .u64 r.hi) := rfl
theorem Gc6 (r : Dat) : Aj7 2 (Ag2 r) = some (.i .u64 r.lo) := rfl
theorem Kz1 (r : Zone) : Bg6 2 r.pv = some r.pv := rfl
theorem Js9 (r : Zone) : Al3 0 2 r.pv = some r.pv := rfl
theorem Gz9 (r : Zone) : Aj7 0 r.pv = some (.s r.origin) := rfl
theorem Gz8 (r : Zone) : Aj7 1 r.pv = some (Aj1 r.recs) := rfl
theorem Ky6 (v : Bool) (h l : Int) (s1 s2 s3 : List UInt8) (a b c d e f g : Int) : PV.a [.b v, .i .u64 h, .i .u64 l, .s s1, .s s2, .s s3, .i .i64 a, .i .i64 b, .i .i64 c, .i .i64 d, .i .i64 e, .i .i64 f, .i .u64 g] = Dat.pv ⟨v, h, l, s1, s2, s3, a, b, c, d, e, f, g⟩ := rfl
theorem Ky4 (n : List UInt8) (t u : Int) (v : Bool) (h l : Int) (s1 s2 s3 : List UInt8) (a b c d e f g : Int) : PV.a [.s n, .i .i64 t, .i .i64 u, .b v, .i .u64 h, .i .u64 l, .s s1, .s s2, .s s3, .i .i64 a, .i .i64 b, .i .i64 c, .i .i64 d, .i .i64 e, .i .i64 f, .i .u64 g] = Rec.pv ⟨n, t, u, ⟨v, h, l, s1, s2, s3, a, b, c, d, e, f, g⟩⟩ := rfl
theorem Lx5 (x : Dat) : (⟨x.v6, x.hi, x.lo, x.host, x.mail, x.text, x.a, x.b, x.c, x.d, x.e, x.f, x.bits⟩ : Dat) = x := rfl
theorem Lx3 (x : Rec) : (⟨x.name, x.typ, x.ttl, x.data⟩ : Rec) = x := rfl
theorem Ky9 (x : Dat) : PV.flat x.pv = true := rfl
theorem Ky8 (x : Rec) : PV.flat x.pv = true := rfl
theorem Hm3 (x : Dat) : PV.flat (Ag2 x) = true := rfl
theorem Lq5 (x : Rec) : Bk1 16 [x.pv] = some (Aj1 [x]) := rfl
theorem Kw7 (l : List Rec) : Az6 (Aj1 l) = some (.i .i64 (l.length : Int)) := by simp [Aj1, Az6]
theorem Ap8 (l : List Rec) (k : IntKind) (z : Int) (h : 0 ≤ z) : Az7 16 (Aj1 l) (.i k z) = (l[z.toNat]?).map Rec.pv := by simp [Aj1, Hl8 _ _ _ _ h]
theorem Jn0 (l : List Rec) (x : Rec) (h : l.length + 1 ≤ 1073741824) : Ac1 16 (Aj1 l) (Aj1 [x]) = some (Aj1 (l ++ [x])) := by
 have := Dv6 16 (l.map Rec.pv) [x.pv] (by simpa using h)
 simpa [Aj1] using this
theorem Aw7 (l m : List Rec) (h : l.length + m.length ≤ 1073741824) : Ac1 16 (Aj1 l) (Aj1 m) = some (Aj1 (l ++ m)) := by
 have := Dv6 16 (l.map Rec.pv) (m.map Rec.pv) (by simpa using h)
 simpa [Aj1] using this
theorem Kk5 : PV.l 16 [] = Aj1 [] := rfl
theorem Ap4 (l : List Rec) (k k' : IntKind) (a b : Int) (h1 : 0 ≤ a) (h2 : a ≤ b) (h3 : b ≤ (l.length : Int)) : Ab3 16 (Aj1 l) (.i k a) (.i k' b) = some (Aj1 ((l.take b.toNat).drop a.toNat)) := by
 have := Kw3 16 (l.map Rec.pv) k k' a b h1 h2 (by simpa using h3)
 simpa [Aj1] using this
theorem Kt2 (l : List Rec) (k : IntKind) (z : Int) (n : List UInt8) (t u : Int) (v : Bool) (h w : Int) (s1 s2 s3 : List UInt8) (a b c d e f g : Int) (h0 : 0 ≤ z) (h1 : z < (l.length : Int)) :
  Bc3 16 0 [.s n, .i .i64 t, .i .i64 u, .b v, .i .u64 h, .i .u64 w, .s s1, .s s2, .s s3, .i .i64 a, .i .i64 b, .i .i64 c, .i .i64 d, .i .i64 e, .i .i64 f, .i .u64 g] (Aj1 l) (.i k z) = some (Aj1 (l.set z.toNat ⟨n, t, u, ⟨v, h, w, s1, s2, s3, a, b, c, d, e, f, g⟩⟩)) := by
 have h2 : z.toNat < l.length := by omega
 have h3 : (l.map Rec.pv)[z.toNat]? = some (l[z.toNat].pv) := by simp [h2]
 simp only [Bc3, Aj1, h0, h3, and_self, if_true, Option.bind_some]
 have h4 : Bc4 (l[z.toNat].pv) 0 [.s n, .i .i64 t, .i .i64 u, .b v, .i .u64 h, .i .u64 w, .s s1, .s s2, .s s3, .i .i64 a, .i .i64 b, .i .i64 c, .i .i64 d, .i .i64 e, .i .i64 f, .i .u64 g] = some (Rec.pv ⟨n, t, u, ⟨v, h, w, s1, s2, s3, a, b, c, d, e, f, g⟩⟩) := rfl
 rw [h4]
 simp [List.map_set]
theorem Gr6 (l : List Rec) : Ah6 (Aj1 l) = some (Aj1 l) := rfl
theorem Kw5 (l : List (List UInt8)) : Az6 (Aj3 l) = some (.i .i64 (l.length : Int)) := by simp [Aj3, Az6]
theorem Ap7 (l : List (List UInt8)) (k : IntKind) (z : Int) (h : 0 ≤ z) : Az7 1 (Aj3 l) (.i k z) = (l[z.toNat]?).map PV.s := by simp [Aj3, Hl8 _ _ _ _ h]
theorem Lq3 (x : List UInt8) : Bk1 1 [.s x] = some (Aj3 [x]) := rfl
theorem Jt3 : PV.l 1 [] = Aj3 [] := rfl
theorem Jm8 (l : List (List UInt8)) (x : List UInt8) (h : l.length + 1 ≤ 1073741824) : Ac1 1 (Aj3 l) (Aj3 [x]) = some (Aj3 (l ++ [x])) := by
 have := Dv6 1 (l.map PV.s) [.s x] (by simpa using h)
 simpa [Aj3] using this
theorem Bz5 (l m : List (List UInt8)) (h : l.length + m.length ≤ 1073741824) : Ac1 1 (Aj3 l) (Aj3 m) = some (Aj3 (l ++ m)) := by
 have := Dv6 1 (l.map PV.s) (m.map PV.s) (by simpa using h)
 simpa [Aj3] using this
theorem Ad2 (l : List (List UInt8)) (k k' : IntKind) (a b : Int) (h1 : 0 ≤ a) (h2 : a ≤ b) (h3 : b ≤ (l.length : Int)) : Ab3 1 (Aj3 l) (.i k a) (.i k' b) = some (Aj3 ((l.take b.toNat).drop a.toNat)) := by
 have := Kw3 1 (l.map PV.s) k k' a b h1 h2 (by simpa using h3)
 simpa [Aj3] using this
theorem Kj1 (l : List (List UInt8)) (k : IntKind) (z : Int) (x : List UInt8) (h0 : 0 ≤ z) (h1 : z < (l.length : Int)) : Bc3 1 0 [.s x] (Aj3 l) (.i k z) = some (Aj3 (l.set z.toNat x)) := by
 have h2 : z.toNat < l.length := by omega
 have h3 : (l.map PV.s)[z.toNat]? = some (.s l[z.toNat]) := by simp [h2]
 simp only [Bc3, Aj3, h0, h3, and_self, if_true, Option.bind_some]
 have h4 : Bc4 (.s l[z.toNat]) 0 [.s x] = some (.s x) := rfl
 rw [h4]
 simp [List.map_set]
theorem Fh1 (n : Int) (h0 : 0 ≤ n) (h1 : n ≤ 1073741824) : Bd2 1 (.i .i64 n) (.s []) = some (Aj3 (List.replicate n.toNat [])) := by
 have h2 : n ≤ (LIM : Int) := by simp only [LIM]; omega
 have h3 : (PV.s []).cells.length = 1 := rfl
 simp only [Bd2, h0, h2, h3, and_self, if_true]
 simp [Aj3]
theorem Hk8 (l : List (List UInt8)) : Aj7 0 (Aj3 l) = some (Aj3 l) := rfl
theorem Hq5 (l : List Rec) : Aj7 0 (Aj1 l) = some (Aj1 l) := rfl
theorem Gr4 (l : List (List UInt8)) : Ah6 (Aj3 l) = some (Aj3 l) := rfl

theorem Mf4 (neg : Bool) (x y : Dat) : Am9 neg true [.b, (.i .u64), (.i .u64), .s, .s, .s, (.i .i64), (.i .i64), (.i .i64), (.i .i64), (.i .i64), (.i .i64), (.i .u64)] x.pv y.pv = some (.b (if neg then decide (x ≠ y) else decide (x = y))) := by
 have : Ax1 [.b, (.i .u64), (.i .u64), .s, .s, .s, (.i .i64), (.i .i64), (.i .i64), (.i .i64), (.i .i64), (.i .i64), (.i .u64)] x.cells y.cells = some (decide (x = y)) := by
  simp only [Dat.cells, Ax1, eqSc, if_true, Option.some.injEq]
  rw [Bool.eq_iff_iff]
  cases x; cases y; simp
 simp only [Am9, Dat.pv, this, Option.map_some]
 cases neg <;> simp
theorem Mf3 (neg : Bool) (x y : Rec) : Am9 neg true [.s, (.i .i64), (.i .i64), .b, (.i .u64), (.i .u64), .s, .s, .s, (.i .i64), (.i .i64), (.i .i64), (.i .i64), (.i .i64), (.i .i64), (.i .u64)] x.pv y.pv = some (.b (if neg then decide (x ≠ y) else decide (x = y))) := by
 have : Ax1 [.s, (.i .i64), (.i .i64), .b, (.i .u64), (.i .u64), .s, .s, .s, (.i .i64), (.i .i64), (.i .i64), (.i .i64), (.i .i64), (.i .i64), (.i .u64)] x.cells y.cells = some (decide (x = y)) := by
  simp only [Rec.cells, Dat.cells, Ax1, eqSc, if_true, Option.some.injEq]
  rw [Bool.eq_iff_iff]
  rcases x with ⟨_, _, _, ⟨⟩⟩; rcases y with ⟨_, _, _, ⟨⟩⟩; simp [and_assoc]
 simp only [Am9, Rec.pv, this, Option.map_some]
 cases neg <;> simp
set_option linter.defProp false in
def EVP := (And.intro @Kj1 (And.intro @Fh1 (And.intro @Kt2 (And.intro @Ks1 (And.intro @Lv9 (And.intro @Dy2 (And.intro @Dy3 (And.intro @Hv5 (And.intro @Hv4 (And.intro @Hv3 (And.intro @Hv2 (And.intro @Hv1 (And.intro @Hv0 (And.intro @Hq9 (And.intro @Hq8 (And.intro @Hq7 (And.intro @Hq6 (And.intro @Gb5 (And.intro @Gb4 (And.intro @Gb3 (And.intro @Gb2 (And.intro @Gb1 (And.intro @Gb0 (And.intro @Ks3 (And.intro @Dy4 (And.intro @Lw1 (And.intro @Hx5 (And.intro @Hx4 (And.intro @Hx3 (And.intro @Hx2 (And.intro @Hx1 (And.intro @Hx0 (And.intro @Hw9 (And.intro @Hw8 (And.intro @Hw7 (And.intro @Hw6 (And.intro @Gc5 (And.intro @Gc4 (And.intro @Gc3 (And.intro @Kz2 (And.intro @Jt1 (And.intro @Gc8 (And.intro @Gc7 (And.intro @Gc6 (And.intro @Kz1 (And.intro @Js9 (And.intro @Gz9 (And.intro @Gz8 (And.intro @Ky6 (And.intro @Ky4 (And.intro @Lx5 (And.intro @Lx3 (And.intro @Ky9 (And.intro @Ky8 (And.intro @Hm3 (And.intro @Lq5 (And.intro @Kw7 (And.intro @Ap8 (And.intro @Jn0 (And.intro @Aw7 (And.intro @Kk5 (And.intro @Ap4 (And.intro @Gr6 (And.intro @Kw5 (And.intro @Ap7 (And.intro @Lq3 (And.intro @Jt3 (And.intro @Jm8 (And.intro @Bz5 (And.intro @Ad2 (And.intro @Hk8 (And.intro @Hq5 (And.intro @Gr4 (And.intro @Mf4 @Mf3))))))))))))))))))))))))))))))))))))))))))))))))))))))))))))))))))))))))))
end Go.X
