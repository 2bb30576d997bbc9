/- The program's data. -/
import Derived.Test.YtfkfaliipkpcdaaGreatDoorLookupFindsG6

set_option maxHeartbeats 1000000
set_option linter.unusedVariables false
set_option linter.unusedSimpArgs false
namespace Go.X
open Go

structure Dat where
  v6 : Bool
  hi : Int
  lo : Int
  host : List UInt8
  mail : List UInt8
  text : List UInt8
  a : Int
  b : Int
  c : Int
  d : Int
  e : Int
  f : Int
  bits : Int
  deriving DecidableEq
structure Rec where
  name : List UInt8
  typ : Int
  ttl : Int
  data : Dat
  deriving DecidableEq
structure Zone where
  origin : List UInt8
  recs : List Rec
  deriving DecidableEq
def i64r (x : Int) : Prop := -9223372036854775808 ≤ x ∧ x ≤ 9223372036854775807
def u64r (x : Int) : Prop := 0 ≤ x ∧ x ≤ 18446744073709551615
def strr (x : List UInt8) : Prop := x.length ≤ 9223372036854775807
structure Dat.wf (x : Dat) : Prop where
  hi : u64r x.hi
  lo : u64r x.lo
  host : strr x.host
  mail : strr x.mail
  text : strr x.text
  a : i64r x.a
  b : i64r x.b
  c : i64r x.c
  d : i64r x.d
  e : i64r x.e
  f : i64r x.f
  bits : u64r x.bits
structure Rec.wf (r : Rec) : Prop where
  name : strr r.name
  typ : i64r r.typ
  ttl : i64r r.ttl
  data : r.data.wf
def Rz9 (l : List Rec) : Prop := l.length ≤ 9223372036854775807 ∧ ∀ r ∈ l, r.wf
structure Zone.wf (z : Zone) : Prop where
  origin : strr z.origin
  recs : Rz9 z.recs
def Dat.cells (x : Dat) : List PV := [.b x.v6, .i .u64 x.hi, .i .u64 x.lo, .s x.host, .s x.mail, .s x.text, .i .i64 x.a, .i .i64 x.b, .i .i64 x.c, .i .i64 x.d, .i .i64 x.e, .i .i64 x.f, .i .u64 x.bits]
def Dat.pv (x : Dat) : PV := .a x.cells
def Rec.cells (x : Rec) : List PV := .s x.name :: .i .i64 x.typ :: .i .i64 x.ttl :: x.data.cells
def Rec.pv (x : Rec) : PV := .a x.cells
def Aj2 (l : List Rec) : PV := .l 16 (l.map Rec.pv)
def Zone.pv (x : Zone) : PV := .a [.s x.origin, Aj2 x.recs]
def Aj4 (l : List (List UInt8)) : PV := .l 1 (l.map .s)
def Bv2 (x : Dat) : PV := .a [.b x.v6, .i .u64 x.hi, .i .u64 x.lo]

theorem Rx8 (r : Rec) : Bx4 0 16 r.pv = some r.pv := rfl
theorem Tk6 (r : Rec) : Ej1 16 r.pv = some r.pv := rfl
theorem Dj7 (r : Rec) : Bx4 3 13 r.pv = some r.data.pv := rfl
theorem Dj8 (r : Rec) : Bx4 3 3 r.pv = some (Bv2 r.data) := rfl
theorem Jq4 (r : Rec) : Aj7 0 r.pv = some (.s r.name) := rfl
theorem Jq3 (r : Rec) : Aj7 1 r.pv = some (.i .i64 r.typ) := rfl
theorem Jq2 (r : Rec) : Aj7 2 r.pv = some (.i .i64 r.ttl) := rfl
theorem Jq1 (r : Rec) : Aj7 3 r.pv = some (.b r.data.v6) := rfl
theorem Jq0 (r : Rec) : Aj7 4 r.pv = some (.i .u64 r.data.hi) := rfl
theorem Jk9 (r : Rec) : Aj7 5 r.pv = some (.i .u64 r.data.lo) := rfl
theorem Jk8 (r : Rec) : Aj7 6 r.pv = some (.s r.data.host) := rfl
theorem Jk7 (r : Rec) : Aj7 7 r.pv = some (.s r.data.mail) := rfl
theorem Jk6 (r : Rec) : Aj7 8 r.pv = some (.s r.data.text) := rfl
theorem Jk5 (r : Rec) : Aj7 9 r.pv = some (.i .i64 r.data.a) := rfl
theorem Fj7 (r : Rec) : Aj7 10 r.pv = some (.i .i64 r.data.b) := rfl
theorem Fj6 (r : Rec) : Aj7 11 r.pv = some (.i .i64 r.data.c) := rfl
theorem Fj5 (r : Rec) : Aj7 12 r.pv = some (.i .i64 r.data.d) := rfl
theorem Fj4 (r : Rec) : Aj7 13 r.pv = some (.i .i64 r.data.e) := rfl
theorem Fj3 (r : Rec) : Aj7 14 r.pv = some (.i .i64 r.data.f) := rfl
theorem Fj2 (r : Rec) : Aj7 15 r.pv = some (.i .u64 r.data.bits) := rfl
theorem Ry0 (r : Dat) : Bx4 0 13 r.pv = some r.pv := rfl
theorem Dj9 (r : Dat) : Bx4 0 3 r.pv = some (Bv2 r) := rfl
theorem Tk8 (r : Dat) : Ej1 13 r.pv = some r.pv := rfl
theorem Jw4 (r : Dat) : Aj7 0 r.pv = some (.b r.v6) := rfl
theorem Jw3 (r : Dat) : Aj7 1 r.pv = some (.i .u64 r.hi) := rfl
theorem Jw2 (r : Dat) : Aj7 2 r.pv = some (.i .u64 r.lo) := rfl
theorem Jw1 (r : Dat) : Aj7 3 r.pv = some (.s r.host) := rfl
theorem Jw0 (r : Dat) : Aj7 4 r.pv = some (.s r.mail) := rfl
theorem Jv9 (r : Dat) : Aj7 5 r.pv = some (.s r.text) := rfl
theorem Jv8 (r : Dat) : Aj7 6 r.pv = some (.i .i64 r.a) := rfl
theorem Jv7 (r : Dat) : Aj7 7 r.pv = some (.i .i64 r.b) := rfl
theorem Jv6 (r : Dat) : Aj7 8 r.pv = some (.i .i64 r.c) := rfl
theorem Jv5 (r : Dat) : Aj7 9 r.pv = some (.i .i64 r.d) := rfl
theorem Fk7 (r : Dat) : Aj7 10 r.pv = some (.i .i64 r.e) := rfl
theorem Fk6 (r : Dat) : Aj7 11 r.pv = some (.i .i64 r.f) := rfl
theorem Fk5 (r : Dat) : Aj7 12 r.pv = some (.i .u64 r.bits) := rfl
theorem Pq8 (r : Dat) : Ej1 3 (Bv2 r) = some (Bv2 r) := rfl
theorem Ow5 (r : Dat) : Bx4 0 3 (Bv2 r) = some (Bv2 r) := rfl
theorem Fq0 (r : Dat) : Aj7 0 (Bv2 r) = some (.b r.v6) := rfl
theorem Fk9 (r : Dat) : Aj7 1 (Bv2 r) = some (.i .u64 r.hi) := rfl
theorem Fk8 (r : Dat) : Aj7 2 (Bv2 r) = some (.i .u64 r.lo) := rfl
theorem Pq7 (r : Zone) : Ej1 2 r.pv = some r.pv := rfl
theorem Ow3 (r : Zone) : Bx4 0 2 r.pv = some r.pv := rfl
theorem Fj1 (r : Zone) : Aj7 0 r.pv = some (.s r.origin) := rfl
theorem Fj0 (r : Zone) : Aj7 1 r.pv = some (Aj2 r.recs) := rfl
theorem Pq1 (v : Bool) (h l : Int) (s1 s2 s3 : List UInt8) (a b c d e f g : Int) : PV.a [.b v, .i .u64 h, .i .u64 l, .s s1, .s s2, .s s3, .i .i64 a, .i .i64 b, .i .i64 c, .i .i64 d, .i .i64 e, .i .i64 f, .i .u64 g] = Dat.pv ⟨v, h, l, s1, s2, s3, a, b, c, d, e, f, g⟩ := rfl
theorem Pk9 (n : List UInt8) (t u : Int) (v : Bool) (h l : Int) (s1 s2 s3 : List UInt8) (a b c d e f g : Int) : PV.a [.s n, .i .i64 t, .i .i64 u, .b v, .i .u64 h, .i .u64 l, .s s1, .s s2, .s s3, .i .i64 a, .i .i64 b, .i .i64 c, .i .i64 d, .i .i64 e, .i .i64 f, .i .u64 g] = Rec.pv ⟨n, t, u, ⟨v, h, l, s1, s2, s3, a, b, c, d, e, f, g⟩⟩ := rfl
theorem Tq7 (x : Dat) : (⟨x.v6, x.hi, x.lo, x.host, x.mail, x.text, x.a, x.b, x.c, x.d, x.e, x.f, x.bits⟩ : Dat) = x := rfl
theorem Tq5 (x : Rec) : (⟨x.name, x.typ, x.ttl, x.data⟩ : Rec) = x := rfl
theorem Pq5 (x : Dat) : PV.flat x.pv = true := rfl
theorem Pq4 (x : Rec) : PV.flat x.pv = true := rfl
theorem Kq1 (x : Dat) : PV.flat (Bv2 x) = true := rfl
theorem Sx7 (x : Rec) : Cz6 16 [x.pv] = some (Aj2 [x]) := rfl
theorem Pj5 (l : List Rec) : Bj0 (Aj2 l) = some (.i .i64 (l.length : Int)) := by simp [Aj2, Bj0]
theorem Cx0 (l : List Rec) (k : IntKind) (z : Int) (h : 0 ≤ z) : Bq4 16 (Aj2 l) (.i k z) = (l[z.toNat]?).map Rec.pv := by simp [Aj2, idx_l _ _ _ _ h]
theorem Kv2 (l : List Rec) (x : Rec) (h : l.length + 1 ≤ 1073741824) : Bk2 16 (Aj2 l) (Aj2 [x]) = some (Aj2 (l ++ [x])) := by
  have := Kv3 16 (l.map Rec.pv) [x.pv] (by simpa using h)
  simpa [Aj2] using this
theorem Dv0 (l m : List Rec) (h : l.length + m.length ≤ 1073741824) : Bk2 16 (Aj2 l) (Aj2 m) = some (Aj2 (l ++ m)) := by
  have := Kv3 16 (l.map Rec.pv) (m.map Rec.pv) (by simpa using h)
  simpa [Aj2] using this
theorem Ox4 : PV.l 16 [] = Aj2 [] := rfl
theorem Bw1 (l : List Rec) (k k' : IntKind) (a b : Int) (h1 : 0 ≤ a) (h2 : a ≤ b) (h3 : b ≤ (l.length : Int)) : Az4 16 (Aj2 l) (.i k a) (.i k' b) = some (Aj2 ((l.take b.toNat).drop a.toNat)) := by
  have := lsl_l 16 (l.map Rec.pv) k k' a b h1 h2 (by simpa using h3)
  simpa [Aj2] using this
theorem Ry9 (l : List Rec) (k : IntKind) (z : Int) (n : List UInt8) (t u : Int) (v : Bool) (h w : Int) (s1 s2 s3 : List UInt8) (a b c d e f g : Int) (h0 : 0 ≤ z) (h1 : z < (l.length : Int)) :
    Dw7 16 0 [.s n, .i .i64 t, .i .i64 u, .b v, .i .u64 h, .i .u64 w, .s s1, .s s2, .s s3, .i .i64 a, .i .i64 b, .i .i64 c, .i .i64 d, .i .i64 e, .i .i64 f, .i .u64 g] (Aj2 l) (.i k z) = some (Aj2 (l.set z.toNat ⟨n, t, u, ⟨v, h, w, s1, s2, s3, a, b, c, d, e, f, g⟩⟩)) := by
  have h2 : z.toNat < l.length := by omega
  have h3 : (l.map Rec.pv)[z.toNat]? = some (l[z.toNat].pv) := by simp [h2]
  simp only [Dw7, Aj2, h0, h3, and_self, if_true, Option.bind_some]
  have h4 : Dw8 (l[z.toNat].pv) 0 [.s n, .i .i64 t, .i .i64 u, .b v, .i .u64 h, .i .u64 w, .s s1, .s s2, .s s3, .i .i64 a, .i .i64 b, .i .i64 c, .i .i64 d, .i .i64 e, .i .i64 f, .i .u64 g] = some (Rec.pv ⟨n, t, u, ⟨v, h, w, s1, s2, s3, a, b, c, d, e, f, g⟩⟩) := rfl
  rw [h4]
  simp [List.map_set]
theorem Ix4 (l : List Rec) : By2 (Aj2 l) = some (Aj2 l) := rfl
theorem Pj4 (l : List (List UInt8)) : Bj0 (Aj4 l) = some (.i .i64 (l.length : Int)) := by simp [Aj4, Bj0]
theorem Bw4 (l : List (List UInt8)) (k : IntKind) (z : Int) (h : 0 ≤ z) : Bq4 1 (Aj4 l) (.i k z) = (l[z.toNat]?).map PV.s := by simp [Aj4, idx_l _ _ _ _ h]
theorem Sx6 (x : List UInt8) : Cz6 1 [.s x] = some (Aj4 [x]) := rfl
theorem Ow6 : PV.l 1 [] = Aj4 [] := rfl
theorem Kv1 (l : List (List UInt8)) (x : List UInt8) (h : l.length + 1 ≤ 1073741824) : Bk2 1 (Aj4 l) (Aj4 [x]) = some (Aj4 (l ++ [x])) := by
  have := Kv3 1 (l.map PV.s) [.s x] (by simpa using h)
  simpa [Aj4] using this
theorem Cy0 (l m : List (List UInt8)) (h : l.length + m.length ≤ 1073741824) : Bk2 1 (Aj4 l) (Aj4 m) = some (Aj4 (l ++ m)) := by
  have := Kv3 1 (l.map PV.s) (m.map PV.s) (by simpa using h)
  simpa [Aj4] using this
theorem Az9 (l : List (List UInt8)) (k k' : IntKind) (a b : Int) (h1 : 0 ≤ a) (h2 : a ≤ b) (h3 : b ≤ (l.length : Int)) : Az4 1 (Aj4 l) (.i k a) (.i k' b) = some (Aj4 ((l.take b.toNat).drop a.toNat)) := by
  have := lsl_l 1 (l.map PV.s) k k' a b h1 h2 (by simpa using h3)
  simpa [Aj4] using this
theorem Ow8 (l : List (List UInt8)) (k : IntKind) (z : Int) (x : List UInt8) (h0 : 0 ≤ z) (h1 : z < (l.length : Int)) : Dw7 1 0 [.s x] (Aj4 l) (.i k z) = some (Aj4 (l.set z.toNat x)) := by
  have h2 : z.toNat < l.length := by omega
  have h3 : (l.map PV.s)[z.toNat]? = some (.s l[z.toNat]) := by simp [h2]
  simp only [Dw7, Aj4, h0, h3, and_self, if_true, Option.bind_some]
  have h4 : Dw8 (.s l[z.toNat]) 0 [.s x] = some (.s x) := rfl
  rw [h4]
  simp [List.map_set]
theorem Fy9 (n : Int) (h0 : 0 ≤ n) (h1 : n ≤ 1073741824) : Dx6 1 (.i .i64 n) (.s []) = some (Aj4 (List.replicate n.toNat [])) := by
  have h2 : n ≤ (LIM : Int) := by simp only [LIM]; omega
  have h3 : (PV.s []).cells.length = 1 := rfl
  simp only [Dx6, h0, h2, h3, and_self, if_true]
  simp [Aj4]
theorem Jj8 (l : List (List UInt8)) : Aj7 0 (Aj4 l) = some (Aj4 l) := rfl
theorem Jk4 (l : List Rec) : Aj7 0 (Aj2 l) = some (Aj2 l) := rfl
theorem Ix3 (l : List (List UInt8)) : By2 (Aj4 l) = some (Aj4 l) := rfl

theorem eq_dat (neg : Bool) (x y : Dat) : Bz1 neg true [.b, (.i .u64), (.i .u64), .s, .s, .s, (.i .i64), (.i .i64), (.i .i64), (.i .i64), (.i .i64), (.i .i64), (.i .u64)] x.pv y.pv = some (.b (if neg then decide (x ≠ y) else decide (x = y))) := by
  have : Aw7 [.b, (.i .u64), (.i .u64), .s, .s, .s, (.i .i64), (.i .i64), (.i .i64), (.i .i64), (.i .i64), (.i .i64), (.i .u64)] x.cells y.cells = some (decide (x = y)) := by
    simp only [Dat.cells, Aw7, eqSc, if_true, Option.some.injEq]
    rw [Bool.eq_iff_iff]
    cases x; cases y; simp
  simp only [Bz1, Dat.pv, this, Option.map_some]
  cases neg <;> simp
theorem eq_rec (neg : Bool) (x y : Rec) : Bz1 neg true [.s, (.i .i64), (.i .i64), .b, (.i .u64), (.i .u64), .s, .s, .s, (.i .i64), (.i .i64), (.i .i64), (.i .i64), (.i .i64), (.i .i64), (.i .u64)] x.pv y.pv = some (.b (if neg then decide (x ≠ y) else decide (x = y))) := by
  have : Aw7 [.s, (.i .i64), (.i .i64), .b, (.i .u64), (.i .u64), .s, .s, .s, (.i .i64), (.i .i64), (.i .i64), (.i .i64), (.i .i64), (.i .i64), (.i .u64)] x.cells y.cells = some (decide (x = y)) := by
    simp only [Rec.cells, Dat.cells, Aw7, eqSc, if_true, Option.some.injEq]
    rw [Bool.eq_iff_iff]
    rcases x with ⟨_, _, _, ⟨⟩⟩; rcases y with ⟨_, _, _, ⟨⟩⟩; simp [and_assoc]
  simp only [Bz1, Rec.pv, this, Option.map_some]
  cases neg <;> simp
theorem EVP : type_of% ((And.intro @Ow8 (And.intro @Fy9 (And.intro @Ry9 (And.intro @Rx8 (And.intro @Tk6 (And.intro @Dj7 (And.intro @Dj8 (And.intro @Jq4 (And.intro @Jq3 (And.intro @Jq2 (And.intro @Jq1 (And.intro @Jq0 (And.intro @Jk9 (And.intro @Jk8 (And.intro @Jk7 (And.intro @Jk6 (And.intro @Jk5 (And.intro @Fj7 (And.intro @Fj6 (And.intro @Fj5 (And.intro @Fj4 (And.intro @Fj3 (And.intro @Fj2 (And.intro @Ry0 (And.intro @Dj9 (And.intro @Tk8 (And.intro @Jw4 (And.intro @Jw3 (And.intro @Jw2 (And.intro @Jw1 (And.intro @Jw0 (And.intro @Jv9 (And.intro @Jv8 (And.intro @Jv7 (And.intro @Jv6 (And.intro @Jv5 (And.intro @Fk7 (And.intro @Fk6 (And.intro @Fk5 (And.intro @Pq8 (And.intro @Ow5 (And.intro @Fq0 (And.intro @Fk9 (And.intro @Fk8 (And.intro @Pq7 (And.intro @Ow3 (And.intro @Fj1 (And.intro @Fj0 (And.intro @Pq1 (And.intro @Pk9 (And.intro @Tq7 (And.intro @Tq5 (And.intro @Pq5 (And.intro @Pq4 (And.intro @Kq1 (And.intro @Sx7 (And.intro @Pj5 (And.intro @Cx0 (And.intro @Kv2 (And.intro @Dv0 (And.intro @Ox4 (And.intro @Bw1 (And.intro @Ix4 (And.intro @Pj4 (And.intro @Bw4 (And.intro @Sx6 (And.intro @Ow6 (And.intro @Kv1 (And.intro @Cy0 (And.intro @Az9 (And.intro @Jj8 (And.intro @Jk4 (And.intro @Ix3 (And.intro @eq_dat @eq_rec))))))))))))))))))))))))))))))))))))))))))))))))))))))))))))))))))))))))))) := (And.intro @Ow8 (And.intro @Fy9 (And.intro @Ry9 (And.intro @Rx8 (And.intro @Tk6 (And.intro @Dj7 (And.intro @Dj8 (And.intro @Jq4 (And.intro @Jq3 (And.intro @Jq2 (And.intro @Jq1 (And.intro @Jq0 (And.intro @Jk9 (And.intro @Jk8 (And.intro @Jk7 (And.intro @Jk6 (And.intro @Jk5 (And.intro @Fj7 (And.intro @Fj6 (And.intro @Fj5 (And.intro @Fj4 (And.intro @Fj3 (And.intro @Fj2 (And.intro @Ry0 (And.intro @Dj9 (And.intro @Tk8 (And.intro @Jw4 (And.intro @Jw3 (And.intro @Jw2 (And.intro @Jw1 (And.intro @Jw0 (And.intro @Jv9 (And.intro @Jv8 (And.intro @Jv7 (And.intro @Jv6 (And.intro @Jv5 (And.intro @Fk7 (And.intro @Fk6 (And.intro @Fk5 (And.intro @Pq8 (And.intro @Ow5 (And.intro @Fq0 (And.intro @Fk9 (And.intro @Fk8 (And.intro @Pq7 (And.intro @Ow3 (And.intro @Fj1 (And.intro @Fj0 (And.intro @Pq1 (And.intro @Pk9 (And.intro @Tq7 (And.intro @Tq5 (And.intro @Pq5 (And.intro @Pq4 (And.intro @Kq1 (And.intro @Sx7 (And.intro @Pj5 (And.intro @Cx0 (And.intro @Kv2 (And.intro @Dv0 (And.intro @Ox4 (And.intro @Bw1 (And.intro @Ix4 (And.intro @Pj4 (And.intro @Bw4 (And.intro @Sx6 (And.intro @Ow6 (And.intro @Kv1 (And.intro @Cy0 (And.intro @Az9 (And.intro @Jj8 (And.intro @Jk4 (And.intro @Ix3 (And.intro @eq_dat @eq_rec))))))))))))))))))))))))))))))))))))))))))))))))))))))))))))))))))))))))))
end Go.X
