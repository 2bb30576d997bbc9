/- The program's data. -/
import Derived.Test.YtfkfaliipkpcdaaGreatDoorLookupChasesG6

set_option maxHeartbeats 1000000
set_option linter.unusedVariables false
set_option linter.unusedSimpArgs false
namespace Go.X
open Go

structure Dat where
 v6 : Bool
 hi : Int
 lo : Int
 host : List UInt8
 mail : List UInt8
 text : List UInt8
 a : Int
 b : Int
 c : Int
 d : Int
 e : Int
 f : Int
 bits : Int
 deriving DecidableEq
structure Rec where
 name : List UInt8
 typ : Int
 ttl : Int
 data : Dat
 deriving DecidableEq
structure Zone where
 origin : List UInt8
 recs : List Rec
 deriving DecidableEq
def i64r (x : Int) : Prop := -9223372036854775808 ≤ x ∧ x ≤ 9223372036854775807
def u64r (x : Int) : Prop := 0 ≤ x ∧ x ≤ 18446744073709551615
def strr (x : List UInt8) : Prop := x.length ≤ 9223372036854775807
structure Dat.wf (x : Dat) : Prop where
 hi : u64r x.hi
 lo : u64r x.lo
 host : strr x.host
 mail : strr x.mail
 text : strr x.text
 a : i64r x.a
 b : i64r x.b
 c : i64r x.c
 d : i64r x.d
 e : i64r x.e
 f : i64r x.f
 bits : u64r x.bits
structure Rec.wf (r : Rec) : Prop where
 name : strr r.name
 typ : i64r r.typ
 ttl : i64r r.ttl
 data : r.data.wf
def Qy5 (l : List Rec) : Prop := l.length ≤ 9223372036854775807 ∧ ∀ r ∈ l, r.wf
structure Zone.wf (z : Zone) : Prop where
 origin : strr z.origin
 recs : Qy5 z.recs
def Dat.cells (x : Dat) : List PV := [.b x.v6, .i .u64 x.hi, .i .u64 x.lo, .s x.host, .s x.mail, .s x.text, .i .i64 x.a, .i .i64 x.b, .i .i64 x.c, .i .i64 x.d, .i .i64 x.e, .i .i64 x.f, .i .u64 x.bits]
def Dat.pv (x : Dat) : PV := .a x.cells
def Rec.cells (x : Rec) : List PV := .s x.name :: .i .i64 x.typ :: .i .i64 x.ttl :: x.data.cells
def Rec.pv (x : Rec) : PV := .a x.cells
def Aj2 (l : List Rec) : PV := .l 16 (l.map Rec.pv)
def Zone.pv (x : Zone) : PV := .a [.s x.origin, Aj2 x.recs]
def Aj4 (l : List (List UInt8)) : PV := .l 1 (l.map .s)
def Bv5 (x : Dat) : PV := .a [.b x.v6, .i .u64 x.hi, .i .u64 x.lo]

theorem sub_rec (r : Rec) : Bx6 0 16 r.pv = some r.pv := rfl
theorem fit_rec (r : Rec) : Dz9 16 r.pv = some r.pv := rfl
theorem Iq5 (r : Rec) : Bx6 3 13 r.pv = some r.data.pv := rfl
theorem Iq6 (r : Rec) : Bx6 3 3 r.pv = some (Bv5 r.data) := rfl
theorem Rv4 (r : Rec) : Aj7 0 r.pv = some (.s r.name) := rfl
theorem Rv3 (r : Rec) : Aj7 1 r.pv = some (.i .i64 r.typ) := rfl
theorem Rv2 (r : Rec) : Aj7 2 r.pv = some (.i .i64 r.ttl) := rfl
theorem Rv1 (r : Rec) : Aj7 3 r.pv = some (.b r.data.v6) := rfl
theorem Rv0 (r : Rec) : Aj7 4 r.pv = some (.i .u64 r.data.hi) := rfl
theorem Rq9 (r : Rec) : Aj7 5 r.pv = some (.i .u64 r.data.lo) := rfl
theorem Rq8 (r : Rec) : Aj7 6 r.pv = some (.s r.data.host) := rfl
theorem Rq7 (r : Rec) : Aj7 7 r.pv = some (.s r.data.mail) := rfl
theorem Rq6 (r : Rec) : Aj7 8 r.pv = some (.s r.data.text) := rfl
theorem Rq5 (r : Rec) : Aj7 9 r.pv = some (.i .i64 r.data.a) := rfl
theorem Pv7 (r : Rec) : Aj7 10 r.pv = some (.i .i64 r.data.b) := rfl
theorem Pv6 (r : Rec) : Aj7 11 r.pv = some (.i .i64 r.data.c) := rfl
theorem Pv5 (r : Rec) : Aj7 12 r.pv = some (.i .i64 r.data.d) := rfl
theorem Pv4 (r : Rec) : Aj7 13 r.pv = some (.i .i64 r.data.e) := rfl
theorem Pv3 (r : Rec) : Aj7 14 r.pv = some (.i .i64 r.data.f) := rfl
theorem Pv2 (r : Rec) : Aj7 15 r.pv = some (.i .u64 r.data.bits) := rfl
theorem sub_dat (r : Dat) : Bx6 0 13 r.pv = some r.pv := rfl
theorem Iq7 (r : Dat) : Bx6 0 3 r.pv = some (Bv5 r) := rfl
theorem fit_dat (r : Dat) : Dz9 13 r.pv = some r.pv := rfl
theorem Rx4 (r : Dat) : Aj7 0 r.pv = some (.b r.v6) := rfl
theorem Rx3 (r : Dat) : Aj7 1 r.pv = some (.i .u64 r.hi) := rfl
theorem Rx2 (r : Dat) : Aj7 2 r.pv = some (.i .u64 r.lo) := rfl
theorem Rx1 (r : Dat) : Aj7 3 r.pv = some (.s r.host) := rfl
theorem Rx0 (r : Dat) : Aj7 4 r.pv = some (.s r.mail) := rfl
theorem Rw9 (r : Dat) : Aj7 5 r.pv = some (.s r.text) := rfl
theorem Rw8 (r : Dat) : Aj7 6 r.pv = some (.i .i64 r.a) := rfl
theorem Rw7 (r : Dat) : Aj7 7 r.pv = some (.i .i64 r.b) := rfl
theorem Rw6 (r : Dat) : Aj7 8 r.pv = some (.i .i64 r.c) := rfl
theorem Rw5 (r : Dat) : Aj7 9 r.pv = some (.i .i64 r.d) := rfl
theorem Pw7 (r : Dat) : Aj7 10 r.pv = some (.i .i64 r.e) := rfl
theorem Pw6 (r : Dat) : Aj7 11 r.pv = some (.i .i64 r.f) := rfl
theorem Pw5 (r : Dat) : Aj7 12 r.pv = some (.i .u64 r.bits) := rfl
theorem Yx7 (r : Dat) : Dz9 3 (Bv5 r) = some (Bv5 r) := rfl
theorem Xy0 (r : Dat) : Bx6 0 3 (Bv5 r) = some (Bv5 r) := rfl
theorem Px0 (r : Dat) : Aj7 0 (Bv5 r) = some (.b r.v6) := rfl
theorem Pw9 (r : Dat) : Aj7 1 (Bv5 r) = some (.i .u64 r.hi) := rfl
theorem Pw8 (r : Dat) : Aj7 2 (Bv5 r) = some (.i .u64 r.lo) := rfl
theorem Yx6 (r : Zone) : Dz9 2 r.pv = some r.pv := rfl
theorem Xx8 (r : Zone) : Bx6 0 2 r.pv = some r.pv := rfl
theorem Pv1 (r : Zone) : Aj7 0 r.pv = some (.s r.origin) := rfl
theorem Pv0 (r : Zone) : Aj7 1 r.pv = some (Aj2 r.recs) := rfl
theorem Yx1 (v : Bool) (h l : Int) (s1 s2 s3 : List UInt8) (a b c d e f g : Int) : PV.a [.b v, .i .u64 h, .i .u64 l, .s s1, .s s2, .s s3, .i .i64 a, .i .i64 b, .i .i64 c, .i .i64 d, .i .i64 e, .i .i64 f, .i .u64 g] = Dat.pv ⟨v, h, l, s1, s2, s3, a, b, c, d, e, f, g⟩ := rfl
theorem Yw9 (n : List UInt8) (t u : Int) (v : Bool) (h l : Int) (s1 s2 s3 : List UInt8) (a b c d e f g : Int) : PV.a [.s n, .i .i64 t, .i .i64 u, .b v, .i .u64 h, .i .u64 l, .s s1, .s s2, .s s3, .i .i64 a, .i .i64 b, .i .i64 c, .i .i64 d, .i .i64 e, .i .i64 f, .i .u64 g] = Rec.pv ⟨n, t, u, ⟨v, h, l, s1, s2, s3, a, b, c, d, e, f, g⟩⟩ := rfl
theorem eta_dat (x : Dat) : (⟨x.v6, x.hi, x.lo, x.host, x.mail, x.text, x.a, x.b, x.c, x.d, x.e, x.f, x.bits⟩ : Dat) = x := rfl
theorem eta_rec (x : Rec) : (⟨x.name, x.typ, x.ttl, x.data⟩ : Rec) = x := rfl
theorem Yx4 (x : Dat) : PV.flat x.pv = true := rfl
theorem Yx3 (x : Rec) : PV.flat x.pv = true := rfl
theorem Sy6 (x : Dat) : PV.flat (Bv5 x) = true := rfl
theorem lit_rec (x : Rec) : Cx1 16 [x.pv] = some (Aj2 [x]) := rfl
theorem Yv2 (l : List Rec) : Az2 (Aj2 l) = some (.i .i64 (l.length : Int)) := by simp [Aj2, Az2]
theorem Dq5 (l : List Rec) (k : IntKind) (z : Int) (h : 0 ≤ z) : Bq6 16 (Aj2 l) (.i k z) = (l[z.toNat]?).map Rec.pv := by simp [Aj2, Sy2 _ _ _ _ h]
theorem Xq2 (l : List Rec) (x : Rec) (h : l.length + 1 ≤ 1073741824) : Bj6 16 (Aj2 l) (Aj2 [x]) = some (Aj2 (l ++ [x])) := by
 have := Ij2 16 (l.map Rec.pv) [x.pv] (by simpa using h)
 simpa [Aj2] using this
theorem Ij1 (l m : List Rec) (h : l.length + m.length ≤ 1073741824) : Bj6 16 (Aj2 l) (Aj2 m) = some (Aj2 (l ++ m)) := by
 have := Ij2 16 (l.map Rec.pv) (m.map Rec.pv) (by simpa using h)
 simpa [Aj2] using this
theorem Yj1 : PV.l 16 [] = Aj2 [] := rfl
theorem Cj6 (l : List Rec) (k k' : IntKind) (a b : Int) (h1 : 0 ≤ a) (h2 : a ≤ b) (h3 : b ≤ (l.length : Int)) : Az8 16 (Aj2 l) (.i k a) (.i k' b) = some (Aj2 ((l.take b.toNat).drop a.toNat)) := by
 have := Yq8 16 (l.map Rec.pv) k k' a b h1 h2 (by simpa using h3)
 simpa [Aj2] using this
theorem set_rec (l : List Rec) (k : IntKind) (z : Int) (n : List UInt8) (t u : Int) (v : Bool) (h w : Int) (s1 s2 s3 : List UInt8) (a b c d e f g : Int) (h0 : 0 ≤ z) (h1 : z < (l.length : Int)) :
  Dw7 16 0 [.s n, .i .i64 t, .i .i64 u, .b v, .i .u64 h, .i .u64 w, .s s1, .s s2, .s s3, .i .i64 a, .i .i64 b, .i .i64 c, .i .i64 d, .i .i64 e, .i .i64 f, .i .u64 g] (Aj2 l) (.i k z) = some (Aj2 (l.set z.toNat ⟨n, t, u, ⟨v, h, w, s1, s2, s3, a, b, c, d, e, f, g⟩⟩)) := by
 have h2 : z.toNat < l.length := by omega
 have h3 : (l.map Rec.pv)[z.toNat]? = some (l[z.toNat].pv) := by simp [h2]
 simp only [Dw7, Aj2, h0, h3, and_self, if_true, Option.bind_some]
 have h4 : Dw8 (l[z.toNat].pv) 0 [.s n, .i .i64 t, .i .i64 u, .b v, .i .u64 h, .i .u64 w, .s s1, .s s2, .s s3, .i .i64 a, .i .i64 b, .i .i64 c, .i .i64 d, .i .i64 e, .i .i64 f, .i .u64 g] = some (Rec.pv ⟨n, t, u, ⟨v, h, w, s1, s2, s3, a, b, c, d, e, f, g⟩⟩) := rfl
 rw [h4]
 simp [List.map_set]
theorem Qx5 (l : List Rec) : Bx0 (Aj2 l) = some (Aj2 l) := rfl
theorem Yv0 (l : List (List UInt8)) : Az2 (Aj4 l) = some (.i .i64 (l.length : Int)) := by simp [Aj4, Az2]
theorem Cj9 (l : List (List UInt8)) (k : IntKind) (z : Int) (h : 0 ≤ z) : Bq6 1 (Aj4 l) (.i k z) = (l[z.toNat]?).map PV.s := by simp [Aj4, Sy2 _ _ _ _ h]
theorem lit_str (x : List UInt8) : Cx1 1 [.s x] = some (Aj4 [x]) := rfl
theorem Xy2 : PV.l 1 [] = Aj4 [] := rfl
theorem Xq0 (l : List (List UInt8)) (x : List UInt8) (h : l.length + 1 ≤ 1073741824) : Bj6 1 (Aj4 l) (Aj4 [x]) = some (Aj4 (l ++ [x])) := by
 have := Ij2 1 (l.map PV.s) [.s x] (by simpa using h)
 simpa [Aj4] using this
theorem Dv0 (l m : List (List UInt8)) (h : l.length + m.length ≤ 1073741824) : Bj6 1 (Aj4 l) (Aj4 m) = some (Aj4 (l ++ m)) := by
 have := Ij2 1 (l.map PV.s) (m.map PV.s) (by simpa using h)
 simpa [Aj4] using this
theorem Bk6 (l : List (List UInt8)) (k k' : IntKind) (a b : Int) (h1 : 0 ≤ a) (h2 : a ≤ b) (h3 : b ≤ (l.length : Int)) : Az8 1 (Aj4 l) (.i k a) (.i k' b) = some (Aj4 ((l.take b.toNat).drop a.toNat)) := by
 have := Yq8 1 (l.map PV.s) k k' a b h1 h2 (by simpa using h3)
 simpa [Aj4] using this
theorem Xy8 (l : List (List UInt8)) (k : IntKind) (z : Int) (x : List UInt8) (h0 : 0 ≤ z) (h1 : z < (l.length : Int)) : Dw7 1 0 [.s x] (Aj4 l) (.i k z) = some (Aj4 (l.set z.toNat x)) := by
 have h2 : z.toNat < l.length := by omega
 have h3 : (l.map PV.s)[z.toNat]? = some (.s l[z.toNat]) := by simp [h2]
 simp only [Dw7, Aj4, h0, h3, and_self, if_true, Option.bind_some]
 have h4 : Dw8 (.s l[z.toNat]) 0 [.s x] = some (.s x) := rfl
 rw [h4]
 simp [List.map_set]
theorem Nw6 (n : Int) (h0 : 0 ≤ n) (h1 : n ≤ 1073741824) : Dx6 1 (.i .i64 n) (.s []) = some (Aj4 (List.replicate n.toNat [])) := by
 have h2 : n ≤ (LIM : Int) := by simp only [LIM]; omega
 have h3 : (PV.s []).cells.length = 1 := rfl
 simp only [Dx6, h0, h2, h3, and_self, if_true]
 simp [Aj4]
theorem Rk7 (l : List (List UInt8)) : Aj7 0 (Aj4 l) = some (Aj4 l) := rfl
theorem Rq4 (l : List Rec) : Aj7 0 (Aj2 l) = some (Aj2 l) := rfl
theorem Qx3 (l : List (List UInt8)) : Bx0 (Aj4 l) = some (Aj4 l) := rfl

theorem eq_dat (neg : Bool) (x y : Dat) : Bz2 neg true [.b, (.i .u64), (.i .u64), .s, .s, .s, (.i .i64), (.i .i64), (.i .i64), (.i .i64), (.i .i64), (.i .i64), (.i .u64)] x.pv y.pv = some (.b (if neg then decide (x ≠ y) else decide (x = y))) := by
 have : Aw9 [.b, (.i .u64), (.i .u64), .s, .s, .s, (.i .i64), (.i .i64), (.i .i64), (.i .i64), (.i .i64), (.i .i64), (.i .u64)] x.cells y.cells = some (decide (x = y)) := by
  simp only [Dat.cells, Aw9, eqSc, if_true, Option.some.injEq]
  rw [Bool.eq_iff_iff]
  cases x; cases y; simp
 simp only [Bz2, Dat.pv, this, Option.map_some]
 cases neg <;> simp
theorem eq_rec (neg : Bool) (x y : Rec) : Bz2 neg true [.s, (.i .i64), (.i .i64), .b, (.i .u64), (.i .u64), .s, .s, .s, (.i .i64), (.i .i64), (.i .i64), (.i .i64), (.i .i64), (.i .i64), (.i .u64)] x.pv y.pv = some (.b (if neg then decide (x ≠ y) else decide (x = y))) := by
 have : Aw9 [.s, (.i .i64), (.i .i64), .b, (.i .u64), (.i .u64), .s, .s, .s, (.i .i64), (.i .i64), (.i .i64), (.i .i64), (.i .i64), (.i .i64), (.i .u64)] x.cells y.cells = some (decide (x = y)) := by
  simp only [Rec.cells, Dat.cells, Aw9, eqSc, if_true, Option.some.injEq]
  rw [Bool.eq_iff_iff]
  rcases x with ⟨_, _, _, ⟨⟩⟩; rcases y with ⟨_, _, _, ⟨⟩⟩; simp [and_assoc]
 simp only [Bz2, Rec.pv, this, Option.map_some]
 cases neg <;> simp
set_option linter.defProp false in
def EVP := (And.intro @Xy8 (And.intro @Nw6 (And.intro @set_rec (And.intro @sub_rec (And.intro @fit_rec (And.intro @Iq5 (And.intro @Iq6 (And.intro @Rv4 (And.intro @Rv3 (And.intro @Rv2 (And.intro @Rv1 (And.intro @Rv0 (And.intro @Rq9 (And.intro @Rq8 (And.intro @Rq7 (And.intro @Rq6 (And.intro @Rq5 (And.intro @Pv7 (And.intro @Pv6 (And.intro @Pv5 (And.intro @Pv4 (And.intro @Pv3 (And.intro @Pv2 (And.intro @sub_dat (And.intro @Iq7 (And.intro @fit_dat (And.intro @Rx4 (And.intro @Rx3 (And.intro @Rx2 (And.intro @Rx1 (And.intro @Rx0 (And.intro @Rw9 (And.intro @Rw8 (And.intro @Rw7 (And.intro @Rw6 (And.intro @Rw5 (And.intro @Pw7 (And.intro @Pw6 (And.intro @Pw5 (And.intro @Yx7 (And.intro @Xy0 (And.intro @Px0 (And.intro @Pw9 (And.intro @Pw8 (And.intro @Yx6 (And.intro @Xx8 (And.intro @Pv1 (And.intro @Pv0 (And.intro @Yx1 (And.intro @Yw9 (And.intro @eta_dat (And.intro @eta_rec (And.intro @Yx4 (And.intro @Yx3 (And.intro @Sy6 (And.intro @lit_rec (And.intro @Yv2 (And.intro @Dq5 (And.intro @Xq2 (And.intro @Ij1 (And.intro @Yj1 (And.intro @Cj6 (And.intro @Qx5 (And.intro @Yv0 (And.intro @Cj9 (And.intro @lit_str (And.intro @Xy2 (And.intro @Xq0 (And.intro @Dv0 (And.intro @Bk6 (And.intro @Rk7 (And.intro @Rq4 (And.intro @Qx3 (And.intro @eq_dat @eq_rec))))))))))))))))))))))))))))))))))))))))))))))))))))))))))))))))))))))))))
end Go.X
