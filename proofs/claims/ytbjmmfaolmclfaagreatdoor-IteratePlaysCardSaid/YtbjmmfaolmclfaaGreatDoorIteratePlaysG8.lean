/- The program's data. -/
import Derived.Test.YtbjmmfaolmclfaaGreatDoorIteratePlaysG4

set_option maxHeartbeats 1000000
set_option linter.unusedVariables false
set_option linter.unusedSimpArgs false
namespace Go.X
open Go

structure Dat where
 v6 : Bool
 hi : Int
 lo : Int
 host : List UInt8
 mail : List UInt8
 text : List UInt8
 a : Int
 b : Int
 c : Int
 d : Int
 e : Int
 f : Int
 bits : Int
 deriving DecidableEq
structure Rec where
 name : List UInt8
 typ : Int
 ttl : Int
 data : Dat
 deriving DecidableEq
structure Zone where
 origin : List UInt8
 recs : List Rec
 deriving DecidableEq
def i64r (x : Int) : Prop := -9223372036854775808 ≤ x ∧ x ≤ 9223372036854775807
def u64r (x : Int) : Prop := 0 ≤ x ∧ x ≤ 18446744073709551615
def strr (x : List UInt8) : Prop := x.length ≤ 9223372036854775807
structure Dat.wf (x : Dat) : Prop where
 hi : u64r x.hi
 lo : u64r x.lo
 host : strr x.host
 mail : strr x.mail
 text : strr x.text
 a : i64r x.a
 b : i64r x.b
 c : i64r x.c
 d : i64r x.d
 e : i64r x.e
 f : i64r x.f
 bits : u64r x.bits
structure Rec.wf (r : Rec) : Prop where
 name : strr r.name
 typ : i64r r.typ
 ttl : i64r r.ttl
 data : r.data.wf
def Cs0 (l : List Rec) : Prop := l.length ≤ 9223372036854775807 ∧ ∀ r ∈ l, r.wf
structure Zone.wf (z : Zone) : Prop where
 origin : strr z.origin
 recs : Cs0 z.recs
def Dat.cells (x : Dat) : List PV := [.b x.v6, .i .u64 x.hi, .i .u64 x.lo, .s x.host, .s x.mail, .s x.text, .i .i64 x.a, .i .i64 x.b, .i .i64 x.c, .i .i64 x.d, .i .i64 x.e, .i .i64 x.f, .i .u64 x.bits]
def Dat.pv (x : Dat) : PV := .a x.cells
def Rec.cells (x : Rec) : List PV := .s x.name :: .i .i64 x.typ :: .i .i64 x.ttl :: x.data.cells
def Rec.pv (x : Rec) : PV := .a x.cells
def Aj2 (l : List Rec) : PV := .l 16 (l.map Rec.pv)
def Zone.pv (x : Zone) : PV := .a [.s x.origin, Aj2 x.recs]
def Aj7 (l : List (List UInt8)) : PV := .l 1 (l.map .s)
def Ah0 (x : Dat) : PV := .a [.b x.v6, .i .u64 x.hi, .i .u64 x.lo]

theorem Jv6 (r : Rec) : Ab0 0 16 r.pv = some r.pv := rfl
theorem Jc0 (r : Rec) : As5 16 r.pv = some r.pv := rfl
theorem Cy5 (r : Rec) : Ab0 3 13 r.pv = some r.data.pv := rfl
theorem Cy6 (r : Rec) : Ab0 3 3 r.pv = some (Ah0 r.data) := rfl
theorem Fs4 (r : Rec) : Aj6 0 r.pv = some (.s r.name) := rfl
theorem Fs3 (r : Rec) : Aj6 1 r.pv = some (.i .i64 r.typ) := rfl
theorem Fs2 (r : Rec) : Aj6 2 r.pv = some (.i .i64 r.ttl) := rfl
theorem Fs1 (r : Rec) : Aj6 3 r.pv = some (.b r.data.v6) := rfl
theorem Fs0 (r : Rec) : Aj6 4 r.pv = some (.i .u64 r.data.hi) := rfl
theorem Fr9 (r : Rec) : Aj6 5 r.pv = some (.i .u64 r.data.lo) := rfl
theorem Fr8 (r : Rec) : Aj6 6 r.pv = some (.s r.data.host) := rfl
theorem Fr7 (r : Rec) : Aj6 7 r.pv = some (.s r.data.mail) := rfl
theorem Fr6 (r : Rec) : Aj6 8 r.pv = some (.s r.data.text) := rfl
theorem Fr5 (r : Rec) : Aj6 9 r.pv = some (.i .i64 r.data.a) := rfl
theorem Fv7 (r : Rec) : Aj6 10 r.pv = some (.i .i64 r.data.b) := rfl
theorem Fv6 (r : Rec) : Aj6 11 r.pv = some (.i .i64 r.data.c) := rfl
theorem Fv5 (r : Rec) : Aj6 12 r.pv = some (.i .i64 r.data.d) := rfl
theorem Fv4 (r : Rec) : Aj6 13 r.pv = some (.i .i64 r.data.e) := rfl
theorem Fv3 (r : Rec) : Aj6 14 r.pv = some (.i .i64 r.data.f) := rfl
theorem Fv2 (r : Rec) : Aj6 15 r.pv = some (.i .u64 r.data.bits) := rfl
theorem Jv8 (r : Dat) : Ab0 0 13 r.pv = some r.pv := rfl
theorem Cy7 (r : Dat) : Ab0 0 3 r.pv = some (Ah0 r) := rfl
theorem Jc2 (r : Dat) : As5 13 r.pv = some r.pv := rfl
theorem Gj4 (r : Dat) : Aj6 0 r.pv = some (.b r.v6) := rfl
theorem Gj3 (r : Dat) : Aj6 1 r.pv = some (.i .u64 r.hi) := rfl
theorem Gj2 (r : Dat) : Aj6 2 r.pv = some (.i .u64 r.lo) := rfl
theorem Gj1 (r : Dat) : Aj6 3 r.pv = some (.s r.host) := rfl
theorem Gj0 (r : Dat) : Aj6 4 r.pv = some (.s r.mail) := rfl
theorem Ft9 (r : Dat) : Aj6 5 r.pv = some (.s r.text) := rfl
theorem Ft8 (r : Dat) : Aj6 6 r.pv = some (.i .i64 r.a) := rfl
theorem Ft7 (r : Dat) : Aj6 7 r.pv = some (.i .i64 r.b) := rfl
theorem Ft6 (r : Dat) : Aj6 8 r.pv = some (.i .i64 r.c) := rfl
theorem Ft5 (r : Dat) : Aj6 9 r.pv = some (.i .i64 r.d) := rfl
theorem Fw7 (r : Dat) : Aj6 10 r.pv = some (.i .i64 r.e) := rfl
theorem Fw6 (r : Dat) : Aj6 11 r.pv = some (.i .i64 r.f) := rfl
theorem Fw5 (r : Dat) : Aj6 12 r.pv = some (.i .u64 r.bits) := rfl
theorem Im0 (r : Dat) : As5 3 (Ah0 r) = some (Ah0 r) := rfl
theorem Iz8 (r : Dat) : Ab0 0 3 (Ah0 r) = some (Ah0 r) := rfl
theorem Fx0 (r : Dat) : Aj6 0 (Ah0 r) = some (.b r.v6) := rfl
theorem Fw9 (r : Dat) : Aj6 1 (Ah0 r) = some (.i .u64 r.hi) := rfl
theorem Fw8 (r : Dat) : Aj6 2 (Ah0 r) = some (.i .u64 r.lo) := rfl
theorem Il9 (r : Zone) : As5 2 r.pv = some r.pv := rfl
theorem Iz6 (r : Zone) : Ab0 0 2 r.pv = some r.pv := rfl
theorem Fv1 (r : Zone) : Aj6 0 r.pv = some (.s r.origin) := rfl
theorem Fv0 (r : Zone) : Aj6 1 r.pv = some (Aj2 r.recs) := rfl
theorem Il3 (v : Bool) (h l : Int) (s1 s2 s3 : List UInt8) (a b c d e f g : Int) : PV.a [.b v, .i .u64 h, .i .u64 l, .s s1, .s s2, .s s3, .i .i64 a, .i .i64 b, .i .i64 c, .i .i64 d, .i .i64 e, .i .i64 f, .i .u64 g] = Dat.pv ⟨v, h, l, s1, s2, s3, a, b, c, d, e, f, g⟩ := rfl
theorem Il1 (n : List UInt8) (t u : Int) (v : Bool) (h l : Int) (s1 s2 s3 : List UInt8) (a b c d e f g : Int) : PV.a [.s n, .i .i64 t, .i .i64 u, .b v, .i .u64 h, .i .u64 l, .s s1, .s s2, .s s3, .i .i64 a, .i .i64 b, .i .i64 c, .i .i64 d, .i .i64 e, .i .i64 f, .i .u64 g] = Rec.pv ⟨n, t, u, ⟨v, h, l, s1, s2, s3, a, b, c, d, e, f, g⟩⟩ := rfl
theorem Jd9 (x : Dat) : (⟨x.v6, x.hi, x.lo, x.host, x.mail, x.text, x.a, x.b, x.c, x.d, x.e, x.f, x.bits⟩ : Dat) = x := rfl
theorem Jd7 (x : Rec) : (⟨x.name, x.typ, x.ttl, x.data⟩ : Rec) = x := rfl
theorem Il7 (x : Dat) : PV.flat x.pv = true := rfl
theorem Il6 (x : Rec) : PV.flat x.pv = true := rfl
theorem Gg5 (x : Dat) : PV.flat (Ah0 x) = true := rfl
theorem Jz6 (x : Rec) : Ap4 16 [x.pv] = some (Aj2 [x]) := rfl
theorem Eg9 (l : List Rec) : Aw9 (Aj2 l) = some (.i .i64 (l.length : Int)) := by simp [Aj2, Aw9]
theorem Ck6 (l : List Rec) (k : IntKind) (z : Int) (h : 0 ≤ z) : Ac8 16 (Aj2 l) (.i k z) = (l[z.toNat]?).map Rec.pv := by simp [Aj2, Ct8 _ _ _ _ h]
theorem Iw8 (l : List Rec) (x : Rec) (h : l.length + 1 ≤ 1073741824) : Aw1 16 (Aj2 l) (Aj2 [x]) = some (Aj2 (l ++ [x])) := by
 have := Cm6 16 (l.map Rec.pv) [x.pv] (by simpa using h)
 simpa [Aj2] using this
theorem Az1 (l m : List Rec) (h : l.length + m.length ≤ 1073741824) : Aw1 16 (Aj2 l) (Aj2 m) = some (Aj2 (l ++ m)) := by
 have := Cm6 16 (l.map Rec.pv) (m.map Rec.pv) (by simpa using h)
 simpa [Aj2] using this
theorem Ic4 : PV.l 16 [] = Aj2 [] := rfl
theorem Cj9 (l : List Rec) (k k' : IntKind) (a b : Int) (h1 : 0 ≤ a) (h2 : a ≤ b) (h3 : b ≤ (l.length : Int)) : Ac7 16 (Aj2 l) (.i k a) (.i k' b) = some (Aj2 ((l.take b.toNat).drop a.toNat)) := by
 have := Ig2 16 (l.map Rec.pv) k k' a b h1 h2 (by simpa using h3)
 simpa [Aj2] using this
theorem Jw5 (l : List Rec) (k : IntKind) (z : Int) (n : List UInt8) (t u : Int) (v : Bool) (h w : Int) (s1 s2 s3 : List UInt8) (a b c d e f g : Int) (h0 : 0 ≤ z) (h1 : z < (l.length : Int)) :
  Cr3 16 0 [.s n, .i .i64 t, .i .i64 u, .b v, .i .u64 h, .i .u64 w, .s s1, .s s2, .s s3, .i .i64 a, .i .i64 b, .i .i64 c, .i .i64 d, .i .i64 e, .i .i64 f, .i .u64 g] (Aj2 l) (.i k z) = some (Aj2 (l.set z.toNat ⟨n, t, u, ⟨v, h, w, s1, s2, s3, a, b, c, d, e, f, g⟩⟩)) := by
 have h2 : z.toNat < l.length := by omega
 have h3 : (l.map Rec.pv)[z.toNat]? = some (l[z.toNat].pv) := by simp [h2]
 simp only [Cr3, Aj2, h0, h3, and_self, if_true, Option.bind_some]
 have h4 : Bs6 (l[z.toNat].pv) 0 [.s n, .i .i64 t, .i .i64 u, .b v, .i .u64 h, .i .u64 w, .s s1, .s s2, .s s3, .i .i64 a, .i .i64 b, .i .i64 c, .i .i64 d, .i .i64 e, .i .i64 f, .i .u64 g] = some (Rec.pv ⟨n, t, u, ⟨v, h, w, s1, s2, s3, a, b, c, d, e, f, g⟩⟩) := rfl
 rw [h4]
 simp [List.map_set]
theorem Fl8 (l : List Rec) : Af8 (Aj2 l) = some (Aj2 l) := rfl
theorem Ig3 (l : List (List UInt8)) : Aw9 (Aj7 l) = some (.i .i64 (l.length : Int)) := by simp [Aj7, Aw9]
theorem Ih5 (l : List (List UInt8)) (k : IntKind) (z : Int) (h : 0 ≤ z) : Ac8 1 (Aj7 l) (.i k z) = (l[z.toNat]?).map PV.s := by simp [Aj7, Ct8 _ _ _ _ h]
theorem Jz5 (x : List UInt8) : Ap4 1 [.s x] = some (Aj7 [x]) := rfl
theorem Ib0 : PV.l 1 [] = Aj7 [] := rfl
theorem Iw7 (l : List (List UInt8)) (x : List UInt8) (h : l.length + 1 ≤ 1073741824) : Aw1 1 (Aj7 l) (Aj7 [x]) = some (Aj7 (l ++ [x])) := by
 have := Cm6 1 (l.map PV.s) [.s x] (by simpa using h)
 simpa [Aj7] using this
theorem Cv6 (l m : List (List UInt8)) (h : l.length + m.length ≤ 1073741824) : Aw1 1 (Aj7 l) (Aj7 m) = some (Aj7 (l ++ m)) := by
 have := Cm6 1 (l.map PV.s) (m.map PV.s) (by simpa using h)
 simpa [Aj7] using this
theorem Ab6 (l : List (List UInt8)) (k k' : IntKind) (a b : Int) (h1 : 0 ≤ a) (h2 : a ≤ b) (h3 : b ≤ (l.length : Int)) : Ac7 1 (Aj7 l) (.i k a) (.i k' b) = some (Aj7 ((l.take b.toNat).drop a.toNat)) := by
 have := Ig2 1 (l.map PV.s) k k' a b h1 h2 (by simpa using h3)
 simpa [Aj7] using this
theorem Ib9 (l : List (List UInt8)) (k : IntKind) (z : Int) (x : List UInt8) (h0 : 0 ≤ z) (h1 : z < (l.length : Int)) : Cr3 1 0 [.s x] (Aj7 l) (.i k z) = some (Aj7 (l.set z.toNat x)) := by
 have h2 : z.toNat < l.length := by omega
 have h3 : (l.map PV.s)[z.toNat]? = some (.s l[z.toNat]) := by simp [h2]
 simp only [Cr3, Aj7, h0, h3, and_self, if_true, Option.bind_some]
 have h4 : Bs6 (.s l[z.toNat]) 0 [.s x] = some (.s x) := rfl
 rw [h4]
 simp [List.map_set]
theorem Ef5 (n : Int) (h0 : 0 ≤ n) (h1 : n ≤ 1073741824) : Bv4 1 (.i .i64 n) (.s []) = some (Aj7 (List.replicate n.toNat [])) := by
 have h2 : n ≤ (LIM : Int) := by simp only [LIM]; omega
 have h3 : (PV.s []).cells.length = 1 := rfl
 simp only [Bv4, h0, h2, h3, and_self, if_true]
 simp [Aj7]
theorem Fr3 (l : List (List UInt8)) : Aj6 0 (Aj7 l) = some (Aj7 l) := rfl
theorem Fr4 (l : List Rec) : Aj6 0 (Aj2 l) = some (Aj2 l) := rfl
theorem Fl7 (l : List (List UInt8)) : Af8 (Aj7 l) = some (Aj7 l) := rfl

theorem Lk0 (neg : Bool) (x y : Dat) : Ag9 neg true [.b, (.i .u64), (.i .u64), .s, .s, .s, (.i .i64), (.i .i64), (.i .i64), (.i .i64), (.i .i64), (.i .i64), (.i .u64)] x.pv y.pv = some (.b (if neg then decide (x ≠ y) else decide (x = y))) := by
 have : Av5 [.b, (.i .u64), (.i .u64), .s, .s, .s, (.i .i64), (.i .i64), (.i .i64), (.i .i64), (.i .i64), (.i .i64), (.i .u64)] x.cells y.cells = some (decide (x = y)) := by
  simp only [Dat.cells, Av5, eqSc, if_true, Option.some.injEq]
  rw [Bool.eq_iff_iff]
  cases x; cases y; simp
 simp only [Ag9, Dat.pv, this, Option.map_some]
 cases neg <;> simp
theorem Lj9 (neg : Bool) (x y : Rec) : Ag9 neg true [.s, (.i .i64), (.i .i64), .b, (.i .u64), (.i .u64), .s, .s, .s, (.i .i64), (.i .i64), (.i .i64), (.i .i64), (.i .i64), (.i .i64), (.i .u64)] x.pv y.pv = some (.b (if neg then decide (x ≠ y) else decide (x = y))) := by
 have : Av5 [.s, (.i .i64), (.i .i64), .b, (.i .u64), (.i .u64), .s, .s, .s, (.i .i64), (.i .i64), (.i .i64), (.i .i64), (.i .i64), (.i .i64), (.i .u64)] x.cells y.cells = some (decide (x = y)) := by
  simp only [Rec.cells, Dat.cells, Av5, eqSc, if_true, Option.some.injEq]
  rw [Bool.eq_iff_iff]
  rcases x with ⟨_, _, _, ⟨⟩⟩; rcases y with ⟨_, _, _, ⟨⟩⟩; simp [and_assoc]
 simp only [Ag9, Rec.pv, this, Option.map_some]
 cases neg <;> simp
set_option linter.defProp false in
def EVP := (And.intro @Ib9 (And.intro @Ef5 (And.intro @Jw5 (And.intro @Jv6 (And.intro @Jc0 (And.intro @Cy5 (And.intro @Cy6 (And.intro @Fs4 (And.intro @Fs3 (And.intro @Fs2 (And.intro @Fs1 (And.intro @Fs0 (And.intro @Fr9 (And.intro @Fr8 (And.intro @Fr7 (And.intro @Fr6 (And.intro @Fr5 (And.intro @Fv7 (And.intro @Fv6 (And.intro @Fv5 (And.intro @Fv4 (And.intro @Fv3 (And.intro @Fv2 (And.intro @Jv8 (And.intro @Cy7 (And.intro @Jc2 (And.intro @Gj4 (And.intro @Gj3 (And.intro @Gj2 (And.intro @Gj1 (And.intro @Gj0 (And.intro @Ft9 (And.intro @Ft8 (And.intro @Ft7 (And.intro @Ft6 (And.intro @Ft5 (And.intro @Fw7 (And.intro @Fw6 (And.intro @Fw5 (And.intro @Im0 (And.intro @Iz8 (And.intro @Fx0 (And.intro @Fw9 (And.intro @Fw8 (And.intro @Il9 (And.intro @Iz6 (And.intro @Fv1 (And.intro @Fv0 (And.intro @Il3 (And.intro @Il1 (And.intro @Jd9 (And.intro @Jd7 (And.intro @Il7 (And.intro @Il6 (And.intro @Gg5 (And.intro @Jz6 (And.intro @Eg9 (And.intro @Ck6 (And.intro @Iw8 (And.intro @Az1 (And.intro @Ic4 (And.intro @Cj9 (And.intro @Fl8 (And.intro @Ig3 (And.intro @Ih5 (And.intro @Jz5 (And.intro @Ib0 (And.intro @Iw7 (And.intro @Cv6 (And.intro @Ab6 (And.intro @Fr3 (And.intro @Fr4 (And.intro @Fl7 (And.intro @Lk0 @Lj9))))))))))))))))))))))))))))))))))))))))))))))))))))))))))))))))))))))))))
end Go.X
