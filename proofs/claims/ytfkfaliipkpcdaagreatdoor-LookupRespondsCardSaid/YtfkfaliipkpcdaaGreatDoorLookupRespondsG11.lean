/- Questions and messages. -/
import Derived.Test.YtfkfaliipkpcdaaGreatDoorLookupRespondsG10
import Derived.Test.YtfkfaliipkpcdaaGreatDoorLookupRespondsG9

set_option maxHeartbeats 1000000
set_option linter.unusedVariables false
set_option linter.unusedSimpArgs false
namespace Go.X
open Go
structure Ques where
 name : List UInt8
 typ : Int
 deriving DecidableEq
structure Msg where
 id : Int
 op : Int
 code : Int
 resp : Bool
 aa : Bool
 tc : Bool
 rd : Bool
 ra : Bool
 ad : Bool
 cd : Bool
 dok : Bool
 size : Int
 q : Ques
 ans : List Rec
 auth : List Rec
 ext : List Rec
 deriving DecidableEq
structure Ques.wf (x : Ques) : Prop where
 name : strr x.name
 typ : i64r x.typ
structure Msg.wf (m : Msg) : Prop where
 id : i64r m.id
 op : i64r m.op
 code : i64r m.code
 size : i64r m.size
 q : m.q.wf
 ans : Gs7 m.ans
 auth : Gs7 m.auth
 ext : Gs7 m.ext
def Ques.cells (x : Ques) : List PV := [.s x.name, .i .i64 x.typ]
def Ques.pv (x : Ques) : PV := .a x.cells
def Msg.cells (m : Msg) : List PV := .i .i64 m.id :: .i .i64 m.op :: .i .i64 m.code :: .b m.resp :: .b m.aa :: .b m.tc :: .b m.rd :: .b m.ra :: .b m.ad :: .b m.cd :: .b m.dok :: .i .i64 m.size :: .s m.q.name :: .i .i64 m.q.typ :: Aj1 m.ans :: Aj1 m.auth :: Aj1 m.ext :: []
def Msg.pv (m : Msg) : PV := .a m.cells
def shQ : Sh := .st [.s, .i .i64]
def Kj0 : Sh := .st [.i .i64, .i .i64, .i .i64, .b, .b, .b, .b, .b, .b, .b, .b, .i .i64, shQ, Bt5, Bt5, Bt5]
theorem Lj9 {cs : List PV} (h : shQ.okC cs) : ∃ q : Ques, q.wf ∧ cs = q.cells := by
 obtain ⟨a0, r0, rfl, h0, h⟩ := Ak0 (Cj3 h)
 obtain ⟨a1, r1, rfl, h1, h⟩ := Ak0 h
 obtain rfl := Ap0 h
 obtain ⟨x0, rfl, k0⟩ := Gd1 h0
 obtain ⟨x1, rfl, k1⟩ := Ay7 h1
 exact ⟨⟨x0, x1⟩, ⟨k0, k1⟩, rfl⟩
theorem Lk0 {p : PV} (h : Kj0.ok p) : ∃ m : Msg, m.wf ∧ p = m.pv := by
 obtain ⟨ds, rfl, h⟩ : ∃ ds, p = .a ds ∧ Kj0.okC ds := h
 obtain ⟨a0, r0, rfl, h0, h⟩ := Ak0 (Cj3 h)
 obtain ⟨a1, r1, rfl, h1, h⟩ := Ak0 h
 obtain ⟨a2, r2, rfl, h2, h⟩ := Ak0 h
 obtain ⟨a3, r3, rfl, h3, h⟩ := Ak0 h
 obtain ⟨a4, r4, rfl, h4, h⟩ := Ak0 h
 obtain ⟨a5, r5, rfl, h5, h⟩ := Ak0 h
 obtain ⟨a6, r6, rfl, h6, h⟩ := Ak0 h
 obtain ⟨a7, r7, rfl, h7, h⟩ := Ak0 h
 obtain ⟨a8, r8, rfl, h8, h⟩ := Ak0 h
 obtain ⟨a9, r9, rfl, h9, h⟩ := Ak0 h
 obtain ⟨a10, r10, rfl, h10, h⟩ := Ak0 h
 obtain ⟨a11, r11, rfl, h11, h⟩ := Ak0 h
 obtain ⟨a12, r12, rfl, h12, h⟩ := Ak0 h
 obtain ⟨a13, r13, rfl, h13, h⟩ := Ak0 h
 obtain ⟨a14, r14, rfl, h14, h⟩ := Ak0 h
 obtain ⟨a15, r15, rfl, h15, h⟩ := Ak0 h
 obtain rfl := Ap0 h
 obtain ⟨x0, rfl, k0⟩ := Ay7 h0
 obtain ⟨x1, rfl, k1⟩ := Ay7 h1
 obtain ⟨x2, rfl, k2⟩ := Ay7 h2
 obtain ⟨x3, rfl⟩ := Cy2 h3
 obtain ⟨x4, rfl⟩ := Cy2 h4
 obtain ⟨x5, rfl⟩ := Cy2 h5
 obtain ⟨x6, rfl⟩ := Cy2 h6
 obtain ⟨x7, rfl⟩ := Cy2 h7
 obtain ⟨x8, rfl⟩ := Cy2 h8
 obtain ⟨x9, rfl⟩ := Cy2 h9
 obtain ⟨x10, rfl⟩ := Cy2 h10
 obtain ⟨x11, rfl, k11⟩ := Ay7 h11
 obtain ⟨x12, k12, rfl⟩ := Lj9 h12
 obtain ⟨x13, k13, rfl⟩ := Cy0 h13
 obtain ⟨x14, k14, rfl⟩ := Cy0 h14
 obtain ⟨x15, k15, rfl⟩ := Cy0 h15
 exact ⟨⟨x0, x1, x2, x3, x4, x5, x6, x7, x8, x9, x10, x11, x12, x13, x14, x15⟩, ⟨k0, k1, k2, k11, k12, k13, k14, k15⟩, rfl⟩
theorem Hw5 (m : Msg) : Aj7 0 m.pv = some (.i .i64 m.id) := rfl
theorem Hw4 (m : Msg) : Aj7 1 m.pv = some (.i .i64 m.op) := rfl
theorem Hw3 (m : Msg) : Aj7 2 m.pv = some (.i .i64 m.code) := rfl
theorem Hw2 (m : Msg) : Aj7 3 m.pv = some (.b m.resp) := rfl
theorem Hw1 (m : Msg) : Aj7 4 m.pv = some (.b m.aa) := rfl
theorem Hw0 (m : Msg) : Aj7 5 m.pv = some (.b m.tc) := rfl
theorem Hv9 (m : Msg) : Aj7 6 m.pv = some (.b m.rd) := rfl
theorem Hv8 (m : Msg) : Aj7 7 m.pv = some (.b m.ra) := rfl
theorem Hv7 (m : Msg) : Aj7 8 m.pv = some (.b m.ad) := rfl
theorem Hv6 (m : Msg) : Aj7 9 m.pv = some (.b m.cd) := rfl
theorem Gc2 (m : Msg) : Aj7 10 m.pv = some (.b m.dok) := rfl
theorem Gc1 (m : Msg) : Aj7 11 m.pv = some (.i .i64 m.size) := rfl
theorem Gc0 (m : Msg) : Aj7 12 m.pv = some (.s m.q.name) := rfl
theorem Gb9 (m : Msg) : Aj7 13 m.pv = some (.i .i64 m.q.typ) := rfl
theorem Gb8 (m : Msg) : Aj7 14 m.pv = some (Aj1 m.ans) := rfl
theorem Gb7 (m : Msg) : Aj7 15 m.pv = some (Aj1 m.auth) := rfl
theorem Gb6 (m : Msg) : Aj7 16 m.pv = some (Aj1 m.ext) := rfl
theorem Ks2 (m : Msg) : Al3 0 17 m.pv = some m.pv := rfl
theorem Lw0 (m : Msg) : Bg6 17 m.pv = some m.pv := rfl
theorem Gp6 (m : Msg) : Al3 12 2 m.pv = some m.q.pv := rfl
theorem Ml1 (x : Ques) : Al3 0 2 x.pv = some x.pv := rfl
theorem Nb3 (x : Ques) : Bg6 2 x.pv = some x.pv := rfl
theorem Lj1 (x : Ques) : Aj7 0 x.pv = some (.s x.name) := rfl
theorem Lj0 (x : Ques) : Aj7 1 x.pv = some (.i .i64 x.typ) := rfl
theorem Mb7 (n : List UInt8) (t : Int) : PV.a [.s n, .i .i64 t] = Ques.pv ⟨n, t⟩ := rfl
theorem Nb7 (x : Ques) : (⟨x.name, x.typ⟩ : Ques) = x := rfl
theorem Ky5 (x0 x1 x2 : Int) (b0 b1 b2 b3 b4 b5 b6 b7 : Bool) (x3 : Int) (n : List UInt8) (t : Int) (l0 l1 l2 : List Rec) : PV.a [.i .i64 x0, .i .i64 x1, .i .i64 x2, .b b0, .b b1, .b b2, .b b3, .b b4, .b b5, .b b6, .b b7, .i .i64 x3, .s n, .i .i64 t, Aj1 l0, Aj1 l1, Aj1 l2] = Msg.pv ⟨x0, x1, x2, b0, b1, b2, b3, b4, b5, b6, b7, x3, ⟨n, t⟩, l0, l1, l2⟩ := rfl
theorem eq_q (neg : Bool) (x y : Ques) : Am9 neg true [.s, (.i .i64)] x.pv y.pv = some (.b (if neg then decide (x ≠ y) else decide (x = y))) := by
 have : Ax1 [.s, (.i .i64)] x.cells y.cells = some (decide (x = y)) := by
  simp only [Ques.cells, Ax1, eqSc, if_true, Option.some.injEq]
  rw [Bool.eq_iff_iff]
  cases x; cases y; simp
 simp only [Am9, Ques.pv, this, Option.map_some]
 cases neg <;> simp
set_option linter.defProp false in
def EVM := (And.intro @Hw5 (And.intro @Hw4 (And.intro @Hw3 (And.intro @Hw2 (And.intro @Hw1 (And.intro @Hw0 (And.intro @Hv9 (And.intro @Hv8 (And.intro @Hv7 (And.intro @Hv6 (And.intro @Gc2 (And.intro @Gc1 (And.intro @Gc0 (And.intro @Gb9 (And.intro @Gb8 (And.intro @Gb7 (And.intro @Gb6 (And.intro @Ks2 (And.intro @Lw0 (And.intro @Gp6 (And.intro @Ml1 (And.intro @Nb3 (And.intro @Lj1 (And.intro @Lj0 (And.intro @Mb7 (And.intro @Nb7 (And.intro @Ky5 @eq_q)))))))))))))))))))))))))))
end Go.X
/- Closures and sets of strings, evaluated. -/
namespace Go.X
open Go
def cloB (fn : Fns) (η : List PV) (fl : Bool) (ar : List E) (m : Nat) : PV → Option (List PV)
 | .f f caps => (E.evs η ar).bind fun vs => results fl m η (fn f vs.length (vs ++ caps))
 | _ => none
theorem Js0 {fn : Fns} {η : List PV} (fl : Bool) (c : E) (ar : List E) (m : Nat) : W.ev fn η (.clo none fl c ar m) = (c.ev η).bind (cloB fn η fl ar m) := by
 rw [Kp6]
 congr 1
 funext q
 cases q with
 | f f caps => rfl
 | _ => cases h : E.evs η ar <;> rfl
theorem Mg0 {fn : Fns} {η : List PV} (fl : Bool) (ar : List E) (m : Nat) (f : Nat) (caps : List PV) : cloB fn η fl ar m (.f f caps) = (E.evs η ar).bind fun vs => results fl m η (fn f vs.length (vs ++ caps)) := rfl
theorem Mk6 (f : Nat) (caps : List PV) : Aj7 0 (.f f caps) = some (.f f caps) := rfl
theorem Ln3 (f : Nat) (caps : List PV) : Ah6 (.f f caps) = some (.f f caps) := rfl
def Ar6 (ks : List (List UInt8)) : PV := .m (ks.map fun k => (.s k, .b true))
theorem Kt3 : PV.m [] = Ar6 [] := rfl
theorem Kq7 (ks : List (List UInt8)) : Aj7 0 (Ar6 ks) = some (Ar6 ks) := rfl
theorem Kj4 (ks : List (List UInt8)) : Ah6 (Ar6 ks) = some (Ar6 ks) := rfl
theorem Dg3 (k : List UInt8) : ∀ ks : List (List UInt8), Cy7 (.s k) (ks.map fun k => (.s k, .b true)) = some (if k ∈ ks then some (.b true) else none)
 | [] => by simp [Cy7]
 | x :: ks => by
   simp only [List.map_cons, Cy7, Dg9]
   by_cases h : k = x
   ·subst h; simp
   ·have h2 : (k == x) = false := by simpa using h
    rw [h2]
    simp only [Dg3 k ks, List.mem_cons, h, false_or]
theorem Fl4 (k : List UInt8) : ∀ ks : List (List UInt8), mput (.s k) (.b true) (ks.map fun k => (.s k, .b true)) = some ((if k ∈ ks then ks else ks ++ [k]).map fun k => (.s k, .b true))
 | [] => by simp [mput]
 | x :: ks => by
   simp only [List.map_cons, mput, Dg9]
   by_cases h : k = x
   ·subst h; simp
   ·have h2 : (k == x) = false := by simpa using h
    rw [h2]
    simp only [Fl4 k ks, List.mem_cons, h, false_or, Option.map_some]
    by_cases h3 : k ∈ ks <;> simp [h3]
theorem Kw1 (k : List UInt8) (ks : List (List UInt8)) : Dg2 (Ar6 ks) (.s k) (.b false) = some (.b (decide (k ∈ ks))) := by
 simp only [Dg2, Ar6, Hl1, if_true, Dg3, Option.map_some]
 by_cases h : k ∈ ks <;> simp [h]
theorem Kw0 (k : List UInt8) (ks : List (List UInt8)) : Df9 (Ar6 ks) (.s k) (.b true) = some (Ar6 (if k ∈ ks then ks else ks ++ [k])) := by
 simp only [Df9, Ar6, Hl1, if_true, Fl4, Option.map_some]
theorem Hf5 (a b : List Rec) : Bk1 1 [Aj1 a, Aj1 b] = some (.l 1 ([a, b].map Aj1)) := rfl
set_option linter.defProp false in
def EVC := (And.intro @Js0 (And.intro @Mg0 (And.intro @Mk6 (And.intro @Ln3 (And.intro @Kt3 (And.intro @Kq7 (And.intro @Kj4 (And.intro @Kw1 (And.intro @Kw0 @Hf5)))))))))
end Go.X
/- Addresses and tasks. -/
namespace Go.X

structure Adr where
 v6 : Bool
 hi : Int
 lo : Int
 deriving DecidableEq
structure Tk where
 q : Ques
 name : List UInt8
 zone : List UInt8
 hosts : List (List UInt8)
 addrs : List Adr
 tried : List Adr
 state : Int
 more : Int
 dst : Adr
 asked : Ques
 sent : Int
 chain : List Rec
 last : Msg
 err : Int
def Adr.pv (x : Adr) : PV := .a [.b x.v6, .i .u64 x.hi, .i .u64 x.lo]
def Av8 (l : List Adr) : PV := .l 3 (l.map Adr.pv)
def Dat.adr (d : Dat) : Adr := ⟨d.v6, d.hi, d.lo⟩
def Tk.cells (t : Tk) : List PV := [.s t.q.name, .i .i64 t.q.typ, .s t.name, .s t.zone, Aj3 t.hosts, Av8 t.addrs, Av8 t.tried, .i .i64 t.state, .i .i64 t.more, .b t.dst.v6, .i .u64 t.dst.hi, .i .u64 t.dst.lo, .s t.asked.name, .i .i64 t.asked.typ, .i .i64 t.sent, Aj1 t.chain, .i .i64 t.last.id, .i .i64 t.last.op, .i .i64 t.last.code, .b t.last.resp, .b t.last.aa, .b t.last.tc, .b t.last.rd, .b t.last.ra, .b t.last.ad, .b t.last.cd, .b t.last.dok, .i .i64 t.last.size, .s t.last.q.name, .i .i64 t.last.q.typ, Aj1 t.last.ans, Aj1 t.last.auth, Aj1 t.last.ext, .i .i64 t.err]
def Tk.pv (t : Tk) : PV := .a t.cells
theorem Kq6 (t : Tk) : Aj7 0 t.pv = some (.s t.q.name) := rfl
theorem Kq5 (t : Tk) : Aj7 1 t.pv = some (.i .i64 t.q.typ) := rfl
theorem Kq4 (t : Tk) : Aj7 2 t.pv = some (.s t.name) := rfl
theorem Kq3 (t : Tk) : Aj7 3 t.pv = some (.s t.zone) := rfl
theorem Kq2 (t : Tk) : Aj7 4 t.pv = some (Aj3 t.hosts) := rfl
theorem Kq1 (t : Tk) : Aj7 5 t.pv = some (Av8 t.addrs) := rfl
theorem Kq0 (t : Tk) : Aj7 6 t.pv = some (Av8 t.tried) := rfl
theorem Kk9 (t : Tk) : Aj7 7 t.pv = some (.i .i64 t.state) := rfl
theorem Kk8 (t : Tk) : Aj7 8 t.pv = some (.i .i64 t.more) := rfl
theorem Kk7 (t : Tk) : Aj7 9 t.pv = some (.b t.dst.v6) := rfl
theorem Hk7 (t : Tk) : Aj7 10 t.pv = some (.i .u64 t.dst.hi) := rfl
theorem Hk6 (t : Tk) : Aj7 11 t.pv = some (.i .u64 t.dst.lo) := rfl
theorem Hk5 (t : Tk) : Aj7 12 t.pv = some (.s t.asked.name) := rfl
theorem Hk4 (t : Tk) : Aj7 13 t.pv = some (.i .i64 t.asked.typ) := rfl
theorem Hk3 (t : Tk) : Aj7 14 t.pv = some (.i .i64 t.sent) := rfl
theorem Hk2 (t : Tk) : Aj7 15 t.pv = some (Aj1 t.chain) := rfl
theorem Hk1 (t : Tk) : Aj7 16 t.pv = some (.i .i64 t.last.id) := rfl
theorem Hk0 (t : Tk) : Aj7 17 t.pv = some (.i .i64 t.last.op) := rfl
theorem Hj9 (t : Tk) : Aj7 18 t.pv = some (.i .i64 t.last.code) := rfl
theorem Hj8 (t : Tk) : Aj7 19 t.pv = some (.b t.last.resp) := rfl
theorem Hj7 (t : Tk) : Aj7 20 t.pv = some (.b t.last.aa) := rfl
theorem Hj6 (t : Tk) : Aj7 21 t.pv = some (.b t.last.tc) := rfl
theorem Hj5 (t : Tk) : Aj7 22 t.pv = some (.b t.last.rd) := rfl
theorem Hj4 (t : Tk) : Aj7 23 t.pv = some (.b t.last.ra) := rfl
theorem Hj3 (t : Tk) : Aj7 24 t.pv = some (.b t.last.ad) := rfl
theorem Hj2 (t : Tk) : Aj7 25 t.pv = some (.b t.last.cd) := rfl
theorem Hj1 (t : Tk) : Aj7 26 t.pv = some (.b t.last.dok) := rfl
theorem Hj0 (t : Tk) : Aj7 27 t.pv = some (.i .i64 t.last.size) := rfl
theorem Gt9 (t : Tk) : Aj7 28 t.pv = some (.s t.last.q.name) := rfl
theorem Gt8 (t : Tk) : Aj7 29 t.pv = some (.i .i64 t.last.q.typ) := rfl
theorem Gt7 (t : Tk) : Aj7 30 t.pv = some (Aj1 t.last.ans) := rfl
theorem Gt6 (t : Tk) : Aj7 31 t.pv = some (Aj1 t.last.auth) := rfl
theorem Gt5 (t : Tk) : Aj7 32 t.pv = some (Aj1 t.last.ext) := rfl
theorem Gt4 (t : Tk) : Aj7 33 t.pv = some (.i .i64 t.err) := rfl
theorem Lm3 (t : Tk) : Al3 0 34 t.pv = some t.pv := rfl
theorem Mc2 (t : Tk) : Bg6 34 t.pv = some t.pv := rfl
theorem Gy3 (t : Tk) : Al3 9 3 t.pv = some t.dst.pv := rfl
theorem Dy1 (t : Tk) : Al3 12 2 t.pv = some t.asked.pv := rfl
theorem Jt0 (t : Tk) : Al3 0 2 t.pv = some t.q.pv := rfl
theorem Dp3 (t : Tk) : Al3 16 17 t.pv = some t.last.pv := rfl
theorem Lv6 (x0 : List UInt8) (x1 : Int) (x2 : List UInt8) (x3 : List UInt8) (x4 : List (List UInt8)) (x5 : List Adr) (x6 : List Adr) (x7 : Int) (x8 : Int) (x9 : Bool) (x10 : Int) (x11 : Int) (x12 : List UInt8) (x13 : Int) (x14 : Int) (x15 : List Rec) (x16 : Int) (x17 : Int) (x18 : Int) (x19 : Bool) (x20 : Bool) (x21 : Bool) (x22 : Bool) (x23 : Bool) (x24 : Bool) (x25 : Bool) (x26 : Bool) (x27 : Int) (x28 : List UInt8) (x29 : Int) (x30 : List Rec) (x31 : List Rec) (x32 : List Rec) (x33 : Int) : PV.a [.s x0, .i .i64 x1, .s x2, .s x3, Aj3 x4, Av8 x5, Av8 x6, .i .i64 x7, .i .i64 x8, .b x9, .i .u64 x10, .i .u64 x11, .s x12, .i .i64 x13, .i .i64 x14, Aj1 x15, .i .i64 x16, .i .i64 x17, .i .i64 x18, .b x19, .b x20, .b x21, .b x22, .b x23, .b x24, .b x25, .b x26, .i .i64 x27, .s x28, .i .i64 x29, Aj1 x30, Aj1 x31, Aj1 x32, .i .i64 x33] = Tk.pv ⟨⟨x0, x1⟩, x2, x3, x4, x5, x6, x7, x8, ⟨x9, x10, x11⟩, ⟨x12, x13⟩, x14, x15, ⟨x16, x17, x18, x19, x20, x21, x22, x23, x24, x25, x26, x27, ⟨x28, x29⟩, x30, x31, x32⟩, x33⟩ := rfl
theorem Mf1 (t : Tk) : (⟨t.q, t.name, t.zone, t.hosts, t.addrs, t.tried, t.state, t.more, t.dst, t.asked, t.sent, t.chain, t.last, t.err⟩ : Tk) = t := rfl
theorem Lx4 (m : Msg) : (⟨m.id, m.op, m.code, m.resp, m.aa, m.tc, m.rd, m.ra, m.ad, m.cd, m.dok, m.size, m.q, m.ans, m.auth, m.ext⟩ : Msg) = m := rfl
theorem Lx6 (x : Adr) : (⟨x.v6, x.hi, x.lo⟩ : Adr) = x := rfl
theorem Mg5 (d : Dat) : Ag2 d = d.adr.pv := rfl
theorem Ky7 (v : Bool) (h l : Int) : PV.a [.b v, .i .u64 h, .i .u64 l] = Adr.pv ⟨v, h, l⟩ := rfl
theorem Ld8 (d : Dat) : (⟨d.v6, d.hi, d.lo⟩ : Adr) = d.adr := rfl
theorem Ks4 (x : Adr) : Al3 0 3 x.pv = some x.pv := rfl
theorem Lw2 (x : Adr) : Bg6 3 x.pv = some x.pv := rfl
theorem Hx9 (x : Adr) : Aj7 0 x.pv = some (.b x.v6) := rfl
theorem Hx8 (x : Adr) : Aj7 1 x.pv = some (.i .u64 x.hi) := rfl
theorem Hx7 (x : Adr) : Aj7 2 x.pv = some (.i .u64 x.lo) := rfl
theorem Kz0 (x : Adr) : PV.flat x.pv = true := rfl
theorem Kc4 : PV.l 3 [] = Av8 [] := rfl
theorem Lq7 (x : Adr) : Bk1 3 [x.pv] = some (Av8 [x]) := rfl
theorem Gr7 (l : List Adr) : Ah6 (Av8 l) = some (Av8 l) := rfl
theorem Hx6 (l : List Adr) : Aj7 0 (Av8 l) = some (Av8 l) := rfl
theorem Mb9 (x : Ques) : PV.flat x.pv = true := rfl
theorem Lm9 (n : Int) : Ah6 (.i .u64 n) = some (.i .u64 n) := rfl
theorem Mk3 (n : Int) : Aj7 0 (.i .u64 n) = some (.i .u64 n) := rfl
theorem Kw8 (l : List Adr) : Az6 (Av8 l) = some (.i .i64 (l.length : Int)) := by simp [Av8, Az6]
theorem Kx8 (l : List Adr) (k : IntKind) (z : Int) (h : 0 ≤ z) : Az7 3 (Av8 l) (.i k z) = (l[z.toNat]?).map Adr.pv := by simp [Av8, Hl8 _ _ _ _ h]
theorem Jn1 (l : List Adr) (x : Adr) (h : l.length + 1 ≤ 1073741824) : Ac1 3 (Av8 l) (Av8 [x]) = some (Av8 (l ++ [x])) := by
 have := Dv6 3 (l.map Adr.pv) ([x].map Adr.pv) (by simpa using h)
 simpa [Av8] using this
theorem Kc3 (l m : List Adr) (h : l.length + m.length ≤ 1073741824) : Ac1 3 (Av8 l) (Av8 m) = some (Av8 (l ++ m)) := by
 have := Dv6 3 (l.map Adr.pv) (m.map Adr.pv) (by simpa using h)
 simpa [Av8] using this
theorem Kw4 (l : List Adr) (k k' : IntKind) (a b : Int) (h1 : 0 ≤ a) (h2 : a ≤ b) (h3 : b ≤ (l.length : Int)) : Ab3 3 (Av8 l) (.i k a) (.i k' b) = some (Av8 ((l.take b.toNat).drop a.toNat)) := by
 have := Kw3 3 (l.map Adr.pv) k k' a b h1 h2 (by simpa using h3)
 simpa [Av8, List.map_take, List.map_drop] using this
theorem Mf5 (neg : Bool) (x y : Adr) : Am9 neg true [.b, (.i .u64), (.i .u64)] x.pv y.pv = some (.b (if neg then decide (x ≠ y) else decide (x = y))) := by
 have : Ax1 [.b, (.i .u64), (.i .u64)] [.b x.v6, .i .u64 x.hi, .i .u64 x.lo] [.b y.v6, .i .u64 y.hi, .i .u64 y.lo] = some (decide (x = y)) := by
  simp only [Ax1, eqSc, if_true, Option.some.injEq]
  rw [Bool.eq_iff_iff]
  cases x; cases y; simp
 simp only [Am9, Adr.pv, this, Option.map_some]
 cases neg <;> simp
set_option linter.defProp false in
def EVT := (And.intro @Kq6 (And.intro @Kq5 (And.intro @Kq4 (And.intro @Kq3 (And.intro @Kq2 (And.intro @Kq1 (And.intro @Kq0 (And.intro @Kk9 (And.intro @Kk8 (And.intro @Kk7 (And.intro @Hk7 (And.intro @Hk6 (And.intro @Hk5 (And.intro @Hk4 (And.intro @Hk3 (And.intro @Hk2 (And.intro @Hk1 (And.intro @Hk0 (And.intro @Hj9 (And.intro @Hj8 (And.intro @Hj7 (And.intro @Hj6 (And.intro @Hj5 (And.intro @Hj4 (And.intro @Hj3 (And.intro @Hj2 (And.intro @Hj1 (And.intro @Hj0 (And.intro @Gt9 (And.intro @Gt8 (And.intro @Gt7 (And.intro @Gt6 (And.intro @Gt5 (And.intro @Gt4 (And.intro @Lm3 (And.intro @Mc2 (And.intro @Gy3 (And.intro @Dy1 (And.intro @Jt0 (And.intro @Dp3 (And.intro @Lv6 (And.intro @Mf1 (And.intro @Lx4 (And.intro @Lx6 (And.intro @Mg5 (And.intro @Ky7 (And.intro @Ld8 (And.intro @Ks4 (And.intro @Lw2 (And.intro @Hx9 (And.intro @Hx8 (And.intro @Hx7 (And.intro @Kz0 (And.intro @Kc4 (And.intro @Lq7 (And.intro @Gr7 (And.intro @Hx6 (And.intro @Mb9 (And.intro @Lm9 (And.intro @Mk3 (And.intro @Kw8 (And.intro @Kx8 (And.intro @Jn1 (And.intro @Kc3 (And.intro @Kw4 @Mf5)))))))))))))))))))))))))))))))))))))))))))))))))))))))))))))))))
end Go.X
/- Functions of the package slices, for texts, records and addresses. -/
namespace Go.X.G
open Go Go.X

theorem Jp2 (l : List (List UInt8)) (x : List UInt8) (hl : l.length ≤ 1000000) : ∃ k : Int, (0 ≤ k ↔ x ∈ l) ∧ S Hz5 2 [Aj3 l, .s x] = some [.i .i64 k] := by
 have go : ∀ (i : Nat) (l : List (List UInt8)), ∃ k : Int, k = (match l.findIdx? (· = x) with | some j => ((i + j : Nat) : Int) | none => -1) ∧ (0 ≤ k ↔ x ∈ l) := by
  intro i l
  refine ⟨_, rfl, ?_⟩
  cases h : l.findIdx? (· = x) with
  | none =>
    rw [List.findIdx?_eq_none_iff] at h
    simp only
    constructor
    ·intro h2; omega
    ·intro h2; have := h x h2; simp at this
  | some j =>
    simp only
    constructor
    ·intro _
     rw [List.findIdx?_eq_some_iff_getElem] at h
     obtain ⟨h1, h2, _⟩ := h
     simp at h2
     rw [← h2]; exact List.getElem_mem _
    ·intro _; omega
 obtain ⟨k, hk, hk2⟩ := go 0 l
 refine ⟨k, hk2, ?_⟩
 refine Ml8 (N := l.length + 1) rfl ?_
 have key : Kg4.ev S (l.length + 1) [Aj3 l, .s x] = some (match l.findIdx? (· = x) with | some j => .ret [.i .i64 ((0 + j : Nat) : Int)] | none => .yld 0 []) := by
  refine Aq1 l (fun i => [.i .i64 (i : Int)]) (fun i r => match r.findIdx? (· = x) with | some j => .ret [.i .i64 ((i + j : Nat) : Int)] | none => .yld 0 []) rfl (by omega) (fun i c r hd hi hc => ?_) ?_
  ·by_cases h : x = c
   ·right
    simp (disch := omega) only [Gm4, hc, h, EVM, EVC, EVP, ↓reduceIte, EV, Nat.reduceAdd, Nat.reduceEqDiff, Int.reduceToNat, reduceCtorEq]
    simp [List.findIdx?_cons, Out.goes]
   ·left
    have h' : ¬ c = x := fun e => h e.symm
    simp (disch := omega) only [Gm4, hc, h, EVM, EVC, EVP, ↓reduceIte, EV, Nat.reduceAdd, Nat.reduceEqDiff, Int.reduceToNat, reduceCtorEq]
    refine ⟨trivial, ?_⟩
    simp only [List.findIdx?_cons, h', decide_false, Bool.false_eq_true, if_false]
    cases r.findIdx? (· = x) with
    | none => rfl
    | some j => simp; omega
  ·simp (disch := omega) only [Gm4, EVM, EVC, EVP, ↓reduceIte, EV, Nat.reduceAdd, Nat.reduceEqDiff, Int.reduceToNat, reduceCtorEq]
   simp [Out.goes]
 rw [hk]
 cases h : l.findIdx? (· = x) with
 | none =>
   rw [h] at key
   simp (disch := omega) only [Gm4, key, EVM, EVC, EVP, ↓reduceIte, EV, Nat.reduceAdd, Nat.reduceEqDiff, Int.reduceToNat, reduceCtorEq]
 | some j =>
   rw [h] at key
   simp (disch := omega) only [Gm4, key, EVM, EVC, EVP, ↓reduceIte, EV, Nat.reduceAdd, Nat.reduceEqDiff, Int.reduceToNat, reduceCtorEq]
theorem Ad8 (l : List (List UInt8)) (x : List UInt8) (hl : l.length ≤ 1000000) : S Cy6 2 [Aj3 l, .s x] = some [.b (decide (x ∈ l))] := by
 refine Mr5 (N := 1) rfl ?_
 obtain ⟨k, h1, h2⟩ := Jp2 l x hl
 simp (disch := omega) only [Mh5, h2, EVM, EVC, EVP, ↓reduceIte, EV, Nat.reduceAdd, Nat.reduceEqDiff, Int.reduceToNat, reduceCtorEq]
 simp [h1]
def ixG {α : Type} (p : α → Bool) (k : Nat) : List α → Int
 | [] => -1
 | r :: rs => if p r = true then (k : Int) else ixG p (k + 1) rs
theorem Dt9 {α : Type} (p : α → Bool) : ∀ (l : List α) (k : Nat), (0 ≤ ixG p k l ↔ l.any p = true) ∧ ixG p k l ≤ k + l.length ∧ -1 ≤ ixG p k l
 | [], k => by simp [ixG]
 | r :: rs, k => by
   have ih := Dt9 p rs (k + 1)
   rcases Bool.eq_false_or_eq_true (p r) with h | h
   ·simp [ixG, h]; omega
   ·simp only [ixG, h, List.any_cons, Bool.false_or, List.length_cons]
    refine ⟨by simpa using ih.1, ?_, by simpa using ih.2.2⟩
    have := ih.2.1
    simp only [Bool.false_eq_true, if_false] at this ⊢
    omega
theorem Dw0 (l : List (List UInt8)) (g : Nat) (caps : List PV) (p : List UInt8 → Bool) (hl : l.length ≤ 1000000) (h : ∀ r ∈ l, S g 1 (.s r :: caps) = some [.b (p r)]) : S Dd1 2 [Aj3 l, .f g caps] = some [.i .i64 (ixG p 0 l)] := by
 refine Lr3 (N := l.length + 1) rfl ?_
 have key : Hh1.ev S (l.length + 1) [Aj3 l, .f g caps] = some (if ixG p 0 l = -1 then .yld 0 [] else .ret [.i .i64 (ixG p 0 l)]) := by
  refine Aq1 l (fun i => [.i .i64 (i : Int)]) (fun i r => if ixG p i r = -1 then .yld 0 [] else .ret [.i .i64 (ixG p i r)]) rfl (by omega) (fun i c r hd hi hc => ?_) ?_
  ·have hp := h c (List.mem_of_getElem? hc)
   rcases Bool.eq_false_or_eq_true (p c) with h1 | h1
   ·rw [h1] at hp
    right
    have h2 : ¬ ((i : Int) = -1) := by omega
    simp (disch := omega) only [Dx2, hc, hp, EVT, EVC, EVP, ↓reduceIte, EV, Nat.reduceAdd, Nat.reduceEqDiff, Int.reduceToNat, reduceCtorEq]
    simp [ixG, h1, h2, Out.goes]
   ·rw [h1] at hp
    left
    simp (disch := omega) only [Dx2, hc, hp, EVT, EVC, EVP, ↓reduceIte, EV, Nat.reduceAdd, Nat.reduceEqDiff, Int.reduceToNat, reduceCtorEq]
    simp [ixG, h1]
  ·simp (disch := omega) only [Dx2, EVT, EVC, EVP, ↓reduceIte, EV, Nat.reduceAdd, Nat.reduceEqDiff, Int.reduceToNat, reduceCtorEq]
   simp [ixG, Out.goes]
 by_cases h1 : ixG p 0 l = -1
 ·rw [if_pos h1] at key
  simp (disch := omega) only [Dx2, key, h1, EVT, EVC, EVP, ↓reduceIte, EV, Nat.reduceAdd, Nat.reduceEqDiff, Int.reduceToNat, reduceCtorEq]
 ·rw [if_neg h1] at key
  simp (disch := omega) only [Dx2, key, EVT, EVC, EVP, ↓reduceIte, EV, Nat.reduceAdd, Nat.reduceEqDiff, Int.reduceToNat, reduceCtorEq]
theorem By4 (l : List (List UInt8)) (g : Nat) (caps : List PV) (p : List UInt8 → Bool) (hl : l.length ≤ 1000000) (h : ∀ r ∈ l, S g 1 (.s r :: caps) = some [.b (p r)]) : S Df3 2 [Aj3 l, .f g caps] = some [.b (l.any p)] := by
 refine Lt5 (N := 1) rfl ?_
 simp (disch := omega) only [Ll0, Dw0 l g caps p hl h, EVC, EVP, ↓reduceIte, EV, Nat.reduceAdd, Nat.reduceEqDiff, Int.reduceToNat, reduceCtorEq]
 have := (Dt9 p l 0).1
 rcases Bool.eq_false_or_eq_true (l.any p) with h1 | h1
 ·rw [h1] at this ⊢; simp [this.2 rfl]
 ·rw [h1] at this ⊢
  have h2 : ¬ (0 ≤ ixG p 0 l) := fun h => by simpa using this.1 h
  simp [h2]
theorem Jp4 (l : List Rec) (hl : l.length ≤ 1000000) : S Hz3 1 [Aj1 l] = some [Aj1 l] := by
 refine Ml3 (N := 1) rfl ?_
 have h0 : Ac1 16 (Aj1 []) (Aj1 l) = some (Aj1 l) := by simpa using Aw7 [] l (by simp; omega)
 simp (disch := omega) only [Mg7, h0, EVT, EVC, EVP, ↓reduceIte, EV, Nat.reduceAdd, Nat.reduceEqDiff, Int.reduceToNat, reduceCtorEq]
theorem Dh0 {α : Type} (p : α → Bool) : ∀ (l : List α) (k : Nat), 0 ≤ ixG p k l → ∃ j, ixG p k l = ((k + j : Nat) : Int) ∧ j < l.length ∧ (∀ x ∈ l.take j, p x = false) ∧ ∃ x, l[j]? = some x ∧ p x = true
 | [], k, h => by simp [ixG] at h
 | r :: rs, k, h => by
   rcases Bool.eq_false_or_eq_true (p r) with h1 | h1
   ·exact ⟨0, by simp [ixG, h1], by simp, by simp, r, rfl, h1⟩
   ·have e : ixG p k (r :: rs) = ixG p (k + 1) rs := by simp [ixG, h1]
    rw [e] at h ⊢
    obtain ⟨j, g1, g2, g3, x, g4, g5⟩ := Dh0 p rs (k + 1) h
    refine ⟨j + 1, by rw [g1]; congr 1; omega, by simp; omega, fun y hy => ?_, x, by simpa using g4, g5⟩
    simp only [List.take_succ_cons, List.mem_cons] at hy
    rcases hy with rfl | hy
    ·exact h1
    ·exact g3 y hy
theorem Af8 {α : Type} (p : α → Bool) {l : List α} (h : ∀ x ∈ l, p x = false) : l.filter (fun x => !p x) = l := by
 rw [List.filter_eq_self]
 intro x hx
 simp [h x hx]
def ixF (p : Rec → Bool) (k : Nat) : List Rec → Int
 | [] => -1
 | r :: rs => if p r = true then (k : Int) else ixF p (k + 1) rs
theorem Dw1 (l : List Rec) (g : Nat) (caps : List PV) (p : Rec → Bool) (hl : l.length ≤ 1000000) (h : ∀ r ∈ l, S g 1 (r.pv :: caps) = some [.b (p r)]) : S Gd4 2 [Aj1 l, .f g caps] = some [.i .i64 (ixF p 0 l)] := by
 refine Ml4 (N := l.length + 1) rfl ?_
 have key : Kg2.ev S (l.length + 1) [Aj1 l, .f g caps] = some (if ixF p 0 l = -1 then .yld 0 [] else .ret [.i .i64 (ixF p 0 l)]) := by
  refine Aq1 l (fun i => [.i .i64 (i : Int)]) (fun i r => if ixF p i r = -1 then .yld 0 [] else .ret [.i .i64 (ixF p i r)]) rfl (by omega) (fun i c r hd hi hc => ?_) ?_
  ·have hp := h c (List.mem_of_getElem? hc)
   rcases Bool.eq_false_or_eq_true (p c) with h1 | h1
   ·rw [h1] at hp
    right
    have h2 : ¬ ((i : Int) = -1) := by omega
    simp (disch := omega) only [Gm2, hc, hp, EVC, EVP, ↓reduceIte, EV, Nat.reduceAdd, Nat.reduceEqDiff, Int.reduceToNat, reduceCtorEq]
    simp [ixF, h1, h2, Out.goes]
   ·rw [h1] at hp
    left
    simp (disch := omega) only [Gm2, hc, hp, EVC, EVP, ↓reduceIte, EV, Nat.reduceAdd, Nat.reduceEqDiff, Int.reduceToNat, reduceCtorEq]
    simp [ixF, h1]
  ·simp (disch := omega) only [Gm2, EVC, EVP, ↓reduceIte, EV, Nat.reduceAdd, Nat.reduceEqDiff, Int.reduceToNat, reduceCtorEq]
   simp [ixF, Out.goes]
 by_cases h1 : ixF p 0 l = -1
 ·rw [if_pos h1] at key
  simp (disch := omega) only [Gm2, key, h1, EVC, EVP, ↓reduceIte, EV, Nat.reduceAdd, Nat.reduceEqDiff, Int.reduceToNat, reduceCtorEq]
 ·rw [if_neg h1] at key
  simp (disch := omega) only [Gm2, key, EVC, EVP, ↓reduceIte, EV, Nat.reduceAdd, Nat.reduceEqDiff, Int.reduceToNat, reduceCtorEq]
end Go.X.G
/- Records that go out of a list. -/
namespace Go.X.G
open Go Go.X

theorem Dz9 {step : List PV → Option Out} {id : Nat} {α : Type} (st : α → List PV) (Q : Out → Prop) (I : α → Prop) (μ : α → Nat)
  (h : ∀ a, I a → (∃ b, step (st a) = some (.yld id (st b)) ∧ I b ∧ μ b < μ a) ∨ ∃ o, step (st a) = some o ∧ o.goes id = false ∧ Q o) :
  ∀ (n : Nat) (a : α), I a → μ a < n → ∃ o, Ax2 step id n (st a) = some o ∧ Q o
 | 0, a, _, hn => by omega
 | n + 1, a, ha, hn => by
   simp only [Ax2]
   rcases h a ha with ⟨b, h1, h2, h3⟩ | ⟨o, h1, h2, h3⟩
   ·rw [h1]
    simp only [Option.bind_some, if_true]
    exact Dz9 st Q I μ h n b h2 (by omega)
   ·rw [h1]
    refine ⟨o, ?_, h3⟩
    simp only [Option.bind_some]
    cases o with
    | ret vs => rfl
    | yld j vs =>
      simp only [Out.goes, beq_eq_false_iff_ne, ne_eq] at h2
      simp only []
      rw [if_neg h2]
theorem Hf2 {fn : Fns} {N : Nat} {η : List PV} {id : Nat} {init : List E} {body : T} {α : Type} (st : α → List PV) (Q : Out → Prop) (I : α → Prop) (μ : α → Nat) (a0 : α)
  (h0 : E.evs η init = some (st a0)) (hI : I a0) (hN : μ a0 < N)
  (h : ∀ a, I a → (∃ b, body.ev fn N (η ++ st a) = some (.yld id (st b)) ∧ I b ∧ μ b < μ a) ∨ ∃ o, body.ev fn N (η ++ st a) = some o ∧ o.goes id = false ∧ Q o) :
  ∃ o, (T.loop id init body).ev fn N η = some o ∧ Q o := by
 simp only [T.ev, h0, Option.bind_some]
 exact Dz9 st Q I μ h N a0 hI hN
abbrev zr : Rec := ⟨[], 0, 0, ⟨false, 0, 0, [], [], [], 0, 0, 0, 0, 0, 0, 0⟩⟩
abbrev Gl8 : PV := Rec.pv ⟨[], 0, 0, ⟨false, 0, 0, [], [], [], 0, 0, 0, 0, 0, 0, 0⟩⟩
theorem Mb2 (p : Rec → Bool) : ∀ (l : List Rec) (k : Nat), ixF p k l = ixG p k l
 | [], _ => rfl
 | r :: rs, k => by simp only [ixF, ixG, Mb2 p rs]
theorem Bm2 (l : List Rec) (g : Nat) (caps : List PV) (p : Rec → Bool) (hl : l.length ≤ 1000000) (h : ∀ r ∈ l, S g 1 (r.pv :: caps) = some [.b (p r)]) : S Gd4 2 [Aj1 l, .f g caps] = some [.i .i64 (ixG p 0 l)] := by
 rw [← Mb2]; exact Dw1 l g caps p hl h
theorem Kk3 (n : Int) (h0 : 0 ≤ n) (h1 : n ≤ 1073741824) : Bd2 16 (.i .i64 n) Gl8 = some (Aj1 (List.replicate n.toNat zr)) := by
 have h2 : n ≤ (LIM : Int) := by simp only [LIM]; omega
 have h3 : Gl8.cells.length = 16 := rfl
 simp only [Bd2, h0, h2, h3, and_self, if_true]
 simp [Aj1, Rec.pv, Rec.cells, Dat.cells]
theorem Gl5 (l : List Rec) (g : Nat) (caps : List PV) (p : Rec → Bool) (hl : l.length ≤ 1000000) (h : ∀ r ∈ l, S g 1 (r.pv :: caps) = some [.b (p r)]) : S Df2 1048578 [Aj1 l, .f g caps] = some [Aj1 (l.filter fun x => !p x)] := by
 refine Lt2 (N := l.length + 1) rfl ?_
 have h0 := Bm2 l g caps p hl h
 have hany := (Dt9 p l 0)
 by_cases hneg : ixG p 0 l = -1
 ·have hf : l.any p = false := by
   rcases Bool.eq_false_or_eq_true (l.any p) with h1 | h1
   ·have := hany.1.2 h1; omega
   ·exact h1
  have e : l.filter (fun x => !p x) = l := Af8 p (fun x hx => by
   rw [List.any_eq_false] at hf
   simpa using hf x hx)
  rw [hneg] at h0
  rw [e]
  simp (disch := omega) only [Dx5, h0, EVT, EVM, EVC, EVP, ↓reduceIte, EV, Nat.reduceAdd, Nat.reduceEqDiff, Int.reduceToNat, reduceCtorEq]
 ·obtain ⟨j0, g1, g2, g3, x0, g4, g5⟩ := Dh0 p l 0 (by have := hany.2.2; omega)
  rw [g1] at h0
  simp only [Nat.zero_add] at h0
  have key : ∃ s : List Rec, s.length = l.length ∧ s.take (l.filter fun x => !p x).length = l.filter (fun x => !p x) ∧ Hh5.ev S (l.length + 1) [Aj1 l, .f g caps, .i .i64 (j0 : Int)] = some (.yld 0 [.i .i64 (((l.filter fun x => !p x).length : Nat) : Int), Aj1 s]) := by
   let nx : Nat × Nat × List Rec → Nat × Nat × List Rec := fun a => match l[a.2.1]? with
    | some c => if p c = true then (a.1, a.2.1 + 1, a.2.2) else (a.1 + 1, a.2.1 + 1, a.2.2.set a.1 c)
    | none => a
   let fin : Nat → Nat × Nat × List Rec → Nat × Nat × List Rec := fun n a => Nat.rec a (fun _ b => nx b) n
   have fin_s : ∀ n a, fin (n + 1) a = nx (fin n a) := fun _ _ => rfl
   have fin_c : ∀ n a, fin (n + 1) a = fin n (nx a) := by
    intro n
    induction n with
    | zero => intro a; rfl
    | succ n ih => intro a; exact congrArg nx (ih a)
   let I : Nat × Nat × List Rec → Prop := fun a => a.1 < a.2.1 ∧ a.2.1 ≤ l.length ∧ a.2.2.length = l.length ∧ a.2.2.take a.1 = (l.take a.2.1).filter (fun x => !p x) ∧ a.2.2.drop a.2.1 = l.drop a.2.1
   have I_nx : ∀ a, I a → a.2.1 < l.length → I (nx a) ∧ (nx a).2.1 = a.2.1 + 1 := by
    rintro ⟨i, j, s⟩ ⟨i1, i2, i3, i4, i5⟩ hj
    simp only at i1 i2 i3 i4 i5 hj
    have hc : l[j]? = some l[j] := List.getElem?_eq_getElem hj
    have ht : l.take (j + 1) = l.take j ++ [l[j]] := by rw [List.take_add_one, hc]; rfl
    have hdrop : s.drop (j + 1) = l.drop (j + 1) := by
     rw [← List.drop_drop (i := 1) (j := j), i5, List.drop_drop]
    have hlen : i = ((l.take j).filter fun x => !p x).length := by
     rw [← i4, List.length_take]; omega
    simp only [nx, hc]
    rcases Bool.eq_false_or_eq_true (p l[j]) with h1 | h1
    ·simp only [h1, if_true]
     refine ⟨⟨by simp only; omega, by simp only; omega, i3, ?_, hdrop⟩, trivial⟩
     simp only
     rw [ht, List.filter_append, i4]
     simp [h1]
    ·simp only [h1, Bool.false_eq_true, if_false]
     refine ⟨⟨by simp only; omega, by simp only; omega, by simpa using i3, ?_, ?_⟩, trivial⟩
     ·simp only
      rw [ht, List.filter_append, ← i4, List.take_add_one, List.getElem?_set_self (by omega), List.take_set_of_le (by omega)]
      simp [h1]
     ·simp only
      rw [List.drop_set_of_lt (by omega), hdrop]
   have I_fin : ∀ n a, I a → a.2.1 + n ≤ l.length → I (fin n a) ∧ (fin n a).2.1 = a.2.1 + n := by
    intro n
    induction n with
    | zero => intro a ha _; exact ⟨ha, rfl⟩
    | succ n ih =>
      intro a ha hn
      obtain ⟨q1, q2⟩ := ih a ha (by omega)
      obtain ⟨q3, q4⟩ := I_nx _ q1 (by omega)
      rw [fin_s]
      exact ⟨q3, by rw [q4, q2]; omega⟩
   have I0 : I (j0, j0 + 1, l) := by
    refine ⟨by simp only; omega, by simp only; omega, rfl, ?_, rfl⟩
    simp only
    rw [List.take_add_one, g4, List.filter_append, Af8 p g3]
    simp [g5]
   obtain ⟨z1, z2⟩ := I_fin (l.length - (j0 + 1)) (j0, j0 + 1, l) I0 (by simp only; omega)
   simp only at z2
   refine ⟨(fin (l.length - (j0 + 1)) (j0, j0 + 1, l)).2.2, z1.2.2.1, ?_, ?_⟩
   ·have q := z1.2.2.2.1
    have e1 : (fin (l.length - (j0 + 1)) (j0, j0 + 1, l)).2.1 = l.length := by rw [z2]; omega
    rw [e1, List.take_length] at q
    rw [← q, List.length_take, z1.2.2.1]
    have := z1.1
    rw [Nat.min_eq_left (by omega)]
   ·have hlen : (fin (l.length - (j0 + 1)) (j0, j0 + 1, l)).1 = (l.filter fun x => !p x).length := by
     have q := z1.2.2.2.1
     have e1 : (fin (l.length - (j0 + 1)) (j0, j0 + 1, l)).2.1 = l.length := by rw [z2]; omega
     rw [e1, List.take_length] at q
     have q2 := congrArg List.length q
     have := z1.1
     rw [List.length_take, z1.2.2.1, Nat.min_eq_left (by omega)] at q2
     exact q2
    refine Eq.trans (Ax4 (α := Nat × Nat × List Rec) (fun a => [.i .i64 (a.1 : Int), .i .i64 (a.2.1 : Int), Aj1 a.2.2]) (fun a => .yld 0 [.i .i64 ((fin (l.length - a.2.1) a).1 : Int), Aj1 (fin (l.length - a.2.1) a).2.2]) I (fun a => l.length - a.2.1) (j0, j0 + 1, l) ?_ I0 (by simp only; omega) ?_) ?_
    ·simp (disch := omega) only [EVT, EVM, EVC, EVP, ↓reduceIte, EV, Nat.reduceAdd, Nat.reduceEqDiff, Int.reduceToNat, reduceCtorEq]
    ·rintro ⟨i, j, s⟩ hI
     obtain ⟨i1, i2, i3, i4, i5⟩ := hI
     simp only at i1 i2 i3 i4 i5
     by_cases hj : j < l.length
     ·left
      have hc : l[j]? = some l[j] := List.getElem?_eq_getElem hj
      have hsc : s[j]? = some l[j] := by
       have := congrArg (fun q => q[0]?) i5
       simpa [List.getElem?_drop, hc] using this
      have hsi : ∃ y, s[i]? = some y := ⟨_, List.getElem?_eq_getElem (by omega)⟩
      obtain ⟨y, hsi⟩ := hsi
      obtain ⟨q3, q4⟩ := I_nx (i, j, s) ⟨i1, i2, i3, i4, i5⟩ hj
      have hp := h l[j] (List.getElem_mem hj)
      refine ⟨nx (i, j, s), ?_, q3, by rw [q4]; simp only; omega, ?_⟩
      ·have hjs : (j : Int) < (s.length : Int) := by omega
       rcases Bool.eq_false_or_eq_true (p l[j]) with h1 | h1
       ·rw [h1] at hp
        simp only [nx, hc, h1, if_true]
        simp (disch := omega) only [Dx5, hjs, hsc, hp, EVT, EVM, EVC, EVP, ↓reduceIte, EV, Nat.reduceAdd, Nat.reduceEqDiff, Int.reduceToNat, reduceCtorEq]
       ·rw [h1] at hp
        simp only [nx, hc, h1, Bool.false_eq_true, if_false]
        simp (disch := omega) only [Dx5, hjs, hsc, hsi, hp, EVT, EVM, EVC, EVP, ↓reduceIte, EV, Nat.reduceAdd, Nat.reduceEqDiff, Int.reduceToNat, reduceCtorEq]
      ·have e1 : l.length - j = (l.length - (j + 1)) + 1 := by omega
       rw [q4]
       simp only
       rw [e1, fin_c]
     ·right
      have hjs : ¬ (j : Int) < (s.length : Int) := by omega
      have e1 : l.length - j = 0 := by omega
      simp only [e1]
      simp (disch := omega) only [Dx5, hjs, EVT, EVM, EVC, EVP, ↓reduceIte, EV, Nat.reduceAdd, Nat.reduceEqDiff, Int.reduceToNat, reduceCtorEq]
      exact ⟨rfl, rfl⟩
    ·simp only
     rw [hlen]
  obtain ⟨s, hs1, hs2, key⟩ := key
  have hle : (l.filter fun x => !p x).length ≤ l.length := List.length_filter_le _ _
  have e0 : ¬ ((j0 : Int) = -1) := by omega
  generalize (l.filter fun x => !p x) = fl at *
  have hsl1 : Ab3 16 (Aj1 s) (.i .i64 ((fl.length : Nat) : Int)) (.i .i64 (s.length : Int)) = some (Aj1 (s.drop fl.length)) := by
   rw [Ap4 _ _ _ _ _ (by omega) (by omega) (by omega)]
   simp
  have hsl2 : Ab3 16 (Aj1 s) (.i .i64 0) (.i .i64 ((fl.length : Nat) : Int)) = some (Aj1 fl) := by
   rw [Ap4 _ _ _ _ _ (by omega) (by omega) (by omega)]
   simp [hs2]
  have hrep : Bd2 16 (.i .i64 ((s.length : Int) - (fl.length : Int))) Gl8 = some (Aj1 (List.replicate (s.length - fl.length) zr)) := by
   rw [Kk3 _ (by omega) (by omega)]
   congr 3; omega
  have happ : Ac1 16 (Aj1 fl) (Aj1 (List.replicate (s.length - fl.length) zr)) = some (Aj1 (fl ++ List.replicate (s.length - fl.length) zr)) := Aw7 _ _ (by simp; omega)
  have hsl3 : Ab3 16 (Aj1 (fl ++ List.replicate (s.length - fl.length) zr)) (.i .i64 0) (.i .i64 ((fl.length : Nat) : Int)) = some (Aj1 fl) := by
   rw [Ap4 _ _ _ _ _ (by omega) (by omega) (by simp; omega)]
   simp
  simp (disch := omega) only [Dx5, h0, e0, key, hsl1, hsl2, hrep, happ, hsl3, EVT, EVM, EVC, EVP, ↓reduceIte, EV, Nat.reduceAdd, Nat.reduceEqDiff, Int.reduceToNat, reduceCtorEq]
def Ly3 : PV → PV → Int
 | .s a, .s b => cmpN a b
 | _, _ => 0
theorem Dv9 (l : List (List UInt8)) (hl : l.length ≤ 1000000) (hs : ∀ x ∈ l, x.length ≤ 9223372036854775807) : S Bj7 1048578 [Aj3 l, .f Al0 []] = some [Aj3 (l.mergeSort fun x y => !decide (cmpN y x < 0))] := by
 have hm : ∀ x ∈ l.map PV.s, ∃ a ∈ l, x = .s a := fun x hx => by
  obtain ⟨a, h1, h2⟩ := List.mem_map.1 hx
  exact ⟨a, h1, h2.symm⟩
 have h := Kj3 (tab := tab) (xs := exts) (ss := Dp6) (f := Bj7) (s := Gr2) Ks6 Kt1 (g := Al0) (caps := []) (l := l.map PV.s) (by decide) (by simp; omega)
  (fun x hx => by obtain ⟨a, _, rfl⟩ := hm x hx; rfl) Ly3
  (fun x hx y hy => by
   obtain ⟨a, ha, rfl⟩ := hm x hx
   obtain ⟨b, hb, rfl⟩ := hm y hy
   exact Ff6 a b (hs a ha) (hs b hb))
  (fun x hx => by obtain ⟨a, _, rfl⟩ := hm x hx; show ¬ cmpN a a < 0; rw [Av4]; exact to_N.irr a)
  (fun x hx y hy z hz h1 h2 => by
   obtain ⟨a, _, rfl⟩ := hm x hx
   obtain ⟨b, _, rfl⟩ := hm y hy
   obtain ⟨c, _, rfl⟩ := hm z hz
   exact (Av4 a c).2 (to_N.tr _ _ _ ((Av4 a b).1 h1) ((Av4 b c).1 h2)))
  (fun x hx y hy z hz h1 h2 => by
   obtain ⟨a, _, rfl⟩ := hm x hx
   obtain ⟨b, _, rfl⟩ := hm y hy
   obtain ⟨c, _, rfl⟩ := hm z hz
   exact fun h3 => to_N.ntr (fun q => h1 ((Av4 a b).2 q)) (fun q => h2 ((Av4 b c).2 q)) ((Av4 a c).1 h3))
  (fun x hx y hy h1 h2 => by
   obtain ⟨a, _, rfl⟩ := hm x hx
   obtain ⟨b, _, rfl⟩ := hm y hy
   rcases to_N.tri a b with q | q | q
   ·exact absurd ((Av4 a b).2 q) h1
   ·rw [q]
   ·exact absurd ((Av4 b a).2 q) h2)
 have e : (l.map PV.s).mergeSort (fun x y => !decide (Ly3 y x < 0)) = (l.mergeSort fun x y => !decide (cmpN y x < 0)).map PV.s := (List.map_mergeSort (r := fun x y => !decide (cmpN y x < 0)) (s := fun x y => !decide (Ly3 y x < 0)) (f := PV.s) fun a _ b _ => rfl).symm
 rw [e] at h
 exact h
theorem At1 (l : List (List UInt8)) (hl : l.length ≤ 1000000) : S Bf5 1048577 [Aj3 l] = some [Aj3 (cpt eqs l)] := by
 refine Lt3 (N := l.length + 2) rfl ?_
 by_cases h2 : (l.length : Int) < 2
 ·have e : cpt eqs l = l := by
   match l, h2 with
   | [], _ => rfl
   | [x], _ => rfl
   | _ :: _ :: _, h => simp at h; omega
  rw [e]
  simp (disch := omega) only [At4, h2, EVT, EVM, EVC, EVP, ↓reduceIte, EV, Nat.reduceAdd, Nat.reduceEqDiff, Int.reduceToNat, reduceCtorEq]
 ·-- the inner Ax2, from a place where two neighbours are equal
  have inner : ∀ k : Nat, 1 ≤ k → k < l.length → cpt eqs (l.take (k + 1)) = l.take k → ∃ s : List (List UInt8), s.length = l.length ∧ s.take (cpt eqs l).length = cpt eqs l ∧ Hg7.ev S (l.length + 2) [Aj3 l, .i .i64 (k : Int), Aj3 l] = some (.yld 2 [.i .i64 ((cpt eqs l).length : Int), Aj3 s]) := by
   intro k hk1 hk hcp
   have key := Hf2 (fn := S) (N := l.length + 2) (η := [Aj3 l, .i .i64 (k : Int), Aj3 l]) (id := 3) (init := [(.v 1), (.c (.i .i64 (1))), (.v 2)]) (body := Dq8) (α := Nat × Nat × List (List UInt8))
    (fun a => [.i .i64 (a.1 : Int), .i .i64 (a.2.1 : Int), Aj3 a.2.2])
    (fun o => ∃ s : List (List UInt8), s.length = l.length ∧ s.take (cpt eqs l).length = cpt eqs l ∧ o = .yld 2 [.i .i64 ((cpt eqs l).length : Int), Aj3 s])
    (fun a => 1 ≤ a.2.1 ∧ k + a.2.1 ≤ l.length ∧ a.1 < k + a.2.1 ∧ a.2.2.length = l.length ∧ a.2.2.take a.1 = cpt eqs (l.take (k + a.2.1)) ∧ (cpt eqs (l.take (k + a.2.1))).length = a.1 ∧ a.2.2.drop (k + a.2.1 - 1) = l.drop (k + a.2.1 - 1))
    (fun a => l.length - a.2.1) (k, 1, l) (by simp (disch := omega) only [EVT, EVM, EVC, EVP, ↓reduceIte, EV, Nat.reduceAdd, Nat.reduceEqDiff, Int.reduceToNat, reduceCtorEq])
    ⟨by simp, by simp; omega, by simp, rfl, by simp only; rw [hcp], by simp only; rw [hcp, List.length_take]; omega, rfl⟩ (by simp only; omega) ?_
   ·obtain ⟨o, h3, s, h4, h5, rfl⟩ := key
    exact ⟨s, h4, h5, h3⟩
   ·rintro ⟨i, j, s⟩ ⟨a1, a2, a3, a4, a5, a6, a7⟩
    simp only at a1 a2 a3 a4 a5 a6 a7
    by_cases hj : k + j < l.length
    ·left
     have c1 : s[k + j]? = l[k + j]? := by
      have := congrArg (fun q => q[1]?) a7
      simp only [List.getElem?_drop] at this
      rwa [show k + j - 1 + 1 = k + j by omega] at this
     have c0 : s[k + j - 1]? = l[k + j - 1]? := by
      have := congrArg (fun q => q[0]?) a7
      simpa only [List.getElem?_drop, Nat.add_zero] using this
     have g1 : l[k + j]? = some (l[k + j]'hj) := List.getElem?_eq_getElem hj
     have g0 : l[k + j - 1]? = some (l[k + j - 1]'(by omega)) := List.getElem?_eq_getElem (by omega)
     have tk : l.take (k + (j + 1)) = l.take (k + j) ++ [l[k + j]'hj] := by rw [show k + (j + 1) = (k + j) + 1 by omega, List.take_add_one, g1]; rfl
     have ne : l.take (k + j) ≠ [] := by intro h; have := congrArg List.length h; rw [List.length_take, List.length_nil] at this; omega
     have gl : (l.take (k + j)).getLast ne = l[k + j - 1]'(by omega) := by
      rw [List.getLast_eq_getElem]
      simp only [List.getElem_take, List.length_take]
      congr 1; omega
     have cs := Cb0 eqs (l[k + j]'hj) (l.take (k + j)) ne
     rw [← tk, gl] at cs
     generalize l[k + j]'hj = x at *
     generalize l[k + j - 1]'(by omega) = y at *
     have hjj : (j : Int) < (s.length : Int) - (k : Int) := by omega
     have i1 : Az7 1 (Aj3 s) (.i .i64 ((k : Int) + (j : Int))) = some (.s x) := by rw [Ap7 _ _ _ (by omega), show ((k : Int) + (j : Int)).toNat = k + j by omega, c1, g1]; rfl
     have i0 : Az7 1 (Aj3 s) (.i .i64 ((k : Int) + ((j : Int) - 1))) = some (.s y) := by rw [Ap7 _ _ _ (by omega), show ((k : Int) + ((j : Int) - 1)).toNat = k + j - 1 by omega, c0, g0]; rfl
     have ls : Ab3 1 (Aj3 s) (.i .i64 (k : Int)) (.i .i64 (s.length : Int)) = some (Aj3 (s.drop k)) := by
      rw [Ad2 _ _ _ _ _ (by omega) (by omega) (by omega)]
      simp
     have e1 : (s.drop k)[j]? = some x := by rw [List.getElem?_drop, c1, g1]
     have e0 : (s.drop k)[j - 1]? = some y := by rw [List.getElem?_drop, show k + (j - 1) = k + j - 1 by omega, c0, g0]
     have si : ∃ w, s[i]? = some w := ⟨_, List.getElem?_eq_getElem (by omega)⟩
     obtain ⟨w, si⟩ := si
     have ej : ((j : Int) - 1).toNat = j - 1 := by omega
     by_cases hxy : x = y
     ·refine ⟨(i, j + 1, s), ?_, ⟨by simp, by simp only; omega, by simp only; omega, a4, ?_, ?_, ?_⟩, by simp only; omega⟩
      ·simp (disch := omega) only [At4, hjj, i1, i0, ls, e1, e0, ej, hxy, EVT, EVM, EVC, EVP, ↓reduceIte, EV, Nat.reduceAdd, Nat.reduceEqDiff, Int.reduceToNat, reduceCtorEq]
      ·simp only; rw [cs, a5]; simp [eqs, hxy]
      ·simp only; rw [cs, List.length_append, a6]; simp [eqs, hxy]
      ·simp only
       rw [show k + (j + 1) - 1 = (k + j - 1) + 1 by omega, ← List.drop_drop, ← List.drop_drop, a7]
     ·refine ⟨(i + 1, j + 1, s.set i x), ?_, ⟨by simp, by simp only; omega, by simp only; omega, by simpa using a4, ?_, ?_, ?_⟩, by simp only; omega⟩
      ·simp (disch := omega) only [At4, hjj, i1, i0, ls, e1, e0, ej, si, hxy, EVT, EVM, EVC, EVP, ↓reduceIte, EV, Nat.reduceAdd, Nat.reduceEqDiff, Int.reduceToNat, reduceCtorEq]
      ·simp only
       rw [cs, List.take_add_one, List.getElem?_set_self (by omega), List.take_set_of_le (by omega), a5]
       simp [eqs, hxy]
      ·simp only; rw [cs, List.length_append, a6]; simp [eqs, hxy]
      ·simp only
       rw [show k + (j + 1) - 1 = (k + j - 1) + 1 by omega, List.drop_set_of_lt (by omega), ← List.drop_drop, ← List.drop_drop, a7]
    ·right
     have ek : k + j = l.length := by omega
     rw [ek, List.take_length] at a5 a6
     have hjj : ¬ (j : Int) < (s.length : Int) - (k : Int) := by omega
     refine ⟨.yld 2 [.i .i64 (i : Int), Aj3 s], ?_, rfl, s, a4, by rw [a6]; exact a5, by rw [a6]⟩
     simp (disch := omega) only [At4, hjj, EVT, EVM, EVC, EVP, ↓reduceIte, EV, Nat.reduceAdd, Nat.reduceEqDiff, Int.reduceToNat, reduceCtorEq]
  have key : Hh6.ev S (l.length + 2) [Aj3 l] = some (if cpt eqs l = l then .yld 0 [Aj3 l] else .ret [Aj3 (cpt eqs l)]) := by
   have := Hf2 (fn := S) (N := l.length + 2) (η := [Aj3 l]) (id := 1) (init := [(.c (.i .i64 (1))), (.v 0)]) (body := Dv3) (α := Nat)
    (fun k => [.i .i64 (k : Int), Aj3 l]) (fun o => o = if cpt eqs l = l then .yld 0 [Aj3 l] else .ret [Aj3 (cpt eqs l)])
    (fun k => 1 ≤ k ∧ k ≤ l.length ∧ cpt eqs (l.take k) = l.take k) (fun k => l.length - k) 1 (by simp (disch := omega) only [EVT, EVM, EVC, EVP, ↓reduceIte, EV, Nat.reduceAdd, Nat.reduceEqDiff, Int.reduceToNat, reduceCtorEq])
    ⟨Nat.le_refl 1, by omega, by cases l with
     | nil => simp at h2
     | cons x r => rfl⟩ (by omega) ?_
   ·obtain ⟨o, h3, h4⟩ := this
    rw [← h4]; exact h3
   ·rintro k ⟨k1, k2, k3⟩
    by_cases hk : k < l.length
    ·have g1 : l[k]? = some l[k] := List.getElem?_eq_getElem hk
     have g0 : l[k - 1]? = some (l[k - 1]'(by omega)) := List.getElem?_eq_getElem (by omega)
     have tk : l.take (k + 1) = l.take k ++ [l[k]] := by rw [List.take_add_one, g1]; rfl
     have ne : l.take k ≠ [] := by intro h; have := congrArg List.length h; rw [List.length_take, List.length_nil] at this; omega
     have gl : (l.take k).getLast ne = l[k - 1]'(by omega) := by
      rw [List.getLast_eq_getElem]
      simp only [List.getElem_take, List.length_take]
      congr 1; omega
     have cs := Cb0 eqs l[k] (l.take k) ne
     rw [← tk, gl, k3] at cs
     have hkk : (k : Int) < (l.length : Int) := by omega
     have i1 : Az7 1 (Aj3 l) (.i .i64 (k : Int)) = some (.s l[k]) := by rw [Ap7 _ _ _ (by omega), show ((k : Int)).toNat = k by omega, g1]; rfl
     have i0 : Az7 1 (Aj3 l) (.i .i64 ((k : Int) - 1)) = some (.s (l[k - 1]'(by omega))) := by rw [Ap7 _ _ _ (by omega), show ((k : Int) - 1).toNat = k - 1 by omega, g0]; rfl
     by_cases hxy : l[k] = l[k - 1]'(by omega)
     ·right
      have cs' : cpt eqs (l.take (k + 1)) = l.take k := by rw [cs]; simp [eqs, hxy]
      obtain ⟨s, s1, s2, s3⟩ := inner k k1 hk cs'
      have hlt : cpt eqs l ≠ l := by
       intro h
       have q : (cpt eqs l).length ≤ (cpt eqs (l.take (k + 1))).length + (l.drop (k + 1)).length := by
        have : ∀ (b a : List (List UInt8)), a ≠ [] → (cpt eqs (a ++ b)).length ≤ (cpt eqs a).length + b.length := by
         intro b
         induction b with
         | nil => intro a _; simp
         | cons x r ih =>
           intro a ha
           have h1 := ih (a ++ [x]) (by simp)
           rw [Cb0 _ _ _ ha] at h1
           rw [show a ++ x :: r = a ++ [x] ++ r by simp]
           refine Nat.le_trans h1 ?_
           rw [List.length_append]
           split <;> simp <;> omega
        have h3 := this (l.drop (k + 1)) (l.take (k + 1)) (by intro h; have := congrArg List.length h; rw [List.length_take, List.length_nil] at this; omega)
        rwa [List.take_append_drop] at h3
       rw [h, cs', List.length_take, List.length_drop] at q
       omega
      have hlen := Hn7 eqs l
      refine ⟨.ret [Aj3 (cpt eqs l)], ?_, rfl, by rw [if_neg hlt]⟩
      generalize cpt eqs l = fl at *
      have ls : Ab3 1 (Aj3 l) (.i .i64 (k : Int)) (.i .i64 (l.length : Int)) = some (Aj3 (l.drop k)) := by
       rw [Ad2 _ _ _ _ _ (by omega) (by omega) (by omega)]
       simp
      have hsl1 : Ab3 1 (Aj3 s) (.i .i64 ((fl.length : Nat) : Int)) (.i .i64 (s.length : Int)) = some (Aj3 (s.drop fl.length)) := by
       rw [Ad2 _ _ _ _ _ (by omega) (by omega) (by omega)]
       simp
      have hsl2 : Ab3 1 (Aj3 s) (.i .i64 0) (.i .i64 ((fl.length : Nat) : Int)) = some (Aj3 fl) := by
       rw [Ad2 _ _ _ _ _ (by omega) (by omega) (by omega)]
       simp [s2]
      have hrep : Bd2 1 (.i .i64 ((s.length : Int) - (fl.length : Int))) (.s []) = some (Aj3 (List.replicate (s.length - fl.length) [])) := by
       rw [Fh1 _ (by omega) (by omega)]
       congr 3; omega
      have happ : Ac1 1 (Aj3 fl) (Aj3 (List.replicate (s.length - fl.length) [])) = some (Aj3 (fl ++ List.replicate (s.length - fl.length) [])) := Bz5 _ _ (by simp; omega)
      have hsl3 : Ab3 1 (Aj3 (fl ++ List.replicate (s.length - fl.length) [])) (.i .i64 0) (.i .i64 ((fl.length : Nat) : Int)) = some (Aj3 fl) := by
       rw [Ad2 _ _ _ _ _ (by omega) (by omega) (by simp; omega)]
       simp
      simp (disch := omega) only [At4, hkk, i1, i0, hxy, ls, s3, hsl1, hsl2, hrep, happ, hsl3, EVT, EVM, EVC, EVP, ↓reduceIte, EV, Nat.reduceAdd, Nat.reduceEqDiff, Int.reduceToNat, reduceCtorEq]
     ·left
      refine ⟨k + 1, ?_, ⟨by omega, by omega, ?_⟩, by omega⟩
      ·simp (disch := omega) only [At4, hkk, i1, i0, hxy, EVT, EVM, EVC, EVP, ↓reduceIte, EV, Nat.reduceAdd, Nat.reduceEqDiff, Int.reduceToNat, reduceCtorEq]
      ·rw [cs, tk]; simp [eqs, hxy]
    ·right
     have e : k = l.length := by omega
     subst e
     rw [List.take_length] at k3
     refine ⟨_, ?_, ?_, rfl⟩
     ·rw [if_pos k3]
      simp (disch := omega) only [At4, EVT, EVM, EVC, EVP, ↓reduceIte, EV, Nat.reduceAdd, Nat.reduceEqDiff, Int.reduceToNat, reduceCtorEq]
     ·rw [if_pos k3]; rfl
  by_cases h : cpt eqs l = l
  ·rw [if_pos h] at key
   rw [h]
   simp (disch := omega) only [At4, h2, key, EVT, EVM, EVC, EVP, ↓reduceIte, EV, Nat.reduceAdd, Nat.reduceEqDiff, Int.reduceToNat, reduceCtorEq]
  ·rw [if_neg h] at key
   simp (disch := omega) only [At4, h2, key, EVT, EVM, EVC, EVP, ↓reduceIte, EV, Nat.reduceAdd, Nat.reduceEqDiff, Int.reduceToNat, reduceCtorEq]
end Go.X.G
/- Delegations and names of a zone, as the program finds them. -/
namespace Go.X.G
open Go Go.X

theorem Hn6 {z : Zone} {n b : List UInt8} {c : Rec} (hI : b = [] ∨ under n b = true) : (if (Ak8 z c && under n c.name && (decide (b = []) || decide ((lbl c.name).length < (lbl b).length))) = true then c.name else b) = [] ∨ under n (if (Ak8 z c && under n c.name && (decide (b = []) || decide ((lbl c.name).length < (lbl b).length))) = true then c.name else b) = true := by
 split
 ·rename_i h
  simp only [Bool.and_eq_true] at h
  exact .inr h.1.2
 ·exact hI
theorem Gm0 (z : Zone) (n : List UInt8) (hz : z.wf) (hl : z.recs.length ≤ 1000000) (hn : n.length ≤ 9223372036854775807) : S Gg1 2 [z.pv, .s n] = some [.s (cutN z n), .b (decide (cutN z n ≠ []))] := by
 refine Mt0 (N := z.recs.length + 1) rfl ?_
 have g1 := hz.origin
 unfold strr at g1
 have key : Km2.ev S (z.recs.length + 1) [z.pv, .s n] = some (.yld 0 [.s (cutF z n [] z.recs)]) := by
  refine Ak5 z.recs (fun i (b : List UInt8) => [.s b, .i .i64 (i : Int)]) (fun i b r => .yld 0 [.s (cutF z n b r)]) (fun i b => b = [] ∨ under n b = true) [] rfl (.inl rfl) (by omega) (fun i b c r hd hi hc hI => ?_) (fun b hI => ?_)
  ·left
   have g2 := (hz.recs.2 c (List.mem_of_getElem? hc)).name
   unfold strr at g2
   refine ⟨if Ak8 z c && under n c.name && (decide (b = []) || decide ((lbl c.name).length < (lbl b).length)) then c.name else b, ?_, Hn6 hI, rfl⟩
   by_cases h1 : c.typ = 2
   ·by_cases h2 : c.name = z.origin
    ·simp (disch := omega) only [Cv8, hc, h1, h2, EVM, EVC, EVP, ↓reduceIte, EV, Nat.reduceAdd, Nat.reduceEqDiff, Int.reduceToNat, reduceCtorEq]
     simp [Ak8, Aw9, h2]
    ·have k1 := Ab0 c.name z.origin g2 g1
     have k2 := Ab0 n c.name hn g2
     rcases Bool.eq_false_or_eq_true (under c.name z.origin) with h3 | h3
     ·rcases Bool.eq_false_or_eq_true (under n c.name) with h4 | h4
      ·by_cases h5 : b = []
       ·rw [h3] at k1
        rw [h4] at k2
        simp (disch := omega) only [Cv8, hc, h1, h2, h3, h4, h5, k1, k2, EVM, EVC, EVP, ↓reduceIte, EV, Nat.reduceAdd, Nat.reduceEqDiff, Int.reduceToNat, reduceCtorEq]
        simp [Ak8, Aw9, h1, h2, h3, h4, h5]
       ·have hb := hI.resolve_left h5
        have e := Jn3 h4 hb
        rw [h3] at k1
        rw [h4] at k2
        by_cases h6 : c.name.length < b.length
        ·have h7 := e.1 h6
         have h8 : (c.name.length : Int) < (b.length : Int) := by omega
         simp (disch := omega) only [Cv8, hc, h1, h2, h3, h4, h5, h8, k1, k2, EVM, EVC, EVP, ↓reduceIte, EV, Nat.reduceAdd, Nat.reduceEqDiff, Int.reduceToNat, reduceCtorEq]
         simp [Ak8, Aw9, h1, h2, h3, h4, h5, h7]
        ·have h7 : ¬ (lbl c.name).length < (lbl b).length := fun q => h6 (e.2 q)
         have h8 : ¬ (c.name.length : Int) < (b.length : Int) := by omega
         simp (disch := omega) only [Cv8, hc, h1, h2, h3, h4, h5, h8, k1, k2, EVM, EVC, EVP, ↓reduceIte, EV, Nat.reduceAdd, Nat.reduceEqDiff, Int.reduceToNat, reduceCtorEq]
         simp [Ak8, Aw9, h1, h2, h3, h4, h5, h7]
      ·rw [h3] at k1
       rw [h4] at k2
       simp (disch := omega) only [Cv8, hc, h1, h2, h3, h4, k1, k2, EVM, EVC, EVP, ↓reduceIte, EV, Nat.reduceAdd, Nat.reduceEqDiff, Int.reduceToNat, reduceCtorEq]
       simp [Ak8, Aw9, h1, h2, h3, h4]
     ·rw [h3] at k1
      simp (disch := omega) only [Cv8, hc, h1, h2, h3, k1, EVM, EVC, EVP, ↓reduceIte, EV, Nat.reduceAdd, Nat.reduceEqDiff, Int.reduceToNat, reduceCtorEq]
      simp [Ak8, Aw9, h1, h2, h3]
   ·simp (disch := omega) only [Cv8, hc, h1, EVM, EVC, EVP, ↓reduceIte, EV, Nat.reduceAdd, Nat.reduceEqDiff, Int.reduceToNat, reduceCtorEq]
    simp [Ak8, h1]
  ·simp (disch := omega) only [Cv8, EVM, EVC, EVP, ↓reduceIte, EV, Nat.reduceAdd, Nat.reduceEqDiff, Int.reduceToNat, reduceCtorEq]
   simp [cutF, Out.goes]
 rw [show cutF z n [] z.recs = cutN z n from rfl] at key
 simp (disch := omega) only [Cv8, key, EVM, EVC, EVP, ↓reduceIte, EV, Nat.reduceAdd, Nat.reduceEqDiff, Int.reduceToNat, reduceCtorEq]
 try simp
def cutsN (z : Zone) : List (List UInt8) := setN ((z.recs.filter (Ak8 z)).map Rec.name)
theorem Dh9 (z : Zone) (x : List UInt8) : x ∈ cutsN z ↔ ∃ r ∈ z.recs, Ak8 z r = true ∧ r.name = x := by
 unfold cutsN
 rw [Ag6, List.mem_map]
 simp only [List.mem_filter, and_assoc]
theorem Kj2 {l : List (List UInt8)} (h : ∀ x ∈ l, x.length ≤ 9223372036854775807) : ∀ x ∈ setN l, x.length ≤ 9223372036854775807 := fun x hx => h x ((Ag6 l x).1 hx)
theorem Jp9 (z : Zone) (hz : z.wf) (hl : z.recs.length ≤ 1000000) : S Df5 1 [z.pv] = some [Aj3 (cutsN z)] := by
 refine Lt8 (N := z.recs.length + 1) rfl ?_
 have g1 := hz.origin
 unfold strr at g1
 have key : Hh8.ev S (z.recs.length + 1) [z.pv] = some (.yld 0 [Aj3 ([] ++ (z.recs.filter (Ak8 z)).map Rec.name)]) := by
  refine Ak5 z.recs (fun i (b : List (List UInt8)) => [Aj3 b, .i .i64 (i : Int)]) (fun i b r => .yld 0 [Aj3 (b ++ (r.filter (Ak8 z)).map Rec.name)]) (fun i b => b.length ≤ i) [] rfl (Nat.zero_le _) (by omega) (fun i b c r hd hi hc hI => ?_) (fun b hI => ?_)
  ·left
   have g2 := (hz.recs.2 c (List.mem_of_getElem? hc)).name
   unfold strr at g2
   refine ⟨if Ak8 z c then b ++ [c.name] else b, ?_, by split <;> (try rw [List.length_append, List.length_singleton]) <;> omega, by rcases Bool.eq_false_or_eq_true (Ak8 z c) with q | q <;> simp [q]⟩
   by_cases h1 : c.typ = 2
   ·by_cases h2 : c.name = z.origin
    ·simp (disch := omega) only [Bm4, hc, h1, h2, EVM, EVC, EVP, ↓reduceIte, EV, Nat.reduceAdd, Nat.reduceEqDiff, Int.reduceToNat, reduceCtorEq]
     simp [Ak8, Aw9, h2]
    ·have k1 := Ab0 c.name z.origin g2 g1
     rcases Bool.eq_false_or_eq_true (under c.name z.origin) with h3 | h3
     ·rw [h3] at k1
      simp (disch := omega) only [Bm4, hc, h1, h2, h3, k1, EVM, EVC, EVP, ↓reduceIte, EV, Nat.reduceAdd, Nat.reduceEqDiff, Int.reduceToNat, reduceCtorEq]
      simp [Ak8, Aw9, h1, h2, h3]
     ·rw [h3] at k1
      simp (disch := omega) only [Bm4, hc, h1, h2, h3, k1, EVM, EVC, EVP, ↓reduceIte, EV, Nat.reduceAdd, Nat.reduceEqDiff, Int.reduceToNat, reduceCtorEq]
      simp [Ak8, Aw9, h1, h2, h3]
   ·simp (disch := omega) only [Bm4, hc, h1, EVM, EVC, EVP, ↓reduceIte, EV, Nat.reduceAdd, Nat.reduceEqDiff, Int.reduceToNat, reduceCtorEq]
    simp [Ak8, h1]
  ·simp (disch := omega) only [Bm4, EVM, EVC, EVP, ↓reduceIte, EV, Nat.reduceAdd, Nat.reduceEqDiff, Int.reduceToNat, reduceCtorEq]
   simp [Out.goes]
 rw [List.nil_append] at key
 have hlen : ((z.recs.filter (Ak8 z)).map Rec.name).length ≤ 1000000 := by rw [List.length_map]; exact Nat.le_trans (List.length_filter_le _ _) hl
 have hw : ∀ x ∈ (z.recs.filter (Ak8 z)).map Rec.name, x.length ≤ 9223372036854775807 := fun x hx => by
  obtain ⟨r, hr, rfl⟩ := List.mem_map.1 hx
  exact (hz.recs.2 r (List.mem_filter.1 hr).1).name
 have k1 := Dv9 _ hlen hw
 have k2 := At1 (((z.recs.filter (Ak8 z)).map Rec.name).mergeSort fun x y => !decide (cmpN y x < 0)) (by rw [List.length_mergeSort]; exact hlen)
 rw [show cpt eqs (((z.recs.filter (Ak8 z)).map Rec.name).mergeSort fun x y => !decide (cmpN y x < 0)) = cutsN z from rfl] at k2
 generalize ((z.recs.filter (Ak8 z)).map Rec.name).mergeSort (fun x y => !decide (cmpN y x < 0)) = so at *
 generalize (z.recs.filter (Ak8 z)).map Rec.name = un at *
 simp (disch := omega) only [Bm4, key, k1, k2, Bj0, Js7, EVM, EVC, EVP, ↓reduceIte, EV, Nat.reduceAdd, Nat.reduceEqDiff, Int.reduceToNat, reduceCtorEq]
theorem Gs9 (l : List Rec) (hl : l.length ≤ 1000000) (hw : ∀ r ∈ l, r.wf) : S Df4 1 [Aj1 l] = some [Aj3 (setN (l.map Rec.name))] := by
 refine Lt7 (N := l.length + 1) rfl ?_
 have key : Hh7.ev S (l.length + 1) [Aj1 l] = some (.yld 0 [Aj3 ([] ++ l.map Rec.name)]) := by
  refine Ak5 l (fun i (b : List (List UInt8)) => [Aj3 b, .i .i64 (i : Int)]) (fun i b r => .yld 0 [Aj3 (b ++ r.map Rec.name)]) (fun i b => b.length ≤ i) [] rfl (Nat.zero_le _) (by omega) (fun i b c r hd hi hc hI => ?_) (fun b hI => ?_)
  ·left
   refine ⟨b ++ [c.name], ?_, by simp; omega, by simp⟩
   simp (disch := omega) only [Gn7, hc, EVM, EVC, EVP, ↓reduceIte, EV, Nat.reduceAdd, Nat.reduceEqDiff, Int.reduceToNat, reduceCtorEq]
  ·simp (disch := omega) only [Gn7, EVM, EVC, EVP, ↓reduceIte, EV, Nat.reduceAdd, Nat.reduceEqDiff, Int.reduceToNat, reduceCtorEq]
   simp [Out.goes]
 rw [List.nil_append] at key
 have hlen : (l.map Rec.name).length ≤ 1000000 := by rw [List.length_map]; exact hl
 have hw : ∀ x ∈ l.map Rec.name, x.length ≤ 9223372036854775807 := fun x hx => by
  obtain ⟨r, hr, rfl⟩ := List.mem_map.1 hx
  exact (hw r hr).name
 have k1 := Dv9 _ hlen hw
 have k2 := At1 ((l.map Rec.name).mergeSort fun x y => !decide (cmpN y x < 0)) (by rw [List.length_mergeSort]; exact hlen)
 rw [show cpt eqs ((l.map Rec.name).mergeSort fun x y => !decide (cmpN y x < 0)) = setN (l.map Rec.name) from rfl] at k2
 generalize setN (l.map Rec.name) = se at *
 generalize (l.map Rec.name).mergeSort (fun x y => !decide (cmpN y x < 0)) = so at *
 generalize l.map Rec.name = un at *
 simp (disch := omega) only [Gn7, key, k1, k2, Bj0, Js7, EVM, EVC, EVP, ↓reduceIte, EV, Nat.reduceAdd, Nat.reduceEqDiff, Int.reduceToNat, reduceCtorEq]
theorem Jp1 (c owner : List UInt8) (hc : c.length ≤ 9223372036854775807) (ho : owner.length ≤ 9223372036854775807) : S Ck5 1 [.s c, .s owner] = some [.b (decide (c ≠ owner) && under owner c)] := by
 refine Lt6 (N := 1) rfl ?_
 have k1 := Ab0 owner c ho hc
 by_cases h : c = owner
 ·simp (disch := omega) only [Kd4, h, EVM, EVC, EVP, ↓reduceIte, EV, Nat.reduceAdd, Nat.reduceEqDiff, Int.reduceToNat, reduceCtorEq]
  simp
 ·simp (disch := omega) only [Kd4, h, k1, EVM, EVC, EVP, ↓reduceIte, EV, Nat.reduceAdd, Nat.reduceEqDiff, Int.reduceToNat, reduceCtorEq]
  simp
theorem Gl9 (z : Zone) (acc : List (List UInt8)) (n : List UInt8) (p1 p2 p3 p4 p5 p6 : PV) (N : Nat) (hu : under n z.origin = true) (ha : acc.length ≤ 1000000) (hN : 1000 < N) (hp2 : Az7 1 p2 p4 = some (.s n)) :
  Hg2.ev S N [z.pv, p1, p2, Aj3 acc, p4, p5, p6] = some (.yld 2 [Aj3 (acc ++ upN z.origin n)]) := by
 obtain ⟨v1, v2, _⟩ := Aj8.1 hu
 have hlb := Av6 n
 have h0 : jn ((lbl n).drop 0) = n := Bf8 v1
 have e0 : upN z.origin n = (upN z.origin n).take ((lbl n).length - (lbl z.origin).length + 1) := by
  rw [List.take_of_length_le]; simp [upN]
 have := Ay0 (fn := S) (N := N) (η := [z.pv, p1, p2, Aj3 acc, p4, p5, p6]) (id := 3) (init := [(.v 3), (.proj 0 (.idx 1 (.v 2) (.v 4)))]) (body := Fp9) ((lbl n).length - (lbl z.origin).length) (fun k => [Aj3 (acc ++ (upN z.origin n).take k), .s (jn ((lbl n).drop k))])
  (fun _ => .yld 2 [Aj3 (acc ++ upN z.origin n)]) ?_ (by omega) (fun k hk => ?_) ?_
 ·exact this
 ·rw [h0]
  simp (disch := omega) only [hp2, EVM, EVC, EVP, ↓reduceIte, EV, Nat.reduceAdd, Nat.reduceEqDiff, Int.reduceToNat, reduceCtorEq]
  simp
 ·left
  obtain ⟨q1, q2⟩ := Dy0 hu hk
  have q3 : ¬ jn ((lbl n).drop k) = z.origin := fun h => by have := (At8 hu (Nat.le_of_lt hk)).1 h; omega
  have q4 := Bf9 v1 k
  have k1 := Bw7 (jn ((lbl n).drop k)) (by omega)
  rw [q1, q2] at k1
  have q5 : (upN z.origin n).take (k + 1) = (upN z.origin n).take k ++ [jn ((lbl n).drop k)] := by rw [List.take_add_one, Al7 (Nat.le_of_lt hk)]; rfl
  rw [q5, ← List.append_assoc]
  have q6 : (acc ++ (upN z.origin n).take k).length ≤ 1000300 := by rw [List.length_append, List.length_take]; omega
  generalize acc ++ (upN z.origin n).take k = a at *
  refine ⟨?_, rfl⟩
  generalize jn ((lbl n).drop (k + 1)) = nx at *
  generalize jn ((lbl n).drop k) = cu at *
  simp (disch := omega) only [Dn5, q3, k1, EVM, EVC, EVP, ↓reduceIte, EV, Nat.reduceAdd, Nat.reduceEqDiff, Int.reduceToNat, reduceCtorEq]
 ·have q3 := (At8 hu (Nat.le_refl _)).2 rfl
  have q5 : (upN z.origin n) = (upN z.origin n).take ((lbl n).length - (lbl z.origin).length) ++ [jn ((lbl n).drop ((lbl n).length - (lbl z.origin).length))] := by
   have := List.take_add_one (l := upN z.origin n) (i := (lbl n).length - (lbl z.origin).length)
   rw [Al7 (Nat.le_refl _)] at this
   rw [← e0] at this
   exact this
  rw [q3] at q5 ⊢
  have q6 : (acc ++ (upN z.origin n).take ((lbl n).length - (lbl z.origin).length)).length ≤ 1000300 := by rw [List.length_append, List.length_take]; omega
  refine ⟨?_, rfl⟩
  conv => rhs; rw [q5, ← List.append_assoc]
  generalize acc ++ (upN z.origin n).take ((lbl n).length - (lbl z.origin).length) = a at *
  simp (disch := omega) only [Dn5, EVM, EVC, EVP, ↓reduceIte, EV, Nat.reduceAdd, Nat.reduceEqDiff, Int.reduceToNat, reduceCtorEq]
theorem Kz7 (z : Zone) (owner : List UInt8) : ((cutsN z).any fun c => decide (c ≠ owner) && under owner c) = hidN z owner := by
 rw [Bool.eq_iff_iff]
 unfold hidN
 simp only [List.any_eq_true, Bool.and_eq_true, decide_eq_true_eq, Dh9]
 constructor
 ·rintro ⟨x, ⟨r, hr, h1, rfl⟩, h2, h3⟩
  exact ⟨r, hr, ⟨h1, h2⟩, h3⟩
 ·rintro ⟨r, hr, ⟨h1, h2⟩, h3⟩
  exact ⟨r.name, ⟨r, hr, h1, rfl⟩, h2, h3⟩
def Ab2 (z : Zone) (n : List UInt8) : Bool := under n z.origin && !hidN z n
theorem Dw4 (z : Zone) (hz : z.wf) (hl : z.recs.length ≤ 1000) : S Gf2 1 [z.pv] = some [Aj3 (namesN z)] := by
 refine Mn0 (N := z.recs.length + 1001) rfl ?_
 have g1 := hz.origin
 unfold strr at g1
 have k1 := Jp9 z hz (by omega)
 have k2 := Gs9 z.recs (by omega) (fun r hr => hz.recs.2 r hr)
 have hol : (setN (z.recs.map Rec.name)).length ≤ z.recs.length := by
  have := Cw8 (z.recs.map Rec.name)
  rwa [List.length_map] at this
 have how : ∀ x ∈ setN (z.recs.map Rec.name), x.length ≤ 9223372036854775807 := Kj2 fun x hx => by
  obtain ⟨r, hr, rfl⟩ := List.mem_map.1 hx
  exact (hz.recs.2 r hr).name
 have hcl : (cutsN z).length ≤ 1000000 := by
  have := Cw8 ((z.recs.filter (Ak8 z)).map Rec.name)
  rw [List.length_map] at this
  have h2 := List.length_filter_le (Ak8 z) z.recs
  show (setN ((z.recs.filter (Ak8 z)).map Rec.name)).length ≤ 1000000
  omega
 have hcw : ∀ x ∈ cutsN z, x.length ≤ 9223372036854775807 := fun x hx => by
  obtain ⟨r, hr, _, rfl⟩ := (Dh9 z x).1 hx
  exact (hz.recs.2 r hr).name
 have hmem : ∀ x, x ∈ ((setN (z.recs.map Rec.name)).filter (Ab2 z)).flatMap (upN z.origin) ↔ inNZ z x := by
  intro x
  unfold inNZ Ab2
  simp only [List.mem_flatMap, List.mem_filter, Ag6, List.mem_map, Bool.and_eq_true, Bool.not_eq_true']
  constructor
  ·rintro ⟨o, ⟨⟨r, hr, rfl⟩, h1, h2⟩, h3⟩
   obtain ⟨h4, h5⟩ := (Ad9 h1).1 h3
   exact ⟨r, hr, h1, h2, h4, h5⟩
  ·rintro ⟨r, hr, h1, h2, h4, h5⟩
   exact ⟨r.name, ⟨⟨r, hr, rfl⟩, h1, h2⟩, (Ad9 h1).2 ⟨h4, h5⟩⟩
 generalize hO : setN (z.recs.map Rec.name) = O at *
 have key : Kg8.ev S (z.recs.length + 1001) [z.pv, Aj3 (cutsN z), Aj3 O] = some (.yld 0 [Aj3 ([] ++ (O.filter (Ab2 z)).flatMap (upN z.origin))]) := by
  refine Ak5 O (fun i (b : List (List UInt8)) => [Aj3 b, .i .i64 (i : Int)]) (fun i b r => .yld 0 [Aj3 (b ++ (r.filter (Ab2 z)).flatMap (upN z.origin))]) (fun i b => b.length ≤ 256 * i) [] rfl (Nat.zero_le _) (by omega) (fun i b c r hd hi hc hI => ?_) (fun b hI => ?_)
  ·left
   have g2 := how c (List.mem_of_getElem? hc)
   have k3 := Ab0 c z.origin g2 g1
   have hid := Kz7 z c
   rcases Bool.eq_false_or_eq_true (under c z.origin) with h1 | h1
   ·have k4 := By4 (cutsN z) Ck5 [.s c] _ hcl (fun x hx => Jp1 x c (hcw x hx) g2)
    rw [hid] at k4
    rw [h1] at k3
    rcases Bool.eq_false_or_eq_true (hidN z c) with h2 | h2
    ·refine ⟨b, ?_, by omega, by simp [Ab2, h1, h2]⟩
     rw [h2] at k4
     generalize cutsN z = cz at *
     simp (disch := omega) only [Dn5, hc, k3, k4, EVM, EVC, EVP, ↓reduceIte, EV, Nat.reduceAdd, Nat.reduceEqDiff, Int.reduceToNat, reduceCtorEq]
    ·have hu := Cw3 z.origin c
     refine ⟨b ++ upN z.origin c, ?_, by rw [List.length_append]; omega, by simp [Ab2, h1, h2]⟩
     rw [h2] at k4
     have k5 : ∀ p5 p6, Hg2.ev S (z.recs.length + 1001) [z.pv, Aj3 (cutsN z), Aj3 O, Aj3 b, .i .i64 (i : Int), p5, p6] = some (.yld 2 [Aj3 (b ++ upN z.origin c)]) := fun p5 p6 => Gl9 z b c _ _ (Aj3 b) _ p5 p6 _ h1 (by omega) (by omega) (by rw [Ap7 _ _ _ (by omega)]; simp [hc])
     generalize b ++ upN z.origin c = b' at *
     generalize cutsN z = cz at *
     simp (disch := omega) only [Dn5, hc, k3, k4, k5, EVM, EVC, EVP, ↓reduceIte, EV, Nat.reduceAdd, Nat.reduceEqDiff, Int.reduceToNat, reduceCtorEq]
   ·refine ⟨b, ?_, by omega, by simp [Ab2, h1]⟩
    rw [h1] at k3
    generalize cutsN z = cz at *
    simp (disch := omega) only [Dn5, hc, k3, EVM, EVC, EVP, ↓reduceIte, EV, Nat.reduceAdd, Nat.reduceEqDiff, Int.reduceToNat, reduceCtorEq]
  ·generalize cutsN z = cz at *
   simp (disch := omega) only [Dn5, EVM, EVC, EVP, ↓reduceIte, EV, Nat.reduceAdd, Nat.reduceEqDiff, Int.reduceToNat, reduceCtorEq]
   simp [Out.goes]
 rw [List.nil_append] at key
 have hxl : ((O.filter (Ab2 z)).flatMap (upN z.origin)).length ≤ 256 * O.length := by
  have : ∀ l : List (List UInt8), (l.flatMap (upN z.origin)).length ≤ 256 * l.length := by
   intro l
   induction l with
   | nil => simp
   | cons x r ih =>
     have := Cw3 z.origin x
     rw [List.flatMap_cons, List.length_append, List.length_cons]; omega
  refine Nat.le_trans (this _) ?_
  have := List.length_filter_le (Ab2 z) O
  omega
 have hxw : ∀ x ∈ (O.filter (Ab2 z)).flatMap (upN z.origin), x.length ≤ 9223372036854775807 := fun x hx => by
  obtain ⟨r, hr, _, _, h4, _⟩ := (hmem x).1 hx
  have := Ax0 (Aj8.1 h4).2.1
  omega
 have he : setN ((O.filter (Ab2 z)).flatMap (upN z.origin)) = namesN z := Fh8 z _ hmem
 generalize (O.filter (Ab2 z)).flatMap (upN z.origin) = un at *
 have k6 := Dv9 un (by omega) hxw
 have k7 := At1 (un.mergeSort fun x y => !decide (cmpN y x < 0)) (by rw [List.length_mergeSort]; omega)
 rw [show cpt eqs (un.mergeSort fun x y => !decide (cmpN y x < 0)) = setN un from rfl, he] at k7
 generalize un.mergeSort (fun x y => !decide (cmpN y x < 0)) = so at *
 generalize namesN z = nz at *
 generalize cutsN z = cz at *
 simp (disch := omega) only [Dn5, k1, k2, key, k6, k7, Bj0, Js7, EVM, EVC, EVP, ↓reduceIte, EV, Nat.reduceAdd, Nat.reduceEqDiff, Int.reduceToNat, reduceCtorEq]
end Go.X.G
/- Delegations and names of a zone, as the reference finds them; what exists. -/
namespace Go.X.G
open Go Go.X

theorem Cv2 (n : List UInt8) (hn : n.length ≤ 9223372036854775807) : S Gd9 1 [.s n] = some [.s (parentN n), .b (Bg3 n)] := by
 refine Mm1 (N := 1) rfl ?_
 have k1 := split_ok n hn
 have hl := Av6 n
 unfold parentN Bg3
 by_cases h : lbl n = []
 ·have e : ¬ (vld n = true ∧ n ≠ [46]) := fun ⟨h1, h2⟩ => h2 ((Am4 h1).1 h)
  have e2 : (vld n && !decide (n = [46])) = false := by
   rcases Bool.eq_false_or_eq_true (vld n) with h1 | h1
   ·have := (Am4 h1).1 h
    simp [this]
   ·simp [h1]
  rw [if_neg e, e2]
  rw [h] at k1
  simp (disch := omega) only [Lf5, k1, EVM, EVC, EVP, ↓reduceIte, EV, Nat.reduceAdd, Nat.reduceEqDiff, Int.reduceToNat, reduceCtorEq]
  try simp
 ·have h1 : vld n = true := by
   rcases Bool.eq_false_or_eq_true (vld n) with h1 | h1
   ·exact h1
   ·exact absurd (Cy9 h1) h
  have h2 : n ≠ [46] := fun e => h ((Am4 h1).2 e)
  have e2 : (vld n && !decide (n = [46])) = true := by simp [h1, h2]
  rw [if_pos ⟨h1, h2⟩, e2]
  have hp := List.length_pos_iff.2 h
  have ls : Ab3 1 (Aj3 (lbl n)) (.i .i64 1) (.i .i64 ((lbl n).length : Int)) = some (Aj3 ((lbl n).drop 1)) := by
   rw [Ad2 _ _ _ _ _ (by omega) (by omega) (by omega)]
   simp
  have k2 := Hz2 ((lbl n).drop 1) (by simp; omega) (fun x hx => Hf7 n x (List.mem_of_mem_drop hx))
  have h0 : ¬ ((lbl n).length : Int) = 0 := by omega
  simp (disch := omega) only [Lf5, k1, k2, ls, h0, EVM, EVC, EVP, ↓reduceIte, EV, Nat.reduceAdd, Nat.reduceEqDiff, Int.reduceToNat, reduceCtorEq]
theorem Dr6 (z : Zone) (n : List UInt8) (hz : z.wf) (hl : z.recs.length ≤ 1000000) (hn : n.length ≤ 9223372036854775807) : S Ds8 2 [z.pv, .s n] = some [.s (cutN z n), .b (decide (cutN z n ≠ []))] := by
 refine Ms3 (N := z.recs.length + 1) rfl ?_
 have g1 := hz.origin
 unfold strr at g1
 have key : Kl8.ev S (z.recs.length + 1) [z.pv, .s n] = some (.yld 0 [.s (cutF z n [] z.recs)]) := by
  refine Ak5 z.recs (fun i (b : List UInt8) => [.s b, .i .i64 (i : Int)]) (fun i b r => .yld 0 [.s (cutF z n b r)]) (fun i b => b = [] ∨ under n b = true) [] rfl (.inl rfl) (by omega) (fun i b c r hd hi hc hI => ?_) (fun b hI => ?_)
  ·left
   have g2 := (hz.recs.2 c (List.mem_of_getElem? hc)).name
   unfold strr at g2
   refine ⟨if Ak8 z c && under n c.name && (decide (b = []) || decide ((lbl c.name).length < (lbl b).length)) then c.name else b, ?_, Hn6 hI, rfl⟩
   by_cases h1 : c.typ = 2
   ·have k1 := Ag1 c.name z.origin g2 g1
    have k2 := Aw0 n c.name hn g2
    rcases Bool.eq_false_or_eq_true (Aw9 c.name z.origin) with h3 | h3
    ·rcases Bool.eq_false_or_eq_true (under n c.name) with h4 | h4
     ·rw [h3] at k1
      rw [h4] at k2
      by_cases h5 : b = []
      ·simp (disch := omega) only [Dw9, hc, h1, h3, h4, h5, k1, k2, EVM, EVC, EVP, ↓reduceIte, EV, Nat.reduceAdd, Nat.reduceEqDiff, Int.reduceToNat, reduceCtorEq]
       simp [Ak8, h1, h3, h4, h5]
      ·have hb := hI.resolve_left h5
       have k3 := Az1 c.name g2
       have k4 := Az1 b (by have := Ax0 (Aj8.1 hb).2.1; omega)
       by_cases h6 : (lbl c.name).length < (lbl b).length
       ·have h8 : ((lbl c.name).length : Int) < ((lbl b).length : Int) := by omega
        simp (disch := omega) only [Dw9, hc, h1, h3, h4, h5, h8, k1, k2, k3, k4, EVM, EVC, EVP, ↓reduceIte, EV, Nat.reduceAdd, Nat.reduceEqDiff, Int.reduceToNat, reduceCtorEq]
        simp [Ak8, h1, h3, h4, h5, h6]
       ·have h8 : ¬ ((lbl c.name).length : Int) < ((lbl b).length : Int) := by omega
        simp (disch := omega) only [Dw9, hc, h1, h3, h4, h5, h8, k1, k2, k3, k4, EVM, EVC, EVP, ↓reduceIte, EV, Nat.reduceAdd, Nat.reduceEqDiff, Int.reduceToNat, reduceCtorEq]
        simp [Ak8, h1, h3, h4, h5, h6]
     ·rw [h3] at k1
      rw [h4] at k2
      simp (disch := omega) only [Dw9, hc, h1, h3, h4, k1, k2, EVM, EVC, EVP, ↓reduceIte, EV, Nat.reduceAdd, Nat.reduceEqDiff, Int.reduceToNat, reduceCtorEq]
      simp [Ak8, h1, h3, h4]
    ·rw [h3] at k1
     simp (disch := omega) only [Dw9, hc, h1, h3, k1, EVM, EVC, EVP, ↓reduceIte, EV, Nat.reduceAdd, Nat.reduceEqDiff, Int.reduceToNat, reduceCtorEq]
     simp [Ak8, h1, h3]
   ·simp (disch := omega) only [Dw9, hc, h1, EVM, EVC, EVP, ↓reduceIte, EV, Nat.reduceAdd, Nat.reduceEqDiff, Int.reduceToNat, reduceCtorEq]
    simp [Ak8, h1]
  ·simp (disch := omega) only [Dw9, EVM, EVC, EVP, ↓reduceIte, EV, Nat.reduceAdd, Nat.reduceEqDiff, Int.reduceToNat, reduceCtorEq]
   simp [cutF, Out.goes]
 rw [show cutF z n [] z.recs = cutN z n from rfl] at key
 simp (disch := omega) only [Dw9, key, EVM, EVC, EVP, ↓reduceIte, EV, Nat.reduceAdd, Nat.reduceEqDiff, Int.reduceToNat, reduceCtorEq]
 try simp

def insN (x : List UInt8) : List (List UInt8) → List (List UInt8)
 | [] => [x]
 | y :: r => if cmpN y x < 0 then y :: insN x r else if y = x then y :: r else x :: y :: r
def Al4 (x : List UInt8) : List (List UInt8) → Nat
 | [] => 0
 | y :: r => if cmpN y x < 0 then Al4 x r + 1 else 0
theorem Fm0 (x : List UInt8) : ∀ l, Al4 x l ≤ l.length
 | [] => Nat.le_refl _
 | y :: r => by have := Fm0 x r; simp only [Al4]; split <;> simp; omega
theorem Hl7 (x : List UInt8) : ∀ (l : List (List UInt8)), insN x l = match l[Al4 x l]? with
  | some y => if y = x then l else l.take (Al4 x l) ++ [x] ++ l.drop (Al4 x l)
  | none => l.take (Al4 x l) ++ [x] ++ l.drop (Al4 x l)
 | [] => rfl
 | y :: r => by
   simp only [insN, Al4]
   by_cases h : cmpN y x < 0
   ·simp only [if_pos h, List.getElem?_cons_succ]
    rw [Hl7 x r]
    cases h2 : r[Al4 x r]? with
    | none => simp
    | some z => by_cases h3 : z = x <;> simp [h3]
   ·simp only [if_neg h, List.getElem?_cons_zero]
    by_cases h3 : y = x <;> simp [h3]
theorem Fm6 (x : List UInt8) : ∀ l, (insN x l).length ≤ l.length + 1
 | [] => by simp [insN]
 | y :: r => by
   have := Fm6 x r
   simp only [insN]
   split
   ·simp; omega
   ·split <;> simp
theorem insN_mem (x z : List UInt8) : ∀ (l : List (List UInt8)), z ∈ insN x l ↔ z = x ∨ z ∈ l
 | [] => by simp [insN]
 | y :: r => by
   have ih := insN_mem x z r
   simp only [insN]
   split
   ·simp only [List.mem_cons, ih]; grind
   ·split
    ·rename_i h; subst h; simp only [List.mem_cons]; grind
    ·simp only [List.mem_cons]
theorem Bg1 (x : List UInt8) : ∀ (l : List (List UInt8)), l.Pairwise ltN → (insN x l).Pairwise ltN
 | [], _ => by simp [insN]
 | y :: r, h => by
   obtain ⟨h1, h2⟩ := List.pairwise_cons.1 h
   have ih := Bg1 x r h2
   simp only [insN]
   by_cases c : cmpN y x < 0
   ·rw [if_pos c]
    refine List.pairwise_cons.2 ⟨fun w hw => ?_, ih⟩
    rcases (insN_mem x w r).1 hw with rfl | hw
    ·exact (Av4 _ _).1 c
    ·exact h1 w hw
   ·rw [if_neg c]
    by_cases e : y = x
    ·rw [if_pos e]; exact h
    ·rw [if_neg e]
     have hxy : ltN x y := by
      rcases to_N.tri x y with q | q | q
      ·exact q
      ·exact absurd q.symm e
      ·exact absurd ((Av4 _ _).2 q) c
     refine List.pairwise_cons.2 ⟨fun w hw => ?_, h⟩
     rcases List.mem_cons.1 hw with rfl | hw
     ·exact hxy
     ·exact to_N.tr _ _ _ hxy (h1 w hw)
def Hz1 (l : List (List UInt8)) : List (List UInt8) := l.foldl (fun a x => insN x a) []
theorem Hz0 (l : List (List UInt8)) : Hz1 l = setN l := by
 have : ∀ (l a : List (List UInt8)), a.Pairwise ltN → (l.foldl (fun a x => insN x a) a).Pairwise ltN ∧ ∀ z, z ∈ l.foldl (fun a x => insN x a) a ↔ z ∈ a ∨ z ∈ l := by
  intro l
  induction l with
  | nil => intro a h; exact ⟨h, fun z => by simp⟩
  | cons x r ih =>
    intro a h
    obtain ⟨h1, h2⟩ := ih (insN x a) (Bg1 x a h)
    refine ⟨h1, fun z => ?_⟩
    rw [List.foldl_cons, h2, insN_mem, List.mem_cons]
    grind
 obtain ⟨h1, h2⟩ := this l [] List.Pairwise.nil
 exact Bd0 to_N _ _ h1 (As2 l) fun x => by
  rw [Ag6]
  rw [Hz1, h2 x]
  simp
theorem Jp0 (l : List Rec) (g : List (List UInt8)) (i : Nat) (x : Rec) (hx : l[i]? = some x) (hw : x.name.length ≤ 9223372036854775807) (hg : ∀ r ∈ g, r.length ≤ 9223372036854775807) (N : Nat) (hN : g.length < N) (hl : g.length ≤ 1000000) :
  Dt3.ev S N [Aj1 l, Aj3 g, .i .i64 (i : Int)] = some (.yld 2 [.i .i64 (Al4 x.name g : Int)]) := by
 have key : Dt3.ev S N [Aj1 l, Aj3 g, .i .i64 (i : Int)] = some (.yld 2 [.i .i64 ((0 + Al4 x.name g : Nat) : Int)]) := by
  refine Aq1 g (fun k => [.i .i64 (k : Int)]) (fun k r => .yld 2 [.i .i64 ((k + Al4 x.name r : Nat) : Int)]) rfl hN (fun k c r hd hk hc => ?_) ?_
  ·have h1 := Bl0 c x.name (hg c (List.mem_of_getElem? hc)) hw
   by_cases h : cmpN c x.name < 0
   ·left
    simp (disch := omega) only [Bw8, hc, hx, h1, h, EVM, EVC, EVP, ↓reduceIte, EV, Nat.reduceAdd, Nat.reduceEqDiff, Int.reduceToNat, reduceCtorEq]
    refine ⟨trivial, ?_⟩
    simp only [Al4, if_pos h]
    congr 3; push_cast; omega
   ·right
    simp (disch := omega) only [Bw8, hc, hx, h1, EVM, EVC, EVP, ↓reduceIte, EV, Nat.reduceAdd, Nat.reduceEqDiff, Int.reduceToNat, reduceCtorEq]
    simp [Al4, h, Out.goes]
  ·simp (disch := omega) only [Bw8, EVM, EVC, EVP, ↓reduceIte, EV, Nat.reduceAdd, Nat.reduceEqDiff, Int.reduceToNat, reduceCtorEq]
   simp [Al4, Out.goes]
 simpa using key
theorem Jn9 (l : List Rec) (hl : l.length ≤ 1000000) (hw : ∀ r ∈ l, r.name.length ≤ 9223372036854775807) : S Df0 1 [Aj1 l] = some [Aj3 (setN (l.map Rec.name))] := by
 refine Ls9 (N := l.length + 1) rfl ?_
 have key : Hh3.ev S (l.length + 1) [Aj1 l] = some (.yld 0 [Aj3 (Hz1 (l.map Rec.name))]) := by
  refine Ak5 l (fun i (g : List (List UInt8)) => [Aj3 g, .i .i64 (i : Int)]) (fun i g r => .yld 0 [Aj3 ((r.map Rec.name).foldl (fun acc x => insN x acc) g)]) (fun i g => g.length ≤ i ∧ ∀ r ∈ g, r.length ≤ 9223372036854775807) [] rfl ⟨Nat.le_refl _, fun r h => by cases h⟩ (by omega) (fun i g c r hd hi hc hI => ?_) (fun g hI => ?_)
  ·left
   obtain ⟨h1, h2⟩ := hI
   have hcw := hw c (List.mem_of_getElem? hc)
   have h3 := Jp0 l g i c hc hcw h2 (l.length + 1) (by omega) (by omega)
   have h4 := Fm0 c.name g
   have h5 := Fm6 c.name g
   refine ⟨insN c.name g, ?_, ⟨by omega, fun r hr => ?_⟩, rfl⟩
   ·rw [Hl7]
    cases h6 : g[Al4 c.name g]? with
    | none =>
      have h7 := List.getElem?_eq_none_iff.1 h6
      have h8 : Al4 c.name g = g.length := by omega
      simp (disch := first | omega | (simp; omega)) only [Bw8, hc, h3, h8, EVM, EVC, EVP, ↓reduceIte, EV, Nat.reduceAdd, Nat.reduceEqDiff, Int.reduceToNat, reduceCtorEq]
      simp
    | some y =>
      have h7 := (List.getElem?_eq_some_iff.1 h6).1
      by_cases h9 : y = c.name
      ·simp (disch := omega) only [Bw8, hc, h3, h6, h9, EVM, EVC, EVP, ↓reduceIte, EV, Nat.reduceAdd, Nat.reduceEqDiff, Int.reduceToNat, reduceCtorEq]
      ·simp (disch := first | omega | (simp; omega)) only [Bw8, hc, h3, h6, h9, EVM, EVC, EVP, ↓reduceIte, EV, Nat.reduceAdd, Nat.reduceEqDiff, Int.reduceToNat, reduceCtorEq]
       simp
   ·rcases (insN_mem c.name r g).1 hr with h | h
    ·subst h; exact hcw
    ·exact h2 r h
  ·simp (disch := omega) only [Bw8, EVM, EVC, EVP, ↓reduceIte, EV, Nat.reduceAdd, Nat.reduceEqDiff, Int.reduceToNat, reduceCtorEq]
   simp [Out.goes]
 rw [Hz0] at key
 simp (disch := omega) only [Bw8, key, EVM, EVC, EVP, ↓reduceIte, EV, Nat.reduceAdd, Nat.reduceEqDiff, Int.reduceToNat, reduceCtorEq]

def nrec (n : List UInt8) : Rec := ⟨n, 0, 0, ⟨false, 0, 0, [], [], [], 0, 0, 0, 0, 0, 0, 0⟩⟩
def ownN (z : Zone) (n : List UInt8) : List (List UInt8) := if hidN z n = true then [] else if under n z.origin = true then upN z.origin n else []
theorem Ds0 (n : List UInt8) : (parentN n).length ≤ 254 := by
 unfold parentN
 split
 ·rename_i h; exact Bf9 h.1 1
 ·simp
theorem Gt0 (z : Zone) (acc : List Rec) (n : List UInt8) (p1 p2 p3 p4 : PV) (x : Rec) (i : Nat) (N : Nat) (hx : z.recs[i]? = some x) (hxn : x.name = n) (hn : n.length ≤ 9223372036854775807) (ho : z.origin.length ≤ 9223372036854775807) (ha : acc.length ≤ 1000000) (hN : 1000 < N) (hp1 : p1 = Aj1 acc) (hp2 : p2 = .i .i64 (i : Int)) :
  Hg1.ev S N [z.pv, p1, p2, p3, p4] = some (.yld 2 [Aj1 (acc ++ (if under n z.origin = true then upN z.origin n else []).map nrec)]) := by
 subst hp1 hp2
 have init : E.evs [z.pv, Aj1 acc, .i .i64 (i : Int), p3, p4] [(.v 1), (.proj 0 (.idx 16 (.proj 1 (.v 0)) (.v 2))), (.c (.i .i64 (0)))] = some [Aj1 acc, .s n, .i .i64 0] := by
  simp (disch := omega) only [hx, hxn, EVM, EVC, EVP, ↓reduceIte, EV, Nat.reduceAdd, Nat.reduceEqDiff, Int.reduceToNat, reduceCtorEq]
 rcases Bool.eq_false_or_eq_true (under n z.origin) with hu | hu
 ·rw [if_pos hu]
  obtain ⟨v1, v2, _⟩ := Aj8.1 hu
  have hlb := Av6 n
  have h0 : jn ((lbl n).drop 0) = n := Bf8 v1
  generalize hm : (lbl n).length - (lbl z.origin).length = m at *
  have hup : ∀ k, k ≤ m → (upN z.origin n)[k]? = some (jn ((lbl n).drop k)) := fun k hk => Al7 (by omega)
  have hul : (upN z.origin n).length = m + 1 := by simp [upN, hm]
  have e0 : (upN z.origin n).take (m + 1) = upN z.origin n := List.take_of_length_le (by omega)
  have := Ay0 (fn := S) (N := N) (η := [z.pv, Aj1 acc, .i .i64 (i : Int), p3, p4]) (id := 3) (init := [(.v 1), (.proj 0 (.idx 16 (.proj 1 (.v 0)) (.v 2))), (.c (.i .i64 (0)))]) (body := Dl8) (m + 1)
   (fun k => [Aj1 (acc ++ ((upN z.origin n).take k).map nrec), .s (if k ≤ m then jn ((lbl n).drop k) else parentN z.origin), .i .i64 (k : Int)])
   (fun _ => .yld 2 [Aj1 (acc ++ (upN z.origin n).map nrec)]) ?_ (by omega) (fun k hk => ?_) ?_
  ·exact this
  ·rw [init, if_pos (Nat.zero_le _), h0]
   simp
  ·have hk' : k ≤ m := by omega
   rw [if_pos hk']
   have q4 := Bf9 v1 k
   have hcu : under (jn ((lbl n).drop k)) z.origin = true := ((Ad9 hu).1 (List.mem_of_getElem? (hup k hk'))).2
   have k2 := Aw0 (jn ((lbl n).drop k)) z.origin (by omega) ho
   have k1 := Cv2 (jn ((lbl n).drop k)) (by omega)
   rw [hcu] at k2
   have q5 : ((upN z.origin n).take (k + 1)).map nrec = ((upN z.origin n).take k).map nrec ++ [nrec (jn ((lbl n).drop k))] := by rw [List.take_add_one, hup k hk', List.map_append]; rfl
   have q6 : (acc ++ ((upN z.origin n).take k).map nrec).length ≤ 1000300 := by rw [List.length_append, List.length_map, List.length_take]; omega
   by_cases hlt : k < m
   ·left
    rw [if_pos (by omega)]
    obtain ⟨q1, q2⟩ := Dy0 hu (k := k) (by omega)
    rw [q1, q2] at k1
    rw [q5, ← List.append_assoc]
    generalize acc ++ ((upN z.origin n).take k).map nrec = a at *
    refine ⟨?_, rfl⟩
    generalize jn ((lbl n).drop (k + 1)) = nx at *
    generalize jn ((lbl n).drop k) = cu at *
    simp (disch := omega) only [Bb1, k1, k2, nrec, EVM, EVC, EVP, ↓reduceIte, EV, Nat.reduceAdd, Nat.reduceEqDiff, Int.reduceToNat, reduceCtorEq]
   ·have ek : k = m := by omega
    subst ek
    rw [if_neg (by omega)]
    have q3 : jn ((lbl n).drop k) = z.origin := (At8 hu (by omega)).2 (by omega)
    rw [q3] at k1 k2 q5 ⊢
    rcases Bool.eq_false_or_eq_true (Bg3 z.origin) with hp | hp
    ·left
     rw [hp] at k1
     rw [q5, ← List.append_assoc]
     generalize acc ++ ((upN z.origin n).take k).map nrec = a at *
     refine ⟨?_, rfl⟩
     generalize parentN z.origin = nx at *
     simp (disch := omega) only [Bb1, k1, k2, nrec, EVM, EVC, EVP, ↓reduceIte, EV, Nat.reduceAdd, Nat.reduceEqDiff, Int.reduceToNat, reduceCtorEq]
    ·right
     rw [hp] at k1
     rw [e0] at q5
     rw [q5, ← List.append_assoc]
     generalize acc ++ ((upN z.origin n).take k).map nrec = a at *
     refine ⟨?_, rfl⟩
     generalize parentN z.origin = nx at *
     simp (disch := omega) only [Bb1, k1, k2, nrec, EVM, EVC, EVP, ↓reduceIte, EV, Nat.reduceAdd, Nat.reduceEqDiff, Int.reduceToNat, reduceCtorEq]
  ·rw [e0, if_neg (by omega)]
   refine ⟨?_, rfl⟩
   have k2 := Aw0 (parentN z.origin) z.origin (by have := Ds0 z.origin; omega) ho
   rw [Hy3 v2] at k2
   generalize acc ++ (upN z.origin n).map nrec = a at *
   generalize parentN z.origin = nx at *
   simp (disch := omega) only [Bb1, k2, EVM, EVC, EVP, ↓reduceIte, EV, Nat.reduceAdd, Nat.reduceEqDiff, Int.reduceToNat, reduceCtorEq]
 ·rw [hu]
  have k2 := Aw0 n z.origin hn ho
  rw [hu] at k2
  have := Ay0 (fn := S) (N := N) (η := [z.pv, Aj1 acc, .i .i64 (i : Int), p3, p4]) (id := 3) (init := [(.v 1), (.proj 0 (.idx 16 (.proj 1 (.v 0)) (.v 2))), (.c (.i .i64 (0)))]) (body := Dl8) 0
   (fun k => [Aj1 acc, .s n, .i .i64 0]) (fun _ => .yld 2 [Aj1 acc]) init (by omega) (fun k hk => by omega) ?_
  ·rw [if_neg (by simp), List.map_nil, List.append_nil]
   exact this
  ·refine ⟨?_, rfl⟩
   simp (disch := omega) only [Bb1, k2, EVM, EVC, EVP, ↓reduceIte, EV, Nat.reduceAdd, Nat.reduceEqDiff, Int.reduceToNat, reduceCtorEq]
theorem Fh3 (z : Zone) (x : List UInt8) : x ∈ z.recs.flatMap (fun r => ownN z r.name) ↔ inNZ z x := by
 unfold inNZ ownN
 simp only [List.mem_flatMap]
 constructor
 ·rintro ⟨r, hr, h⟩
  rcases Bool.eq_false_or_eq_true (hidN z r.name) with h1 | h1
  ·rw [if_pos h1] at h; cases h
  ·rcases Bool.eq_false_or_eq_true (under r.name z.origin) with h2 | h2
   ·rw [if_neg (by simp [h1]), if_pos h2] at h
    obtain ⟨h4, h5⟩ := (Ad9 h2).1 h
    exact ⟨r, hr, h2, h1, h4, h5⟩
   ·rw [if_neg (by simp [h1]), if_neg (by simp [h2])] at h; cases h
 ·rintro ⟨r, hr, h1, h2, h4, h5⟩
  exact ⟨r, hr, by rw [if_neg (by simp [h2]), if_pos h1]; exact (Ad9 h1).2 ⟨h4, h5⟩⟩
theorem Fh4 (z : Zone) (n : List UInt8) : (ownN z n).length ≤ 256 := by
 unfold ownN
 split
 ·simp
 ·split
  ·exact Cw3 _ _
  ·simp
theorem Hy9 (l : List (List UInt8)) : (l.map nrec).map Rec.name = l := by
 rw [List.map_map]
 exact (List.map_congr_left fun _ _ => rfl).trans (List.map_id l)
theorem Bd5 (z : Zone) (hz : z.wf) (hl : z.recs.length ≤ 1000) : S Gd7 1 [z.pv] = some [Aj3 (namesN z)] := by
 refine Ml9 (N := z.recs.length + 1001) rfl ?_
 have g1 := hz.origin
 unfold strr at g1
 have key : Kg5.ev S (z.recs.length + 1001) [z.pv] = some (.yld 0 [Aj1 ([] ++ (z.recs.flatMap fun r => ownN z r.name).map nrec)]) := by
  refine Ak5 z.recs (fun i (b : List Rec) => [Aj1 b, .i .i64 (i : Int)]) (fun i b r => .yld 0 [Aj1 (b ++ (r.flatMap fun r => ownN z r.name).map nrec)]) (fun i b => b.length ≤ 256 * i) [] rfl (Nat.zero_le _) (by omega) (fun i b c r hd hi hc hI => ?_) (fun b hI => ?_)
  ·left
   have g2 := (hz.recs.2 c (List.mem_of_getElem? hc)).name
   unfold strr at g2
   have k1 := Dr6 z c.name hz (by omega) g2
   have hh := Lv4 z c.name
   have hol := Fh4 z c.name
   refine ⟨b ++ (ownN z c.name).map nrec, ?_, by rw [List.length_append, List.length_map]; omega, by simp⟩
   have k5 : ∀ p3 p4, Hg1.ev S (z.recs.length + 1001) [z.pv, Aj1 b, .i .i64 (i : Int), p3, p4] = some (.yld 2 [Aj1 (b ++ (if under c.name z.origin = true then upN z.origin c.name else []).map nrec)]) := fun p3 p4 => Gt0 z b c.name _ _ p3 p4 c i _ hc rfl g2 g1 (by omega) (by omega) rfl rfl
   unfold ownN
   by_cases h1 : cutN z c.name = []
   ·have h2 : hidN z c.name = false := by rw [hh]; simp [h1]
    rw [if_neg (by simp [h2])]
    rw [h1] at k1
    generalize b ++ (if under c.name z.origin = true then upN z.origin c.name else []).map nrec = b' at *
    simp (disch := omega) only [Bb1, hc, k1, k5, EVM, EVC, EVP, ↓reduceIte, EV, Nat.reduceAdd, Nat.reduceEqDiff, Int.reduceToNat, reduceCtorEq]
    try simp (disch := omega) only [Bb1, hc, k1, k5, ne_eq, not_true, decide_false, EVM, EVC, EVP, ↓reduceIte, EV, Nat.reduceAdd, Nat.reduceEqDiff, Int.reduceToNat, reduceCtorEq]
   ·by_cases h2 : cutN z c.name = c.name
    ·have h3 : hidN z c.name = false := by rw [hh]; simp [h2]
     rw [if_neg (by simp [h3])]
     rw [h2] at k1
     have h4 : decide (c.name ≠ []) = true := by rw [h2] at h1; simpa using h1
     rw [h4] at k1
     generalize b ++ (if under c.name z.origin = true then upN z.origin c.name else []).map nrec = b' at *
     simp (disch := omega) only [Bb1, hc, k1, k5, EVM, EVC, EVP, ↓reduceIte, EV, Nat.reduceAdd, Nat.reduceEqDiff, Int.reduceToNat, reduceCtorEq]
    ·have h3 : hidN z c.name = true := by rw [hh]; simp [h1, h2]
     rw [if_pos h3]
     have h4 : decide (cutN z c.name ≠ []) = true := by simpa using h1
     rw [h4] at k1
     simp (disch := omega) only [Bb1, hc, k1, h2, EVM, EVC, EVP, ↓reduceIte, EV, Nat.reduceAdd, Nat.reduceEqDiff, Int.reduceToNat, reduceCtorEq]
     try simp
  ·simp (disch := omega) only [Bb1, EVM, EVC, EVP, ↓reduceIte, EV, Nat.reduceAdd, Nat.reduceEqDiff, Int.reduceToNat, reduceCtorEq]
   simp [Out.goes]
 rw [List.nil_append] at key
 have hxl : (z.recs.flatMap fun r => ownN z r.name).length ≤ 256 * z.recs.length := by
  have : ∀ l : List Rec, (l.flatMap fun r => ownN z r.name).length ≤ 256 * l.length := by
   intro l
   induction l with
   | nil => simp
   | cons x r ih =>
     have := Fh4 z x.name
     rw [List.flatMap_cons, List.length_append, List.length_cons]; omega
  exact this _
 have hxw : ∀ x ∈ z.recs.flatMap fun r => ownN z r.name, x.length ≤ 9223372036854775807 := fun x hx => by
  obtain ⟨r, hr, _, _, h4, _⟩ := (Fh3 z x).1 hx
  have := Ax0 (Aj8.1 h4).2.1
  omega
 have he : setN (z.recs.flatMap fun r => ownN z r.name) = namesN z := Fh8 z _ (Fh3 z)
 generalize (z.recs.flatMap fun r => ownN z r.name) = un at *
 have k6 := Jn9 (un.map nrec) (by rw [List.length_map]; omega) (fun r hr => by
  obtain ⟨x, hx, rfl⟩ := List.mem_map.1 hr
  exact hxw x hx)
 rw [Hy9, he] at k6
 generalize un.map nrec = ur at *
 generalize namesN z = nz at *
 simp (disch := omega) only [Bb1, key, k6, EVM, EVC, EVP, ↓reduceIte, EV, Nat.reduceAdd, Nat.reduceEqDiff, Int.reduceToNat, reduceCtorEq]
end Go.X.G
/- What exists in a zone, and what encloses a name; names with another end. -/
namespace Go.X.G
open Go Go.X

def exB (z : Zone) (x : List UInt8) : Bool := z.recs.any fun r => under r.name z.origin && !hidN z r.name && under r.name x && under x z.origin
theorem Km9 (z : Zone) (x : List UInt8) : exB z x = true ↔ inNZ z x := by
 unfold exB inNZ
 simp only [List.any_eq_true, Bool.and_eq_true, Bool.not_eq_true', and_assoc]
theorem Cz7 (z : Zone) (x : List UInt8) : decide (x ∈ namesN z) = exB z x := by
 rw [Bool.eq_iff_iff, Km9, ← Cj5]
 simp
theorem Ap1 (z : Zone) (hl : z.recs.length ≤ 1000) : (namesN z).length ≤ 1000000 := by
 have h1 := Cw8 (allN z)
 have h2 : ∀ l : List Rec, (l.flatMap fun r => upN z.origin r.name).length ≤ 256 * l.length := by
  intro l
  induction l with
  | nil => simp
  | cons x r ih =>
    have := Cw3 z.origin x.name
    rw [List.flatMap_cons, List.length_append, List.length_cons]; omega
 have h3 := h2 (z.recs.filter fun r => under r.name z.origin && !hidN z r.name)
 have h4 := List.length_filter_le (fun r => under r.name z.origin && !hidN z r.name) z.recs
 show (setN (allN z)).length ≤ 1000000
 unfold allN at h1 ⊢
 omega
theorem Fs7 (z : Zone) (n : List UInt8) (hz : z.wf) (hl : z.recs.length ≤ 1000) : S Hc9 2 [z.pv, .s n] = some [.b (exB z n)] := by
 refine Ms8 (N := 1) rfl ?_
 have k1 := Dw4 z hz hl
 have k2 := Ad8 (namesN z) n (Ap1 z hl)
 rw [Cz7] at k2
 generalize namesN z = nz at *
 simp (disch := omega) only [Mh7, k1, k2, EVM, EVC, EVP, ↓reduceIte, EV, Nat.reduceAdd, Nat.reduceEqDiff, Int.reduceToNat, reduceCtorEq]
theorem Gz0 (z : Zone) (n : List UInt8) (hz : z.wf) (hl : z.recs.length ≤ 1000) : S Hc5 2 [z.pv, .s n] = some [.b (exB z n)] := by
 have hn := Ap1 z hl
 refine Ms0 (N := (namesN z).length + 1) rfl ?_
 have k1 := Bd5 z hz hl
 rw [← Cz7]
 generalize namesN z = nz at *
 have key : Kl6.ev S (nz.length + 1) [z.pv, .s n, Aj3 nz] = some (if n ∈ nz then .ret [.b true] else .yld 0 []) := by
  refine Aq1 nz (fun i => [.i .i64 (i : Int)]) (fun i r => if n ∈ r then .ret [.b true] else .yld 0 []) rfl (by omega) (fun i c r hd hi hc => ?_) ?_
  ·by_cases h : c = n
   ·right
    simp (disch := omega) only [Gm9, hc, h, EVM, EVC, EVP, ↓reduceIte, EV, Nat.reduceAdd, Nat.reduceEqDiff, Int.reduceToNat, reduceCtorEq]
    simp [Out.goes]
   ·left
    have h2 : ¬ n = c := fun e => h e.symm
    simp (disch := omega) only [Gm9, hc, h, EVM, EVC, EVP, ↓reduceIte, EV, Nat.reduceAdd, Nat.reduceEqDiff, Int.reduceToNat, reduceCtorEq]
    simp [h2]
  ·simp (disch := omega) only [Gm9, EVM, EVC, EVP, ↓reduceIte, EV, Nat.reduceAdd, Nat.reduceEqDiff, Int.reduceToNat, reduceCtorEq]
   simp [Out.goes]
 by_cases h : n ∈ nz
 ·rw [if_pos h] at key
  simp (disch := omega) only [Gm9, k1, key, EVM, EVC, EVP, ↓reduceIte, EV, Nat.reduceAdd, Nat.reduceEqDiff, Int.reduceToNat, reduceCtorEq]
  try simp [h]
 ·rw [if_neg h] at key
  simp (disch := omega) only [Gm9, k1, key, EVM, EVC, EVP, ↓reduceIte, EV, Nat.reduceAdd, Nat.reduceEqDiff, Int.reduceToNat, reduceCtorEq]
  try simp [h]
def encO (z : Zone) (n : List UInt8) : Option (List UInt8) := (upN z.origin n).find? (exB z)
def encN (z : Zone) (n : List UInt8) : List UInt8 := if under n z.origin = true then (encO z n).getD [] else []
theorem Kd6 {n : List UInt8} (h : vld n = true) : n ≠ [] := fun e => by subst e; simp [vld, nm] at h
theorem Bk9 {z : Zone} {n e : List UInt8} (hu : under n z.origin = true) (h : encO z n = some e) : under n e = true ∧ exB z e = true := by
 unfold encO at h
 have h1 := List.mem_of_find?_eq_some h
 have h2 := List.find?_some h
 exact ⟨((Ad9 hu).1 h1).1, h2⟩
theorem Dw5 (z : Zone) (n : List UInt8) (hz : z.wf) (hl : z.recs.length ≤ 1000) (hn : n.length ≤ 9223372036854775807) : S Hz7 2 [z.pv, .s n] = some [.s (encN z n), .b (decide (encN z n ≠ []))] := by
 refine Mm7 (N := 1000) rfl ?_
 have g1 := hz.origin
 unfold strr at g1
 have k0 := Ab0 n z.origin hn g1
 unfold encN
 rcases Bool.eq_false_or_eq_true (under n z.origin) with hu | hu
 ·rw [if_pos hu]
  rw [hu] at k0
  have k1 := Dw4 z hz hl
  have hnl := Ap1 z hl
  have k2 : ∀ x, S Cy6 2 [Aj3 (namesN z), .s x] = some [.b (exB z x)] := fun x => by rw [← Cz7]; exact Ad8 (namesN z) x hnl
  generalize namesN z = nz at *
  obtain ⟨v1, v2, _⟩ := Aj8.1 hu
  have hlb := Av6 n
  have h0 : jn ((lbl n).drop 0) = n := Bf8 v1
  let res : Option (List UInt8) → Out := fun o => match o with | some e => .yld 0 [.s e] | none => .ret [.s [], .b false]
  have key : Kg7.ev S 1000 [z.pv, .s n, .b true, Aj3 nz] = some (res (encO z n)) := by
   have := Ay0 (fn := S) (N := 1000) (η := [z.pv, .s n, .b true, Aj3 nz]) (id := 1) (init := [(.v 1)]) (body := Fr2) ((lbl n).length - (lbl z.origin).length)
    (fun k => [.s (jn ((lbl n).drop k))]) (fun k => res (((upN z.origin n).drop k).find? (exB z))) ?_ (by omega) (fun k hk => ?_) ?_
   ·exact this
   ·rw [h0]
    simp (disch := omega) only [EVM, EVC, EVP, ↓reduceIte, EV, Nat.reduceAdd, Nat.reduceEqDiff, Int.reduceToNat, reduceCtorEq]
   ·have hup : (upN z.origin n)[k]? = some (jn ((lbl n).drop k)) := Al7 (Nat.le_of_lt hk)
    have hd : (upN z.origin n).drop k = jn ((lbl n).drop k) :: (upN z.origin n).drop (k + 1) := by
     obtain ⟨h1, h2⟩ := List.getElem?_eq_some_iff.1 hup
     rw [List.drop_eq_getElem_cons h1, h2]
    obtain ⟨q1, q2⟩ := Dy0 hu hk
    have q3 : ¬ jn ((lbl n).drop k) = z.origin := fun h => by have := (At8 hu (Nat.le_of_lt hk)).1 h; omega
    have q4 := Bf9 v1 k
    have k1 := Bw7 (jn ((lbl n).drop k)) (by omega)
    rw [q1, q2] at k1
    have k3 := k2 (jn ((lbl n).drop k))
    rw [hd]
    generalize jn ((lbl n).drop (k + 1)) = nx at *
    generalize jn ((lbl n).drop k) = cu at *
    rcases Bool.eq_false_or_eq_true (exB z cu) with h5 | h5
    ·right
     rw [h5] at k3
     rw [List.find?_cons_of_pos h5]
     refine ⟨?_, rfl⟩
     simp (disch := omega) only [Dn4, k3, EVM, EVC, EVP, ↓reduceIte, EV, Nat.reduceAdd, Nat.reduceEqDiff, Int.reduceToNat, reduceCtorEq]
     rfl
    ·left
     rw [h5] at k3
     rw [List.find?_cons_of_neg (by simp [h5])]
     refine ⟨?_, rfl⟩
     simp (disch := omega) only [Dn4, k1, k3, q3, EVM, EVC, EVP, ↓reduceIte, EV, Nat.reduceAdd, Nat.reduceEqDiff, Int.reduceToNat, reduceCtorEq]
   ·have hup : (upN z.origin n)[(lbl n).length - (lbl z.origin).length]? = some (jn ((lbl n).drop ((lbl n).length - (lbl z.origin).length))) := Al7 (Nat.le_refl _)
    have hd : (upN z.origin n).drop ((lbl n).length - (lbl z.origin).length) = [jn ((lbl n).drop ((lbl n).length - (lbl z.origin).length))] := by
     obtain ⟨h1, h2⟩ := List.getElem?_eq_some_iff.1 hup
     have h9 : (upN z.origin n).drop ((lbl n).length - (lbl z.origin).length + 1) = [] := List.drop_of_length_le (by simp [upN])
     rw [List.drop_eq_getElem_cons h1, h2, h9]
    have q3 := (At8 hu (Nat.le_refl _)).2 rfl
    rw [hd, q3]
    have k3 := k2 z.origin
    rcases Bool.eq_false_or_eq_true (exB z z.origin) with h5 | h5
    ·rw [h5] at k3
     rw [List.find?_cons_of_pos h5]
     refine ⟨?_, rfl⟩
     simp (disch := omega) only [Dn4, k3, EVM, EVC, EVP, ↓reduceIte, EV, Nat.reduceAdd, Nat.reduceEqDiff, Int.reduceToNat, reduceCtorEq]
     rfl
    ·rw [h5] at k3
     rw [List.find?_cons_of_neg (by simp [h5]), List.find?_nil]
     refine ⟨?_, rfl⟩
     simp (disch := omega) only [Dn4, k3, EVM, EVC, EVP, ↓reduceIte, EV, Nat.reduceAdd, Nat.reduceEqDiff, Int.reduceToNat, reduceCtorEq]
     rfl
  cases he : encO z n with
  | none =>
    rw [he] at key
    simp only [res] at key
    simp (disch := omega) only [Dn4, k0, k1, key, EVM, EVC, EVP, ↓reduceIte, EV, Nat.reduceAdd, Nat.reduceEqDiff, Int.reduceToNat, reduceCtorEq]
    simp
  | some e =>
    rw [he] at key
    simp only [res] at key
    have h6 := Kd6 (Aj8.1 (Bk9 hu he).1).2.1
    simp (disch := omega) only [Dn4, k0, k1, key, EVM, EVC, EVP, ↓reduceIte, EV, Nat.reduceAdd, Nat.reduceEqDiff, Int.reduceToNat, reduceCtorEq]
    simp [h6]
 ·rw [if_neg (by simp [hu])]
  rw [hu] at k0
  simp (disch := omega) only [Dn4, k0, EVM, EVC, EVP, ↓reduceIte, EV, Nat.reduceAdd, Nat.reduceEqDiff, Int.reduceToNat, reduceCtorEq]
  try simp
def bestF (n : List UInt8) : List UInt8 → List (List UInt8) → List UInt8
 | b, [] => b
 | b, x :: r => bestF n (if under n x && (decide (b = []) || decide ((lbl b).length < (lbl x).length)) then x else b) r
theorem Dq7 (n : List UInt8) : ∀ (l : List (List UInt8)) (b : List UInt8), (b = [] ∨ under n b = true) →
  (bestF n b l = [] → b = [] ∧ ∀ x ∈ l, under n x = false) ∧
  (bestF n b l ≠ [] → under n (bestF n b l) = true ∧ (bestF n b l = b ∨ bestF n b l ∈ l) ∧ (b ≠ [] → (lbl b).length ≤ (lbl (bestF n b l)).length) ∧ ∀ x ∈ l, under n x = true → (lbl x).length ≤ (lbl (bestF n b l)).length)
 | [], b, hb => by
   simp only [bestF]
   refine ⟨fun h => ⟨h, fun r hr => by simp at hr⟩, fun h => ⟨hb.resolve_left h, .inl trivial, fun _ => Nat.le_refl _, fun r hr => by simp at hr⟩⟩
 | x :: rs, b, hb => by
   simp only [bestF]
   have hne : under n x = true → x ≠ [] := fun h => Kd6 (Aj8.1 h).2.1
   by_cases hc : (under n x && (decide (b = []) || decide ((lbl b).length < (lbl x).length))) = true
   ·rw [if_pos hc]
    simp only [Bool.and_eq_true, Bool.or_eq_true, decide_eq_true_eq] at hc
    obtain ⟨c2, c3⟩ := hc
    obtain ⟨h1, h2⟩ := Dq7 n rs x (.inr c2)
    refine ⟨fun h => absurd (h1 h).1 (hne c2), fun h => ?_⟩
    obtain ⟨g1, g2, g3, g4⟩ := h2 h
    refine ⟨g1, .inr ?_, fun hb0 => ?_, fun y hy hy2 => ?_⟩
    ·rcases g2 with g2 | g2
     ·rw [g2]; exact .head _
     ·exact .tail _ g2
    ·have := g3 (hne c2)
     rcases c3 with c3 | c3
     ·exact absurd c3 hb0
     ·omega
    ·rcases List.mem_cons.1 hy with rfl | hy
     ·exact g3 (hne c2)
     ·exact g4 y hy hy2
   ·rw [if_neg hc]
    obtain ⟨h1, h2⟩ := Dq7 n rs b hb
    have hr : under n x = true → b ≠ [] ∧ (lbl x).length ≤ (lbl b).length := by
     intro c2
     simp only [c2, Bool.true_and, Bool.or_eq_true, decide_eq_true_eq, not_or, Nat.not_lt] at hc
     exact hc
    refine ⟨fun h => ?_, fun h => ?_⟩
    ·obtain ⟨g1, g2⟩ := h1 h
     refine ⟨g1, fun y hy => ?_⟩
     rcases List.mem_cons.1 hy with rfl | hy
     ·rcases Bool.eq_false_or_eq_true (under n y) with h3 | h3
      ·exact absurd g1 (hr h3).1
      ·exact h3
     ·exact g2 y hy
    ·obtain ⟨g1, g2, g3, g4⟩ := h2 h
     refine ⟨g1, ?_, g3, fun y hy hy2 => ?_⟩
     ·rcases g2 with g2 | g2
      ·exact .inl g2
      ·exact .inr (.tail _ g2)
     ·rcases List.mem_cons.1 hy with rfl | hy
      ·obtain ⟨q1, q2⟩ := hr hy2
       have := g3 q1
       omega
      ·exact g4 y hy hy2
theorem Js4 {a b c : List UInt8} (h1 : under a b = true) (h2 : under b c = true) : under a c = true := by
 obtain ⟨v1, _, s1⟩ := Aj8.1 h1
 obtain ⟨_, v3, s2⟩ := Aj8.1 h2
 exact Aj8.2 ⟨v1, v3, s2.trans s1⟩
theorem Jf9 (z : Zone) (n : List UInt8) : bestF n [] (namesN z) = encN z n := by
 obtain ⟨h1, h2⟩ := Dq7 n (namesN z) [] (.inl rfl)
 have hin : ∀ x, x ∈ namesN z ↔ exB z x = true := fun x => by rw [← Cz7]; simp
 have hor : ∀ x, exB z x = true → under x z.origin = true := fun x hx => by
  obtain ⟨_, _, _, _, _, h⟩ := (Km9 z x).1 hx
  exact h
 unfold encN
 by_cases hb : bestF n [] (namesN z) = []
 ·have := (h1 hb).2
  rw [hb]
  rcases Bool.eq_false_or_eq_true (under n z.origin) with hu | hu
  ·rw [if_pos hu]
   cases he : encO z n with
   | none => rfl
   | some e =>
     obtain ⟨g1, g2⟩ := Bk9 hu he
     have := this e ((hin e).2 g2)
     rw [g1] at this; cases this
  ·rw [if_neg (by simp [hu])]
 ·obtain ⟨g1, g2, _, g4⟩ := h2 hb
  have g3 : exB z (bestF n [] (namesN z)) = true := (hin _).1 (g2.resolve_left hb)
  have hu : under n z.origin = true := Js4 g1 (hor _ g3)
  rw [if_pos hu]
  generalize bestF n [] (namesN z) = b at *
  have hm : b ∈ upN z.origin n := (Ad9 hu).2 ⟨g1, hor _ g3⟩
  cases he : encO z n with
  | none =>
    unfold encO at he
    rw [List.find?_eq_none] at he
    exact absurd g3 (he b hm)
  | some e =>
    obtain ⟨q1, q2⟩ := Bk9 hu he
    have q3 := g4 e ((hin e).2 q2) q1
    have q4 : (lbl b).length ≤ (lbl e).length := by
     unfold encO at he
     obtain ⟨_, pa, pb, he2, he3⟩ := List.find?_eq_some_iff_append.1 he
     obtain ⟨v1, v2, vs⟩ := Aj8.1 hu
     have hbm := hm
     rw [he2] at hbm
     rcases List.mem_append.1 hbm with hbm | hbm
     ·have := he3 b hbm
      rw [g3] at this; cases this
     ·rcases List.mem_cons.1 hbm with rfl | hbm
      ·exact Nat.le_refl _
      ·obtain ⟨j, hj⟩ := List.getElem?_of_mem hbm
       have e1 : (upN z.origin n)[pa.length]? = some e := by rw [he2, List.getElem?_append_right (Nat.le_refl _)]; simp
       have e2 : (upN z.origin n)[pa.length + 1 + j]? = some b := by
        rw [he2, List.getElem?_append_right (by omega), show pa.length + 1 + j - pa.length = j + 1 by omega]
        simpa using hj
       have l2 := (List.getElem?_eq_some_iff.1 e2).1
       rw [show (upN z.origin n).length = (lbl n).length - (lbl z.origin).length + 1 by simp [upN]] at l2
       rw [Al7 (by omega)] at e1 e2
       injection e1 with e1
       injection e2 with e2
       rw [← e1, ← e2, (Ag4 v1 _).2, (Ag4 v1 _).2, List.length_drop, List.length_drop]
       omega
    obtain ⟨_, vb, sb⟩ := Aj8.1 g1
    obtain ⟨_, ve, se⟩ := Aj8.1 q1
    rw [List.suffix_iff_eq_drop] at sb se
    show b = e
    refine As7 vb ve ?_
    rw [sb, se, Nat.le_antisymm q4 q3]
theorem Db0 (z : Zone) (n : List UInt8) (hz : z.wf) (hl : z.recs.length ≤ 1000) (hn : n.length ≤ 9223372036854775807) : S Hc4 2 [z.pv, .s n] = some [.s (encN z n), .b (decide (encN z n ≠ []))] := by
 have hnl := Ap1 z hl
 refine Mr7 (N := (namesN z).length + 1) rfl ?_
 have k1 := Bd5 z hz hl
 have hv : ∀ x ∈ namesN z, x.length ≤ 254 := fun x hx => by
  obtain ⟨_, _, _, _, _, h⟩ := (Cj5 z x).1 hx
  exact Ax0 (Aj8.1 h).1
 rw [← Jf9]
 generalize namesN z = nz at *
 have key : Kl3.ev S (nz.length + 1) [z.pv, .s n, Aj3 nz] = some (.yld 0 [.s (bestF n [] nz)]) := by
  refine Ak5 nz (fun i (b : List UInt8) => [.s b, .i .i64 (i : Int)]) (fun i b r => .yld 0 [.s (bestF n b r)]) (fun i b => b.length ≤ 254) [] rfl (by simp) (by omega) (fun i b c r hd hi hc hI => ?_) (fun b hI => ?_)
  ·left
   have g2 := hv c (List.mem_of_getElem? hc)
   have k2 := Aw0 n c hn (by omega)
   refine ⟨if under n c && (decide (b = []) || decide ((lbl b).length < (lbl c).length)) then c else b, ?_, by split <;> omega, rfl⟩
   rcases Bool.eq_false_or_eq_true (under n c) with h1 | h1
   ·rw [h1] at k2
    by_cases h2 : b = []
    ·simp (disch := omega) only [Fs9, hc, h1, h2, k2, EVM, EVC, EVP, ↓reduceIte, EV, Nat.reduceAdd, Nat.reduceEqDiff, Int.reduceToNat, reduceCtorEq]
     simp
    ·have k3 := Az1 b (by omega)
     have k4 := Az1 c (by omega)
     by_cases h3 : (lbl b).length < (lbl c).length
     ·have h4 : ((lbl b).length : Int) < ((lbl c).length : Int) := by omega
      simp (disch := omega) only [Fs9, hc, h1, h2, h4, k2, k3, k4, EVM, EVC, EVP, ↓reduceIte, EV, Nat.reduceAdd, Nat.reduceEqDiff, Int.reduceToNat, reduceCtorEq]
      simp [h3, h2]
     ·have h4 : ¬ ((lbl b).length : Int) < ((lbl c).length : Int) := by omega
      simp (disch := omega) only [Fs9, hc, h1, h2, h4, k2, k3, k4, EVM, EVC, EVP, ↓reduceIte, EV, Nat.reduceAdd, Nat.reduceEqDiff, Int.reduceToNat, reduceCtorEq]
      simp [h3, h2]
   ·rw [h1] at k2
    simp (disch := omega) only [Fs9, hc, h1, k2, EVM, EVC, EVP, ↓reduceIte, EV, Nat.reduceAdd, Nat.reduceEqDiff, Int.reduceToNat, reduceCtorEq]
    simp
  ·simp (disch := omega) only [Fs9, EVM, EVC, EVP, ↓reduceIte, EV, Nat.reduceAdd, Nat.reduceEqDiff, Int.reduceToNat, reduceCtorEq]
   simp [bestF, Out.goes]
 generalize bestF n [] nz = be at *
 simp (disch := omega) only [Fs9, k1, key, EVM, EVC, EVP, ↓reduceIte, EV, Nat.reduceAdd, Nat.reduceEqDiff, Int.reduceToNat, reduceCtorEq]
 try simp
end Go.X.G
/- Names with another end; redirections; what records of a name say. -/
namespace Go.X

structure Res where
 kind : Int
 owner : List UInt8
 wild : Bool
 target : List UInt8
 recs : List Rec
 deriving DecidableEq
def Res.cells (x : Res) : List PV := [.i .i64 x.kind, .s x.owner, .b x.wild, .s x.target, Aj1 x.recs]
def Res.pv (x : Res) : PV := .a x.cells
theorem Hq4 (x : Res) : Aj7 0 x.pv = some (.i .i64 x.kind) := rfl
theorem Hq3 (x : Res) : Aj7 1 x.pv = some (.s x.owner) := rfl
theorem Hq2 (x : Res) : Aj7 2 x.pv = some (.b x.wild) := rfl
theorem Hq1 (x : Res) : Aj7 3 x.pv = some (.s x.target) := rfl
theorem Hq0 (x : Res) : Aj7 4 x.pv = some (Aj1 x.recs) := rfl
theorem Ks0 (x : Res) : Al3 0 5 x.pv = some x.pv := rfl
theorem Lv8 (x : Res) : Bg6 5 x.pv = some x.pv := rfl
theorem Ky3 (k : Int) (o : List UInt8) (w : Bool) (t : List UInt8) (l : List Rec) : PV.a [.i .i64 k, .s o, .b w, .s t, Aj1 l] = Res.pv ⟨k, o, w, t, l⟩ := rfl
theorem Dz5 (l : List Rec) (k : IntKind) (z : Int) (n : List UInt8) (x : Rec) (h0 : 0 ≤ z) (h3 : l[z.toNat]? = some x) :
  Bc3 16 0 [.s n] (Aj1 l) (.i k z) = some (Aj1 (l.set z.toNat { x with name := n })) := by
 have h4 : (l.map Rec.pv)[z.toNat]? = some x.pv := by rw [List.getElem?_map, h3]; rfl
 simp only [Bc3, Aj1, h0, h4, and_self, if_true, Option.bind_some]
 have h5 : Bc4 x.pv 0 [.s n] = some (Rec.pv { x with name := n }) := rfl
 rw [h5]
 simp [List.map_set]
set_option linter.defProp false in
def EVR := (And.intro @Hq4 (And.intro @Hq3 (And.intro @Hq2 (And.intro @Hq1 (And.intro @Hq0 (And.intro @Ks0 (And.intro @Lv8 @Ky3)))))))
end Go.X
namespace Go.X.G
open Go Go.X

def replL (n top to : List UInt8) : List (List UInt8) := (lbl n).take ((lbl n).length - (lbl top).length) ++ lbl to
def replN (n top to : List UInt8) : List UInt8 × Int :=
 if vld n = true ∧ vld top = true ∧ vld to = true ∧ (lbl to)[0]? ≠ some [42] then
  if under n top = true ∧ n ≠ top then
   if (flat (replL n top to)).length ≤ 254 then (flat (replL n top to), 0) else ([], 9)
  else ([], 1)
 else ([], 2)
theorem Dh4 {l : List (List UInt8)} (h : Aw2 true l = true) (h2 : l[0]? ≠ some [42]) : Aw2 false l = true := by
 cases l with
 | nil => rfl
 | cons p r =>
   simp only [Aw2, Bool.and_eq_true] at h ⊢
   refine ⟨⟨h.1.1, ?_⟩, h.2⟩
   have : p ≠ [42] := fun e => h2 (by rw [e]; rfl)
   simp [this]
theorem Bt8 {n top to : List UInt8} (hu : under n top = true) (hne : n ≠ top) (ht : vld to = true) (hs : (lbl to)[0]? ≠ some [42]) : Aw2 true (replL n top to) = true ∧ replL n top to ≠ [] ∧ (lbl n).take ((lbl n).length - (lbl top).length) ≠ [] := by
 obtain ⟨vn, vt, sf⟩ := Aj8.1 hu
 have hlt : (lbl top).length < (lbl n).length := by
  have := sf.length_le
  rcases Nat.lt_or_ge (lbl top).length (lbl n).length with h | h
  ·exact h
  ·exact absurd (Bq8 hu h) hne
 have h1 : (lbl n).take ((lbl n).length - (lbl top).length) ≠ [] := by
  intro e
  have := congrArg List.length e
  rw [List.length_take, List.length_nil] at this
  omega
 have h2 : Aw2 true ((lbl n).take ((lbl n).length - (lbl top).length)) = true := by
  have := At6 vn
  rw [← List.take_append_drop ((lbl n).length - (lbl top).length) (lbl n), Bk6, Bool.and_eq_true] at this
  exact this.1
 refine ⟨?_, by unfold replL; simp [h1], h1⟩
 unfold replL
 rw [Bk6, h2, List.isEmpty_eq_false_iff.2 h1]
 simp [Dh4 (At6 ht) hs]
theorem Hm2 {l : List (List UInt8)} (h : Aw2 true l = true) : ∀ x ∈ l, x.length ≤ 1000 := fun x hx => by
 have := Bw1 (Av9 h hx); omega
theorem Dr5 (n top to : List UInt8) (hn : n.length ≤ 9223372036854775807) (ht : top.length ≤ 9223372036854775807) (hto : to.length ≤ 9223372036854775807) : S Hc6 3 [.s n, .s top, .s to] = some [.s (replN n top to).1, .i .i64 (replN n top to).2] := by
 refine Ms1 (N := 1) rfl ?_
 have k1 := split_ok n hn
 have k2 := split_ok top ht
 have k3 := split_ok to hto
 have k4 := Aw0 n top hn ht
 have l1 := Av6 n
 have l2 := Av6 top
 have l3 := Av6 to
 unfold replN
 rcases Bool.eq_false_or_eq_true (vld n) with v1 | v1
 ·rcases Bool.eq_false_or_eq_true (vld top) with v2 | v2
  ·rcases Bool.eq_false_or_eq_true (vld to) with v3 | v3
   ·rw [v1] at k1
    rw [v2] at k2
    rw [v3] at k3
    have tail : (lbl to)[0]? ≠ some [42] → T.ev S 1 Fp2 [.s n, .s top, .s to, Aj3 (lbl n), .b true, Aj3 (lbl top), .b true, Aj3 (lbl to), .b true] = some (.ret (if under n top = true ∧ n ≠ top then (if (flat (replL n top to)).length ≤ 254 then [.s (flat (replL n top to)), .i .i64 0] else [.s [], .i .i64 9]) else [.s [], .i .i64 1])) := by
     intro hs
     rcases Bool.eq_false_or_eq_true (under n top) with hu | hu
     ·rw [hu] at k4
      have hle := (Aj8.1 hu).2.2.length_le
      by_cases he : n = top
      ·have h5 : ((lbl n).length : Int) = ((lbl top).length : Int) := by rw [he]
       rw [if_neg (by simp [he])]
       simp (disch := omega) only [Bl2, k4, h5, EVM, EVC, EVP, ↓reduceIte, EV, Nat.reduceAdd, Nat.reduceEqDiff, Int.reduceToNat, reduceCtorEq]
      ·rw [if_pos ⟨hu, he⟩]
       obtain ⟨q1, q2, q3⟩ := Bt8 hu he v3 hs
       have h5 : ¬ ((lbl n).length : Int) = ((lbl top).length : Int) := by
        intro h
        exact he (Bq8 hu (by omega))
       have h6 : Ab3 1 (Aj3 (lbl n)) (.i .i64 0) (.i .i64 (((lbl n).length : Int) - ((lbl top).length : Int))) = some (Aj3 ((lbl n).take ((lbl n).length - (lbl top).length))) := by
        rw [Ad2 _ _ _ _ _ (by omega) (by omega) (by omega)]
        have : (((lbl n).length : Int) - ((lbl top).length : Int)).toNat = (lbl n).length - (lbl top).length := by omega
        rw [this]; simp
       have h7 : Ac1 1 (Aj3 []) (Aj3 ((lbl n).take ((lbl n).length - (lbl top).length))) = some (Aj3 ((lbl n).take ((lbl n).length - (lbl top).length))) := by
        have := Bz5 [] ((lbl n).take ((lbl n).length - (lbl top).length)) (by rw [List.length_take]; simp; omega)
        simpa using this
       have h8 : Ac1 1 (Aj3 ((lbl n).take ((lbl n).length - (lbl top).length))) (Aj3 (lbl to)) = some (Aj3 (replL n top to)) := Bz5 _ _ (by rw [List.length_take]; omega)
       have hrl : (replL n top to).length ≤ 1000 := by unfold replL; rw [List.length_append, List.length_take]; omega
       have h9 := Hz2 (replL n top to) hrl (Hm2 q1)
       have hj : jn (replL n top to) = flat (replL n top to) := by unfold jn; rw [if_neg q2]
       rw [hj] at h9
       have hfl : (flat (replL n top to)).length ≤ 1000000 := by
        have : ∀ l : List (List UInt8), (∀ x ∈ l, x.length ≤ 999) → (flat l).length ≤ 1000 * l.length := by
         intro l
         induction l with
         | nil => intro _; simp [flat]
         | cons x r ih =>
           intro h
           have a1 := ih fun y hy => h y (.tail _ hy)
           have a2 := h x (.head _)
           rw [Af7, List.length_append, List.length_cons, List.length_cons]; omega
        have := this (replL n top to) (fun x hx => by have := Bw1 (Av9 q1 hx); omega)
        omega
       have h10 := Aq6 (flat (replL n top to)) (by omega)
       generalize (lbl n).take ((lbl n).length - (lbl top).length) = th at *
       by_cases hlen : (flat (replL n top to)).length ≤ 254
       ·rw [if_pos hlen]
        have hv := (Kd5 q1 hlen).1
        rw [hj] at hv
        rw [hv] at h10
        generalize replL n top to = rl at *
        simp (disch := omega) only [Bl2, k4, h5, h6, h7, h8, h9, h10, EVM, EVC, EVP, ↓reduceIte, EV, Nat.reduceAdd, Nat.reduceEqDiff, Int.reduceToNat, reduceCtorEq]
       ·rw [if_neg hlen]
        have hv : vld (flat (replL n top to)) = false := by
         rcases Bool.eq_false_or_eq_true (vld (flat (replL n top to))) with h | h
         ·exact absurd (Ax0 h) hlen
         ·exact h
        rw [hv] at h10
        generalize replL n top to = rl at *
        simp (disch := omega) only [Bl2, k4, h5, h6, h7, h8, h9, h10, EVM, EVC, EVP, ↓reduceIte, EV, Nat.reduceAdd, Nat.reduceEqDiff, Int.reduceToNat, reduceCtorEq]
     ·rw [hu] at k4
      rw [if_neg (by simp [hu])]
      simp (disch := omega) only [Bl2, k4, EVM, EVC, EVP, ↓reduceIte, EV, Nat.reduceAdd, Nat.reduceEqDiff, Int.reduceToNat, reduceCtorEq]
    cases hq : lbl to with
    | nil =>
      rw [hq] at k3 tail
      have ht := tail (by simp)
      rw [if_pos ⟨v1, v2, v3, by simp⟩]
      simp (disch := first | omega | (simp; omega)) only [↓ht, Bl2, k1, k2, k3, EVM, EVC, EVP, ↓reduceIte, EV, Nat.reduceAdd, Nat.reduceEqDiff, Int.reduceToNat, reduceCtorEq]
      split <;> (try split) <;> rfl
    | cons p r =>
      rw [hq] at k3 tail
      have h6 : 0 < ((p :: r).length : Int) := by simp only [List.length_cons]; omega
      by_cases h7 : p = [42]
      ·subst h7
       rw [if_neg (by simp)]
       simp (disch := first | omega | (simp only [List.length_cons]; omega)) only [Bl2, k1, k2, k3, EVM, EVC, EVP, ↓reduceIte, EV, Nat.reduceAdd, Nat.reduceEqDiff, Int.reduceToNat, reduceCtorEq]
      ·have ht := tail (by simpa using h7)
       rw [if_pos ⟨v1, v2, v3, by simpa using h7⟩]
       simp (disch := first | omega | (simp only [List.length_cons]; omega)) only [↓ht, Bl2, k1, k2, k3, h7, EVM, EVC, EVP, ↓reduceIte, EV, Nat.reduceAdd, Nat.reduceEqDiff, Int.reduceToNat, reduceCtorEq]
       split <;> (try split) <;> rfl
   ·rw [if_neg (by simp [v3])]
    rw [v1] at k1
    rw [v2] at k2
    rw [v3] at k3
    simp (disch := omega) only [Bl2, k1, k2, k3, EVM, EVC, EVP, ↓reduceIte, EV, Nat.reduceAdd, Nat.reduceEqDiff, Int.reduceToNat, reduceCtorEq]
  ·rw [if_neg (by simp [v2])]
   rw [v1] at k1
   rw [v2] at k2
   simp (disch := omega) only [Bl2, k1, k2, k3, EVM, EVC, EVP, ↓reduceIte, EV, Nat.reduceAdd, Nat.reduceEqDiff, Int.reduceToNat, reduceCtorEq]
 ·rw [if_neg (by simp [v1])]
  rw [v1] at k1
  simp (disch := omega) only [Bl2, k1, k2, k3, EVM, EVC, EVP, ↓reduceIte, EV, Nat.reduceAdd, Nat.reduceEqDiff, Int.reduceToNat, reduceCtorEq]
theorem Dv8 (s t : List UInt8) (hs : s.length ≤ 9223372036854775807) (h : t.isSuffixOf s = true) : S Df6 2 [.s s, .s t] = some [.s (s.take (s.length - t.length))] := by
 have hle : t.length ≤ s.length := (List.isSuffixOf_iff_suffix.1 h).length_le
 have k1 := Bq5 s t hs
 rw [h] at k1
 have k2 : S Dd2 2 [.s s, .s t] = some [.s (s.take (s.length - t.length))] := by
  refine Lr4 (N := 1) rfl ?_
  have h6 : Gy6 (.s s) (.i .i64 0) (.i .i64 ((s.length : Int) - (t.length : Int))) = some (.s (s.take (s.length - t.length))) := by
   rw [Lm4 _ _ _ _ _ (by omega) (by omega) (by omega)]
   have : ((s.length : Int) - (t.length : Int)).toNat = s.length - t.length := by omega
   rw [this]; simp
  simp (disch := omega) only [Lh0, k1, h6, EVM, EVC, EVP, ↓reduceIte, EV, Nat.reduceAdd, Nat.reduceEqDiff, Int.reduceToNat, reduceCtorEq]
 refine Lt9 (N := 1) rfl ?_
 simp (disch := omega) only [Ll1, k2, EVM, EVC, EVP, ↓reduceIte, EV, Nat.reduceAdd, Nat.reduceEqDiff, Int.reduceToNat, reduceCtorEq]
theorem Dn2 (n top to : List UInt8) (hn : n.length ≤ 9223372036854775807) (ht : top.length ≤ 9223372036854775807) (hto : to.length ≤ 9223372036854775807) : S Hz9 3 [.s n, .s top, .s to] = some [.s (replN n top to).1, .i .i64 (replN n top to).2] := by
 refine Mn1 (N := 1) rfl ?_
 have k1 := Aq2 n hn
 have k2 := Aq2 top ht
 have k3 := Aq2 to hto
 unfold replN
 rcases Bool.eq_false_or_eq_true (vld n) with v1 | v1
 ·rcases Bool.eq_false_or_eq_true (vld top) with v2 | v2
  ·rcases Bool.eq_false_or_eq_true (vld to) with v3 | v3
   ·rw [v1] at k1
    rw [v2] at k2
    rw [v3] at k3
    have hp := At5 v3
    have hsf := Bt3 v3
    obtain ⟨c, hc⟩ : ∃ c, to[0]? = some c := ⟨_, List.getElem?_eq_getElem hp⟩
    rw [hc] at hsf
    by_cases hs : c = 42
    ·rw [if_neg (by rw [hs] at hsf; simp [hsf.1 rfl])]
     subst hs
     simp (disch := omega) only [Bb2, k1, k2, k3, hc, EVM, EVC, EVP, ↓reduceIte, EV, Nat.reduceAdd, Nat.reduceEqDiff, Int.reduceToNat, reduceCtorEq]
     try simp
    ·have hs' : (lbl to)[0]? ≠ some [42] := fun e => hs (by have := hsf.2 e; simpa using this)
     have hcc : ¬ (c.toNat : Int) = 42 := fun e => hs (by
      apply UInt8.toNat.inj
      have : (42 : UInt8).toNat = 42 := rfl
      omega)
     rw [if_pos ⟨v1, v2, v3, hs'⟩]
     have tl := Ax0 v2
     have k4 := Hm9 n top hn (by omega)
     rw [Bm6 v1 v2] at k4
     by_cases he : n = top
     ·rw [if_neg (by simp [he])]
      simp (disch := omega) only [Bb2, k1, k2, k3, hc, hcc, he, EVM, EVC, EVP, ↓reduceIte, EV, Nat.reduceAdd, Nat.reduceEqDiff, Int.reduceToNat, reduceCtorEq]
     ·rcases Bool.eq_false_or_eq_true (under n top) with hu | hu
      ·rw [hu] at k4
       rw [if_pos ⟨hu, he⟩]
       obtain ⟨q1, q2, q3⟩ := Bt8 hu he v3 hs'
       have nl := Ax0 v1
       have tol := Ax0 v3
       have hnr : n ≠ [46] := by
        rintro rfl
        have := (Aj8.1 hu).2.2.length_le
        rw [Ab8] at this
        exact he (As7 v1 v2 (by rw [Ab8]; exact (List.length_eq_zero_iff.1 (by simpa using this)).symm))
       have hnf : n = flat (lbl n) := by
        have := Ar4 v1
        unfold jn at this
        rwa [if_neg (fun h => hnr ((Am4 v1).1 h))] at this
       have hsp : lbl n = (lbl n).take ((lbl n).length - (lbl top).length) ++ lbl top := by
        have := (Aj8.1 hu).2.2
        rw [List.suffix_iff_eq_drop] at this
        conv => lhs; rw [← List.take_append_drop ((lbl n).length - (lbl top).length) (lbl n)]
        rw [← this]
       have hhead : ∃ hd, hd = flat ((lbl n).take ((lbl n).length - (lbl top).length)) ∧ hd.length ≤ 254 ∧ ∀ p3 p4 p5 p6, Fp5.ev S 1 [.s n, .s top, .s to, p3, p4, p5, p6] = some (.yld 0 [.s hd]) := by
        refine ⟨_, rfl, ?_, fun p3 p4 p5 p6 => ?_⟩
        ·have : (flat (lbl n)).length ≤ 254 := by rw [← hnf]; exact nl
         rw [hsp, Ap9, List.length_append] at this
         omega
        ·by_cases hr : top = [46]
         ·subst hr
          rw [Ab8, List.append_nil] at hsp
          rw [Ab8, ← hsp, ← hnf]
          simp (disch := omega) only [Bb2, EVM, EVC, EVP, ↓reduceIte, EV, Nat.reduceAdd, Nat.reduceEqDiff, Int.reduceToNat, reduceCtorEq]
         ·have htf : top = flat (lbl top) := by
           have := Ar4 v2
           unfold jn at this
           rwa [if_neg (fun h => hr ((Am4 v2).1 h))] at this
          have hna : n = flat ((lbl n).take ((lbl n).length - (lbl top).length)) ++ top := by
           conv => lhs; rw [hnf, hsp, Ap9]
           rw [← htf]
          have hsuf : top.isSuffixOf n = true := List.isSuffixOf_iff_suffix.2 ⟨_, hna.symm⟩
          have k5 := Dv8 n top hn hsuf
          have htk : n.take (n.length - top.length) = flat ((lbl n).take ((lbl n).length - (lbl top).length)) := by
           conv => lhs; rw [hna]
           rw [List.length_append, Nat.add_sub_cancel, List.take_left]
          rw [htk] at k5
          generalize flat ((lbl n).take ((lbl n).length - (lbl top).length)) = hd at *
          simp (disch := omega) only [Bb2, k5, hr, EVM, EVC, EVP, ↓reduceIte, EV, Nat.reduceAdd, Nat.reduceEqDiff, Int.reduceToNat, reduceCtorEq]
       obtain ⟨hd, hd1, hd2, hd3⟩ := hhead
       have hfin : flat (replL n top to) = if to = [46] then hd else hd ++ to := by
        unfold replL
        rw [Ap9, ← hd1]
        by_cases hr : to = [46]
        ·rw [if_pos hr, hr, Ab8]; simp [flat]
        ·rw [if_neg hr]
         have := Ar4 v3
         unfold jn at this
         rw [if_neg (fun h => hr ((Am4 v3).1 h))] at this
         rw [← this]
       rw [hfin]
       by_cases hr : to = [46]
       ·rw [if_pos hr]
        subst hr
        have h1 : ¬ (255 : Int) ≤ (hd.length : Int) := by omega
        rw [if_pos hd2]
        simp (disch := omega) only [Bb2, k1, k2, k3, k4, hc, hcc, he, hd3, h1, EVM, EVC, EVP, ↓reduceIte, EV, Nat.reduceAdd, Nat.reduceEqDiff, Int.reduceToNat, reduceCtorEq]
       ·rw [if_neg hr]
        by_cases hlen : (hd ++ to).length ≤ 254
        ·rw [if_pos hlen]
         have h1 : ¬ (255 : Int) ≤ ((hd ++ to).length : Int) := by omega
         simp (disch := first | omega | (rw [List.length_append] at *; omega)) only [Bb2, k1, k2, k3, k4, hc, hcc, he, hd3, hr, h1, EVM, EVC, EVP, ↓reduceIte, EV, Nat.reduceAdd, Nat.reduceEqDiff, Int.reduceToNat, reduceCtorEq]
        ·rw [if_neg hlen]
         have h1 : (255 : Int) ≤ ((hd ++ to).length : Int) := by omega
         simp (disch := first | omega | (rw [List.length_append] at *; omega)) only [Bb2, k1, k2, k3, k4, hc, hcc, he, hd3, hr, h1, EVM, EVC, EVP, ↓reduceIte, EV, Nat.reduceAdd, Nat.reduceEqDiff, Int.reduceToNat, reduceCtorEq]
      ·rw [hu] at k4
       rw [if_neg (by simp [hu])]
       simp (disch := omega) only [Bb2, k1, k2, k3, k4, hc, hcc, he, EVM, EVC, EVP, ↓reduceIte, EV, Nat.reduceAdd, Nat.reduceEqDiff, Int.reduceToNat, reduceCtorEq]
   ·rw [if_neg (by simp [v3])]
    rw [v1] at k1
    rw [v2] at k2
    rw [v3] at k3
    simp (disch := omega) only [Bb2, k1, k2, k3, EVM, EVC, EVP, ↓reduceIte, EV, Nat.reduceAdd, Nat.reduceEqDiff, Int.reduceToNat, reduceCtorEq]
  ·rw [if_neg (by simp [v2])]
   rw [v1] at k1
   rw [v2] at k2
   simp (disch := omega) only [Bb2, k1, k2, EVM, EVC, EVP, ↓reduceIte, EV, Nat.reduceAdd, Nat.reduceEqDiff, Int.reduceToNat, reduceCtorEq]
 ·rw [if_neg (by simp [v1])]
  rw [v1] at k1
  simp (disch := omega) only [Bb2, k1, EVM, EVC, EVP, ↓reduceIte, EV, Nat.reduceAdd, Nat.reduceEqDiff, Int.reduceToNat, reduceCtorEq]
end Go.X.G
/- What a zone says about a question: the program and the reference. -/
namespace Go.X.G
open Go Go.X

theorem An4 (z : Zone) (n : List UInt8) (t : Int) (hl : z.recs.length ≤ 1000000) : S By2 3 [z.pv, .s n, .i .i64 t] = some [Aj1 (findR z.recs n t)] := by
 refine Ln6 (N := 1) rfl ?_
 have k1 := Fs5 z.recs n t hl
 simp (disch := omega) only [Lg2, k1, EVM, EVC, EVP, ↓reduceIte, EV, Nat.reduceAdd, Nat.reduceEqDiff, Int.reduceToNat, reduceCtorEq]
theorem Ay6 (z : Zone) (n : List UInt8) (t : Int) (hl : z.recs.length ≤ 1000000) : S Bv9 3 [z.pv, .s n, .i .i64 t] = some [Aj1 (findR z.recs n t)] := by
 refine Ln5 (N := 1) rfl ?_
 have k1 := Ad7 z.recs n t hl
 simp (disch := omega) only [Lg1, k1, EVM, EVC, EVP, ↓reduceIte, EV, Nat.reduceAdd, Nat.reduceEqDiff, Int.reduceToNat, reduceCtorEq]

abbrev zRes : Res := ⟨0, [], false, [], []⟩
def Bc0 (s : List UInt8) : List UInt8 := if s[0]? = some 42 then [] else s
def dnB (z : Zone) (u : List UInt8) : Bool := decide (0 < (findR z.recs u 39).length)
def redO (z : Zone) (n : List UInt8) : Option (List UInt8) := ((upN z.origin n).drop 1).find? (dnB z)
def Bd3 (z : Zone) (n u : List UInt8) : Res :=
 match findR z.recs u 39 with
 | r :: _ => ⟨3, u, false, Bc0 (replN n u r.data.host).1, [r]⟩
 | [] => zRes
def redR (z : Zone) (n : List UInt8) : Option Res := (redO z n).map (Bd3 z n)
def Ah8 : Option Res → List PV
 | some x => [x.pv, .b true]
 | none => [zRes.pv, .b false]
theorem Bz1 {z : Zone} (hz : z.wf) {n : List UInt8} {t : Int} {r : Rec} (h : r ∈ findR z.recs n t) : r.wf := hz.recs.2 r (List.mem_filter.1 h).1
theorem Av1 (z : Zone) (n : List UInt8) (t : Int) : (findR z.recs n t).length ≤ z.recs.length := List.length_filter_le _ _
theorem c42 (c : UInt8) : (c.toNat : Int) = 42 ↔ c = 42 := by
 constructor
 ·intro h
  apply UInt8.toNat.inj
  have : (42 : UInt8).toNat = 42 := rfl
  omega
 ·rintro rfl; rfl
theorem Kn6 (z : Zone) (n : List UInt8) (hz : z.wf) (hl : z.recs.length ≤ 1000000) (hu : under n z.origin = true) (N : Nat) (hN : 1000 < N) :
  Km1.ev S N [z.pv, .s n] = some (match redR z n with | some x => .ret [x.pv, .b true] | none => .yld 0 [.i .i64 0, .s [], .b false, .s [], Aj1 []]) := by
 obtain ⟨v1, v2, _⟩ := Aj8.1 hu
 have hlb := Av6 n
 have nl := Ax0 v1
 have h0 : jn ((lbl n).drop 0) = n := Bf8 v1
 let res : Option (List UInt8) → Out := fun o => match o.map (Bd3 z n) with | some x => .ret [x.pv, .b true] | none => .yld 0 [.i .i64 0, .s [], .b false, .s [], Aj1 []]
 have := Ay0 (fn := S) (N := N) (η := [z.pv, .s n]) (id := 1) (init := [(.v 1), (.c (.i .i64 (0))), (.c (.s [])), (.c (.b false)), (.c (.s [])), (.c (.l 16 []))]) (body := Fr8) ((lbl n).length - (lbl z.origin).length)
  (fun k => [.s (jn ((lbl n).drop k)), .i .i64 0, .s [], .b false, .s [], Aj1 []]) (fun k => res (((upN z.origin n).drop (k + 1)).find? (dnB z))) ?_ (by omega) (fun k hk => ?_) ?_
 ·exact this
 ·rw [h0]
  simp (disch := omega) only [EVM, EVC, EVP, ↓reduceIte, EV, Nat.reduceAdd, Nat.reduceEqDiff, Int.reduceToNat, reduceCtorEq]
 ·have hup : (upN z.origin n)[k + 1]? = some (jn ((lbl n).drop (k + 1))) := Al7 hk
  have hd : (upN z.origin n).drop (k + 1) = jn ((lbl n).drop (k + 1)) :: (upN z.origin n).drop (k + 1 + 1) := by
   obtain ⟨h1, h2⟩ := List.getElem?_eq_some_iff.1 hup
   rw [List.drop_eq_getElem_cons h1, h2]
  obtain ⟨q1, q2⟩ := Dy0 hu hk
  have q3 : ¬ jn ((lbl n).drop k) = z.origin := fun h => by have := (At8 hu (Nat.le_of_lt hk)).1 h; omega
  have q4 := Bf9 v1 k
  have q5 := Bf9 v1 (k + 1)
  have k1 := Bw7 (jn ((lbl n).drop k)) (by omega)
  rw [q1, q2] at k1
  have k2 := An4 z (jn ((lbl n).drop (k + 1))) 39 hl
  rw [hd]
  generalize jn ((lbl n).drop (k + 1)) = nx at *
  generalize jn ((lbl n).drop k) = cu at *
  cases hf : findR z.recs nx 39 with
  | nil =>
    left
    have h5 : dnB z nx = false := by unfold dnB; rw [hf]; rfl
    rw [hf] at k2
    rw [List.find?_cons_of_neg (by simp [h5])]
    refine ⟨?_, rfl⟩
    simp (disch := omega) only [Dn8, k1, k2, q3, EVM, EVC, EVR, EVP, ↓reduceIte, EV, Nat.reduceAdd, Nat.reduceEqDiff, Int.reduceToNat, reduceCtorEq]
    try rfl
  | cons r rest =>
    right
    have h5 : dnB z nx = true := by unfold dnB; rw [hf]; simp
    have hrw := Bz1 hz (n := nx) (t := 39) (r := r) (by rw [hf]; exact .head _)
    have hll := Av1 z nx 39
    have hh := hrw.data.host
    unfold strr at hh
    have k3 := Dn2 n nx r.data.host (by omega) (by omega) hh
    rw [hf] at k2 hll
    rw [List.find?_cons_of_pos h5]
    have e : res (some nx) = .ret [(Res.mk 3 nx false (Bc0 (replN n nx r.data.host).1) [r]).pv, .b true] := by
     simp only [res, Option.map_some, Bd3, hf]
    rw [e]
    refine ⟨?_, rfl⟩
    have hpos : (0 : Int) < ((r :: rest).length : Int) := by simp only [List.length_cons]; omega
    have hls : Ab3 16 (Aj1 (r :: rest)) (.i .i64 0) (.i .i64 1) = some (Aj1 [r]) := by
     rw [Ap4 _ _ _ _ _ (by omega) (by omega) (by omega)]; rfl
    have hix : Az7 16 (Aj1 (r :: rest)) (.i .i64 0) = some r.pv := by
     rw [Ap8 _ _ _ (by omega)]; rfl
    unfold Bc0
    generalize replN n nx r.data.host = rp at *
    obtain ⟨to, er⟩ := rp
    generalize (r :: rest) = ll at *
    cases to with
    | nil =>
      simp (disch := omega) only [Dn8, k1, k2, k3, q3, hpos, hls, hix, EVM, EVC, EVR, EVP, ↓reduceIte, EV, Nat.reduceAdd, Nat.reduceEqDiff, Int.reduceToNat, reduceCtorEq]
      simp
    | cons c tr =>
      by_cases hc : c = 42
      ·subst hc
       simp (disch := omega) only [Dn8, k1, k2, k3, q3, hpos, hls, hix, EVM, EVC, EVR, EVP, ↓reduceIte, EV, Nat.reduceAdd, Nat.reduceEqDiff, Int.reduceToNat, reduceCtorEq]
       simp
      ·have hc2 : ¬ (c.toNat : Int) = 42 := fun h => hc ((c42 c).1 h)
       simp (disch := omega) only [Dn8, k1, k2, k3, q3, hpos, hls, hix, hc2, EVM, EVC, EVR, EVP, ↓reduceIte, EV, Nat.reduceAdd, Nat.reduceEqDiff, Int.reduceToNat, reduceCtorEq]
       simp [hc]
 ·have q3 := (At8 hu (Nat.le_refl _)).2 rfl
  have h9 : (upN z.origin n).drop ((lbl n).length - (lbl z.origin).length + 1) = [] := List.drop_of_length_le (by simp [upN])
  rw [h9, q3, List.find?_nil]
  refine ⟨?_, rfl⟩
  simp (disch := omega) only [Dn8, EVM, EVC, EVR, EVP, ↓reduceIte, EV, Nat.reduceAdd, Nat.reduceEqDiff, Int.reduceToNat, reduceCtorEq]
  rfl
theorem Dw3 (z : Zone) (n : List UInt8) (hz : z.wf) (hl : z.recs.length ≤ 1000000) (hu : under n z.origin = true) : S Hd0 2 [z.pv, .s n] = some (Ah8 (redR z n)) := by
 refine Ms9 (N := 1001) rfl ?_
 have key := Kn6 z n hz hl hu 1001 (by omega)
 cases h : redR z n with
 | none =>
   rw [h] at key
   simp (disch := omega) only [Dn8, key, Ah8, EVM, EVC, EVR, EVP, ↓reduceIte, EV, Nat.reduceAdd, Nat.reduceEqDiff, Int.reduceToNat, reduceCtorEq]
 | some x =>
   rw [h] at key
   simp (disch := omega) only [Dn8, key, Ah8, EVM, EVC, EVR, EVP, ↓reduceIte, EV, Nat.reduceAdd, Nat.reduceEqDiff, Int.reduceToNat, reduceCtorEq]
theorem Fm9 : ∀ (l : List (List UInt8)), (∀ x ∈ l, x ≠ []) → 2 * l.length ≤ (flat l).length
 | [], _ => by simp [flat]
 | x :: r, h => by
   have ih := Fm9 r fun y hy => h y (.tail _ hy)
   have hx := List.length_pos_iff.2 (h x (.head _))
   rw [Af7, List.length_append, List.length_cons, List.length_cons]; omega
theorem Lv0 (n : List UInt8) : (lbl n).length ≤ 127 := by
 rcases Bool.eq_false_or_eq_true (vld n) with h | h
 ·rcases vld_cases h with ⟨_, h2⟩ | ⟨_, h2, h3, h4⟩
  ·rw [h2]; simp
  ·have := Fm9 (lbl n) fun x hx => Cz1 (Av9 h2 hx)
   rw [← h3] at this
   omega
 ·rw [Cy9 h]; simp
theorem Kt9 (z : Zone) (n : List UInt8) (hl : z.recs.length ≤ 1000000) (hu : under n z.origin = true) : S Hc7 2 [z.pv, .s n] = some (match redO z n with | some u => [.s u, .b true] | none => [.s [], .b false]) := by
 refine Ms2 (N := 1001) rfl ?_
 obtain ⟨v1, v2, _⟩ := Aj8.1 hu
 have hlb := Lv0 n
 have nl := Ax0 v1
 have h0 : jn ((lbl n).drop 0) = n := Bf8 v1
 let res : Option (List UInt8) → Out := fun o => match o with | some u => .ret [.s u, .b true] | none => .yld 0 []
 have key : Kl7.ev S 1001 [z.pv, .s n] = some (res (redO z n)) := by
  have := Ay0 (fn := S) (N := 1001) (η := [z.pv, .s n]) (id := 1) (init := [(.v 1), (.c (.i .i64 (0)))]) (body := Fr7) ((lbl n).length - (lbl z.origin).length)
   (fun k => [.s (jn ((lbl n).drop k)), .i .i64 (k : Int)]) (fun k => res (((upN z.origin n).drop (k + 1)).find? (dnB z))) ?_ (by omega) (fun k hk => ?_) ?_
  ·exact this
  ·rw [h0]
   simp (disch := omega) only [EVM, EVC, EVP, ↓reduceIte, EV, Nat.reduceAdd, Nat.reduceEqDiff, Int.reduceToNat, reduceCtorEq]
  ·have hup : (upN z.origin n)[k + 1]? = some (jn ((lbl n).drop (k + 1))) := Al7 hk
   have hd : (upN z.origin n).drop (k + 1) = jn ((lbl n).drop (k + 1)) :: (upN z.origin n).drop (k + 1 + 1) := by
    obtain ⟨h1, h2⟩ := List.getElem?_eq_some_iff.1 hup
    rw [List.drop_eq_getElem_cons h1, h2]
   obtain ⟨q1, q2⟩ := Dy0 hu hk
   have q3 : ¬ jn ((lbl n).drop k) = z.origin := fun h => by have := (At8 hu (Nat.le_of_lt hk)).1 h; omega
   have q4 := Bf9 v1 k
   have k1 := Cv2 (jn ((lbl n).drop k)) (by omega)
   rw [q1, q2] at k1
   have k2 := Ay6 z (jn ((lbl n).drop (k + 1))) 39 hl
   rw [hd]
   generalize jn ((lbl n).drop (k + 1)) = nx at *
   generalize jn ((lbl n).drop k) = cu at *
   by_cases h6 : 0 < (findR z.recs nx 39).length
   ·right
    have h5 : dnB z nx = true := by unfold dnB; simp [h6]
    have h7 : (0 : Int) < ((findR z.recs nx 39).length : Int) := by omega
    rw [List.find?_cons_of_pos h5]
    refine ⟨?_, rfl⟩
    generalize findR z.recs nx 39 = fr at *
    simp (disch := omega) only [Gn0, k1, k2, q3, h7, EVM, EVC, EVR, EVP, ↓reduceIte, EV, Nat.reduceAdd, Nat.reduceEqDiff, Int.reduceToNat, reduceCtorEq]
    rfl
   ·left
    have h5 : dnB z nx = false := by unfold dnB; simp [h6]
    have h7 : ¬ (0 : Int) < ((findR z.recs nx 39).length : Int) := by omega
    rw [List.find?_cons_of_neg (by simp [h5])]
    refine ⟨?_, rfl⟩
    generalize findR z.recs nx 39 = fr at *
    simp (disch := omega) only [Gn0, k1, k2, q3, h7, EVM, EVC, EVR, EVP, ↓reduceIte, EV, Nat.reduceAdd, Nat.reduceEqDiff, Int.reduceToNat, reduceCtorEq]
  ·have q3 := (At8 hu (Nat.le_refl _)).2 rfl
   have h9 : (upN z.origin n).drop ((lbl n).length - (lbl z.origin).length + 1) = [] := List.drop_of_length_le (by simp [upN])
   rw [h9, q3, List.find?_nil]
   refine ⟨?_, rfl⟩
   simp (disch := omega) only [Gn0, EVM, EVC, EVR, EVP, ↓reduceIte, EV, Nat.reduceAdd, Nat.reduceEqDiff, Int.reduceToNat, reduceCtorEq]
   rfl
 cases h : redO z n with
 | none =>
   rw [h] at key
   simp only [res] at key
   simp (disch := omega) only [Gn0, key, EVM, EVC, EVR, EVP, ↓reduceIte, EV, Nat.reduceAdd, Nat.reduceEqDiff, Int.reduceToNat, reduceCtorEq]
 | some u =>
   rw [h] at key
   simp only [res] at key
   simp (disch := omega) only [Gn0, key, EVM, EVC, EVR, EVP, ↓reduceIte, EV, Nat.reduceAdd, Nat.reduceEqDiff, Int.reduceToNat, reduceCtorEq]

def allR (z : Zone) (n : List UInt8) : List Rec := z.recs.filter fun r => decide (r.name = n)
def dirB (t : Int) : Bool := decide (t = 5) || decide (t = 47) || decide (t = 46) || decide (t = 255)
def typedR (l : List Rec) (t : Int) : List Rec := if t = 255 then l else l.filter fun r => decide (r.typ = t)
def aliO (l : List Rec) (t : Int) : Option Rec := if dirB t = true then none else l.find? fun r => decide (r.typ = 5)
def saysM (l : List Rec) (t : Int) : Res :=
 match aliO l t with
 | some c => ⟨2, [], false, c.data.host, [c]⟩
 | none => if typedR l t = [] then ⟨5, [], false, [], []⟩ else ⟨1, [], false, [], typedR l t⟩
theorem Fh9 (z : Zone) (n : List UInt8) (hl : z.recs.length ≤ 1000000) : S Gf9 2 [z.pv, .s n] = some [Aj1 (allR z n)] := by
 refine Ms6 (N := z.recs.length + 1) rfl ?_
 have key : Km0.ev S (z.recs.length + 1) [z.pv, .s n] = some (.yld 0 [Aj1 ([] ++ allR z n)]) := by
  refine Ak5 z.recs (fun i (b : List Rec) => [Aj1 b, .i .i64 (i : Int)]) (fun i b r => .yld 0 [Aj1 (b ++ r.filter fun r => decide (r.name = n))]) (fun i b => b.length ≤ i) [] rfl (Nat.zero_le _) (by omega) (fun i b c r hd hi hc hI => ?_) (fun b hI => ?_)
  ·left
   by_cases h : c.name = n
   ·refine ⟨b ++ [c], ?_, by simp; omega, by simp [h]⟩
    simp (disch := omega) only [Jr8, hc, h, EVM, EVC, EVR, EVP, ↓reduceIte, EV, Nat.reduceAdd, Nat.reduceEqDiff, Int.reduceToNat, reduceCtorEq]
    try simp [← h]
   ·refine ⟨b, ?_, by omega, by simp [h]⟩
    simp (disch := omega) only [Jr8, hc, h, EVM, EVC, EVR, EVP, ↓reduceIte, EV, Nat.reduceAdd, Nat.reduceEqDiff, Int.reduceToNat, reduceCtorEq]
  ·simp (disch := omega) only [Jr8, EVM, EVC, EVR, EVP, ↓reduceIte, EV, Nat.reduceAdd, Nat.reduceEqDiff, Int.reduceToNat, reduceCtorEq]
   simp [Out.goes]
 rw [List.nil_append] at key
 generalize allR z n = ar at *
 simp (disch := omega) only [Jr8, key, EVM, EVC, EVR, EVP, ↓reduceIte, EV, Nat.reduceAdd, Nat.reduceEqDiff, Int.reduceToNat, reduceCtorEq]
theorem Fs6 (z : Zone) (n : List UInt8) (hl : z.recs.length ≤ 1000000) : S Gf7 2 [z.pv, .s n] = some [Aj1 (allR z n)] := by
 refine Mr8 (N := z.recs.length + 1) rfl ?_
 have key : Kl4.ev S (z.recs.length + 1) [z.pv, .s n] = some (.yld 0 [Aj1 ([] ++ allR z n)]) := by
  refine Ak5 z.recs (fun i (b : List Rec) => [Aj1 b, .i .i64 (i : Int)]) (fun i b r => .yld 0 [Aj1 (b ++ r.filter fun r => decide (r.name = n))]) (fun i b => b.length ≤ i) [] rfl (Nat.zero_le _) (by omega) (fun i b c r hd hi hc hI => ?_) (fun b hI => ?_)
  ·left
   by_cases h : c.name = n
   ·refine ⟨b ++ [c], ?_, by simp; omega, by simp [h]⟩
    simp (disch := omega) only [Jr7, hc, h, EVM, EVC, EVR, EVP, ↓reduceIte, EV, Nat.reduceAdd, Nat.reduceEqDiff, Int.reduceToNat, reduceCtorEq]
    try simp [← h]
   ·refine ⟨b, ?_, by omega, by simp [h]⟩
    simp (disch := omega) only [Jr7, hc, h, EVM, EVC, EVR, EVP, ↓reduceIte, EV, Nat.reduceAdd, Nat.reduceEqDiff, Int.reduceToNat, reduceCtorEq]
  ·simp (disch := omega) only [Jr7, EVM, EVC, EVR, EVP, ↓reduceIte, EV, Nat.reduceAdd, Nat.reduceEqDiff, Int.reduceToNat, reduceCtorEq]
   simp [Out.goes]
 rw [List.nil_append] at key
 generalize allR z n = ar at *
 simp (disch := omega) only [Jr7, key, EVM, EVC, EVR, EVP, ↓reduceIte, EV, Nat.reduceAdd, Nat.reduceEqDiff, Int.reduceToNat, reduceCtorEq]
theorem Gp1 (r : Rec) (t : Int) : S Ck4 1 [r.pv, .i .i64 t] = some [.b (decide (r.typ ≠ t))] := by
 refine Lt1 (N := 1) rfl ?_
 simp (disch := omega) only [Lh9, EVM, EVC, EVR, EVP, ↓reduceIte, EV, Nat.reduceAdd, Nat.reduceEqDiff, Int.reduceToNat, reduceCtorEq]
 try simp
theorem Fg4 (l : List Rec) (t : Int) (hl : l.length ≤ 1000000) : S Gf1 2 [Aj1 l, .i .i64 t] = some [Aj1 (typedR l t)] := by
 refine Mm9 (N := 1) rfl ?_
 unfold typedR
 by_cases h : t = 255
 ·rw [if_pos h]
  simp (disch := omega) only [Lf7, h, EVM, EVC, EVR, EVP, ↓reduceIte, EV, Nat.reduceAdd, Nat.reduceEqDiff, Int.reduceToNat, reduceCtorEq]
 ·rw [if_neg h]
  have k1 := Jp4 l hl
  have k2 := Gl5 l Ck4 [.i .i64 t] _ hl (fun r _ => Gp1 r t)
  have e : (l.filter fun x => !decide (x.typ ≠ t)) = l.filter fun r => decide (r.typ = t) := by congr 1; funext x; simp
  rw [e] at k2
  generalize (l.filter fun r => decide (r.typ = t)) = fl at *
  simp (disch := omega) only [Lf7, h, k1, k2, Bj0, Js7, EVT, EVM, EVC, EVR, EVP, ↓reduceIte, EV, Nat.reduceAdd, Nat.reduceEqDiff, Int.reduceToNat, reduceCtorEq]
theorem Hn4 (t : Int) : S Hz8 1 [.i .i64 t] = some [.b (dirB t)] := by
 refine Mm8 (N := 1) rfl ?_
 unfold dirB
 by_cases h1 : t = 5
 ·subst h1; simp (disch := omega) only [Gm5, EVM, EVC, EVR, EVP, ↓reduceIte, EV, Nat.reduceAdd, Nat.reduceEqDiff, Int.reduceToNat, reduceCtorEq]; try simp
 ·by_cases h2 : t = 47
  ·subst h2; simp (disch := omega) only [Gm5, EVM, EVC, EVR, EVP, ↓reduceIte, EV, Nat.reduceAdd, Nat.reduceEqDiff, Int.reduceToNat, reduceCtorEq]; try simp
  ·by_cases h3 : t = 46
   ·subst h3; simp (disch := omega) only [Gm5, EVM, EVC, EVR, EVP, ↓reduceIte, EV, Nat.reduceAdd, Nat.reduceEqDiff, Int.reduceToNat, reduceCtorEq]; try simp
   ·by_cases h4 : t = 255
    ·subst h4; simp (disch := omega) only [Gm5, EVM, EVC, EVR, EVP, ↓reduceIte, EV, Nat.reduceAdd, Nat.reduceEqDiff, Int.reduceToNat, reduceCtorEq]; try simp
    ·simp (disch := omega) only [Gm5, h1, h2, h3, h4, EVM, EVC, EVR, EVP, ↓reduceIte, EV, Nat.reduceAdd, Nat.reduceEqDiff, Int.reduceToNat, reduceCtorEq]; try simp [h1, h2, h3, h4]
theorem An5 (l : List Rec) (t : Int) : (typedR l t).length ≤ l.length := by
 unfold typedR
 split
 ·exact Nat.le_refl _
 ·exact List.length_filter_le _ _
theorem Gr8 (l : List Rec) (t : Int) (hl : l.length ≤ 1000000) : S Gg0 2 [Aj1 l, .i .i64 t] = some [(saysM l t).pv] := by
 refine Ms7 (N := 1) rfl ?_
 have k1 := Fg4 l 5 hl
 have k2 := Fg4 l t hl
 have k3 := Hn4 t
 have hh : (typedR l 5).head? = l.find? fun r => decide (r.typ = 5) := by
  unfold typedR
  rw [if_neg (by omega), List.head?_filter]
 have hl2 := An5 l 5
 have hl3 := An5 l t
 have tail : ∀ a b, T.ev S 1 Fp4 [Aj1 l, .i .i64 t, a, b] = some (.ret [(if typedR l t = [] then (⟨5, [], false, [], []⟩ : Res) else ⟨1, [], false, [], typedR l t⟩).pv]) := by
  intro a b
  by_cases h : typedR l t = []
  ·rw [if_pos h]
   rw [h] at k2
   simp (disch := omega) only [Gn1, k2, EVM, EVC, EVR, EVP, ↓reduceIte, EV, Nat.reduceAdd, Nat.reduceEqDiff, Int.reduceToNat, reduceCtorEq]
   try rfl
  ·rw [if_neg h]
   have hp : (0 : Int) < ((typedR l t).length : Int) := by have := List.length_pos_iff.2 h; omega
   generalize typedR l t = tl at *
   simp (disch := omega) only [Gn1, k2, hp, EVM, EVC, EVR, EVP, ↓reduceIte, EV, Nat.reduceAdd, Nat.reduceEqDiff, Int.reduceToNat, reduceCtorEq]
 unfold saysM aliO
 cases hf : typedR l 5 with
 | nil =>
   rw [hf] at k1 hh
   have e : (if dirB t = true then none else l.find? fun r => decide (r.typ = 5)) = none := by
    rw [← hh]; simp
   rw [e]
   simp (disch := omega) only [↓tail, Gn1, k1, EVM, EVC, EVR, EVP, ↓reduceIte, EV, Nat.reduceAdd, Nat.reduceEqDiff, Int.reduceToNat, reduceCtorEq]
 | cons c r =>
   rw [hf] at k1 hh hl2
   rw [List.head?_cons] at hh
   rw [← hh]
   have hp : (0 : Int) < ((c :: r).length : Int) := by simp only [List.length_cons]; omega
   rcases Bool.eq_false_or_eq_true (dirB t) with hd | hd
   ·rw [hd] at k3
    simp only [hd, if_true]
    simp (disch := omega) only [↓tail, Gn1, k1, k3, hp, EVM, EVC, EVR, EVP, ↓reduceIte, EV, Nat.reduceAdd, Nat.reduceEqDiff, Int.reduceToNat, reduceCtorEq]
   ·rw [hd] at k3
    simp only [hd, Bool.false_eq_true, if_false]
    have hls : Ab3 16 (Aj1 (c :: r)) (.i .i64 0) (.i .i64 1) = some (Aj1 [c]) := by
     rw [Ap4 _ _ _ _ _ (by omega) (by omega) (by omega)]; rfl
    have hix : Az7 16 (Aj1 (c :: r)) (.i .i64 0) = some c.pv := by
     rw [Ap8 _ _ _ (by omega)]; rfl
    generalize (c :: r) = ll at *
    simp (disch := omega) only [Gn1, k1, k3, hp, hls, hix, EVM, EVC, EVR, EVP, ↓reduceIte, EV, Nat.reduceAdd, Nat.reduceEqDiff, Int.reduceToNat, reduceCtorEq]
def Dp7 (t : Int) (g r : List Rec) : Out :=
 match aliO r t with
 | some c => .ret [(Res.mk 2 [] false c.data.host [c]).pv]
 | none => .yld 0 (Aj1 (g ++ typedR r t) :: [.i .i64 0, .s [], .b false, .s [], Aj1 []])
theorem Dp0 (c : Rec) (r : List Rec) (t : Int) : typedR (c :: r) t = if c.typ = t ∨ t = 255 then c :: typedR r t else typedR r t := by
 unfold typedR
 by_cases h : t = 255
 ·simp [h]
 ·by_cases h2 : c.typ = t
  ·simp [h, h2]
  ·simp [h, h2]
theorem Dm2 (c : Rec) (r : List Rec) (t : Int) : aliO (c :: r) t = if dirB t = false ∧ c.typ = 5 then some c else aliO r t := by
 unfold aliO
 rcases Bool.eq_false_or_eq_true (dirB t) with h | h
 ·simp [h]
 ·by_cases h2 : c.typ = 5
  ·simp [h, h2]
  ·simp [h, h2]
theorem Dz6 (l : List Rec) (t : Int) (hl : l.length ≤ 1000000) : S Gf8 2 [Aj1 l, .i .i64 t] = some [(saysM l t).pv] := by
 refine Mr9 (N := l.length + 1) rfl ?_
 have key : Kl5.ev S (l.length + 1) [Aj1 l, .i .i64 t] = some (Dp7 t [] l) := by
  refine Ak5 l (fun i (b : List Rec) => [Aj1 b, .i .i64 (i : Int), .i .i64 0, .s [], .b false, .s [], Aj1 []]) (fun i b r => Dp7 t b r) (fun i b => b.length ≤ i) [] rfl (Nat.zero_le _) (by omega) (fun i b c r hd hi hc hI => ?_) (fun b hI => ?_)
  ·have pick : dirB t = false ∧ c.typ = 5 ∨ ¬ (dirB t = false ∧ c.typ = 5) := Classical.em _
   rcases pick with h | h
   ·right
    have hs : Dp7 t b (c :: r) = .ret [(Res.mk 2 [] false c.data.host [c]).pv] := by unfold Dp7; rw [Dm2, if_pos h]
    rw [hs]
    refine ⟨?_, rfl⟩
    obtain ⟨h1, h2⟩ := h
    simp only [dirB, Bool.or_eq_false_iff, decide_eq_false_iff_not] at h1
    obtain ⟨⟨⟨d1, d2⟩, d3⟩, d4⟩ := h1
    simp (disch := omega) only [Bb3, hc, h2, d1, d2, d3, d4, EVM, EVC, EVR, EVP, ↓reduceIte, EV, Nat.reduceAdd, Nat.reduceEqDiff, Int.reduceToNat, reduceCtorEq]
   ·left
    have step : Fr6.ev S (l.length + 1) ([Aj1 l, .i .i64 t] ++ [Aj1 b, .i .i64 (i : Int), .i .i64 0, .s [], .b false, .s [], Aj1 []]) = some (.yld 1 [Aj1 (if c.typ = t ∨ t = 255 then b ++ [c] else b), .i .i64 ((i : Int) + 1), .i .i64 0, .s [], .b false, .s [], Aj1 []]) := by
     have h' : ¬ ((((c.typ = 5 ∧ ¬ t = 5) ∧ ¬ t = 47) ∧ ¬ t = 46) ∧ ¬ t = 255) := by
      rintro ⟨⟨⟨⟨a1, a2⟩, a3⟩, a4⟩, a5⟩
      exact h ⟨by simp [dirB, a2, a3, a4, a5], a1⟩
     by_cases h3 : t = 255
     ·rw [if_pos (.inr h3)]
      by_cases h4 : c.typ = 5 <;> by_cases h6 : c.typ = 255 <;> simp (disch := omega) only [Bb3, hc, h3, h4, h6, EVM, EVC, EVR, EVP, ↓reduceIte, EV, Nat.reduceAdd, Nat.reduceEqDiff, Int.reduceToNat, reduceCtorEq] <;> (try simp) <;> (try omega)
     ·by_cases h2 : c.typ = t
      ·rw [if_pos (.inl h2)]
       by_cases h4 : t = 5
       ·simp (disch := omega) only [Bb3, hc, h2, h4, EVM, EVC, EVR, EVP, ↓reduceIte, EV, Nat.reduceAdd, Nat.reduceEqDiff, Int.reduceToNat, reduceCtorEq]
       ·by_cases h5 : c.typ = 5
        ·rw [h5] at h2; exact absurd h2.symm h4
        ·simp (disch := omega) only [Bb3, hc, h2, h4, EVM, EVC, EVR, EVP, ↓reduceIte, EV, Nat.reduceAdd, Nat.reduceEqDiff, Int.reduceToNat, reduceCtorEq]
      ·rw [if_neg (by simp [h2, h3])]
       by_cases h4 : c.typ = 5
       ·have h5 : t = 47 ∨ t = 46 := by
         by_cases a3 : t = 47
         ·exact .inl a3
         ·by_cases a4 : t = 46
          ·exact .inr a4
          ·exact absurd ⟨⟨⟨⟨h4, fun e => h2 (by omega)⟩, a3⟩, a4⟩, h3⟩ h'
        have h6 : ¬ t = 5 := by omega
        rcases h5 with h5 | h5
        ·simp (disch := omega) only [Bb3, hc, h2, h3, h4, h5, h6, EVM, EVC, EVR, EVP, ↓reduceIte, EV, Nat.reduceAdd, Nat.reduceEqDiff, Int.reduceToNat, reduceCtorEq]
        ·simp (disch := omega) only [Bb3, hc, h2, h3, h4, h5, h6, EVM, EVC, EVR, EVP, ↓reduceIte, EV, Nat.reduceAdd, Nat.reduceEqDiff, Int.reduceToNat, reduceCtorEq]
       ·simp (disch := omega) only [Bb3, hc, h2, h3, h4, EVM, EVC, EVR, EVP, ↓reduceIte, EV, Nat.reduceAdd, Nat.reduceEqDiff, Int.reduceToNat, reduceCtorEq]
    refine ⟨if c.typ = t ∨ t = 255 then b ++ [c] else b, step, by split <;> (try rw [List.length_append, List.length_singleton]) <;> omega, ?_⟩
    unfold Dp7
    rw [Dm2, if_neg h, Dp0]
    by_cases hq : c.typ = t ∨ t = 255
    ·rw [if_pos hq, if_pos hq, List.append_assoc]; rfl
    ·rw [if_neg hq, if_neg hq]
  ·simp (disch := omega) only [Bb3, EVM, EVC, EVR, EVP, ↓reduceIte, EV, Nat.reduceAdd, Nat.reduceEqDiff, Int.reduceToNat, reduceCtorEq]
   have ha : aliO [] t = none := by unfold aliO; split <;> rfl
   have hb : typedR [] t = [] := by unfold typedR; split <;> rfl
   unfold Dp7
   rw [ha, hb, List.append_nil]
   exact ⟨rfl, rfl⟩
 unfold Dp7 at key
 unfold saysM
 have hl3 := An5 l t
 cases ha : aliO l t with
 | some c =>
   rw [ha] at key
   simp only at key
   simp (disch := omega) only [Bb3, key, EVM, EVC, EVR, EVP, ↓reduceIte, EV, Nat.reduceAdd, Nat.reduceEqDiff, Int.reduceToNat, reduceCtorEq]
 | none =>
   rw [ha] at key
   simp only [List.nil_append] at key
   by_cases h : typedR l t = []
   ·rw [h] at key
    simp only [h, if_true]
    simp (disch := omega) only [Bb3, key, EVM, EVC, EVR, EVP, ↓reduceIte, EV, Nat.reduceAdd, Nat.reduceEqDiff, Int.reduceToNat, reduceCtorEq]
    try rfl
   ·simp only [h, if_false]
    have hp : (0 : Int) < ((typedR l t).length : Int) := by have := List.length_pos_iff.2 h; omega
    generalize typedR l t = tl at *
    simp (disch := omega) only [Bb3, key, hp, EVM, EVC, EVR, EVP, ↓reduceIte, EV, Nat.reduceAdd, Nat.reduceEqDiff, Int.reduceToNat, reduceCtorEq]
end Go.X.G
/- Wildcards; what a zone says about a question. -/
namespace Go.X.G
open Go Go.X

def renR (n : List UInt8) (r : Rec) : Rec := { r with name := n }
theorem Fh2 (l : List Rec) (n : List UInt8) (i : Nat) (c : Rec) (r g : List Rec) (hd : l.drop i = c :: r) (hi : i < l.length) (hc : l[i]? = some c) (hg : g = (l.take i).map (renR n) ++ l.drop i) :
  g[i]? = some c ∧ g.length = l.length ∧ g.set i { c with name := n } = (l.take (i + 1)).map (renR n) ++ l.drop (i + 1) := by
 have hA : ((l.take i).map (renR n)).length = i := by rw [List.length_map, List.length_take]; omega
 have hd1 : l.drop (i + 1) = r := by
  rw [← List.drop_drop (i := 1) (j := i), hd]; rfl
 have ht : (l.take (i + 1)).map (renR n) = (l.take i).map (renR n) ++ [renR n c] := by rw [List.take_add_one, hc, List.map_append]; rfl
 rw [ht, hd1]
 rw [hd] at hg
 have hlen : l.length = i + (r.length + 1) := by
  have := congrArg List.length hd
  rw [List.length_drop, List.length_cons] at this; omega
 generalize (l.take i).map (renR n) = A at *
 subst hg
 refine ⟨?_, ?_, ?_⟩
 ·rw [List.getElem?_append_right (by omega), hA]; simp
 ·rw [List.length_append, List.length_cons, hA]; omega
 ·rw [List.set_append_right _ _ (by omega), hA]
  simp [renR]
theorem Kp5 (z : Zone) (q : Ques) (l : List Rec) (p2 p3 p4 p5 : PV) (N : Nat) (hN : l.length < N) (hl : l.length ≤ 1000000) :
  Kl9.ev S N [z.pv, q.pv, p2, p3, p4, p5, Aj1 l] = some (.yld 0 [Aj1 (l.map (renR q.name))]) := by
 refine Ak5 l (fun i (g : List Rec) => [Aj1 g, .i .i64 (i : Int)]) (fun i g r => .yld 0 [Aj1 (l.map (renR q.name))]) (fun i g => g = (l.take i).map (renR q.name) ++ l.drop i) l (by simp (disch := omega) only [EVM, EVC, EVP, ↓reduceIte, EV, Nat.reduceAdd, Nat.reduceEqDiff, Int.reduceToNat, reduceCtorEq]) (by simp) hN (fun i g c r hd hi hc hI => ?_) (fun g hI => ?_)
 ·left
  obtain ⟨h1, h2, h3⟩ := Fh2 l q.name i c r g hd hi hc hI
  refine ⟨g.set i { c with name := q.name }, ?_, h3, rfl⟩
  have hs : Bc3 16 0 [.s q.name] (Aj1 g) (.i .i64 (i : Int)) = some (Aj1 (g.set i { c with name := q.name })) := by
   have := Dz5 g .i64 (i : Int) q.name c (by omega) (by rw [Int.toNat_natCast]; exact h1)
   rwa [Int.toNat_natCast] at this
  generalize g.set i { c with name := q.name } = g' at *
  simp (disch := omega) only [Ft0, h1, hs, EVM, EVC, EVR, EVP, ↓reduceIte, EV, Nat.reduceAdd, Nat.reduceEqDiff, Int.reduceToNat, reduceCtorEq]
 ·have e : g = l.map (renR q.name) := by rw [hI]; simp
  rw [← e]
  simp (disch := omega) only [Ft0, EVM, EVC, EVR, EVP, ↓reduceIte, EV, Nat.reduceAdd, Nat.reduceEqDiff, Int.reduceToNat, reduceCtorEq]
  simp [Out.goes]
def Dx9 (z : Zone) (q : Ques) : Option Res :=
 if Ah5 (encN z q.name) = true ∧ allR z (Ax8 (encN z q.name)) ≠ [] then
  some { saysM ((allR z (Ax8 (encN z q.name))).map (renR q.name)) q.typ with owner := Ax8 (encN z q.name), wild := true }
 else none
theorem Ar1 (z : Zone) (n : List UInt8) : (allR z n).length ≤ z.recs.length := List.length_filter_le _ _
theorem Fn1 (z : Zone) (n : List UInt8) : (encN z n).length ≤ 254 := by
 unfold encN
 rcases Bool.eq_false_or_eq_true (under n z.origin) with hu | hu
 ·rw [if_pos hu]
  cases h : encO z n with
  | none => simp
  | some e => exact Ax0 (Aj8.1 (Bk9 hu h).1).2.1
 ·rw [if_neg (by simp [hu])]; simp
theorem Gy5 : Ah5 [] = false := by decide
theorem Kp4 (z : Zone) (q : Ques) (hz : z.wf) (hl : z.recs.length ≤ 1000) (hq : q.name.length ≤ 9223372036854775807) : S Hc8 2 [z.pv, q.pv] = some (Ah8 (Dx9 z q)) := by
 refine Ms5 (N := 2000) rfl ?_
 have k1 := Dw5 z q.name hz hl hq
 have el := Fn1 z q.name
 have k2 := Kc5 (encN z q.name) (by omega)
 have k3 := Fh9 z (Ax8 (encN z q.name)) (by omega)
 have al := Ar1 z (Ax8 (encN z q.name))
 unfold Dx9
 by_cases h1 : encN z q.name = []
 ·rw [h1] at k1 ⊢
  rw [Gy5, if_neg (by simp)]
  simp (disch := omega) only [Ft0, k1, Ah8, EVM, EVC, EVR, EVP, ↓reduceIte, EV, Nat.reduceAdd, Nat.reduceEqDiff, Int.reduceToNat, reduceCtorEq]
  try simp
 ·have h2 : decide (encN z q.name ≠ []) = true := by simp [h1]
  rw [h2] at k1
  rcases Bool.eq_false_or_eq_true (Ah5 (encN z q.name)) with h3 | h3
  ·rw [h3] at k2
   by_cases h4 : allR z (Ax8 (encN z q.name)) = []
   ·rw [if_neg (by simp [h4])]
    rw [h4] at k3
    simp (disch := omega) only [Ft0, k1, k2, k3, Ah8, EVM, EVC, EVR, EVP, ↓reduceIte, EV, Nat.reduceAdd, Nat.reduceEqDiff, Int.reduceToNat, reduceCtorEq]
    try simp
   ·rw [if_pos ⟨h3, h4⟩]
    have h5 : ¬ ((allR z (Ax8 (encN z q.name))).length : Int) = 0 := by have := List.length_pos_iff.2 h4; omega
    have k4 := fun p2 p3 p4 p5 => Kp5 z q (allR z (Ax8 (encN z q.name))) p2 p3 p4 p5 2000 (by omega) (by omega)
    have k5 := Gr8 ((allR z (Ax8 (encN z q.name))).map (renR q.name)) q.typ (by rw [List.length_map]; omega)
    generalize (allR z (Ax8 (encN z q.name))).map (renR q.name) = ml at *
    generalize allR z (Ax8 (encN z q.name)) = al at *
    simp (disch := omega) only [Ft0, k1, k2, k3, k4, k5, h5, Ah8, EVM, EVC, EVR, EVP, ↓reduceIte, EV, Nat.reduceAdd, Nat.reduceEqDiff, Int.reduceToNat, reduceCtorEq]
  ·rw [h3] at k2
   rw [if_neg (by simp [h3])]
   generalize allR z (Ax8 (encN z q.name)) = al at *
   simp (disch := omega) only [Ft0, k1, k2, k3, Ah8, EVM, EVC, EVR, EVP, ↓reduceIte, EV, Nat.reduceAdd, Nat.reduceEqDiff, Int.reduceToNat, reduceCtorEq]
   try simp
def Dh3 (z : Zone) (q : Ques) : Res :=
 match redR z q.name with
 | some x => x
 | none => if exB z q.name = true then { saysM (allR z q.name) q.typ with owner := q.name } else (Dx9 z q).getD ⟨6, q.name, false, [], []⟩
def Av3 (z : Zone) (q : Ques) : Res :=
 if under q.name z.origin = true then
  if cutN z q.name ≠ [] ∧ (cutN z q.name ≠ q.name ∨ q.typ ≠ 43) then ⟨4, cutN z q.name, false, [], findR z.recs (cutN z q.name) 2⟩ else Dh3 z q
 else zRes
theorem Lw3 (z : Zone) (q : Ques) (hz : z.wf) (hl : z.recs.length ≤ 1000) (hq : q.name.length ≤ 9223372036854775807) : S Hd9 2 [z.pv, q.pv] = some [(Av3 z q).pv] := by
 refine Nj0 (N := 1) rfl ?_
 have g1 := hz.origin
 unfold strr at g1
 have k0 := Ab0 q.name z.origin hq g1
 have k1 := Gm0 z q.name hz (by omega) hq
 have k2 := An4 z (cutN z q.name) 2 (by omega)
 have k4 := Fs7 z q.name hz hl
 have k5 := Fh9 z q.name (by omega)
 have al := Ar1 z q.name
 have k6 := Gr8 (allR z q.name) q.typ (by omega)
 have k7 := Kp4 z q hz hl hq
 unfold Av3
 rcases Bool.eq_false_or_eq_true (under q.name z.origin) with hu | hu
 ·rw [if_pos hu]
  rw [hu] at k0
  have k3 := Dw3 z q.name hz (by omega) hu
  have tail : ∀ p3 p4, T.ev S 1 Dj3 [z.pv, q.pv, .b true, p3, p4] = some (.ret [(Dh3 z q).pv]) := by
   intro p3 p4
   unfold Dh3
   cases hr : redR z q.name with
   | some x =>
     rw [hr] at k3
     simp only [Ah8] at k3
     simp (disch := omega) only [Cw0, k3, EVM, EVC, EVR, EVP, ↓reduceIte, EV, Nat.reduceAdd, Nat.reduceEqDiff, Int.reduceToNat, reduceCtorEq]
   | none =>
     rw [hr] at k3
     simp only [Ah8] at k3
     rcases Bool.eq_false_or_eq_true (exB z q.name) with he | he
     ·rw [he] at k4
      simp only [he, if_true]
      generalize saysM (allR z q.name) q.typ = sm at *
      generalize allR z q.name = ar at *
      simp (disch := omega) only [Cw0, k3, k4, k5, k6, EVM, EVC, EVR, EVP, ↓reduceIte, EV, Nat.reduceAdd, Nat.reduceEqDiff, Int.reduceToNat, reduceCtorEq]
     ·rw [he] at k4
      simp only [he, Bool.false_eq_true, if_false]
      cases hw : Dx9 z q with
      | some x =>
        rw [hw] at k7
        simp only [Ah8] at k7
        simp (disch := omega) only [Cw0, k3, k4, k7, EVM, EVC, EVR, EVP, ↓reduceIte, EV, Nat.reduceAdd, Nat.reduceEqDiff, Int.reduceToNat, reduceCtorEq]
        try rfl
      | none =>
        rw [hw] at k7
        simp only [Ah8] at k7
        simp (disch := omega) only [Cw0, k3, k4, k7, EVM, EVC, EVR, EVP, ↓reduceIte, EV, Nat.reduceAdd, Nat.reduceEqDiff, Int.reduceToNat, reduceCtorEq]
        try rfl
  by_cases h1 : cutN z q.name = []
  ·rw [h1] at k1
   rw [if_neg (by simp [h1])]
   simp (disch := omega) only [↓tail, Cw0, k0, k1, ne_eq, not_true, decide_false, EVM, EVC, EVR, EVP, ↓reduceIte, EV, Nat.reduceAdd, Nat.reduceEqDiff, Int.reduceToNat, reduceCtorEq]
  ·have h2 : decide (cutN z q.name ≠ []) = true := by simp [h1]
   rw [h2] at k1
   by_cases h3 : cutN z q.name = q.name
   ·by_cases h4 : q.typ = 43
    ·rw [if_neg (by simp [h3, h4])]
     rw [h3] at k1
     simp (disch := omega) only [↓tail, Cw0, k0, k1, h4, EVM, EVC, EVR, EVP, ↓reduceIte, EV, Nat.reduceAdd, Nat.reduceEqDiff, Int.reduceToNat, reduceCtorEq]
    ·rw [if_pos ⟨h1, .inr h4⟩]
     rw [h3] at k1 k2 ⊢
     generalize findR z.recs q.name 2 = fr at *
     simp (disch := omega) only [Cw0, k0, k1, k2, h4, EVM, EVC, EVR, EVP, ↓reduceIte, EV, Nat.reduceAdd, Nat.reduceEqDiff, Int.reduceToNat, reduceCtorEq]
   ·rw [if_pos ⟨h1, .inl h3⟩]
    generalize findR z.recs (cutN z q.name) 2 = fr at *
    simp (disch := omega) only [Cw0, k0, k1, k2, h3, EVM, EVC, EVR, EVP, ↓reduceIte, EV, Nat.reduceAdd, Nat.reduceEqDiff, Int.reduceToNat, reduceCtorEq]
 ·rw [if_neg (by simp [hu])]
  rw [hu] at k0
  simp (disch := omega) only [Cw0, k0, EVM, EVC, EVR, EVP, ↓reduceIte, EV, Nat.reduceAdd, Nat.reduceEqDiff, Int.reduceToNat, reduceCtorEq]
theorem Kj7 (z : Zone) (q : Ques) (l : List Rec) (p2 p3 p4 p5 p6 p7 p8 p9 p10 p11 : PV) (N : Nat) (hN : l.length < N) (hl : l.length ≤ 1000000) :
  Km8.ev S N [z.pv, q.pv, p2, p3, p4, p5, p6, p7, p8, p9, p10, p11, Aj1 l] = some (.yld 0 [Aj1 (l.map (renR q.name))]) := by
 refine Ak5 l (fun i (g : List Rec) => [Aj1 g, .i .i64 (i : Int)]) (fun i g r => .yld 0 [Aj1 (l.map (renR q.name))]) (fun i g => g = (l.take i).map (renR q.name) ++ l.drop i) l (by simp (disch := omega) only [EVM, EVC, EVP, ↓reduceIte, EV, Nat.reduceAdd, Nat.reduceEqDiff, Int.reduceToNat, reduceCtorEq]) (by simp) hN (fun i g c r hd hi hc hI => ?_) (fun g hI => ?_)
 ·left
  obtain ⟨h1, h2, h3⟩ := Fh2 l q.name i c r g hd hi hc hI
  refine ⟨g.set i { c with name := q.name }, ?_, h3, rfl⟩
  have hs : Bc3 16 0 [.s q.name] (Aj1 g) (.i .i64 (i : Int)) = some (Aj1 (g.set i { c with name := q.name })) := by
   have := Dz5 g .i64 (i : Int) q.name c (by omega) (by rw [Int.toNat_natCast]; exact h1)
   rwa [Int.toNat_natCast] at this
  generalize g.set i { c with name := q.name } = g' at *
  simp (disch := omega) only [At3, h1, hs, EVM, EVC, EVR, EVP, ↓reduceIte, EV, Nat.reduceAdd, Nat.reduceEqDiff, Int.reduceToNat, reduceCtorEq]
 ·have e : g = l.map (renR q.name) := by rw [hI]; simp
  have hgl : g.length = l.length := by rw [e, List.length_map]
  rw [← e]
  simp (disch := omega) only [At3, EVM, EVC, EVR, EVP, ↓reduceIte, EV, Nat.reduceAdd, Nat.reduceEqDiff, Int.reduceToNat, reduceCtorEq]
  simp [Out.goes]
theorem Kt8 {z : Zone} {n u : List UInt8} (h : redO z n = some u) : ∃ r rest, findR z.recs u 39 = r :: rest := by
 unfold redO at h
 have := List.find?_some h
 unfold dnB at this
 cases hf : findR z.recs u 39 with
 | nil => rw [hf] at this; simp at this
 | cons r rest => exact ⟨r, rest, rfl⟩
theorem Kk4 {z : Zone} {n u : List UInt8} (hu : under n z.origin = true) (h : redO z n = some u) : u.length ≤ 254 := by
 unfold redO at h
 have h1 := List.mem_of_mem_drop (List.mem_of_find?_eq_some h)
 exact Ax0 (Aj8.1 ((Ad9 hu).1 h1).2).1
theorem Kj9 (z : Zone) (q : Ques) (hz : z.wf) (hl : z.recs.length ≤ 1000) (hq : q.name.length ≤ 9223372036854775807) (hdn : ∀ u, (findR z.recs u 39).length ≤ 1) : S Hd8 2 [z.pv, q.pv] = some [(Av3 z q).pv] := by
 refine Mt9 (N := 2000) rfl ?_
 have g1 := hz.origin
 unfold strr at g1
 have k0 := Aw0 q.name z.origin hq g1
 have k1 := Dr6 z q.name hz (by omega) hq
 have k2 := Ay6 z (cutN z q.name) 2 (by omega)
 have k4 := Gz0 z q.name hz hl
 have k5 := Fs6 z q.name (by omega)
 have al := Ar1 z q.name
 have k6 := Dz6 (allR z q.name) q.typ (by omega)
 unfold Av3
 rcases Bool.eq_false_or_eq_true (under q.name z.origin) with hu | hu
 ·rw [if_pos hu]
  rw [hu] at k0
  have k3 := Kt9 z q.name (by omega) hu
  have tail : ∀ p3 p4, T.ev S 2000 Cp5 [z.pv, q.pv, .b true, p3, p4] = some (.ret [(Dh3 z q).pv]) := by
   intro p3 p4
   unfold Dh3 redR
   cases hr : redO z q.name with
   | some u =>
     rw [hr] at k3
     simp only at k3
     obtain ⟨r, rest, hf⟩ := Kt8 hr
     have hu1 := hdn u
     rw [hf, List.length_cons] at hu1
     have hrest : rest = [] := List.length_eq_zero_iff.1 (by omega)
     subst hrest
     have hrw := Bz1 hz (n := u) (t := 39) (r := r) (by rw [hf]; exact .head _)
     have hh := hrw.data.host
     unfold strr at hh
     have ul := Kk4 hu hr
     have k8 := Ay6 z u 39 (by omega)
     have k9 := Dr5 q.name u r.data.host hq (by omega) hh
     rw [hf] at k8
     simp only [Option.map_some, Bd3, hf]
     have hix : Az7 16 (Aj1 [r]) (.i .i64 0) = some r.pv := by
      rw [Ap8 _ _ _ (by omega)]; rfl
     unfold Bc0
     generalize replN q.name u r.data.host = rp at *
     obtain ⟨to, er⟩ := rp
     generalize [r] = ll at *
     cases to with
     | nil =>
       simp (disch := omega) only [At3, k3, k8, k9, hix, EVM, EVC, EVR, EVP, ↓reduceIte, EV, Nat.reduceAdd, Nat.reduceEqDiff, Int.reduceToNat, reduceCtorEq]
       try simp
     | cons c tr =>
       have hp : (0 : Int) < ((c :: tr).length : Int) := by simp only [List.length_cons]; omega
       by_cases hc : c = 42
       ·subst hc
        simp (disch := first | omega | (simp only [List.length_cons]; omega)) only [At3, k3, k8, k9, hix, EVM, EVC, EVR, EVP, ↓reduceIte, EV, Nat.reduceAdd, Nat.reduceEqDiff, Int.reduceToNat, reduceCtorEq]
        try simp
       ·have hc2 : ¬ (c.toNat : Int) = 42 := fun h => hc ((c42 c).1 h)
        simp (disch := first | omega | (simp only [List.length_cons]; omega)) only [At3, k3, k8, k9, hix, hc2, EVM, EVC, EVR, EVP, ↓reduceIte, EV, Nat.reduceAdd, Nat.reduceEqDiff, Int.reduceToNat, reduceCtorEq]
        try simp [hc]
   | none =>
     rw [hr] at k3
     simp only at k3
     simp only [Option.map_none]
     rcases Bool.eq_false_or_eq_true (exB z q.name) with he | he
     ·rw [he] at k4
      simp only [he, if_true]
      generalize saysM (allR z q.name) q.typ = sm at *
      generalize allR z q.name = ar at *
      simp (disch := omega) only [At3, k3, k4, k5, k6, EVM, EVC, EVR, EVP, ↓reduceIte, EV, Nat.reduceAdd, Nat.reduceEqDiff, Int.reduceToNat, reduceCtorEq]
     ·rw [he] at k4
      simp only [he, Bool.false_eq_true, if_false]
      have e1 := Db0 z q.name hz hl hq
      have el := Fn1 z q.name
      have e2 := Kc6 (encN z q.name) (by omega)
      have e3 := Fs6 z (Ax8 (encN z q.name)) (by omega)
      have al := Ar1 z (Ax8 (encN z q.name))
      unfold Dx9
      rcases Bool.eq_false_or_eq_true (Ah5 (encN z q.name)) with h3 | h3
      ·rw [h3] at e2
       by_cases h4 : allR z (Ax8 (encN z q.name)) = []
       ·rw [if_neg (by simp [h4])]
        rw [h4] at e3
        simp (disch := omega) only [At3, k3, k4, e1, e2, e3, EVM, EVC, EVR, EVP, ↓reduceIte, EV, Nat.reduceAdd, Nat.reduceEqDiff, Int.reduceToNat, reduceCtorEq]
        try rfl
       ·rw [if_pos ⟨h3, h4⟩]
        have h5 : ¬ ((allR z (Ax8 (encN z q.name))).length : Int) = 0 := by have := List.length_pos_iff.2 h4; omega
        have e4 := fun p2 p3 p4 p5 p6 p7 p8 p9 p10 p11 => Kj7 z q (allR z (Ax8 (encN z q.name))) p2 p3 p4 p5 p6 p7 p8 p9 p10 p11 2000 (by omega) (by omega)
        have e5 := Dz6 ((allR z (Ax8 (encN z q.name))).map (renR q.name)) q.typ (by rw [List.length_map]; omega)
        generalize (allR z (Ax8 (encN z q.name))).map (renR q.name) = ml at *
        generalize allR z (Ax8 (encN z q.name)) = al at *
        simp (disch := omega) only [At3, k3, k4, e1, e2, e3, e4, e5, h5, EVM, EVC, EVR, EVP, ↓reduceIte, EV, Nat.reduceAdd, Nat.reduceEqDiff, Int.reduceToNat, reduceCtorEq]
        try rfl
      ·rw [h3] at e2
       rw [if_neg (by simp [h3])]
       generalize allR z (Ax8 (encN z q.name)) = al at *
       simp (disch := omega) only [At3, k3, k4, e1, e2, e3, EVM, EVC, EVR, EVP, ↓reduceIte, EV, Nat.reduceAdd, Nat.reduceEqDiff, Int.reduceToNat, reduceCtorEq]
       try rfl
  by_cases h1 : cutN z q.name = []
  ·rw [h1] at k1
   rw [if_neg (by simp [h1])]
   simp (disch := omega) only [↓tail, At3, k0, k1, ne_eq, not_true, decide_false, EVM, EVC, EVR, EVP, ↓reduceIte, EV, Nat.reduceAdd, Nat.reduceEqDiff, Int.reduceToNat, reduceCtorEq]
  ·have h2 : decide (cutN z q.name ≠ []) = true := by simp [h1]
   rw [h2] at k1
   by_cases h3 : cutN z q.name = q.name
   ·by_cases h4 : q.typ = 43
    ·rw [if_neg (by simp [h3, h4])]
     rw [h3] at k1
     simp (disch := omega) only [↓tail, At3, k0, k1, h4, EVM, EVC, EVR, EVP, ↓reduceIte, EV, Nat.reduceAdd, Nat.reduceEqDiff, Int.reduceToNat, reduceCtorEq]
    ·rw [if_pos ⟨h1, .inr h4⟩]
     rw [h3] at k1 k2 ⊢
     generalize findR z.recs q.name 2 = fr at *
     simp (disch := omega) only [At3, k0, k1, k2, h4, EVM, EVC, EVR, EVP, ↓reduceIte, EV, Nat.reduceAdd, Nat.reduceEqDiff, Int.reduceToNat, reduceCtorEq]
   ·rw [if_pos ⟨h1, .inl h3⟩]
    generalize findR z.recs (cutN z q.name) 2 = fr at *
    simp (disch := omega) only [At3, k0, k1, k2, h3, EVM, EVC, EVR, EVP, ↓reduceIte, EV, Nat.reduceAdd, Nat.reduceEqDiff, Int.reduceToNat, reduceCtorEq]
 ·rw [if_neg (by simp [hu])]
  rw [hu] at k0
  simp (disch := omega) only [At3, k0, EVM, EVC, EVR, EVP, ↓reduceIte, EV, Nat.reduceAdd, Nat.reduceEqDiff, Int.reduceToNat, reduceCtorEq]
end Go.X.G
