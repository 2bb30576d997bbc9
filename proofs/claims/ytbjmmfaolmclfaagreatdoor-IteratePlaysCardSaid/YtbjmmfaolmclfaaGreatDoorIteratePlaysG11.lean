/- Questions and messages. -/
import Derived.Test.YtbjmmfaolmclfaaGreatDoorIteratePlaysG10
import Derived.Test.YtbjmmfaolmclfaaGreatDoorIteratePlaysG9

set_option maxHeartbeats 1000000
set_option linter.unusedVariables false
set_option linter.unusedSimpArgs false
namespace Go.X
open Go
structure Ques where
 name : List UInt8
 typ : Int
 deriving DecidableEq
structure Msg where
 id : Int
 op : Int
 code : Int
 resp : Bool
 aa : Bool
 tc : Bool
 rd : Bool
 ra : Bool
 ad : Bool
 cd : Bool
 dok : Bool
 size : Int
 q : Ques
 ans : List Rec
 auth : List Rec
 ext : List Rec
 deriving DecidableEq
structure Ques.wf (x : Ques) : Prop where
 name : strr x.name
 typ : i64r x.typ
structure Msg.wf (m : Msg) : Prop where
 id : i64r m.id
 op : i64r m.op
 code : i64r m.code
 size : i64r m.size
 q : m.q.wf
 ans : Cs0 m.ans
 auth : Cs0 m.auth
 ext : Cs0 m.ext
def Ques.cells (x : Ques) : List PV := [.s x.name, .i .i64 x.typ]
def Ques.pv (x : Ques) : PV := .a x.cells
def Msg.cells (m : Msg) : List PV := .i .i64 m.id :: .i .i64 m.op :: .i .i64 m.code :: .b m.resp :: .b m.aa :: .b m.tc :: .b m.rd :: .b m.ra :: .b m.ad :: .b m.cd :: .b m.dok :: .i .i64 m.size :: .s m.q.name :: .i .i64 m.q.typ :: Aj2 m.ans :: Aj2 m.auth :: Aj2 m.ext :: []
def Msg.pv (m : Msg) : PV := .a m.cells
def shQ : Sh := .st [.s, .i .i64]
def Ib7 : Sh := .st [.i .i64, .i .i64, .i .i64, .b, .b, .b, .b, .b, .b, .b, .b, .i .i64, shQ, Cz7, Cz7, Cz7]
theorem Gq9 {cs : List PV} (h : shQ.okC cs) : ∃ q : Ques, q.wf ∧ cs = q.cells := by
 obtain ⟨a0, r0, rfl, h0, h⟩ := Aj9 (At6 h)
 obtain ⟨a1, r1, rfl, h1, h⟩ := Aj9 h
 obtain rfl := Ab5 h
 obtain ⟨x0, rfl, k0⟩ := Cc1 h0
 obtain ⟨x1, rfl, k1⟩ := Ay0 h1
 exact ⟨⟨x0, x1⟩, ⟨k0, k1⟩, rfl⟩
theorem Jy2 {p : PV} (h : Ib7.ok p) : ∃ m : Msg, m.wf ∧ p = m.pv := by
 obtain ⟨ds, rfl, h⟩ : ∃ ds, p = .a ds ∧ Ib7.okC ds := h
 obtain ⟨a0, r0, rfl, h0, h⟩ := Aj9 (At6 h)
 obtain ⟨a1, r1, rfl, h1, h⟩ := Aj9 h
 obtain ⟨a2, r2, rfl, h2, h⟩ := Aj9 h
 obtain ⟨a3, r3, rfl, h3, h⟩ := Aj9 h
 obtain ⟨a4, r4, rfl, h4, h⟩ := Aj9 h
 obtain ⟨a5, r5, rfl, h5, h⟩ := Aj9 h
 obtain ⟨a6, r6, rfl, h6, h⟩ := Aj9 h
 obtain ⟨a7, r7, rfl, h7, h⟩ := Aj9 h
 obtain ⟨a8, r8, rfl, h8, h⟩ := Aj9 h
 obtain ⟨a9, r9, rfl, h9, h⟩ := Aj9 h
 obtain ⟨a10, r10, rfl, h10, h⟩ := Aj9 h
 obtain ⟨a11, r11, rfl, h11, h⟩ := Aj9 h
 obtain ⟨a12, r12, rfl, h12, h⟩ := Aj9 h
 obtain ⟨a13, r13, rfl, h13, h⟩ := Aj9 h
 obtain ⟨a14, r14, rfl, h14, h⟩ := Aj9 h
 obtain ⟨a15, r15, rfl, h15, h⟩ := Aj9 h
 obtain rfl := Ab5 h
 obtain ⟨x0, rfl, k0⟩ := Ay0 h0
 obtain ⟨x1, rfl, k1⟩ := Ay0 h1
 obtain ⟨x2, rfl, k2⟩ := Ay0 h2
 obtain ⟨x3, rfl⟩ := Bw0 h3
 obtain ⟨x4, rfl⟩ := Bw0 h4
 obtain ⟨x5, rfl⟩ := Bw0 h5
 obtain ⟨x6, rfl⟩ := Bw0 h6
 obtain ⟨x7, rfl⟩ := Bw0 h7
 obtain ⟨x8, rfl⟩ := Bw0 h8
 obtain ⟨x9, rfl⟩ := Bw0 h9
 obtain ⟨x10, rfl⟩ := Bw0 h10
 obtain ⟨x11, rfl, k11⟩ := Ay0 h11
 obtain ⟨x12, k12, rfl⟩ := Gq9 h12
 obtain ⟨x13, k13, rfl⟩ := Cs7 h13
 obtain ⟨x14, k14, rfl⟩ := Cs7 h14
 obtain ⟨x15, k15, rfl⟩ := Cs7 h15
 exact ⟨⟨x0, x1, x2, x3, x4, x5, x6, x7, x8, x9, x10, x11, x12, x13, x14, x15⟩, ⟨k0, k1, k2, k11, k12, k13, k14, k15⟩, rfl⟩
theorem Ft4 (m : Msg) : Aj6 0 m.pv = some (.i .i64 m.id) := rfl
theorem Ft3 (m : Msg) : Aj6 1 m.pv = some (.i .i64 m.op) := rfl
theorem Ft2 (m : Msg) : Aj6 2 m.pv = some (.i .i64 m.code) := rfl
theorem Ft1 (m : Msg) : Aj6 3 m.pv = some (.b m.resp) := rfl
theorem Ft0 (m : Msg) : Aj6 4 m.pv = some (.b m.aa) := rfl
theorem Fs9 (m : Msg) : Aj6 5 m.pv = some (.b m.tc) := rfl
theorem Fs8 (m : Msg) : Aj6 6 m.pv = some (.b m.rd) := rfl
theorem Fs7 (m : Msg) : Aj6 7 m.pv = some (.b m.ra) := rfl
theorem Fs6 (m : Msg) : Aj6 8 m.pv = some (.b m.ad) := rfl
theorem Fs5 (m : Msg) : Aj6 9 m.pv = some (.b m.cd) := rfl
theorem Fw4 (m : Msg) : Aj6 10 m.pv = some (.b m.dok) := rfl
theorem Fw3 (m : Msg) : Aj6 11 m.pv = some (.i .i64 m.size) := rfl
theorem Fw2 (m : Msg) : Aj6 12 m.pv = some (.s m.q.name) := rfl
theorem Fw1 (m : Msg) : Aj6 13 m.pv = some (.i .i64 m.q.typ) := rfl
theorem Fw0 (m : Msg) : Aj6 14 m.pv = some (Aj2 m.ans) := rfl
theorem Fv9 (m : Msg) : Aj6 15 m.pv = some (Aj2 m.auth) := rfl
theorem Fv8 (m : Msg) : Aj6 16 m.pv = some (Aj2 m.ext) := rfl
theorem Jv7 (m : Msg) : Ab0 0 17 m.pv = some m.pv := rfl
theorem Jc1 (m : Msg) : As5 17 m.pv = some m.pv := rfl
theorem Fh3 (m : Msg) : Ab0 12 2 m.pv = some m.q.pv := rfl
theorem Lw9 (x : Ques) : Ab0 0 2 x.pv = some x.pv := rfl
theorem Ls2 (x : Ques) : As5 2 x.pv = some x.pv := rfl
theorem Jx4 (x : Ques) : Aj6 0 x.pv = some (.s x.name) := rfl
theorem Jx3 (x : Ques) : Aj6 1 x.pv = some (.i .i64 x.typ) := rfl
theorem Ks3 (n : List UInt8) (t : Int) : PV.a [.s n, .i .i64 t] = Ques.pv ⟨n, t⟩ := rfl
theorem Ls6 (x : Ques) : (⟨x.name, x.typ⟩ : Ques) = x := rfl
theorem Il2 (x0 x1 x2 : Int) (b0 b1 b2 b3 b4 b5 b6 b7 : Bool) (x3 : Int) (n : List UInt8) (t : Int) (l0 l1 l2 : List Rec) : PV.a [.i .i64 x0, .i .i64 x1, .i .i64 x2, .b b0, .b b1, .b b2, .b b3, .b b4, .b b5, .b b6, .b b7, .i .i64 x3, .s n, .i .i64 t, Aj2 l0, Aj2 l1, Aj2 l2] = Msg.pv ⟨x0, x1, x2, b0, b1, b2, b3, b4, b5, b6, b7, x3, ⟨n, t⟩, l0, l1, l2⟩ := rfl
theorem eq_q (neg : Bool) (x y : Ques) : Ag9 neg true [.s, (.i .i64)] x.pv y.pv = some (.b (if neg then decide (x ≠ y) else decide (x = y))) := by
 have : Av5 [.s, (.i .i64)] x.cells y.cells = some (decide (x = y)) := by
  simp only [Ques.cells, Av5, eqSc, if_true, Option.some.injEq]
  rw [Bool.eq_iff_iff]
  cases x; cases y; simp
 simp only [Ag9, Ques.pv, this, Option.map_some]
 cases neg <;> simp
set_option linter.defProp false in
def EVM := (And.intro @Ft4 (And.intro @Ft3 (And.intro @Ft2 (And.intro @Ft1 (And.intro @Ft0 (And.intro @Fs9 (And.intro @Fs8 (And.intro @Fs7 (And.intro @Fs6 (And.intro @Fs5 (And.intro @Fw4 (And.intro @Fw3 (And.intro @Fw2 (And.intro @Fw1 (And.intro @Fw0 (And.intro @Fv9 (And.intro @Fv8 (And.intro @Jv7 (And.intro @Jc1 (And.intro @Fh3 (And.intro @Lw9 (And.intro @Ls2 (And.intro @Jx4 (And.intro @Jx3 (And.intro @Ks3 (And.intro @Ls6 (And.intro @Il2 @eq_q)))))))))))))))))))))))))))
end Go.X
/- Closures and sets of strings, evaluated. -/
namespace Go.X
open Go
def cloB (fn : Fns) (η : List PV) (fl : Bool) (ar : List E) (m : Nat) : PV → Option (List PV)
 | .f f caps => (E.evs η ar).bind fun vs => results fl m η (fn f vs.length (vs ++ caps))
 | _ => none
theorem Iy7 {fn : Fns} {η : List PV} (fl : Bool) (c : E) (ar : List E) (m : Nat) : W.ev fn η (.clo none fl c ar m) = (c.ev η).bind (cloB fn η fl ar m) := by
 rw [Jq2]
 congr 1
 funext q
 cases q with
 | f f caps => rfl
 | _ => cases h : E.evs η ar <;> rfl
theorem Lk8 {fn : Fns} {η : List PV} (fl : Bool) (ar : List E) (m : Nat) (f : Nat) (caps : List PV) : cloB fn η fl ar m (.f f caps) = (E.evs η ar).bind fun vs => results fl m η (fn f vs.length (vs ++ caps)) := rfl
theorem Kd9 (f : Nat) (caps : List PV) : Aj6 0 (.f f caps) = some (.f f caps) := rfl
theorem Kw1 (f : Nat) (caps : List PV) : Af8 (.f f caps) = some (.f f caps) := rfl
def Aw6 (ks : List (List UInt8)) : PV := .m (ks.map fun k => (.s k, .b true))
theorem Jw6 : PV.m [] = Aw6 [] := rfl
theorem Id5 (ks : List (List UInt8)) : Aj6 0 (Aw6 ks) = some (Aw6 ks) := rfl
theorem Ic0 (ks : List (List UInt8)) : Af8 (Aw6 ks) = some (Aw6 ks) := rfl
theorem Cg8 (k : List UInt8) : ∀ ks : List (List UInt8), Cj7 (.s k) (ks.map fun k => (.s k, .b true)) = some (if k ∈ ks then some (.b true) else none)
 | [] => by simp [Cj7]
 | x :: ks => by
   simp only [List.map_cons, Cj7, Ch6]
   by_cases h : k = x
   ·subst h; simp
   ·have h2 : (k == x) = false := by simpa using h
    rw [h2]
    simp only [Cg8 k ks, List.mem_cons, h, false_or]
theorem Eg2 (k : List UInt8) : ∀ ks : List (List UInt8), mput (.s k) (.b true) (ks.map fun k => (.s k, .b true)) = some ((if k ∈ ks then ks else ks ++ [k]).map fun k => (.s k, .b true))
 | [] => by simp [mput]
 | x :: ks => by
   simp only [List.map_cons, mput, Ch6]
   by_cases h : k = x
   ·subst h; simp
   ·have h2 : (k == x) = false := by simpa using h
    rw [h2]
    simp only [Eg2 k ks, List.mem_cons, h, false_or, Option.map_some]
    by_cases h3 : k ∈ ks <;> simp [h3]
theorem Ig0 (k : List UInt8) (ks : List (List UInt8)) : Cg7 (Aw6 ks) (.s k) (.b false) = some (.b (decide (k ∈ ks))) := by
 simp only [Cg7, Aw6, Gf0, if_true, Cg8, Option.map_some]
 by_cases h : k ∈ ks <;> simp [h]
theorem If9 (k : List UInt8) (ks : List (List UInt8)) : Cg6 (Aw6 ks) (.s k) (.b true) = some (Aw6 (if k ∈ ks then ks else ks ++ [k])) := by
 simp only [Cg6, Aw6, Gf0, if_true, Eg2, Option.map_some]
theorem Cg9 (a b : List Rec) : Ap4 1 [Aj2 a, Aj2 b] = some (.l 1 ([a, b].map Aj2)) := rfl
set_option linter.defProp false in
def EVC := (And.intro @Iy7 (And.intro @Lk8 (And.intro @Kd9 (And.intro @Kw1 (And.intro @Jw6 (And.intro @Id5 (And.intro @Ic0 (And.intro @Ig0 (And.intro @If9 @Cg9)))))))))
end Go.X
/- What is believed of a response: the plain side. -/
namespace Go.X.G
open Go Go.X

def inZ (zone : List UInt8) (r : Rec) : Bool := Ak4 r.name zone
def Cl0 (t : Int) : Bool := decide (t = 2) || decide (t = 15) || decide (t = 33)
def ment (l : List Rec) (h : List UInt8) : Bool := l.any fun r => Cl0 r.typ && decide (r.data.host = h)
def adrT (t : Int) : Bool := decide (t = 1) || decide (t = 28)
def extB (a b : List Rec) (zone : List UInt8) (r : Rec) : Bool := inZ zone r && (ment a r.name || ment b r.name) && adrT r.typ
def insideM (m : Msg) (zone : List UInt8) : Msg :=
 { m with ans := m.ans.filter (inZ zone), auth := m.auth.filter (inZ zone), ext := m.ext.filter (extB (m.ans.filter (inZ zone)) (m.auth.filter (inZ zone)) zone) }
def hasL (l : List Rec) (n : List UInt8) (t : Int) : Bool := l.any fun r => decide (r.name = n) && (decide (r.typ = t) || decide (t = 255))
def folL (l : List Rec) (t : Int) : Nat → List UInt8 → List (List UInt8) × List UInt8
 | 0, n => ([], n)
 | k + 1, n => if hasL l n t = true then ([], n) else match findR l n 5 with
   | [] => ([], n)
   | r :: _ => (n :: (folL l t k r.data.host).1, (folL l t k r.data.host).2)
def firB (m : Msg) (t : Int) (zone : List UInt8) (r : Rec) : Bool := decide (r.typ = t) && Ak4 m.q.name r.name && (decide (zone = []) || (decide (r.name ≠ zone) && Ak4 r.name zone))
def Am5 (m : Msg) (t : Int) (zone : List UInt8) : Option Rec := m.auth.find? (firB m t zone)
def refN (m : Msg) (zone : List UInt8) : Option Rec := if zone = [] then none else Am5 m 2 zone
def kindM (m : Msg) (zone : List UInt8) : Int :=
 if (m.resp && decide (m.op = 0) && (decide (m.code = 0) || decide (m.code = 3)) && !m.tc) = true then
  (let p := folL m.ans m.q.typ 8 m.q.name
   if hasL m.ans p.2 m.q.typ = true then 1 else if p.1 ≠ [] then 2 else
   if (Am5 m 6 []).isSome = true then (if m.code = 3 then 5 else 4) else
   if (refN m zone).isSome = true ∧ m.code = 0 then 3 else 0)
 else 0
def dd (out : List (List UInt8)) : List Rec → List (List UInt8)
 | [] => out
 | r :: rs => if r.data.host ∈ out then dd out rs else dd (out ++ [r.data.host]) rs
def childN (m : Msg) (zone : List UInt8) : List UInt8 × List (List UInt8) × Bool :=
 if kindM m zone = 3 then (match refN m zone with
  | some r => (r.name, dd [] (findR m.auth r.name 2), true)
  | none => ([], [], true))
 else ([], [], false)
theorem Fg5 (n : List UInt8) : Ak4 n [] = false := by
 unfold Ak4
 have : vld [] = false := by decide
 rw [this]; simp
end Go.X.G
/- Inside: what the servers of a zone can know. -/
namespace Go.X.G
open Go Go.X

theorem Ct7 (l : List Rec) (g : Nat) (caps : List PV) (p : Rec → Bool) (hl : l.length ≤ 1000000) (h : ∀ r ∈ l, S g 1 (r.pv :: caps) = some [.b (p r)]) : S Bw4 2 [Aj2 l, .f g caps] = some [Aj2 (l.filter p)] := by
 refine Kb0 (N := l.length + 1) rfl ?_
 have key : Gc9.ev S (l.length + 1) [Aj2 l, .f g caps] = some (.yld 0 [Aj2 ([] ++ l.filter p)]) := by
  refine Ak8 l (fun i (q : List Rec) => [Aj2 q, .i .i64 (i : Int)]) (fun i q r => .yld 0 [Aj2 (q ++ r.filter p)]) (fun i q => q.length ≤ i) [] rfl (Nat.zero_le _) (by omega) (fun i q c r hd hi hc hI => ?_) (fun q hI => ?_)
  ·left
   have hp := h c (List.mem_of_getElem? hc)
   rcases Bool.eq_false_or_eq_true (p c) with h1 | h1
   ·rw [h1] at hp
    refine ⟨q ++ [c], ?_, by simp; omega, by simp [h1]⟩
    simp (disch := omega) only [Ed3, hc, hp, EVC, EVP, ↓reduceIte, EV, Nat.reduceAdd, Nat.reduceEqDiff, Int.reduceToNat, reduceCtorEq]
   ·rw [h1] at hp
    refine ⟨q, ?_, by omega, by simp [h1]⟩
    simp (disch := omega) only [Ed3, hc, hp, EVC, EVP, ↓reduceIte, EV, Nat.reduceAdd, Nat.reduceEqDiff, Int.reduceToNat, reduceCtorEq]
  ·simp (disch := omega) only [Ed3, EVP, ↓reduceIte, EV, Nat.reduceAdd, Nat.reduceEqDiff, Int.reduceToNat, reduceCtorEq]
   simp [Out.goes]
 simp (disch := omega) only [Ed3, key, EVP, ↓reduceIte, EV, Nat.reduceAdd, Nat.reduceEqDiff, Int.reduceToNat, reduceCtorEq]
theorem As8 (r : Rec) (zone : List UInt8) (hr : r.wf) (hz : strr zone) : S Ag1 1 [r.pv, .s zone] = some [.b (inZ zone r)] := by
 refine Kb1 (N := 1) rfl ?_
 have g1 := hr.name
 unfold strr at g1 hz
 unfold inZ
 simp (disch := omega) only [Kk8, Aq6, EVP, ↓reduceIte, EV, Nat.reduceAdd, Nat.reduceEqDiff, Int.reduceToNat, reduceCtorEq]
theorem Fd5 (r : Rec) (zone : List UInt8) (ks : List (List UInt8)) (hr : r.wf) (hz : strr zone) : S Bm2 1 [r.pv, .f Ag1 [.s zone], Aw6 ks] = some [.b (inZ zone r && decide (r.name ∈ ks) && adrT r.typ)] := by
 refine Kz9 (N := 1) rfl ?_
 have h1 := As8 r zone hr hz
 unfold adrT
 rcases Bool.eq_false_or_eq_true (inZ zone r) with h2 | h2 <;> rw [h2] at h1 <;> by_cases h3 : r.name ∈ ks <;> by_cases h4 : r.typ = 1 <;> simp (disch := omega) only [Kk7, h1, h3, h4, EVC, EVP, ↓reduceIte, EV, Nat.reduceAdd, Nat.reduceEqDiff, Int.reduceToNat, reduceCtorEq] <;> simp [h2, h3, h4]
def addH (ks : List (List UInt8)) : List Rec → List (List UInt8)
 | [] => ks
 | r :: rs => addH (if Cl0 r.typ = true then (if r.data.host ∈ ks then ks else ks ++ [r.data.host]) else ks) rs
theorem Eg5 (h : List UInt8) : ∀ (l : List Rec) (ks : List (List UInt8)), h ∈ addH ks l ↔ h ∈ ks ∨ ment l h = true
 | [], ks => by simp [addH, ment]
 | r :: rs, ks => by
   rw [addH, Eg5 h rs]
   have hm : ment (r :: rs) h = ((Cl0 r.typ && decide (r.data.host = h)) || ment rs h) := by simp [ment]
   rw [hm]
   rcases Bool.eq_false_or_eq_true (Cl0 r.typ) with h1 | h1
   ·rw [h1]
    by_cases h2 : r.data.host ∈ ks
    ·simp only [h2, if_true, Bool.true_and, Bool.or_eq_true, decide_eq_true_eq]
     constructor
     ·rintro (h3 | h3)
      ·exact .inl h3
      ·exact .inr (.inr h3)
     ·rintro (h3 | h3 | h3)
      ·exact .inl h3
      ·exact .inl (h3 ▸ h2)
      ·exact .inr h3
    ·simp only [h2, if_true, if_false, Bool.true_and, Bool.or_eq_true, decide_eq_true_eq, List.mem_append, List.mem_singleton]
     constructor
     ·rintro ((h3 | h3) | h3)
      ·exact .inl h3
      ·exact .inr (.inl h3.symm)
      ·exact .inr (.inr h3)
     ·rintro (h3 | h3 | h3)
      ·exact .inl (.inl h3)
      ·exact .inl (.inr h3.symm)
      ·exact .inr h3
   ·rw [h1]; simp
theorem Ah2 (m : Msg) (zone : List UInt8) (hm : m.wf) (hz : strr zone) (h1 : m.ans.length ≤ 1000) (h2 : m.auth.length ≤ 1000) (h3 : m.ext.length ≤ 1000) : S Cj6 2 [m.pv, .s zone] = some [(insideM m zone).pv] := by
 refine Lz5 (N := 2000) rfl ?_
 have k1 := Ct7 m.ans Ag1 [.s zone] (inZ zone) (by omega) (fun r hr => As8 r zone (hm.ans.2 r hr) hz)
 have k2 := Ct7 m.auth Ag1 [.s zone] (inZ zone) (by omega) (fun r hr => As8 r zone (hm.auth.2 r hr) hz)
 have a1 : (m.ans.filter (inZ zone)).length ≤ 1000 := Nat.le_trans (List.length_filter_le _ _) h1
 have a2 : (m.auth.filter (inZ zone)).length ≤ 1000 := Nat.le_trans (List.length_filter_le _ _) h2
 unfold insideM
 generalize m.ans.filter (inZ zone) = A at *
 generalize m.auth.filter (inZ zone) = B at *
 have inner : ∀ (i : Nat) (c : List Rec) (ks : List (List UInt8)), [A, B][i]? = some c → c.length ≤ 1000 → Is2.ev S 2000 [m.pv, .s zone, Aj2 A, Aj2 B, .i .i64 (i : Int), Aw6 ks] = some (.yld 2 [Aw6 (addH ks c)]) := by
  intro i c ks hc hcl
  refine Ak8 c (fun j (g : List (List UInt8)) => [.i .i64 (j : Int), Aw6 g]) (fun j g r => .yld 2 [Aw6 (addH g r)]) (fun _ _ => True) ks rfl trivial (by omega) (fun j g r rs hd hj hr _ => ?_) (fun g _ => ?_)
  ·left
   refine ⟨if Cl0 r.typ = true then (if r.data.host ∈ g then g else g ++ [r.data.host]) else g, ?_, trivial, rfl⟩
   unfold Cl0
   by_cases t1 : r.typ = 2
   ·simp (disch := omega) only [Cw8, hc, hr, t1, EVC, EVP, ↓reduceIte, EV, Nat.reduceAdd, Nat.reduceEqDiff, Int.reduceToNat, reduceCtorEq]
    simp
   ·by_cases t2 : r.typ = 15
    ·simp (disch := omega) only [Cw8, hc, hr, t2, EVC, EVP, ↓reduceIte, EV, Nat.reduceAdd, Nat.reduceEqDiff, Int.reduceToNat, reduceCtorEq]
     simp
    ·by_cases t3 : r.typ = 33
     ·simp (disch := omega) only [Cw8, hc, hr, t3, EVC, EVP, ↓reduceIte, EV, Nat.reduceAdd, Nat.reduceEqDiff, Int.reduceToNat, reduceCtorEq]
      simp
     ·simp (disch := omega) only [Cw8, hc, hr, t1, t2, t3, EVC, EVP, ↓reduceIte, EV, Nat.reduceAdd, Nat.reduceEqDiff, Int.reduceToNat, reduceCtorEq]
      simp [t1, t2, t3]
  ·simp (disch := omega) only [Cw8, hc, EVC, EVP, ↓reduceIte, EV, Nat.reduceAdd, Nat.reduceEqDiff, Int.reduceToNat, reduceCtorEq]
   simp [Out.goes, addH]
 have outer : It3.ev S 2000 [m.pv, .s zone, Aj2 A, Aj2 B] = some (.yld 0 [Aw6 (addH (addH [] A) B)]) := by
  refine Ak8 [A, B] (fun i (g : List (List UInt8)) => [.i .i64 (i : Int), Aw6 g]) (fun i g r => .yld 0 [Aw6 (r.foldl addH g)]) (fun _ _ => True) [] rfl trivial (by simp) (fun i g c r hd hi hc _ => ?_) (fun g _ => ?_)
  ·left
   refine ⟨addH g c, ?_, trivial, rfl⟩
   have hcl : c.length ≤ 1000 := by
    have := List.mem_of_getElem? hc
    simp at this
    rcases this with rfl | rfl <;> omega
   have hi2 : i < 2 := hi
   have k := inner i c g hc hcl
   simp (disch := omega) only [Cw8, hc, k, EVC, EVP, ↓reduceIte, EV, Nat.reduceAdd, Nat.reduceEqDiff, Int.reduceToNat, reduceCtorEq]
  ·simp (disch := omega) only [Cw8, EVC, EVP, ↓reduceIte, EV, Nat.reduceAdd, Nat.reduceEqDiff, Int.reduceToNat, reduceCtorEq]
   simp [Out.goes]
 have k3 := Ct7 m.ext Bm2 [.f Ag1 [.s zone], Aw6 (addH (addH [] A) B)] (extB A B zone) (by omega) (fun r hr => by
  rw [Fd5 r zone _ (hm.ext.2 r hr) hz]
  unfold extB
  have : decide (r.name ∈ addH (addH [] A) B) = (ment A r.name || ment B r.name) := by
   rw [Bool.eq_iff_iff]; simp [Eg5]
  rw [this])
 simp (disch := omega) only [Cw8, k1, k2, outer, k3, EVC, EVM, EVP, ↓reduceIte, EV, Nat.reduceAdd, Nat.reduceEqDiff, Int.reduceToNat, reduceCtorEq]
theorem Ar5 (l : List Rec) (zone : List UInt8) (hl : l.length ≤ 1000000) (hw : ∀ r ∈ l, r.wf) (hz : strr zone) : S Bw2 2 [Aj2 l, .s zone] = some [Aj2 (l.filter (inZ zone))] := by
 refine Ky7 (N := l.length + 1) rfl ?_
 unfold strr at hz
 have key : Gc1.ev S (l.length + 1) [Aj2 l, .s zone] = some (.yld 0 [Aj2 ([] ++ l.filter (inZ zone))]) := by
  refine Ak8 l (fun i (q : List Rec) => [Aj2 q, .i .i64 (i : Int)]) (fun i q r => .yld 0 [Aj2 (q ++ r.filter (inZ zone))]) (fun i q => q.length ≤ i) [] rfl (Nat.zero_le _) (by omega) (fun i q c r hd hi hc hI => ?_) (fun q hI => ?_)
  ·left
   have hp := (hw c (List.mem_of_getElem? hc)).name
   unfold strr at hp
   rcases Bool.eq_false_or_eq_true (inZ zone c) with h1 | h1
   ·refine ⟨q ++ [c], ?_, by simp; omega, by simp [h1]⟩
    unfold inZ at h1
    simp (disch := omega) only [Ed2, hc, Aq2, h1, EVP, ↓reduceIte, EV, Nat.reduceAdd, Nat.reduceEqDiff, Int.reduceToNat, reduceCtorEq]
   ·refine ⟨q, ?_, by omega, by simp [h1]⟩
    unfold inZ at h1
    simp (disch := omega) only [Ed2, hc, Aq2, h1, EVP, ↓reduceIte, EV, Nat.reduceAdd, Nat.reduceEqDiff, Int.reduceToNat, reduceCtorEq]
  ·simp (disch := omega) only [Ed2, EVP, ↓reduceIte, EV, Nat.reduceAdd, Nat.reduceEqDiff, Int.reduceToNat, reduceCtorEq]
   simp [Out.goes]
 simp (disch := omega) only [Ed2, key, EVP, ↓reduceIte, EV, Nat.reduceAdd, Nat.reduceEqDiff, Int.reduceToNat, reduceCtorEq]
theorem Ap2 (l : List Rec) (h : List UInt8) (hl : l.length ≤ 1000000) : S Bl9 2 [Aj2 l, .s h] = some [.b (ment l h)] := by
 refine Ky6 (N := l.length + 1) rfl ?_
 have key : Gc0.ev S (l.length + 1) [Aj2 l, .s h] = some (if ment l h = true then .ret [.b true] else .yld 0 []) := by
  refine Ak2 l (fun i => [.i .i64 (i : Int)]) (fun i r => if ment r h = true then .ret [.b true] else .yld 0 []) rfl (by omega) (fun i c r hd hi hc => ?_) ?_
  ·have hcons : ment (c :: r) h = ((Cl0 c.typ && decide (c.data.host = h)) || ment r h) := by simp [ment]
   rw [hcons]
   unfold Cl0
   by_cases t1 : c.typ = 2 <;> by_cases t2 : c.typ = 15 <;> by_cases t3 : c.typ = 33 <;> by_cases t4 : c.data.host = h <;> first
    | (left; simp (disch := omega) only [Ed1, hc, t1, t2, t3, t4, EVP, ↓reduceIte, EV, Nat.reduceAdd, Nat.reduceEqDiff, Int.reduceToNat, reduceCtorEq]; simp [t1, t2, t3, t4]; done)
    | (right; simp (disch := omega) only [Ed1, hc, t1, t2, t3, t4, EVP, ↓reduceIte, EV, Nat.reduceAdd, Nat.reduceEqDiff, Int.reduceToNat, reduceCtorEq]; simp [t1, t2, t3, t4, Out.goes]; done)
  ·simp (disch := omega) only [Ed1, EVP, ↓reduceIte, EV, Nat.reduceAdd, Nat.reduceEqDiff, Int.reduceToNat, reduceCtorEq]
   simp [ment, Out.goes]
 rcases Bool.eq_false_or_eq_true (ment l h) with h1 | h1 <;> simp (disch := omega) only [Ed1, key, h1, EVP, ↓reduceIte, EV, Nat.reduceAdd, Nat.reduceEqDiff, Int.reduceToNat, reduceCtorEq]
theorem Az9 (m : Msg) (zone : List UInt8) (hm : m.wf) (hz : strr zone) (h1 : m.ans.length ≤ 1000) (h2 : m.auth.length ≤ 1000) (h3 : m.ext.length ≤ 1000) : S Cj4 2 [m.pv, .s zone] = some [(insideM m zone).pv] := by
 refine Lx2 (N := 2000) rfl ?_
 have k1 := Ar5 m.ans zone (by omega) hm.ans.2 hz
 have k2 := Ar5 m.auth zone (by omega) hm.auth.2 hz
 have k3 := Ar5 m.ext zone (by omega) hm.ext.2 hz
 have a1 : (m.ans.filter (inZ zone)).length ≤ 1000 := Nat.le_trans (List.length_filter_le _ _) h1
 have a2 : (m.auth.filter (inZ zone)).length ≤ 1000 := Nat.le_trans (List.length_filter_le _ _) h2
 have a3 : (m.ext.filter (inZ zone)).length ≤ 1000 := Nat.le_trans (List.length_filter_le _ _) h3
 have hx : m.ext.filter (extB (m.ans.filter (inZ zone)) (m.auth.filter (inZ zone)) zone) = (m.ext.filter (inZ zone)).filter fun r => (ment (m.ans.filter (inZ zone)) r.name || ment (m.auth.filter (inZ zone)) r.name) && adrT r.typ := by
  rw [List.filter_filter]
  congr 1
  funext r
  unfold extB
  cases inZ zone r <;> simp
 unfold insideM
 rw [hx]
 generalize m.ans.filter (inZ zone) = A at *
 generalize m.auth.filter (inZ zone) = B at *
 generalize m.ext.filter (inZ zone) = X at *
 have b1 := fun h => Ap2 A h (by omega)
 have b2 := fun h => Ap2 B h (by omega)
 have key : Is6.ev S 2000 [m.pv, .s zone, Aj2 A, Aj2 B, Aj2 X] = some (.yld 0 [Aj2 ([] ++ X.filter fun r => (ment A r.name || ment B r.name) && adrT r.typ)]) := by
  refine Ak8 X (fun i (q : List Rec) => [.i .i64 (i : Int), Aj2 q]) (fun i q r => .yld 0 [Aj2 (q ++ r.filter fun r => (ment A r.name || ment B r.name) && adrT r.typ)]) (fun i q => q.length ≤ i) [] rfl (Nat.zero_le _) (by omega) (fun i q c r hd hi hc hI => ?_) (fun q hI => ?_)
  ·left
   have hcase : (((ment A c.name || ment B c.name) && adrT c.typ) = true) ∨ (((ment A c.name || ment B c.name) && adrT c.typ) = false) := by cases ((ment A c.name || ment B c.name) && adrT c.typ) <;> simp
   rcases hcase with h | h
   ·refine ⟨q ++ [c], ?_, by simp; omega, by simp only [List.filter_cons, h]; simp⟩
    unfold adrT at h
    by_cases t1 : c.typ = 1 <;> by_cases t2 : c.typ = 28 <;> rcases Bool.eq_false_or_eq_true (ment A c.name) with e1 | e1 <;> rcases Bool.eq_false_or_eq_true (ment B c.name) with e2 | e2 <;> first
     | (exfalso; simp [t1, t2, e1, e2] at h; done)
     | (simp (disch := omega) only [Iy3, hc, b1, b2, t1, t2, e1, e2, EVP, ↓reduceIte, EV, Nat.reduceAdd, Nat.reduceEqDiff, Int.reduceToNat, reduceCtorEq]; done)
   ·refine ⟨q, ?_, by omega, by simp only [List.filter_cons, h]; simp⟩
    unfold adrT at h
    by_cases t1 : c.typ = 1 <;> by_cases t2 : c.typ = 28 <;> rcases Bool.eq_false_or_eq_true (ment A c.name) with e1 | e1 <;> rcases Bool.eq_false_or_eq_true (ment B c.name) with e2 | e2 <;> first
     | (exfalso; simp [t1, t2, e1, e2] at h; done)
     | (simp (disch := omega) only [Iy3, hc, b1, b2, t1, t2, e1, e2, EVP, ↓reduceIte, EV, Nat.reduceAdd, Nat.reduceEqDiff, Int.reduceToNat, reduceCtorEq]; done)
  ·simp (disch := omega) only [Iy3, EVP, ↓reduceIte, EV, Nat.reduceAdd, Nat.reduceEqDiff, Int.reduceToNat, reduceCtorEq]
   simp [Out.goes]
 simp (disch := omega) only [Iy3, k1, k2, k3, key, EVM, EVP, ↓reduceIte, EV, Nat.reduceAdd, Nat.reduceEqDiff, Int.reduceToNat, reduceCtorEq]
end Go.X.G
/- Addresses and tasks. -/
namespace Go.X

structure Adr where
 v6 : Bool
 hi : Int
 lo : Int
 deriving DecidableEq
structure Tk where
 q : Ques
 name : List UInt8
 zone : List UInt8
 hosts : List (List UInt8)
 addrs : List Adr
 tried : List Adr
 state : Int
 more : Int
 dst : Adr
 asked : Ques
 sent : Int
 chain : List Rec
 last : Msg
 err : Int
def Adr.pv (x : Adr) : PV := .a [.b x.v6, .i .u64 x.hi, .i .u64 x.lo]
def Aj8 (l : List Adr) : PV := .l 3 (l.map Adr.pv)
def Dat.adr (d : Dat) : Adr := ⟨d.v6, d.hi, d.lo⟩
def Tk.cells (t : Tk) : List PV := [.s t.q.name, .i .i64 t.q.typ, .s t.name, .s t.zone, Aj7 t.hosts, Aj8 t.addrs, Aj8 t.tried, .i .i64 t.state, .i .i64 t.more, .b t.dst.v6, .i .u64 t.dst.hi, .i .u64 t.dst.lo, .s t.asked.name, .i .i64 t.asked.typ, .i .i64 t.sent, Aj2 t.chain, .i .i64 t.last.id, .i .i64 t.last.op, .i .i64 t.last.code, .b t.last.resp, .b t.last.aa, .b t.last.tc, .b t.last.rd, .b t.last.ra, .b t.last.ad, .b t.last.cd, .b t.last.dok, .i .i64 t.last.size, .s t.last.q.name, .i .i64 t.last.q.typ, Aj2 t.last.ans, Aj2 t.last.auth, Aj2 t.last.ext, .i .i64 t.err]
def Tk.pv (t : Tk) : PV := .a t.cells
theorem Id4 (t : Tk) : Aj6 0 t.pv = some (.s t.q.name) := rfl
theorem Id3 (t : Tk) : Aj6 1 t.pv = some (.i .i64 t.q.typ) := rfl
theorem Id2 (t : Tk) : Aj6 2 t.pv = some (.s t.name) := rfl
theorem Id1 (t : Tk) : Aj6 3 t.pv = some (.s t.zone) := rfl
theorem Id0 (t : Tk) : Aj6 4 t.pv = some (Aj7 t.hosts) := rfl
theorem Ic9 (t : Tk) : Aj6 5 t.pv = some (Aj8 t.addrs) := rfl
theorem Ic8 (t : Tk) : Aj6 6 t.pv = some (Aj8 t.tried) := rfl
theorem Ic7 (t : Tk) : Aj6 7 t.pv = some (.i .i64 t.state) := rfl
theorem Ic6 (t : Tk) : Aj6 8 t.pv = some (.i .i64 t.more) := rfl
theorem Ic5 (t : Tk) : Aj6 9 t.pv = some (.b t.dst.v6) := rfl
theorem Fr2 (t : Tk) : Aj6 10 t.pv = some (.i .u64 t.dst.hi) := rfl
theorem Fr1 (t : Tk) : Aj6 11 t.pv = some (.i .u64 t.dst.lo) := rfl
theorem Fr0 (t : Tk) : Aj6 12 t.pv = some (.s t.asked.name) := rfl
theorem Fp9 (t : Tk) : Aj6 13 t.pv = some (.i .i64 t.asked.typ) := rfl
theorem Fp8 (t : Tk) : Aj6 14 t.pv = some (.i .i64 t.sent) := rfl
theorem Fp7 (t : Tk) : Aj6 15 t.pv = some (Aj2 t.chain) := rfl
theorem Fp6 (t : Tk) : Aj6 16 t.pv = some (.i .i64 t.last.id) := rfl
theorem Fp5 (t : Tk) : Aj6 17 t.pv = some (.i .i64 t.last.op) := rfl
theorem Fp4 (t : Tk) : Aj6 18 t.pv = some (.i .i64 t.last.code) := rfl
theorem Fp3 (t : Tk) : Aj6 19 t.pv = some (.b t.last.resp) := rfl
theorem Fp2 (t : Tk) : Aj6 20 t.pv = some (.b t.last.aa) := rfl
theorem Fp1 (t : Tk) : Aj6 21 t.pv = some (.b t.last.tc) := rfl
theorem Fp0 (t : Tk) : Aj6 22 t.pv = some (.b t.last.rd) := rfl
theorem Fn9 (t : Tk) : Aj6 23 t.pv = some (.b t.last.ra) := rfl
theorem Fn8 (t : Tk) : Aj6 24 t.pv = some (.b t.last.ad) := rfl
theorem Fn7 (t : Tk) : Aj6 25 t.pv = some (.b t.last.cd) := rfl
theorem Fn6 (t : Tk) : Aj6 26 t.pv = some (.b t.last.dok) := rfl
theorem Fn5 (t : Tk) : Aj6 27 t.pv = some (.i .i64 t.last.size) := rfl
theorem Fn4 (t : Tk) : Aj6 28 t.pv = some (.s t.last.q.name) := rfl
theorem Fn3 (t : Tk) : Aj6 29 t.pv = some (.i .i64 t.last.q.typ) := rfl
theorem Fn2 (t : Tk) : Aj6 30 t.pv = some (Aj2 t.last.ans) := rfl
theorem Fn1 (t : Tk) : Aj6 31 t.pv = some (Aj2 t.last.auth) := rfl
theorem Fn0 (t : Tk) : Aj6 32 t.pv = some (Aj2 t.last.ext) := rfl
theorem Fm9 (t : Tk) : Aj6 33 t.pv = some (.i .i64 t.err) := rfl
theorem Kv2 (t : Tk) : Ab0 0 34 t.pv = some t.pv := rfl
theorem Ks8 (t : Tk) : As5 34 t.pv = some t.pv := rfl
theorem Fk5 (t : Tk) : Ab0 9 3 t.pv = some t.dst.pv := rfl
theorem Cy4 (t : Tk) : Ab0 12 2 t.pv = some t.asked.pv := rfl
theorem Iz7 (t : Tk) : Ab0 0 2 t.pv = some t.q.pv := rfl
theorem Cp4 (t : Tk) : Ab0 16 17 t.pv = some t.last.pv := rfl
theorem Jb8 (x0 : List UInt8) (x1 : Int) (x2 : List UInt8) (x3 : List UInt8) (x4 : List (List UInt8)) (x5 : List Adr) (x6 : List Adr) (x7 : Int) (x8 : Int) (x9 : Bool) (x10 : Int) (x11 : Int) (x12 : List UInt8) (x13 : Int) (x14 : Int) (x15 : List Rec) (x16 : Int) (x17 : Int) (x18 : Int) (x19 : Bool) (x20 : Bool) (x21 : Bool) (x22 : Bool) (x23 : Bool) (x24 : Bool) (x25 : Bool) (x26 : Bool) (x27 : Int) (x28 : List UInt8) (x29 : Int) (x30 : List Rec) (x31 : List Rec) (x32 : List Rec) (x33 : Int) : PV.a [.s x0, .i .i64 x1, .s x2, .s x3, Aj7 x4, Aj8 x5, Aj8 x6, .i .i64 x7, .i .i64 x8, .b x9, .i .u64 x10, .i .u64 x11, .s x12, .i .i64 x13, .i .i64 x14, Aj2 x15, .i .i64 x16, .i .i64 x17, .i .i64 x18, .b x19, .b x20, .b x21, .b x22, .b x23, .b x24, .b x25, .b x26, .i .i64 x27, .s x28, .i .i64 x29, Aj2 x30, Aj2 x31, Aj2 x32, .i .i64 x33] = Tk.pv ⟨⟨x0, x1⟩, x2, x3, x4, x5, x6, x7, x8, ⟨x9, x10, x11⟩, ⟨x12, x13⟩, x14, x15, ⟨x16, x17, x18, x19, x20, x21, x22, x23, x24, x25, x26, x27, ⟨x28, x29⟩, x30, x31, x32⟩, x33⟩ := rfl
theorem Lj7 (t : Tk) : (⟨t.q, t.name, t.zone, t.hosts, t.addrs, t.tried, t.state, t.more, t.dst, t.asked, t.sent, t.chain, t.last, t.err⟩ : Tk) = t := rfl
theorem Jd8 (m : Msg) : (⟨m.id, m.op, m.code, m.resp, m.aa, m.tc, m.rd, m.ra, m.ad, m.cd, m.dok, m.size, m.q, m.ans, m.auth, m.ext⟩ : Msg) = m := rfl
theorem Jf0 (x : Adr) : (⟨x.v6, x.hi, x.lo⟩ : Adr) = x := rfl
theorem Lq2 (d : Dat) : Ah0 d = d.adr.pv := rfl
theorem Il4 (v : Bool) (h l : Int) : PV.a [.b v, .i .u64 h, .i .u64 l] = Adr.pv ⟨v, h, l⟩ := rfl
theorem Jt3 (d : Dat) : (⟨d.v6, d.hi, d.lo⟩ : Adr) = d.adr := rfl
theorem Jw0 (x : Adr) : Ab0 0 3 x.pv = some x.pv := rfl
theorem Jc4 (x : Adr) : As5 3 x.pv = some x.pv := rfl
theorem Gk3 (x : Adr) : Aj6 0 x.pv = some (.b x.v6) := rfl
theorem Gk2 (x : Adr) : Aj6 1 x.pv = some (.i .u64 x.hi) := rfl
theorem Gk1 (x : Adr) : Aj6 2 x.pv = some (.i .u64 x.lo) := rfl
theorem Il8 (x : Adr) : PV.flat x.pv = true := rfl
theorem In7 : PV.l 3 [] = Aj8 [] := rfl
theorem Jz8 (x : Adr) : Ap4 3 [x.pv] = some (Aj8 [x]) := rfl
theorem Fl9 (l : List Adr) : Af8 (Aj8 l) = some (Aj8 l) := rfl
theorem Gk0 (l : List Adr) : Aj6 0 (Aj8 l) = some (Aj8 l) := rfl
theorem Ks5 (x : Ques) : PV.flat x.pv = true := rfl
theorem Kv7 (n : Int) : Af8 (.i .u64 n) = some (.i .u64 n) := rfl
theorem Kd6 (n : Int) : Aj6 0 (.i .u64 n) = some (.i .u64 n) := rfl
theorem Ig4 (l : List Adr) : Aw9 (Aj8 l) = some (.i .i64 (l.length : Int)) := by simp [Aj8, Aw9]
theorem Ih6 (l : List Adr) (k : IntKind) (z : Int) (h : 0 ≤ z) : Ac8 3 (Aj8 l) (.i k z) = (l[z.toNat]?).map Adr.pv := by simp [Aj8, Ct8 _ _ _ _ h]
theorem Cm7 (l : List Adr) (x : Adr) (h : l.length + 1 ≤ 1073741824) : Aw1 3 (Aj8 l) (Aj8 [x]) = some (Aj8 (l ++ [x])) := by
 have := Cm6 3 (l.map Adr.pv) ([x].map Adr.pv) (by simpa using h)
 simpa [Aj8] using this
theorem Bk6 (l m : List Adr) (h : l.length + m.length ≤ 1073741824) : Aw1 3 (Aj8 l) (Aj8 m) = some (Aj8 (l ++ m)) := by
 have := Cm6 3 (l.map Adr.pv) (m.map Adr.pv) (by simpa using h)
 simpa [Aj8] using this
theorem Ck0 (l : List Adr) (k k' : IntKind) (a b : Int) (h1 : 0 ≤ a) (h2 : a ≤ b) (h3 : b ≤ (l.length : Int)) : Ac7 3 (Aj8 l) (.i k a) (.i k' b) = some (Aj8 ((l.take b.toNat).drop a.toNat)) := by
 have := Ig2 3 (l.map Adr.pv) k k' a b h1 h2 (by simpa using h3)
 simpa [Aj8, List.map_take, List.map_drop] using this
theorem Lk1 (neg : Bool) (x y : Adr) : Ag9 neg true [.b, (.i .u64), (.i .u64)] x.pv y.pv = some (.b (if neg then decide (x ≠ y) else decide (x = y))) := by
 have : Av5 [.b, (.i .u64), (.i .u64)] [.b x.v6, .i .u64 x.hi, .i .u64 x.lo] [.b y.v6, .i .u64 y.hi, .i .u64 y.lo] = some (decide (x = y)) := by
  simp only [Av5, eqSc, if_true, Option.some.injEq]
  rw [Bool.eq_iff_iff]
  cases x; cases y; simp
 simp only [Ag9, Adr.pv, this, Option.map_some]
 cases neg <;> simp
set_option linter.defProp false in
def EVT := (And.intro @Id4 (And.intro @Id3 (And.intro @Id2 (And.intro @Id1 (And.intro @Id0 (And.intro @Ic9 (And.intro @Ic8 (And.intro @Ic7 (And.intro @Ic6 (And.intro @Ic5 (And.intro @Fr2 (And.intro @Fr1 (And.intro @Fr0 (And.intro @Fp9 (And.intro @Fp8 (And.intro @Fp7 (And.intro @Fp6 (And.intro @Fp5 (And.intro @Fp4 (And.intro @Fp3 (And.intro @Fp2 (And.intro @Fp1 (And.intro @Fp0 (And.intro @Fn9 (And.intro @Fn8 (And.intro @Fn7 (And.intro @Fn6 (And.intro @Fn5 (And.intro @Fn4 (And.intro @Fn3 (And.intro @Fn2 (And.intro @Fn1 (And.intro @Fn0 (And.intro @Fm9 (And.intro @Kv2 (And.intro @Ks8 (And.intro @Fk5 (And.intro @Cy4 (And.intro @Iz7 (And.intro @Cp4 (And.intro @Jb8 (And.intro @Lj7 (And.intro @Jd8 (And.intro @Jf0 (And.intro @Lq2 (And.intro @Il4 (And.intro @Jt3 (And.intro @Jw0 (And.intro @Jc4 (And.intro @Gk3 (And.intro @Gk2 (And.intro @Gk1 (And.intro @Il8 (And.intro @In7 (And.intro @Jz8 (And.intro @Fl9 (And.intro @Gk0 (And.intro @Ks5 (And.intro @Kv7 (And.intro @Kd6 (And.intro @Ig4 (And.intro @Ih6 (And.intro @Cm7 (And.intro @Bk6 (And.intro @Ck0 @Lk1)))))))))))))))))))))))))))))))))))))))))))))))))))))))))))))))))
end Go.X
/- Functions of the package slices, for texts, records and addresses. -/
namespace Go.X.G
open Go Go.X

theorem Ix3 (l : List (List UInt8)) (x : List UInt8) (hl : l.length ≤ 1000000) : ∃ k : Int, (0 ≤ k ↔ x ∈ l) ∧ S Cf5 2 [Aj7 l, .s x] = some [.i .i64 k] := by
 have go : ∀ (i : Nat) (l : List (List UInt8)), ∃ k : Int, k = (match l.findIdx? (· = x) with | some j => ((i + j : Nat) : Int) | none => -1) ∧ (0 ≤ k ↔ x ∈ l) := by
  intro i l
  refine ⟨_, rfl, ?_⟩
  cases h : l.findIdx? (· = x) with
  | none =>
    rw [List.findIdx?_eq_none_iff] at h
    simp only
    constructor
    ·intro h2; omega
    ·intro h2; have := h x h2; simp at this
  | some j =>
    simp only
    constructor
    ·intro _
     rw [List.findIdx?_eq_some_iff_getElem] at h
     obtain ⟨h1, h2, _⟩ := h
     simp at h2
     rw [← h2]; exact List.getElem_mem _
    ·intro _; omega
 obtain ⟨k, hk, hk2⟩ := go 0 l
 refine ⟨k, hk2, ?_⟩
 refine Kz4 (N := l.length + 1) rfl ?_
 have key : Gc5.ev S (l.length + 1) [Aj7 l, .s x] = some (match l.findIdx? (· = x) with | some j => .ret [.i .i64 ((0 + j : Nat) : Int)] | none => .yld 0 []) := by
  refine Ak2 l (fun i => [.i .i64 (i : Int)]) (fun i r => match r.findIdx? (· = x) with | some j => .ret [.i .i64 ((i + j : Nat) : Int)] | none => .yld 0 []) rfl (by omega) (fun i c r hd hi hc => ?_) ?_
  ·by_cases h : x = c
   ·right
    simp (disch := omega) only [Cx2, hc, h, EVM, EVC, EVP, ↓reduceIte, EV, Nat.reduceAdd, Nat.reduceEqDiff, Int.reduceToNat, reduceCtorEq]
    simp [List.findIdx?_cons, Out.goes]
   ·left
    have h' : ¬ c = x := fun e => h e.symm
    simp (disch := omega) only [Cx2, hc, h, EVM, EVC, EVP, ↓reduceIte, EV, Nat.reduceAdd, Nat.reduceEqDiff, Int.reduceToNat, reduceCtorEq]
    refine ⟨trivial, ?_⟩
    simp only [List.findIdx?_cons, h', decide_false, Bool.false_eq_true, if_false]
    cases r.findIdx? (· = x) with
    | none => rfl
    | some j => simp; omega
  ·simp (disch := omega) only [Cx2, EVM, EVC, EVP, ↓reduceIte, EV, Nat.reduceAdd, Nat.reduceEqDiff, Int.reduceToNat, reduceCtorEq]
   simp [Out.goes]
 rw [hk]
 cases h : l.findIdx? (· = x) with
 | none =>
   rw [h] at key
   simp (disch := omega) only [Cx2, key, EVM, EVC, EVP, ↓reduceIte, EV, Nat.reduceAdd, Nat.reduceEqDiff, Int.reduceToNat, reduceCtorEq]
 | some j =>
   rw [h] at key
   simp (disch := omega) only [Cx2, key, EVM, EVC, EVP, ↓reduceIte, EV, Nat.reduceAdd, Nat.reduceEqDiff, Int.reduceToNat, reduceCtorEq]
theorem Ah4 (l : List (List UInt8)) (x : List UInt8) (hl : l.length ≤ 1000000) : S Fz0 2 [Aj7 l, .s x] = some [.b (decide (x ∈ l))] := by
 refine Ly1 (N := 1) rfl ?_
 obtain ⟨k, h1, h2⟩ := Ix3 l x hl
 simp (disch := omega) only [Lq8, h2, EVM, EVC, EVP, ↓reduceIte, EV, Nat.reduceAdd, Nat.reduceEqDiff, Int.reduceToNat, reduceCtorEq]
 simp [h1]
theorem Ix4 (l : List Adr) (x : Adr) (hl : l.length ≤ 1000000) : ∃ k : Int, (0 ≤ k ↔ x ∈ l) ∧ S Cg4 2 [Aj8 l, x.pv] = some [.i .i64 k] := by
 have go : ∀ (i : Nat) (l : List Adr), ∃ k : Int, k = (match l.findIdx? (· = x) with | some j => ((i + j : Nat) : Int) | none => -1) ∧ (0 ≤ k ↔ x ∈ l) := by
  intro i l
  refine ⟨_, rfl, ?_⟩
  cases h : l.findIdx? (· = x) with
  | none =>
    rw [List.findIdx?_eq_none_iff] at h
    simp only
    constructor
    ·intro h2; omega
    ·intro h2; have := h x h2; simp at this
  | some j =>
    simp only
    constructor
    ·intro _
     rw [List.findIdx?_eq_some_iff_getElem] at h
     obtain ⟨h1, h2, _⟩ := h
     simp at h2
     rw [← h2]; exact List.getElem_mem _
    ·intro _; omega
 obtain ⟨k, hk, hk2⟩ := go 0 l
 refine ⟨k, hk2, ?_⟩
 refine Kc1 (N := l.length + 1) rfl ?_
 have key : Gd3.ev S (l.length + 1) [Aj8 l, x.pv] = some (match l.findIdx? (· = x) with | some j => .ret [.i .i64 ((0 + j : Nat) : Int)] | none => .yld 0 []) := by
  refine Ak2 l (fun i => [.i .i64 (i : Int)]) (fun i r => match r.findIdx? (· = x) with | some j => .ret [.i .i64 ((i + j : Nat) : Int)] | none => .yld 0 []) rfl (by omega) (fun i c r hd hi hc => ?_) ?_
  ·by_cases h : x = c
   ·right
    subst h
    simp (disch := omega) only [Cx6, hc, EVT, EVM, EVC, EVP, ↓reduceIte, EV, Nat.reduceAdd, Nat.reduceEqDiff, Int.reduceToNat, reduceCtorEq]
    simp [List.findIdx?_cons, Out.goes]
   ·left
    have h' : ¬ c = x := fun e => h e.symm
    simp (disch := omega) only [Cx6, hc, h, EVT, EVM, EVC, EVP, ↓reduceIte, EV, Nat.reduceAdd, Nat.reduceEqDiff, Int.reduceToNat, reduceCtorEq]
    refine ⟨trivial, ?_⟩
    simp only [List.findIdx?_cons, h', decide_false, Bool.false_eq_true, if_false]
    cases r.findIdx? (· = x) with
    | none => rfl
    | some j => simp; omega
  ·simp (disch := omega) only [Cx6, EVT, EVM, EVC, EVP, ↓reduceIte, EV, Nat.reduceAdd, Nat.reduceEqDiff, Int.reduceToNat, reduceCtorEq]
   simp [Out.goes]
 rw [hk]
 cases h : l.findIdx? (· = x) with
 | none =>
   rw [h] at key
   simp (disch := omega) only [Cx6, key, EVT, EVM, EVC, EVP, ↓reduceIte, EV, Nat.reduceAdd, Nat.reduceEqDiff, Int.reduceToNat, reduceCtorEq]
 | some j =>
   rw [h] at key
   simp (disch := omega) only [Cx6, key, EVT, EVM, EVC, EVP, ↓reduceIte, EV, Nat.reduceAdd, Nat.reduceEqDiff, Int.reduceToNat, reduceCtorEq]
theorem Aw2 (l : List Adr) (x : Adr) (hl : l.length ≤ 1000000) : S Bz1 2 [Aj8 l, x.pv] = some [.b (decide (x ∈ l))] := by
 refine Lb3 (N := 1) rfl ?_
 obtain ⟨k, h1, h2⟩ := Ix4 l x hl
 simp (disch := omega) only [Lw1, h2, EVT, EVM, EVC, EVP, ↓reduceIte, EV, Nat.reduceAdd, Nat.reduceEqDiff, Int.reduceToNat, reduceCtorEq]
 simp [h1]
def ixG {α : Type} (p : α → Bool) (k : Nat) : List α → Int
 | [] => -1
 | r :: rs => if p r = true then (k : Int) else ixG p (k + 1) rs
theorem Ck4 {α : Type} (p : α → Bool) : ∀ (l : List α) (k : Nat), (0 ≤ ixG p k l ↔ l.any p = true) ∧ ixG p k l ≤ k + l.length ∧ -1 ≤ ixG p k l
 | [], k => by simp [ixG]
 | r :: rs, k => by
   have ih := Ck4 p rs (k + 1)
   rcases Bool.eq_false_or_eq_true (p r) with h | h
   ·simp [ixG, h]; omega
   ·simp only [ixG, h, List.any_cons, Bool.false_or, List.length_cons]
    refine ⟨by simpa using ih.1, ?_, by simpa using ih.2.2⟩
    have := ih.2.1
    simp only [Bool.false_eq_true, if_false] at this ⊢
    omega
theorem Cw1 (l : List Adr) (g : Nat) (caps : List PV) (p : Adr → Bool) (hl : l.length ≤ 1000000) (h : ∀ r ∈ l, S g 1 (r.pv :: caps) = some [.b (p r)]) : S Cf7 2 [Aj8 l, .f g caps] = some [.i .i64 (ixG p 0 l)] := by
 refine Kz7 (N := l.length + 1) rfl ?_
 have key : Gc8.ev S (l.length + 1) [Aj8 l, .f g caps] = some (if ixG p 0 l = -1 then .yld 0 [] else .ret [.i .i64 (ixG p 0 l)]) := by
  refine Ak2 l (fun i => [.i .i64 (i : Int)]) (fun i r => if ixG p i r = -1 then .yld 0 [] else .ret [.i .i64 (ixG p i r)]) rfl (by omega) (fun i c r hd hi hc => ?_) ?_
  ·have hp := h c (List.mem_of_getElem? hc)
   rcases Bool.eq_false_or_eq_true (p c) with h1 | h1
   ·rw [h1] at hp
    right
    have h2 : ¬ ((i : Int) = -1) := by omega
    simp (disch := omega) only [Cx4, hc, hp, EVT, EVC, EVP, ↓reduceIte, EV, Nat.reduceAdd, Nat.reduceEqDiff, Int.reduceToNat, reduceCtorEq]
    simp [ixG, h1, h2, Out.goes]
   ·rw [h1] at hp
    left
    simp (disch := omega) only [Cx4, hc, hp, EVT, EVC, EVP, ↓reduceIte, EV, Nat.reduceAdd, Nat.reduceEqDiff, Int.reduceToNat, reduceCtorEq]
    simp [ixG, h1]
  ·simp (disch := omega) only [Cx4, EVT, EVC, EVP, ↓reduceIte, EV, Nat.reduceAdd, Nat.reduceEqDiff, Int.reduceToNat, reduceCtorEq]
   simp [ixG, Out.goes]
 by_cases h1 : ixG p 0 l = -1
 ·rw [if_pos h1] at key
  simp (disch := omega) only [Cx4, key, h1, EVT, EVC, EVP, ↓reduceIte, EV, Nat.reduceAdd, Nat.reduceEqDiff, Int.reduceToNat, reduceCtorEq]
 ·rw [if_neg h1] at key
  simp (disch := omega) only [Cx4, key, EVT, EVC, EVP, ↓reduceIte, EV, Nat.reduceAdd, Nat.reduceEqDiff, Int.reduceToNat, reduceCtorEq]
theorem Bj7 (l : List Adr) (g : Nat) (caps : List PV) (p : Adr → Bool) (hl : l.length ≤ 1000000) (h : ∀ r ∈ l, S g 1 (r.pv :: caps) = some [.b (p r)]) : S Gw2 2 [Aj8 l, .f g caps] = some [.b (l.any p)] := by
 refine Lz0 (N := 1) rfl ?_
 simp (disch := omega) only [Lv3, Cw1 l g caps p hl h, EVC, EVP, ↓reduceIte, EV, Nat.reduceAdd, Nat.reduceEqDiff, Int.reduceToNat, reduceCtorEq]
 have := (Ck4 p l 0).1
 rcases Bool.eq_false_or_eq_true (l.any p) with h1 | h1
 ·rw [h1] at this ⊢; simp [this.2 rfl]
 ·rw [h1] at this ⊢
  have h2 : ¬ (0 ≤ ixG p 0 l) := fun h => by simpa using this.1 h
  simp [h2]
theorem Ar2 (l : List (List UInt8)) (g : Nat) (caps : List PV) (p : List UInt8 → Bool) (hl : l.length ≤ 1000000) (h : ∀ r ∈ l, S g 1 (.s r :: caps) = some [.b (p r)]) : S Bm1 2 [Aj7 l, .f g caps] = some [.i .i64 (ixG p 0 l)] := by
 refine Kz6 (N := l.length + 1) rfl ?_
 have key : Gc7.ev S (l.length + 1) [Aj7 l, .f g caps] = some (if ixG p 0 l = -1 then .yld 0 [] else .ret [.i .i64 (ixG p 0 l)]) := by
  refine Ak2 l (fun i => [.i .i64 (i : Int)]) (fun i r => if ixG p i r = -1 then .yld 0 [] else .ret [.i .i64 (ixG p i r)]) rfl (by omega) (fun i c r hd hi hc => ?_) ?_
  ·have hp := h c (List.mem_of_getElem? hc)
   rcases Bool.eq_false_or_eq_true (p c) with h1 | h1
   ·rw [h1] at hp
    right
    have h2 : ¬ ((i : Int) = -1) := by omega
    simp (disch := omega) only [Cx3, hc, hp, EVT, EVC, EVP, ↓reduceIte, EV, Nat.reduceAdd, Nat.reduceEqDiff, Int.reduceToNat, reduceCtorEq]
    simp [ixG, h1, h2, Out.goes]
   ·rw [h1] at hp
    left
    simp (disch := omega) only [Cx3, hc, hp, EVT, EVC, EVP, ↓reduceIte, EV, Nat.reduceAdd, Nat.reduceEqDiff, Int.reduceToNat, reduceCtorEq]
    simp [ixG, h1]
  ·simp (disch := omega) only [Cx3, EVT, EVC, EVP, ↓reduceIte, EV, Nat.reduceAdd, Nat.reduceEqDiff, Int.reduceToNat, reduceCtorEq]
   simp [ixG, Out.goes]
 by_cases h1 : ixG p 0 l = -1
 ·rw [if_pos h1] at key
  simp (disch := omega) only [Cx3, key, h1, EVT, EVC, EVP, ↓reduceIte, EV, Nat.reduceAdd, Nat.reduceEqDiff, Int.reduceToNat, reduceCtorEq]
 ·rw [if_neg h1] at key
  simp (disch := omega) only [Cx3, key, EVT, EVC, EVP, ↓reduceIte, EV, Nat.reduceAdd, Nat.reduceEqDiff, Int.reduceToNat, reduceCtorEq]
theorem Bj6 (l : List (List UInt8)) (g : Nat) (caps : List PV) (p : List UInt8 → Bool) (hl : l.length ≤ 1000000) (h : ∀ r ∈ l, S g 1 (.s r :: caps) = some [.b (p r)]) : S Gw1 2 [Aj7 l, .f g caps] = some [.b (l.any p)] := by
 refine Ly8 (N := 1) rfl ?_
 simp (disch := omega) only [Lv1, Ar2 l g caps p hl h, EVC, EVP, ↓reduceIte, EV, Nat.reduceAdd, Nat.reduceEqDiff, Int.reduceToNat, reduceCtorEq]
 have := (Ck4 p l 0).1
 rcases Bool.eq_false_or_eq_true (l.any p) with h1 | h1
 ·rw [h1] at this ⊢; simp [this.2 rfl]
 ·rw [h1] at this ⊢
  have h2 : ¬ (0 ≤ ixG p 0 l) := fun h => by simpa using this.1 h
  simp [h2]
theorem By3 (l : List (List UInt8)) (hl : l.length ≤ 1000000) : S Fz4 1 [Aj7 l] = some [Aj7 l] := by
 refine Lz2 (N := 1) rfl ?_
 have h0 : Aw1 1 (Aj7 []) (Aj7 l) = some (Aj7 l) := by simpa using Cv6 [] l (by simp; omega)
 simp (disch := omega) only [Lv5, h0, EVT, EVC, EVP, ↓reduceIte, EV, Nat.reduceAdd, Nat.reduceEqDiff, Int.reduceToNat, reduceCtorEq]
theorem By5 (l : List Adr) (hl : l.length ≤ 1000000) : S Fz3 1 [Aj8 l] = some [Aj8 l] := by
 refine Lz1 (N := 1) rfl ?_
 have h0 : Aw1 3 (Aj8 []) (Aj8 l) = some (Aj8 l) := by simpa using Bk6 [] l (by simp; omega)
 simp (disch := omega) only [Lv4, h0, EVT, EVC, EVP, ↓reduceIte, EV, Nat.reduceAdd, Nat.reduceEqDiff, Int.reduceToNat, reduceCtorEq]
theorem By4 (l : List Rec) (hl : l.length ≤ 1000000) : S Ct0 1 [Aj2 l] = some [Aj2 l] := by
 refine Lc4 (N := 1) rfl ?_
 have h0 : Aw1 16 (Aj2 []) (Aj2 l) = some (Aj2 l) := by simpa using Az1 [] l (by simp; omega)
 simp (disch := omega) only [Lw3, h0, EVT, EVC, EVP, ↓reduceIte, EV, Nat.reduceAdd, Nat.reduceEqDiff, Int.reduceToNat, reduceCtorEq]
theorem Ch7 {α : Type} (p : α → Bool) : ∀ (l : List α) (k : Nat), 0 ≤ ixG p k l → ∃ j, ixG p k l = ((k + j : Nat) : Int) ∧ j < l.length ∧ (∀ x ∈ l.take j, p x = false) ∧ ∃ x, l[j]? = some x ∧ p x = true
 | [], k, h => by simp [ixG] at h
 | r :: rs, k, h => by
   rcases Bool.eq_false_or_eq_true (p r) with h1 | h1
   ·exact ⟨0, by simp [ixG, h1], by simp, by simp, r, rfl, h1⟩
   ·have e : ixG p k (r :: rs) = ixG p (k + 1) rs := by simp [ixG, h1]
    rw [e] at h ⊢
    obtain ⟨j, g1, g2, g3, x, g4, g5⟩ := Ch7 p rs (k + 1) h
    refine ⟨j + 1, by rw [g1]; congr 1; omega, by simp; omega, fun y hy => ?_, x, by simpa using g4, g5⟩
    simp only [List.take_succ_cons, List.mem_cons] at hy
    rcases hy with rfl | hy
    ·exact h1
    ·exact g3 y hy
theorem Ac9 {α : Type} (p : α → Bool) {l : List α} (h : ∀ x ∈ l, p x = false) : l.filter (fun x => !p x) = l := by
 rw [List.filter_eq_self]
 intro x hx
 simp [h x hx]
theorem Fd7 (l : List (List UInt8)) (g : Nat) (caps : List PV) (p : List UInt8 → Bool) (hl : l.length ≤ 1000000) (h : ∀ r ∈ l, S g 1 (.s r :: caps) = some [.b (p r)]) : S Gv7 1048578 [Aj7 l, .f g caps] = some [Aj7 (l.filter fun x => !p x)] := by
 refine Ly0 (N := l.length + 1) rfl ?_
 have h0 := Ar2 l g caps p hl h
 have hany := (Ck4 p l 0)
 by_cases hneg : ixG p 0 l = -1
 ·have hf : l.any p = false := by
   rcases Bool.eq_false_or_eq_true (l.any p) with h1 | h1
   ·have := hany.1.2 h1; omega
   ·exact h1
  have e : l.filter (fun x => !p x) = l := Ac9 p (fun x hx => by
   rw [List.any_eq_false] at hf
   simpa using hf x hx)
  rw [hneg] at h0
  rw [e]
  simp (disch := omega) only [Ff1, h0, EVT, EVM, EVC, EVP, ↓reduceIte, EV, Nat.reduceAdd, Nat.reduceEqDiff, Int.reduceToNat, reduceCtorEq]
 ·obtain ⟨j0, g1, g2, g3, x0, g4, g5⟩ := Ch7 p l 0 (by have := hany.2.2; omega)
  rw [g1] at h0
  simp only [Nat.zero_add] at h0
  have key : ∃ s : List (List UInt8), s.length = l.length ∧ s.take (l.filter fun x => !p x).length = l.filter (fun x => !p x) ∧ Is9.ev S (l.length + 1) [Aj7 l, .f g caps, .i .i64 (j0 : Int)] = some (.yld 0 [.i .i64 (((l.filter fun x => !p x).length : Nat) : Int), Aj7 s]) := by
   let nx : Nat × Nat × List (List UInt8) → Nat × Nat × List (List UInt8) := fun a => match l[a.2.1]? with
    | some c => if p c = true then (a.1, a.2.1 + 1, a.2.2) else (a.1 + 1, a.2.1 + 1, a.2.2.set a.1 c)
    | none => a
   let fin : Nat → Nat × Nat × List (List UInt8) → Nat × Nat × List (List UInt8) := fun n a => Nat.rec a (fun _ b => nx b) n
   have fin_s : ∀ n a, fin (n + 1) a = nx (fin n a) := fun _ _ => rfl
   have fin_c : ∀ n a, fin (n + 1) a = fin n (nx a) := by
    intro n
    induction n with
    | zero => intro a; rfl
    | succ n ih => intro a; exact congrArg nx (ih a)
   let I : Nat × Nat × List (List UInt8) → Prop := fun a => a.1 < a.2.1 ∧ a.2.1 ≤ l.length ∧ a.2.2.length = l.length ∧ a.2.2.take a.1 = (l.take a.2.1).filter (fun x => !p x) ∧ a.2.2.drop a.2.1 = l.drop a.2.1
   have I_nx : ∀ a, I a → a.2.1 < l.length → I (nx a) ∧ (nx a).2.1 = a.2.1 + 1 := by
    rintro ⟨i, j, s⟩ ⟨i1, i2, i3, i4, i5⟩ hj
    simp only at i1 i2 i3 i4 i5 hj
    have hc : l[j]? = some l[j] := List.getElem?_eq_getElem hj
    have ht : l.take (j + 1) = l.take j ++ [l[j]] := by rw [List.take_add_one, hc]; rfl
    have hdrop : s.drop (j + 1) = l.drop (j + 1) := by
     rw [← List.drop_drop (i := 1) (j := j), i5, List.drop_drop]
    have hlen : i = ((l.take j).filter fun x => !p x).length := by
     rw [← i4, List.length_take]; omega
    simp only [nx, hc]
    rcases Bool.eq_false_or_eq_true (p l[j]) with h1 | h1
    ·simp only [h1, if_true]
     refine ⟨⟨by simp only; omega, by simp only; omega, i3, ?_, hdrop⟩, trivial⟩
     simp only
     rw [ht, List.filter_append, i4]
     simp [h1]
    ·simp only [h1, Bool.false_eq_true, if_false]
     refine ⟨⟨by simp only; omega, by simp only; omega, by simpa using i3, ?_, ?_⟩, trivial⟩
     ·simp only
      rw [ht, List.filter_append, ← i4, List.take_add_one, List.getElem?_set_self (by omega), List.take_set_of_le (by omega)]
      simp [h1]
     ·simp only
      rw [List.drop_set_of_lt (by omega), hdrop]
   have I_fin : ∀ n a, I a → a.2.1 + n ≤ l.length → I (fin n a) ∧ (fin n a).2.1 = a.2.1 + n := by
    intro n
    induction n with
    | zero => intro a ha _; exact ⟨ha, rfl⟩
    | succ n ih =>
      intro a ha hn
      obtain ⟨q1, q2⟩ := ih a ha (by omega)
      obtain ⟨q3, q4⟩ := I_nx _ q1 (by omega)
      rw [fin_s]
      exact ⟨q3, by rw [q4, q2]; omega⟩
   have I0 : I (j0, j0 + 1, l) := by
    refine ⟨by simp only; omega, by simp only; omega, rfl, ?_, rfl⟩
    simp only
    rw [List.take_add_one, g4, List.filter_append, Ac9 p g3]
    simp [g5]
   obtain ⟨z1, z2⟩ := I_fin (l.length - (j0 + 1)) (j0, j0 + 1, l) I0 (by simp only; omega)
   simp only at z2
   refine ⟨(fin (l.length - (j0 + 1)) (j0, j0 + 1, l)).2.2, z1.2.2.1, ?_, ?_⟩
   ·have q := z1.2.2.2.1
    have e1 : (fin (l.length - (j0 + 1)) (j0, j0 + 1, l)).2.1 = l.length := by rw [z2]; omega
    rw [e1, List.take_length] at q
    rw [← q, List.length_take, z1.2.2.1]
    have := z1.1
    rw [Nat.min_eq_left (by omega)]
   ·have hlen : (fin (l.length - (j0 + 1)) (j0, j0 + 1, l)).1 = (l.filter fun x => !p x).length := by
     have q := z1.2.2.2.1
     have e1 : (fin (l.length - (j0 + 1)) (j0, j0 + 1, l)).2.1 = l.length := by rw [z2]; omega
     rw [e1, List.take_length] at q
     have q2 := congrArg List.length q
     have := z1.1
     rw [List.length_take, z1.2.2.1, Nat.min_eq_left (by omega)] at q2
     exact q2
    refine Eq.trans (Aw8 (α := Nat × Nat × List (List UInt8)) (fun a => [.i .i64 (a.1 : Int), .i .i64 (a.2.1 : Int), Aj7 a.2.2]) (fun a => .yld 0 [.i .i64 ((fin (l.length - a.2.1) a).1 : Int), Aj7 (fin (l.length - a.2.1) a).2.2]) I (fun a => l.length - a.2.1) (j0, j0 + 1, l) ?_ I0 (by simp only; omega) ?_) ?_
    ·simp (disch := omega) only [EVT, EVM, EVC, EVP, ↓reduceIte, EV, Nat.reduceAdd, Nat.reduceEqDiff, Int.reduceToNat, reduceCtorEq]
    ·rintro ⟨i, j, s⟩ hI
     obtain ⟨i1, i2, i3, i4, i5⟩ := hI
     simp only at i1 i2 i3 i4 i5
     by_cases hj : j < l.length
     ·left
      have hc : l[j]? = some l[j] := List.getElem?_eq_getElem hj
      have hsc : s[j]? = some l[j] := by
       have := congrArg (fun q => q[0]?) i5
       simpa [List.getElem?_drop, hc] using this
      have hsi : ∃ y, s[i]? = some y := ⟨_, List.getElem?_eq_getElem (by omega)⟩
      obtain ⟨y, hsi⟩ := hsi
      obtain ⟨q3, q4⟩ := I_nx (i, j, s) ⟨i1, i2, i3, i4, i5⟩ hj
      have hp := h l[j] (List.getElem_mem hj)
      refine ⟨nx (i, j, s), ?_, q3, by rw [q4]; simp only; omega, ?_⟩
      ·have hjs : (j : Int) < (s.length : Int) := by omega
       rcases Bool.eq_false_or_eq_true (p l[j]) with h1 | h1
       ·rw [h1] at hp
        simp only [nx, hc, h1, if_true]
        simp (disch := omega) only [Ff1, hjs, hsc, hp, EVT, EVM, EVC, EVP, ↓reduceIte, EV, Nat.reduceAdd, Nat.reduceEqDiff, Int.reduceToNat, reduceCtorEq]
       ·rw [h1] at hp
        simp only [nx, hc, h1, Bool.false_eq_true, if_false]
        simp (disch := omega) only [Ff1, hjs, hsc, hsi, hp, EVT, EVM, EVC, EVP, ↓reduceIte, EV, Nat.reduceAdd, Nat.reduceEqDiff, Int.reduceToNat, reduceCtorEq]
      ·have e1 : l.length - j = (l.length - (j + 1)) + 1 := by omega
       rw [q4]
       simp only
       rw [e1, fin_c]
     ·right
      have hjs : ¬ (j : Int) < (s.length : Int) := by omega
      have e1 : l.length - j = 0 := by omega
      simp only [e1]
      simp (disch := omega) only [Ff1, hjs, EVT, EVM, EVC, EVP, ↓reduceIte, EV, Nat.reduceAdd, Nat.reduceEqDiff, Int.reduceToNat, reduceCtorEq]
      exact ⟨rfl, rfl⟩
    ·simp only
     rw [hlen]
  obtain ⟨s, hs1, hs2, key⟩ := key
  have hle : (l.filter fun x => !p x).length ≤ l.length := List.length_filter_le _ _
  have e0 : ¬ ((j0 : Int) = -1) := by omega
  generalize (l.filter fun x => !p x) = fl at *
  have hsl1 : Ac7 1 (Aj7 s) (.i .i64 ((fl.length : Nat) : Int)) (.i .i64 (s.length : Int)) = some (Aj7 (s.drop fl.length)) := by
   rw [Ab6 _ _ _ _ _ (by omega) (by omega) (by omega)]
   simp
  have hsl2 : Ac7 1 (Aj7 s) (.i .i64 0) (.i .i64 ((fl.length : Nat) : Int)) = some (Aj7 fl) := by
   rw [Ab6 _ _ _ _ _ (by omega) (by omega) (by omega)]
   simp [hs2]
  have hrep : Bv4 1 (.i .i64 ((s.length : Int) - (fl.length : Int))) (.s []) = some (Aj7 (List.replicate (s.length - fl.length) [])) := by
   rw [Ef5 _ (by omega) (by omega)]
   congr 3; omega
  have happ : Aw1 1 (Aj7 fl) (Aj7 (List.replicate (s.length - fl.length) [])) = some (Aj7 (fl ++ List.replicate (s.length - fl.length) [])) := Cv6 _ _ (by simp; omega)
  have hsl3 : Ac7 1 (Aj7 (fl ++ List.replicate (s.length - fl.length) [])) (.i .i64 0) (.i .i64 ((fl.length : Nat) : Int)) = some (Aj7 fl) := by
   rw [Ab6 _ _ _ _ _ (by omega) (by omega) (by simp; omega)]
   simp
  simp (disch := omega) only [Ff1, h0, e0, key, hsl1, hsl2, hrep, happ, hsl3, EVT, EVM, EVC, EVP, ↓reduceIte, EV, Nat.reduceAdd, Nat.reduceEqDiff, Int.reduceToNat, reduceCtorEq]
def ixF (p : Rec → Bool) (k : Nat) : List Rec → Int
 | [] => -1
 | r :: rs => if p r = true then (k : Int) else ixF p (k + 1) rs
theorem Gf1 (p : Rec → Bool) : ∀ (l : List Rec) (k : Nat), (0 ≤ ixF p k l ↔ l.any p = true) ∧ ixF p k l ≤ k + l.length ∧ -1 ≤ ixF p k l
 | [], k => by simp [ixF]
 | r :: rs, k => by
   have ih := Gf1 p rs (k + 1)
   rcases Bool.eq_false_or_eq_true (p r) with h | h
   ·simp [ixF, h]; omega
   ·simp only [ixF, h, List.any_cons, Bool.false_or, List.length_cons]
    refine ⟨by simpa using ih.1, ?_, by simpa using ih.2.2⟩
    have := ih.2.1
    simp only [Bool.false_eq_true, if_false] at this ⊢
    omega
theorem Cw0 (l : List Rec) (g : Nat) (caps : List PV) (p : Rec → Bool) (hl : l.length ≤ 1000000) (h : ∀ r ∈ l, S g 1 (r.pv :: caps) = some [.b (p r)]) : S Cg5 2 [Aj2 l, .f g caps] = some [.i .i64 (ixF p 0 l)] := by
 refine Kc3 (N := l.length + 1) rfl ?_
 have key : Gd5.ev S (l.length + 1) [Aj2 l, .f g caps] = some (if ixF p 0 l = -1 then .yld 0 [] else .ret [.i .i64 (ixF p 0 l)]) := by
  refine Ak2 l (fun i => [.i .i64 (i : Int)]) (fun i r => if ixF p i r = -1 then .yld 0 [] else .ret [.i .i64 (ixF p i r)]) rfl (by omega) (fun i c r hd hi hc => ?_) ?_
  ·have hp := h c (List.mem_of_getElem? hc)
   rcases Bool.eq_false_or_eq_true (p c) with h1 | h1
   ·rw [h1] at hp
    right
    have h2 : ¬ ((i : Int) = -1) := by omega
    simp (disch := omega) only [Cx8, hc, hp, EVC, EVP, ↓reduceIte, EV, Nat.reduceAdd, Nat.reduceEqDiff, Int.reduceToNat, reduceCtorEq]
    simp [ixF, h1, h2, Out.goes]
   ·rw [h1] at hp
    left
    simp (disch := omega) only [Cx8, hc, hp, EVC, EVP, ↓reduceIte, EV, Nat.reduceAdd, Nat.reduceEqDiff, Int.reduceToNat, reduceCtorEq]
    simp [ixF, h1]
  ·simp (disch := omega) only [Cx8, EVC, EVP, ↓reduceIte, EV, Nat.reduceAdd, Nat.reduceEqDiff, Int.reduceToNat, reduceCtorEq]
   simp [ixF, Out.goes]
 by_cases h1 : ixF p 0 l = -1
 ·rw [if_pos h1] at key
  simp (disch := omega) only [Cx8, key, h1, EVC, EVP, ↓reduceIte, EV, Nat.reduceAdd, Nat.reduceEqDiff, Int.reduceToNat, reduceCtorEq]
 ·rw [if_neg h1] at key
  simp (disch := omega) only [Cx8, key, EVC, EVP, ↓reduceIte, EV, Nat.reduceAdd, Nat.reduceEqDiff, Int.reduceToNat, reduceCtorEq]
theorem Av9 (l : List Rec) (g : Nat) (caps : List PV) (p : Rec → Bool) (hl : l.length ≤ 1000000) (h : ∀ r ∈ l, S g 1 (r.pv :: caps) = some [.b (p r)]) : S Cc5 2 [Aj2 l, .f g caps] = some [.b (l.any p)] := by
 refine Lb4 (N := 1) rfl ?_
 simp (disch := omega) only [Lw2, Cw0 l g caps p hl h, EVC, EVP, ↓reduceIte, EV, Nat.reduceAdd, Nat.reduceEqDiff, Int.reduceToNat, reduceCtorEq]
 have := (Gf1 p l 0).1
 rcases Bool.eq_false_or_eq_true (l.any p) with h1 | h1
 ·rw [h1] at this ⊢; simp [this.2 rfl]
 ·rw [h1] at this ⊢
  have h2 : ¬ (0 ≤ ixF p 0 l) := fun h => by simpa using this.1 h
  simp [h2]
end Go.X.G
/- The kind of a response. -/
namespace Go.X.G
open Go Go.X

theorem Jb6 (r : Rec) (q : Ques) : S Bl1 1 [r.pv, q.pv] = some [.b (decide (r.name = q.name) && (decide (r.typ = q.typ) || decide (q.typ = 255)))] := by
 refine Kw8 (N := 1) rfl ?_
 by_cases h1 : r.name = q.name <;> by_cases h2 : r.typ = q.typ <;> by_cases h3 : q.typ = 255 <;> simp (disch := omega) only [Kk1, h1, h2, h3, EVM, EVC, EVP, ↓reduceIte, EV, Nat.reduceAdd, Nat.reduceEqDiff, Int.reduceToNat, reduceCtorEq] <;> simp [h1, h2, h3]
theorem Bx1 (l : List Rec) (q : Ques) (hl : l.length ≤ 1000000) : S Bl6 2 [Aj2 l, q.pv] = some [.b (hasL l q.name q.typ)] := by
 refine Ky0 (N := 1) rfl ?_
 have h1 := Av9 l Bl1 [q.pv] _ hl (fun r _ => Jb6 r q)
 unfold hasL
 simp (disch := omega) only [Kk5, h1, EVM, EVC, EVP, ↓reduceIte, EV, Nat.reduceAdd, Nat.reduceEqDiff, Int.reduceToNat, reduceCtorEq]
theorem Bk2 (l : List Rec) (n : List UInt8) (t : Int) (hl : l.length ≤ 1000000) : S Bl4 3 [Aj2 l, .s n, .i .i64 t] = some [.b (hasL l n t)] := by
 refine Kx6 (N := l.length + 1) rfl ?_
 have key : Gb6.ev S (l.length + 1) [Aj2 l, .s n, .i .i64 t] = some (if hasL l n t = true then .ret [.b true] else .yld 0 []) := by
  refine Ak2 l (fun i => [.i .i64 (i : Int)]) (fun i r => if hasL r n t = true then .ret [.b true] else .yld 0 []) rfl (by omega) (fun i c r hd hi hc => ?_) ?_
  ·have hcons : hasL (c :: r) n t = ((decide (c.name = n) && (decide (c.typ = t) || decide (t = 255))) || hasL r n t) := by simp [hasL]
   rw [hcons]
   by_cases t1 : c.name = n <;> by_cases t2 : c.typ = t <;> by_cases t3 : t = 255 <;> first
    | (left; simp (disch := omega) only [Ec9, hc, t1, t2, t3, EVP, ↓reduceIte, EV, Nat.reduceAdd, Nat.reduceEqDiff, Int.reduceToNat, reduceCtorEq]; simp [t1, t2, t3]; done)
    | (right; simp (disch := omega) only [Ec9, hc, t1, t2, t3, EVP, ↓reduceIte, EV, Nat.reduceAdd, Nat.reduceEqDiff, Int.reduceToNat, reduceCtorEq]; simp [t1, t2, t3, Out.goes]; done)
  ·simp (disch := omega) only [Ec9, EVP, ↓reduceIte, EV, Nat.reduceAdd, Nat.reduceEqDiff, Int.reduceToNat, reduceCtorEq]
   simp [hasL, Out.goes]
 rcases Bool.eq_false_or_eq_true (hasL l n t) with h1 | h1 <;> simp (disch := omega) only [Ec9, key, h1, EVP, ↓reduceIte, EV, Nat.reduceAdd, Nat.reduceEqDiff, Int.reduceToNat, reduceCtorEq]
theorem Ag8 (l : List Rec) (n : List UInt8) (t : Int) : (findR l n t).length ≤ l.length := List.length_filter_le _ _
theorem Fc2 (m : Msg) (hl : m.ans.length ≤ 1000000) : S Cd8 1 [m.pv] = some [Aj7 (folL m.ans m.q.typ 8 m.q.name).1, .s (folL m.ans m.q.typ 8 m.q.name).2] := by
 refine Ky3 (N := 100) rfl ?_
 have key : Gb9.ev S 100 [m.pv] = some (.yld 0 [Aj7 ([] ++ (folL m.ans m.q.typ (8 - ([] : List (List UInt8)).length) m.q.name).1), .s (folL m.ans m.q.typ (8 - ([] : List (List UInt8)).length) m.q.name).2]) := by
  refine Aw8 (fun (a : List (List UInt8) × List UInt8) => [Aj7 a.1, .s a.2]) (fun a => .yld 0 [Aj7 (a.1 ++ (folL m.ans m.q.typ (8 - a.1.length) a.2).1), .s (folL m.ans m.q.typ (8 - a.1.length) a.2).2]) (fun a => a.1.length ≤ 8) (fun a => 8 - a.1.length) ([], m.q.name) rfl (by simp) (by simp) (fun a ha => ?_)
  obtain ⟨ns, n⟩ := a
  simp only at ha ⊢
  by_cases h8 : ns.length = 8
  ·right
   have e : 8 - ns.length = 0 := by omega
   rw [e]
   simp (disch := omega) only [Cx1, Bx1, Al7, h8, EVM, EVC, EVP, ↓reduceIte, EV, Nat.reduceAdd, Nat.reduceEqDiff, Int.reduceToNat, reduceCtorEq]
   simp [folL, Out.goes]
  ·obtain ⟨k, hk⟩ : ∃ k, 8 - ns.length = k + 1 := ⟨7 - ns.length, by omega⟩
   have hlt : ns.length < 8 := by omega
   rw [hk]
   rcases Bool.eq_false_or_eq_true (hasL m.ans n m.q.typ) with h1 | h1
   ·right
    have e : folL m.ans m.q.typ (k + 1) n = ([], n) := by unfold folL; rw [if_pos h1]
    rw [e]
    simp (disch := omega) only [Cx1, Bx1, h1, EVM, EVC, EVP, ↓reduceIte, EV, Nat.reduceAdd, Nat.reduceEqDiff, Int.reduceToNat, reduceCtorEq]
    simp [Out.goes]
   ·cases hf : findR m.ans n 5 with
    | nil =>
      right
      have e : folL m.ans m.q.typ (k + 1) n = ([], n) := by unfold folL; rw [if_neg (by simp [h1]), hf]
      rw [e]
      simp (disch := first | omega | (simp; omega)) only [Cx1, Bx1, Al7, hf, h1, EVM, EVC, EVP, ↓reduceIte, EV, Nat.reduceAdd, Nat.reduceEqDiff, Int.reduceToNat, reduceCtorEq]
      simp [Out.goes]
    | cons r rs =>
      left
      have e : folL m.ans m.q.typ (k + 1) n = (n :: (folL m.ans m.q.typ k r.data.host).1, (folL m.ans m.q.typ k r.data.host).2) := by unfold folL; rw [if_neg (by simp [h1]), hf]; simp only; cases k <;> rfl
      have hne : ¬ (((rs.length + 1 : Nat) : Int) = 0) := by omega
      refine ⟨(ns ++ [n], r.data.host), ?_, by simp; omega, by simp; omega, ?_⟩
      ·simp (disch := first | omega | (simp; omega)) only [Cx1, Bx1, Al7, hf, h1, EVM, EVC, EVP, ↓reduceIte, EV, Nat.reduceAdd, Nat.reduceEqDiff, Int.reduceToNat, reduceCtorEq]
      ·have e2 : 8 - (ns ++ [n]).length = k := by simp; omega
       simp only [e2, e]
       simp
 simp only [List.nil_append, List.length_nil, Nat.sub_zero] at key
 simp (disch := omega) only [Cx1, key, EVM, EVP, ↓reduceIte, EV, Nat.reduceAdd, Nat.reduceEqDiff, Int.reduceToNat, reduceCtorEq]
def folE (l : List Rec) (t : Int) : Nat → List UInt8 → Bool
 | 0, _ => false
 | k + 1, n => if hasL l n t = true then true else match findR l n 5 with
   | [] => true
   | r :: _ => folE l t k r.data.host
theorem Dj6 (l : List Rec) (q : Ques) (hl : l.length ≤ 1000000) : S Cd6 2 [Aj2 l, q.pv] = some [Aj7 (folL l q.typ 8 q.name).1, .s (folL l q.typ 8 q.name).2] := by
 refine Kx7 (N := 100) rfl ?_
 have key : Gb7.ev S 100 [Aj2 l, q.pv] = some (if folE l q.typ (8 - ([] : List (List UInt8)).length) q.name = true then .ret [Aj7 ([] ++ (folL l q.typ (8 - ([] : List (List UInt8)).length) q.name).1), .s (folL l q.typ (8 - ([] : List (List UInt8)).length) q.name).2] else .yld 0 [Aj7 ([] ++ (folL l q.typ (8 - ([] : List (List UInt8)).length) q.name).1), .s (folL l q.typ (8 - ([] : List (List UInt8)).length) q.name).2]) := by
  refine Aw8 (fun (a : List (List UInt8) × List UInt8) => [Aj7 a.1, .s a.2, .i .i64 (a.1.length : Int)]) (fun a => if folE l q.typ (8 - a.1.length) a.2 = true then .ret [Aj7 (a.1 ++ (folL l q.typ (8 - a.1.length) a.2).1), .s (folL l q.typ (8 - a.1.length) a.2).2] else .yld 0 [Aj7 (a.1 ++ (folL l q.typ (8 - a.1.length) a.2).1), .s (folL l q.typ (8 - a.1.length) a.2).2]) (fun a => a.1.length ≤ 8) (fun a => 8 - a.1.length) ([], q.name) rfl (by simp) (by simp) (fun a ha => ?_)
  obtain ⟨ns, n⟩ := a
  simp only at ha ⊢
  by_cases h8 : ns.length = 8
  ·right
   have e : 8 - ns.length = 0 := by omega
   rw [e]
   simp (disch := omega) only [Cx0, h8, EVM, EVC, EVP, ↓reduceIte, EV, Nat.reduceAdd, Nat.reduceEqDiff, Int.reduceToNat, reduceCtorEq]
   simp [folL, folE, Out.goes]
  ·obtain ⟨k, hk⟩ : ∃ k, 8 - ns.length = k + 1 := ⟨7 - ns.length, by omega⟩
   have hlt : ns.length < 8 := by omega
   rw [hk]
   rcases Bool.eq_false_or_eq_true (hasL l n q.typ) with h1 | h1
   ·right
    have e : folL l q.typ (k + 1) n = ([], n) := by unfold folL; rw [if_pos h1]
    have e2 : folE l q.typ (k + 1) n = true := by unfold folE; rw [if_pos h1]
    rw [e, e2]
    simp (disch := omega) only [Cx0, Bk2, Al8, h1, EVM, EVC, EVP, ↓reduceIte, EV, Nat.reduceAdd, Nat.reduceEqDiff, Int.reduceToNat, reduceCtorEq]
    simp [Out.goes]
   ·cases hf : findR l n 5 with
    | nil =>
      right
      have e : folL l q.typ (k + 1) n = ([], n) := by unfold folL; rw [if_neg (by simp [h1]), hf]
      have e2 : folE l q.typ (k + 1) n = true := by unfold folE; rw [if_neg (by simp [h1]), hf]
      rw [e, e2]
      simp (disch := first | omega | (simp; omega)) only [Cx0, Bk2, Al8, hf, h1, EVM, EVC, EVP, ↓reduceIte, EV, Nat.reduceAdd, Nat.reduceEqDiff, Int.reduceToNat, reduceCtorEq]
      simp [Out.goes]
    | cons r rs =>
      left
      have e : folL l q.typ (k + 1) n = (n :: (folL l q.typ k r.data.host).1, (folL l q.typ k r.data.host).2) := by unfold folL; rw [if_neg (by simp [h1]), hf]; simp only; cases k <;> rfl
      have e3 : folE l q.typ (k + 1) n = folE l q.typ k r.data.host := by conv => lhs; unfold folE
                                                                          rw [if_neg (by simp [h1]), hf]
      have hne : ¬ (((rs.length + 1 : Nat) : Int) = 0) := by omega
      refine ⟨(ns ++ [n], r.data.host), ?_, by simp; omega, by simp; omega, ?_⟩
      ·simp (disch := first | omega | (simp; omega)) only [Cx0, Bk2, Al8, hf, h1, EVM, EVC, EVP, ↓reduceIte, EV, Nat.reduceAdd, Nat.reduceEqDiff, Int.reduceToNat, reduceCtorEq]
       simp
      ·have e2 : 8 - (ns ++ [n]).length = k := by simp; omega
       simp only [e2, e, e3]
       simp
 simp only [List.nil_append, List.length_nil, Nat.sub_zero] at key
 rcases Bool.eq_false_or_eq_true (folE l q.typ 8 q.name) with h1 | h1 <;> rw [h1] at key <;> simp (disch := omega) only [Cx0, key, EVM, EVP, ↓reduceIte, EV, Nat.reduceAdd, Nat.reduceEqDiff, Int.reduceToNat, reduceCtorEq]
end Go.X.G
/- What a response says, by the program and by the reference. -/
namespace Go.X.G
open Go Go.X

def zrec : Rec := ⟨[], 0, 0, ⟨false, 0, 0, [], [], [], 0, 0, 0, 0, 0, 0, 0⟩⟩
def optR : Option Rec → List PV
 | some r => [r.pv, .b true]
 | none => [zrec.pv, .b false]
def zst (i : Nat) : List PV := .i .i64 (i : Int) :: zrec.cells
theorem Ax6 (i : Nat) : zst i = [.i .i64 (i : Int), .s [], .i .i64 0, .i .i64 0, .b false, .i .u64 0, .i .u64 0, .s [], .s [], .s [], .i .i64 0, .i .i64 0, .i .i64 0, .i .i64 0, .i .i64 0, .i .i64 0, .i .u64 0] := rfl
theorem Ac4 : zrec.cells = [.s [], .i .i64 0, .i .i64 0, .b false, .i .u64 0, .i .u64 0, .s [], .s [], .s [], .i .i64 0, .i .i64 0, .i .i64 0, .i .i64 0, .i .i64 0, .i .i64 0, .i .u64 0] := rfl
def outR (id : Nat) : Option Rec → Out
 | some r => .ret [r.pv, .b true]
 | none => .yld id zrec.cells
theorem Ac5 (id : Nat) (r : Rec) : outR id (some r) = .ret [r.pv, .b true] := rfl
theorem Ac6 (id : Nat) : outR id none = .yld id zrec.cells := rfl
theorem Eh8 (m : Msg) (t : Int) (zone : List UInt8) (hm : m.wf) (hz : strr zone) (hl : m.auth.length ≤ 1000000) : S Bl8 3 [m.pv, .i .i64 t, .s zone] = some (optR (Am5 m t zone)) := by
 refine Ky2 (N := m.auth.length + 1) rfl ?_
 have gq := hm.q.name
 unfold strr at hz gq
 have key : Gb8.ev S (m.auth.length + 1) [m.pv, .i .i64 t, .s zone] = some (outR 0 (m.auth.find? (firB m t zone))) := by
  refine Ak2 m.auth zst (fun i r => outR 0 (r.find? (firB m t zone))) rfl (by omega) (fun i c r hd hi hc => ?_) ?_
  ·have hp := (hm.auth.2 c (List.mem_of_getElem? hc)).name
   unfold strr at hp
   have hb : firB m t zone c = (decide (c.typ = t) && Ak4 m.q.name c.name && (decide (zone = []) || (decide (c.name ≠ zone) && Ak4 c.name zone))) := rfl
   rcases Bool.eq_false_or_eq_true (firB m t zone c) with h | h
   ·right
    have e : (c :: r).find? (firB m t zone) = some c := by simp [h]
    rw [e, Ac5]
    rw [hb] at h
    rw [Ax6]
    by_cases t1 : c.typ = t
    ·rcases Bool.eq_false_or_eq_true (Ak4 m.q.name c.name) with t2 | t2
     ·by_cases t3 : zone = []
      ·simp (disch := omega) only [An1, hc, Aq6, t1, t2, t3, EVM, EVC, EVP, ↓reduceIte, EV, Nat.reduceAdd, Nat.reduceEqDiff, Int.reduceToNat, reduceCtorEq]
       simp [Out.goes]
      ·by_cases t4 : c.name = zone
       ·exfalso; simp [t3, t4] at h
       ·rcases Bool.eq_false_or_eq_true (Ak4 c.name zone) with t5 | t5
        ·simp (disch := omega) only [An1, hc, Aq6, t1, t2, t3, t4, t5, EVM, EVC, EVP, ↓reduceIte, EV, Nat.reduceAdd, Nat.reduceEqDiff, Int.reduceToNat, reduceCtorEq]
         simp [Out.goes]
        ·exfalso; simp [t3, t4, t5] at h
     ·exfalso; simp [t2] at h
    ·exfalso; simp [t1] at h
   ·left
    have e : (c :: r).find? (firB m t zone) = r.find? (firB m t zone) := by simp [h]
    rw [e]
    refine ⟨?_, rfl⟩
    rw [hb] at h
    rw [Ax6, Ax6]
    by_cases t1 : c.typ = t
    ·rcases Bool.eq_false_or_eq_true (Ak4 m.q.name c.name) with t2 | t2
     ·by_cases t3 : zone = []
      ·exfalso; simp [t1, t2, t3] at h
      ·by_cases t4 : c.name = zone
       ·simp (disch := omega) only [An1, hc, Aq6, t1, t2, t3, t4, EVM, EVC, EVP, ↓reduceIte, EV, Nat.reduceAdd, Nat.reduceEqDiff, Int.reduceToNat, reduceCtorEq]
        simp
       ·rcases Bool.eq_false_or_eq_true (Ak4 c.name zone) with t5 | t5
        ·exfalso; simp [t1, t2, t4, t5] at h
        ·simp (disch := omega) only [An1, hc, Aq6, t1, t2, t3, t4, t5, EVM, EVC, EVP, ↓reduceIte, EV, Nat.reduceAdd, Nat.reduceEqDiff, Int.reduceToNat, reduceCtorEq]
     ·simp (disch := omega) only [An1, hc, Aq6, t1, t2, EVM, EVC, EVP, ↓reduceIte, EV, Nat.reduceAdd, Nat.reduceEqDiff, Int.reduceToNat, reduceCtorEq]
    ·simp (disch := omega) only [An1, hc, Aq6, t1, EVM, EVC, EVP, ↓reduceIte, EV, Nat.reduceAdd, Nat.reduceEqDiff, Int.reduceToNat, reduceCtorEq]
  ·rw [Ax6]
   simp (disch := omega) only [An1, EVM, EVC, EVP, ↓reduceIte, EV, Nat.reduceAdd, Nat.reduceEqDiff, Int.reduceToNat, reduceCtorEq]
   simp [Ac6, Ac4, Out.goes]
 unfold Am5
 cases h : m.auth.find? (firB m t zone) with
 | none =>
   rw [h, Ac6, Ac4] at key
   simp (disch := omega) only [An1, key, EVM, EVC, EVP, ↓reduceIte, EV, Nat.reduceAdd, Nat.reduceEqDiff, Int.reduceToNat, reduceCtorEq]
   rfl
 | some r =>
   rw [h, Ac5] at key
   simp (disch := omega) only [An1, key, EVM, EVC, EVP, ↓reduceIte, EV, Nat.reduceAdd, Nat.reduceEqDiff, Int.reduceToNat, reduceCtorEq]
   rfl
theorem Bh4 (m : Msg) (zone : List UInt8) (hm : m.wf) (hz : strr zone) (hl : m.auth.length ≤ 1000000) : S Bl7 2 [m.pv, .s zone] = some (match refN m zone with | some r => [.s r.name, .b true] | none => [.s [], .b false]) := by
 refine Ky1 (N := 1) rfl ?_
 unfold refN
 by_cases h : zone = []
 ·simp (disch := omega) only [Ff7, h, EVM, EVC, EVP, ↓reduceIte, EV, Nat.reduceAdd, Nat.reduceEqDiff, Int.reduceToNat, reduceCtorEq]
 ·have k := Eh8 m 2 zone hm hz hl
  rw [if_neg h]
  cases h2 : Am5 m 2 zone with
  | none =>
    rw [h2] at k
    unfold optR at k
    simp (disch := omega) only [Ff7, h, k, EVM, EVC, EVP, ↓reduceIte, EV, Nat.reduceAdd, Nat.reduceEqDiff, Int.reduceToNat, reduceCtorEq]
    rfl
  | some r =>
    rw [h2] at k
    unfold optR at k
    simp (disch := omega) only [Ff7, h, k, EVM, EVC, EVP, ↓reduceIte, EV, Nat.reduceAdd, Nat.reduceEqDiff, Int.reduceToNat, reduceCtorEq]
theorem Fc5 (m : Msg) (hm : m.wf) (hl : m.auth.length ≤ 1000000) : S Cd5 1 [m.pv] = some (optR (Am5 m 6 [])) := by
 refine Kx5 (N := m.auth.length + 1) rfl ?_
 have gq := hm.q.name
 unfold strr at gq
 have key : Gb5.ev S (m.auth.length + 1) [m.pv] = some (outR 0 (m.auth.find? (firB m 6 []))) := by
  refine Ak2 m.auth zst (fun i r => outR 0 (r.find? (firB m 6 []))) rfl (by omega) (fun i c r hd hi hc => ?_) ?_
  ·have hp := (hm.auth.2 c (List.mem_of_getElem? hc)).name
   unfold strr at hp
   have hb : firB m 6 [] c = (decide (c.typ = 6) && Ak4 m.q.name c.name) := by simp [firB]
   rcases Bool.eq_false_or_eq_true (firB m 6 [] c) with h | h
   ·right
    have e : (c :: r).find? (firB m 6 []) = some c := by simp [h]
    rw [e, Ac5]
    rw [hb] at h
    simp only [Bool.and_eq_true, decide_eq_true_eq] at h
    rw [Ax6]
    simp (disch := omega) only [Bz2, hc, Aq2, h.1, h.2, EVM, EVC, EVP, ↓reduceIte, EV, Nat.reduceAdd, Nat.reduceEqDiff, Int.reduceToNat, reduceCtorEq]
    simp [Out.goes]
   ·left
    have e : (c :: r).find? (firB m 6 []) = r.find? (firB m 6 []) := by simp [h]
    rw [e]
    refine ⟨?_, rfl⟩
    rw [hb] at h
    rw [Ax6, Ax6]
    by_cases t1 : c.typ = 6
    ·have t2 : Ak4 m.q.name c.name = false := by simpa [t1] using h
     simp (disch := omega) only [Bz2, hc, Aq2, t1, t2, EVM, EVC, EVP, ↓reduceIte, EV, Nat.reduceAdd, Nat.reduceEqDiff, Int.reduceToNat, reduceCtorEq]
    ·simp (disch := omega) only [Bz2, hc, Aq2, t1, EVM, EVC, EVP, ↓reduceIte, EV, Nat.reduceAdd, Nat.reduceEqDiff, Int.reduceToNat, reduceCtorEq]
  ·rw [Ax6]
   simp (disch := omega) only [Bz2, EVM, EVC, EVP, ↓reduceIte, EV, Nat.reduceAdd, Nat.reduceEqDiff, Int.reduceToNat, reduceCtorEq]
   simp [Ac6, Ac4, Out.goes]
 unfold Am5
 cases h : m.auth.find? (firB m 6 []) with
 | none =>
   rw [h, Ac6, Ac4] at key
   simp (disch := omega) only [Bz2, key, EVM, EVC, EVP, ↓reduceIte, EV, Nat.reduceAdd, Nat.reduceEqDiff, Int.reduceToNat, reduceCtorEq]
   rfl
 | some r =>
   rw [h, Ac5] at key
   simp (disch := omega) only [Bz2, key, EVM, EVC, EVP, ↓reduceIte, EV, Nat.reduceAdd, Nat.reduceEqDiff, Int.reduceToNat, reduceCtorEq]
   rfl
theorem Jx2 (m : Msg) (zone : List UInt8) : refN m zone = m.auth.find? fun r => decide (r.typ = 2) && decide (r.name ≠ zone) && Ak4 r.name zone && Ak4 m.q.name r.name := by
 unfold refN Am5
 by_cases h : zone = []
 ·rw [if_pos h]
  subst h
  symm
  rw [List.find?_eq_none]
  intro r _
  simp [Fg5]
 ·rw [if_neg h]
  congr 1
  funext r
  unfold firB
  simp only [h, decide_false, Bool.false_or]
  cases decide (r.typ = 2) <;> cases decide (r.name ≠ zone) <;> cases Ak4 r.name zone <;> cases Ak4 m.q.name r.name <;> rfl
theorem At4 (m : Msg) (zone : List UInt8) (hm : m.wf) (hz : strr zone) (hl : m.auth.length ≤ 1000000) : S Bl3 2 [m.pv, .s zone] = some (optR (refN m zone)) := by
 refine Kx4 (N := m.auth.length + 1) rfl ?_
 have gq := hm.q.name
 unfold strr at hz gq
 rw [Jx2]
 have key : Gb4.ev S (m.auth.length + 1) [m.pv, .s zone] = some (outR 0 (m.auth.find? fun r => decide (r.typ = 2) && decide (r.name ≠ zone) && Ak4 r.name zone && Ak4 m.q.name r.name)) := by
  refine Ak2 m.auth zst (fun i r => outR 0 (r.find? fun r => decide (r.typ = 2) && decide (r.name ≠ zone) && Ak4 r.name zone && Ak4 m.q.name r.name)) rfl (by omega) (fun i c r hd hi hc => ?_) ?_
  ·have hp := (hm.auth.2 c (List.mem_of_getElem? hc)).name
   unfold strr at hp
   rw [List.find?_cons]
   by_cases t1 : c.typ = 2
   ·by_cases t4 : c.name = zone
    ·left
     refine ⟨?_, by simp [t4]⟩
     rw [Ax6, Ax6]
     simp (disch := omega) only [At0, hc, Aq2, t1, t4, EVM, EVC, EVP, ↓reduceIte, EV, Nat.reduceAdd, Nat.reduceEqDiff, Int.reduceToNat, reduceCtorEq]
    ·rcases Bool.eq_false_or_eq_true (Ak4 c.name zone) with t5 | t5
     ·rcases Bool.eq_false_or_eq_true (Ak4 m.q.name c.name) with t2 | t2
      ·right
       rw [Ax6]
       simp (disch := omega) only [At0, hc, Aq2, t1, t2, t4, t5, EVM, EVC, EVP, ↓reduceIte, EV, Nat.reduceAdd, Nat.reduceEqDiff, Int.reduceToNat, reduceCtorEq]
       simp [t4, Ac5, Out.goes]
      ·left
       refine ⟨?_, by simp [t2]⟩
       rw [Ax6, Ax6]
       simp (disch := omega) only [At0, hc, Aq2, t1, t2, t4, t5, EVM, EVC, EVP, ↓reduceIte, EV, Nat.reduceAdd, Nat.reduceEqDiff, Int.reduceToNat, reduceCtorEq]
     ·left
      refine ⟨?_, by simp [t5]⟩
      rw [Ax6, Ax6]
      simp (disch := omega) only [At0, hc, Aq2, t1, t4, t5, EVM, EVC, EVP, ↓reduceIte, EV, Nat.reduceAdd, Nat.reduceEqDiff, Int.reduceToNat, reduceCtorEq]
   ·left
    refine ⟨?_, by simp [t1]⟩
    rw [Ax6, Ax6]
    simp (disch := omega) only [At0, hc, Aq2, t1, EVM, EVC, EVP, ↓reduceIte, EV, Nat.reduceAdd, Nat.reduceEqDiff, Int.reduceToNat, reduceCtorEq]
  ·rw [Ax6]
   simp (disch := omega) only [At0, EVM, EVC, EVP, ↓reduceIte, EV, Nat.reduceAdd, Nat.reduceEqDiff, Int.reduceToNat, reduceCtorEq]
   simp [Ac6, Ac4, Out.goes]
 cases h : m.auth.find? fun r => decide (r.typ = 2) && decide (r.name ≠ zone) && Ak4 r.name zone && Ak4 m.q.name r.name with
 | none =>
   rw [h, Ac6, Ac4] at key
   simp (disch := omega) only [At0, key, EVM, EVC, EVP, ↓reduceIte, EV, Nat.reduceAdd, Nat.reduceEqDiff, Int.reduceToNat, reduceCtorEq]
   rfl
 | some r =>
   rw [h, Ac5] at key
   simp (disch := omega) only [At0, key, EVM, EVC, EVP, ↓reduceIte, EV, Nat.reduceAdd, Nat.reduceEqDiff, Int.reduceToNat, reduceCtorEq]
   rfl
end Go.X.G
/- Kinds, children and negative answers. -/
namespace Go.X.G
open Go Go.X

theorem Eh1 {m : Msg} {zone : List UInt8} (h : (m.resp && decide (m.op = 0) && (decide (m.code = 0) || decide (m.code = 3)) && !m.tc) = false) : kindM m zone = 0 := by
 unfold kindM; rw [if_neg (by simp [h])]
theorem Eh2 (m : Msg) (zone : List UInt8) (hm : m.wf) (hz : strr zone) (h1 : m.ans.length ≤ 1000) (h2 : m.auth.length ≤ 1000) : S Bm5 2 [m.pv, .s zone] = some [.i .i64 (kindM m zone)] := by
 refine Kb7 (N := 1) rfl ?_
 rcases Bool.eq_false_or_eq_true (m.resp && decide (m.op = 0) && (decide (m.code = 0) || decide (m.code = 3)) && !m.tc) with hg | hg
 ·have k1 := Fc2 m (by omega)
  have k2 := Eh8 m 6 [] hm (by unfold strr; simp) (by omega)
  have k3 := Bh4 m zone hm hz (by omega)
  have k4 := Bx1 m.ans ⟨(folL m.ans m.q.typ 8 m.q.name).2, m.q.typ⟩ (by omega)
  unfold kindM
  rw [if_pos hg]
  have g3 : strr (folL m.ans m.q.typ 8 m.q.name).2 := by
   have go : ∀ (k : Nat) (n : List UInt8), strr n → strr (folL m.ans m.q.typ k n).2 := by
    intro k
    induction k with
    | zero => intro n hn; exact hn
    | succ k ih =>
      intro n hn
      unfold folL
      split
      ·exact hn
      ·split
       ·exact hn
       ·rename_i r rs hf
        have : r ∈ findR m.ans n 5 := by rw [hf]; simp
        exact ih _ (hm.ans.2 r (List.mem_filter.1 this).1).data.host
   exact go 8 _ hm.q.name
  simp only at k4 ⊢
  generalize hp : folL m.ans m.q.typ 8 m.q.name = p at *
  obtain ⟨ns, last⟩ := p
  simp only at k1 k4 g3 ⊢
  simp only [Bool.and_eq_true, Bool.or_eq_true, decide_eq_true_eq, Bool.not_eq_true'] at hg
  obtain ⟨⟨⟨e1, e2⟩, e3⟩, e4⟩ := hg
  have hns : (ns = [] ∧ ns.length = 0) ∨ (ns ≠ [] ∧ ¬ ns.length = 0 ∧ (0 : Int) < (ns.length : Int)) := by
   cases ns with
   | nil => exact .inl ⟨rfl, rfl⟩
   | cons a b => exact .inr ⟨by simp, by simp, by simp⟩
  cases q2 : Am5 m 6 [] with
  | none =>
    rw [q2] at k2
    unfold optR at k2
    cases q3 : refN m zone with
    | none =>
      rw [q3] at k3
      simp only at k3
      rcases Bool.eq_false_or_eq_true (hasL m.ans last m.q.typ) with e5 | e5 <;> rcases hns with ⟨n1, n2⟩ | ⟨n1, n2, n3⟩ <;> rcases e3 with e3 | e3 <;> simp (disch := omega) only [An2, k1, k2, k3, k4, e1, e2, e3, e4, e5, n2, EVM, EVC, EVP, ↓reduceIte, EV, Nat.reduceAdd, Nat.reduceEqDiff, Int.reduceToNat, reduceCtorEq] <;> simp [n1]
    | some r3 =>
      rw [q3] at k3
      simp only at k3
      rcases Bool.eq_false_or_eq_true (hasL m.ans last m.q.typ) with e5 | e5 <;> rcases hns with ⟨n1, n2⟩ | ⟨n1, n2, n3⟩ <;> rcases e3 with e3 | e3 <;> simp (disch := omega) only [An2, k1, k2, k3, k4, e1, e2, e3, e4, e5, n2, EVM, EVC, EVP, ↓reduceIte, EV, Nat.reduceAdd, Nat.reduceEqDiff, Int.reduceToNat, reduceCtorEq] <;> simp [n1]
  | some r2 =>
    rw [q2] at k2
    unfold optR at k2
    cases q3 : refN m zone with
    | none =>
      rw [q3] at k3
      simp only at k3
      rcases Bool.eq_false_or_eq_true (hasL m.ans last m.q.typ) with e5 | e5 <;> rcases hns with ⟨n1, n2⟩ | ⟨n1, n2, n3⟩ <;> rcases e3 with e3 | e3 <;> simp (disch := omega) only [An2, k1, k2, k3, k4, e1, e2, e3, e4, e5, n2, EVM, EVC, EVP, ↓reduceIte, EV, Nat.reduceAdd, Nat.reduceEqDiff, Int.reduceToNat, reduceCtorEq] <;> simp [n1]
    | some r3 =>
      rw [q3] at k3
      simp only at k3
      rcases Bool.eq_false_or_eq_true (hasL m.ans last m.q.typ) with e5 | e5 <;> rcases hns with ⟨n1, n2⟩ | ⟨n1, n2, n3⟩ <;> rcases e3 with e3 | e3 <;> simp (disch := omega) only [An2, k1, k2, k3, k4, e1, e2, e3, e4, e5, n2, EVM, EVC, EVP, ↓reduceIte, EV, Nat.reduceAdd, Nat.reduceEqDiff, Int.reduceToNat, reduceCtorEq] <;> simp [n1]
 ·rw [Eh1 hg]
  rcases Bool.eq_false_or_eq_true m.resp with e1 | e1
  ·by_cases e2 : m.op = 0
   ·by_cases e3 : m.code = 0
    ·have e4 : m.tc = true := by simpa [e1, e2, e3] using hg
     simp (disch := omega) only [An2, e1, e2, e3, e4, EVM, EVC, EVP, ↓reduceIte, EV, Nat.reduceAdd, Nat.reduceEqDiff, Int.reduceToNat, reduceCtorEq]
    ·by_cases e5 : m.code = 3
     ·have e4 : m.tc = true := by simpa [e1, e2, e5] using hg
      simp (disch := omega) only [An2, e1, e2, e5, e4, EVM, EVC, EVP, ↓reduceIte, EV, Nat.reduceAdd, Nat.reduceEqDiff, Int.reduceToNat, reduceCtorEq]
     ·simp (disch := omega) only [An2, e1, e2, e3, e5, EVM, EVC, EVP, ↓reduceIte, EV, Nat.reduceAdd, Nat.reduceEqDiff, Int.reduceToNat, reduceCtorEq]
   ·simp (disch := omega) only [An2, e1, e2, EVM, EVC, EVP, ↓reduceIte, EV, Nat.reduceAdd, Nat.reduceEqDiff, Int.reduceToNat, reduceCtorEq]
  ·simp (disch := omega) only [An2, e1, EVM, EVC, EVP, ↓reduceIte, EV, Nat.reduceAdd, Nat.reduceEqDiff, Int.reduceToNat, reduceCtorEq]
theorem Ch1 (m : Msg) (zone : List UInt8) (hm : m.wf) (hz : strr zone) (h1 : m.ans.length ≤ 1000) (h2 : m.auth.length ≤ 1000) : S Bm0 2 [m.pv, .s zone] = some [.i .i64 (kindM m zone)] := by
 refine Kz1 (N := 1) rfl ?_
 rcases Bool.eq_false_or_eq_true (m.resp && decide (m.op = 0) && (decide (m.code = 0) || decide (m.code = 3)) && !m.tc) with hg | hg
 ·have k1 := Dj6 m.ans m.q (by omega)
  have k2 := Fc5 m hm (by omega)
  have k3 := At4 m zone hm hz (by omega)
  have k4 := Bk2 m.ans (folL m.ans m.q.typ 8 m.q.name).2 m.q.typ (by omega)
  unfold kindM
  rw [if_pos hg]
  simp only at k4 ⊢
  generalize hp : folL m.ans m.q.typ 8 m.q.name = p at *
  obtain ⟨ns, last⟩ := p
  simp only at k1 k4 ⊢
  simp only [Bool.and_eq_true, Bool.or_eq_true, decide_eq_true_eq, Bool.not_eq_true'] at hg
  obtain ⟨⟨⟨e1, e2⟩, e3⟩, e4⟩ := hg
  have hns : (ns = [] ∧ ns.length = 0) ∨ (ns ≠ [] ∧ ¬ ns.length = 0 ∧ (0 : Int) < (ns.length : Int)) := by
   cases ns with
   | nil => exact .inl ⟨rfl, rfl⟩
   | cons a b => exact .inr ⟨by simp, by simp, by simp⟩
  cases q2 : Am5 m 6 [] with
  | none =>
    rw [q2] at k2
    unfold optR at k2
    cases q3 : refN m zone with
    | none =>
      rw [q3] at k3
      unfold optR at k3
      rcases Bool.eq_false_or_eq_true (hasL m.ans last m.q.typ) with e5 | e5 <;> rcases hns with ⟨n1, n2⟩ | ⟨n1, n2, n3⟩ <;> rcases e3 with e3 | e3 <;> simp (disch := omega) only [At1, k1, k2, k3, k4, e1, e2, e3, e4, e5, n2, EVM, EVC, EVP, ↓reduceIte, EV, Nat.reduceAdd, Nat.reduceEqDiff, Int.reduceToNat, reduceCtorEq] <;> simp [n1]
    | some r3 =>
      rw [q3] at k3
      unfold optR at k3
      rcases Bool.eq_false_or_eq_true (hasL m.ans last m.q.typ) with e5 | e5 <;> rcases hns with ⟨n1, n2⟩ | ⟨n1, n2, n3⟩ <;> rcases e3 with e3 | e3 <;> simp (disch := omega) only [At1, k1, k2, k3, k4, e1, e2, e3, e4, e5, n2, EVM, EVC, EVP, ↓reduceIte, EV, Nat.reduceAdd, Nat.reduceEqDiff, Int.reduceToNat, reduceCtorEq] <;> simp [n1]
  | some r2 =>
    rw [q2] at k2
    unfold optR at k2
    rcases Bool.eq_false_or_eq_true (hasL m.ans last m.q.typ) with e5 | e5 <;> rcases hns with ⟨n1, n2⟩ | ⟨n1, n2, n3⟩ <;> rcases e3 with e3 | e3 <;> simp (disch := omega) only [At1, k1, k2, k4, e1, e2, e3, e4, e5, n2, EVM, EVC, EVP, ↓reduceIte, EV, Nat.reduceAdd, Nat.reduceEqDiff, Int.reduceToNat, reduceCtorEq] <;> simp [n1]
 ·rw [Eh1 hg]
  rcases Bool.eq_false_or_eq_true m.resp with e1 | e1
  ·by_cases e2 : m.op = 0
   ·by_cases e3 : m.code = 0
    ·have e4 : m.tc = true := by simpa [e1, e2, e3] using hg
     simp (disch := omega) only [At1, e1, e2, e3, e4, EVM, EVC, EVP, ↓reduceIte, EV, Nat.reduceAdd, Nat.reduceEqDiff, Int.reduceToNat, reduceCtorEq]
    ·by_cases e5 : m.code = 3
     ·have e4 : m.tc = true := by simpa [e1, e2, e5] using hg
      simp (disch := omega) only [At1, e1, e2, e5, e4, EVM, EVC, EVP, ↓reduceIte, EV, Nat.reduceAdd, Nat.reduceEqDiff, Int.reduceToNat, reduceCtorEq]
     ·simp (disch := omega) only [At1, e1, e2, e3, e5, EVM, EVC, EVP, ↓reduceIte, EV, Nat.reduceAdd, Nat.reduceEqDiff, Int.reduceToNat, reduceCtorEq]
   ·simp (disch := omega) only [At1, e1, e2, EVM, EVC, EVP, ↓reduceIte, EV, Nat.reduceAdd, Nat.reduceEqDiff, Int.reduceToNat, reduceCtorEq]
  ·simp (disch := omega) only [At1, e1, EVM, EVC, EVP, ↓reduceIte, EV, Nat.reduceAdd, Nat.reduceEqDiff, Int.reduceToNat, reduceCtorEq]
structure MOk (m : Msg) : Prop where
 wf : m.wf
 ans : m.ans.length ≤ 1000
 auth : m.auth.length ≤ 1000
 ext : m.ext.length ≤ 1000
theorem Af9 {l : List Rec} (p : Rec → Bool) (h : Cs0 l) : Cs0 (l.filter p) := ⟨Nat.le_trans (List.length_filter_le _ _) h.1, fun r hr => h.2 r (List.mem_filter.1 hr).1⟩
theorem MOk.inside {m : Msg} (h : MOk m) (zone : List UInt8) : MOk (insideM m zone) :=
 ⟨⟨h.wf.id, h.wf.op, h.wf.code, h.wf.size, h.wf.q, Af9 _ h.wf.ans, Af9 _ h.wf.auth, Af9 _ h.wf.ext⟩,
  Nat.le_trans (List.length_filter_le _ _) h.ans, Nat.le_trans (List.length_filter_le _ _) h.auth, Nat.le_trans (List.length_filter_le _ _) h.ext⟩
theorem Cn4 (m : Msg) (zone : List UInt8) (hm : MOk m) (hz : strr zone) : S Gw7 2 [m.pv, .s zone] = some [.i .i64 (kindM (insideM m zone) zone)] := by
 refine Lb0 (N := 1) rfl ?_
 have k1 := Ah2 m zone hm.wf hz hm.ans hm.auth hm.ext
 have hi := hm.inside zone
 have k2 := Eh2 (insideM m zone) zone hi.wf hz hi.ans hi.auth
 simp (disch := omega) only [Lv9, k1, k2, EVM, EVC, EVP, ↓reduceIte, EV, Nat.reduceAdd, Nat.reduceEqDiff, Int.reduceToNat, reduceCtorEq]
theorem Cw4 (m : Msg) (zone : List UInt8) (hm : MOk m) (hz : strr zone) : S Gv5 2 [m.pv, .s zone] = some [.i .i64 (kindM (insideM m zone) zone)] := by
 refine Lx6 (N := 1) rfl ?_
 have k1 := Az9 m zone hm.wf hz hm.ans hm.auth hm.ext
 have hi := hm.inside zone
 have k2 := Ch1 (insideM m zone) zone hi.wf hz hi.ans hi.auth
 simp (disch := omega) only [Lq5, k1, k2, EVM, EVC, EVP, ↓reduceIte, EV, Nat.reduceAdd, Nat.reduceEqDiff, Int.reduceToNat, reduceCtorEq]
theorem Gh4 : ∀ (l : List Rec) (out : List (List UInt8)), (dd out l).length ≤ out.length + l.length
 | [], out => by simp [dd]
 | r :: rs, out => by
   unfold dd
   split
   ·have := Gh4 rs out; simp; omega
   ·have := Gh4 rs (out ++ [r.data.host]); simp at this ⊢; omega
theorem Fb9 (l : List Rec) (owner : List UInt8) (hl : l.length ≤ 1000) : S Cd4 2 [Aj2 l, .s owner] = some [Aj7 (dd [] (findR l owner 2))] := by
 refine Kx3 (N := 2000) rfl ?_
 have inner : ∀ (i : Nat) (c : Rec) (out : List (List UInt8)), l[i]? = some c → out.length ≤ 1000 → Gz7.ev S 2000 [Aj2 l, .s owner, Aj7 out, .i .i64 (i : Int)] = some (.yld 2 [.b (!(decide (c.typ = 2) && decide (c.name = owner)) || out.any fun h => decide (h = c.data.host))]) := by
  intro i c out hc ho
  refine Ak8 out (fun j (g : Bool) => [.b g, .i .i64 (j : Int)]) (fun j g r => .yld 2 [.b (g || r.any fun h => decide (h = c.data.host))]) (fun _ _ => True) (!(decide (c.typ = 2) && decide (c.name = owner))) ?_ trivial (by omega) (fun j g h r hd hj hh _ => ?_) (fun g _ => ?_)
  ·by_cases t1 : c.typ = 2 <;> by_cases t2 : c.name = owner <;> simp (disch := omega) only [hc, t1, t2, EVM, EVC, EVP, ↓reduceIte, EV, Nat.reduceAdd, Nat.reduceEqDiff, Int.reduceToNat, reduceCtorEq] <;> simp [t2]
  ·left
   refine ⟨g || decide (h = c.data.host), ?_, trivial, by simp [Bool.or_assoc]⟩
   cases g <;> by_cases e : h = c.data.host <;> simp (disch := omega) only [Bq0, hc, hh, e, EVM, EVC, EVP, ↓reduceIte, EV, Nat.reduceAdd, Nat.reduceEqDiff, Int.reduceToNat, reduceCtorEq] <;> simp
  ·simp (disch := omega) only [Bq0, EVM, EVC, EVP, ↓reduceIte, EV, Nat.reduceAdd, Nat.reduceEqDiff, Int.reduceToNat, reduceCtorEq]
   simp [Out.goes]
 have key : Gb3.ev S 2000 [Aj2 l, .s owner] = some (.yld 0 [Aj7 (dd [] (findR l owner 2))]) := by
  refine Ak8 l (fun i (g : List (List UInt8)) => [Aj7 g, .i .i64 (i : Int)]) (fun i g r => .yld 0 [Aj7 (dd g (findR r owner 2))]) (fun i g => g.length ≤ i) [] rfl (Nat.zero_le _) (by omega) (fun i g c r hd hi hc hI => ?_) (fun g _ => ?_)
  ·left
   have k := inner i c g hc (by omega)
   by_cases t : isK owner 2 c = true
   ·have hf : findR (c :: r) owner 2 = c :: findR r owner 2 := by simp [findR, t]
    simp [isK] at t
    by_cases hin : c.data.host ∈ g
    ·refine ⟨g, ?_, by omega, by rw [hf, dd, if_pos hin]⟩
     have e : (!(decide (c.typ = 2) && decide (c.name = owner)) || g.any fun h => decide (h = c.data.host)) = true := by
      simp [t]; exact hin
     rw [e] at k
     simp (disch := omega) only [Bq0, hc, k, EVM, EVC, EVP, ↓reduceIte, EV, Nat.reduceAdd, Nat.reduceEqDiff, Int.reduceToNat, reduceCtorEq]
    ·refine ⟨g ++ [c.data.host], ?_, by simp; omega, by rw [hf, dd, if_neg hin]⟩
     have e : (!(decide (c.typ = 2) && decide (c.name = owner)) || g.any fun h => decide (h = c.data.host)) = false := by
      simp [t]; intro x hx e; exact hin (e ▸ hx)
     rw [e] at k
     simp (disch := omega) only [Bq0, hc, k, EVM, EVC, EVP, ↓reduceIte, EV, Nat.reduceAdd, Nat.reduceEqDiff, Int.reduceToNat, reduceCtorEq]
   ·have hf : findR (c :: r) owner 2 = findR r owner 2 := by simp [findR, t]
    refine ⟨g, ?_, by omega, by rw [hf]⟩
    have e : (!(decide (c.typ = 2) && decide (c.name = owner)) || g.any fun h => decide (h = c.data.host)) = true := by
     simp [isK] at t
     by_cases t1 : c.typ = 2 <;> by_cases t2 : c.name = owner <;> simp [t1, t2] at t ⊢
    rw [e] at k
    simp (disch := omega) only [Bq0, hc, k, EVM, EVC, EVP, ↓reduceIte, EV, Nat.reduceAdd, Nat.reduceEqDiff, Int.reduceToNat, reduceCtorEq]
  ·simp (disch := omega) only [Bq0, EVM, EVC, EVP, ↓reduceIte, EV, Nat.reduceAdd, Nat.reduceEqDiff, Int.reduceToNat, reduceCtorEq]
   simp [Out.goes, findR, dd]
 simp (disch := omega) only [Bq0, key, EVM, EVC, EVP, ↓reduceIte, EV, Nat.reduceAdd, Nat.reduceEqDiff, Int.reduceToNat, reduceCtorEq]
def Cq3 (c : List UInt8 × List (List UInt8) × Bool) : List PV := [.s c.1, Aj7 c.2.1, .b c.2.2]
theorem Jb4 {m : Msg} {zone : List UInt8} (h : kindM m zone = 3) : ∃ r, refN m zone = some r := by
 cases hr : refN m zone with
 | some r => exact ⟨r, rfl⟩
 | none =>
   exfalso
   unfold kindM at h
   simp only [hr, Option.isSome_none, Bool.false_eq_true, false_and, if_false] at h
   split at h
   ·split at h
    ·cases h
    ·split at h
     ·cases h
     ·split at h
      ·split at h <;> cases h
      ·cases h
   ·cases h
theorem Ix9 (m : Msg) (zone : List UInt8) (hm : MOk m) (hz : strr zone) : S Cg1 2 [m.pv, .s zone] = some (Cq3 (childN (insideM m zone) zone)) := by
 refine Kb6 (N := 2000) rfl ?_
 have k1 := Ah2 m zone hm.wf hz hm.ans hm.auth hm.ext
 have hi := hm.inside zone
 generalize insideM m zone = x at *
 have k2 := Eh2 x zone hi.wf hz hi.ans hi.auth
 have k3 := Bh4 x zone hi.wf hz (by have := hi.auth; omega)
 have ha := hi.auth
 unfold childN
 by_cases e : kindM x zone = 3
 ·rw [if_pos e]
  obtain ⟨r, hr⟩ := Jb4 e
  rw [hr] at k3
  simp only [hr] at k3 ⊢
  have hfl := Ag8 x.auth r.name 2
  have key : Gd1.ev S 2000 [m.pv, .s zone, x.pv, .i .i64 3, .s r.name, .b true, Aj2 (findR x.auth r.name 2)] = some (.yld 0 [Aj7 (dd [] (findR x.auth r.name 2))]) := by
   generalize findR x.auth r.name 2 = F at *
   refine Ak8 F (fun i (g : List (List UInt8)) => [Aj7 g, .i .i64 (i : Int)]) (fun i g r => .yld 0 [Aj7 (dd g r)]) (fun i g => g.length ≤ i) [] rfl (Nat.zero_le _) (by omega) (fun i g c r hd hi hc hI => ?_) (fun g _ => ?_)
   ·left
    by_cases hin : c.data.host ∈ g
    ·refine ⟨g, ?_, by omega, by rw [dd, if_pos hin]⟩
     simp (disch := omega) only [Cx5, hc, Ah4, hin, EVM, EVC, EVP, ↓reduceIte, EV, Nat.reduceAdd, Nat.reduceEqDiff, Int.reduceToNat, reduceCtorEq]
    ·refine ⟨g ++ [c.data.host], ?_, by simp; omega, by rw [dd, if_neg hin]⟩
     simp (disch := omega) only [Cx5, hc, Ah4, hin, EVM, EVC, EVP, ↓reduceIte, EV, Nat.reduceAdd, Nat.reduceEqDiff, Int.reduceToNat, reduceCtorEq]
   ·simp (disch := omega) only [Cx5, EVM, EVC, EVP, ↓reduceIte, EV, Nat.reduceAdd, Nat.reduceEqDiff, Int.reduceToNat, reduceCtorEq]
    simp [Out.goes, dd]
  rw [e] at k2
  simp (disch := omega) only [Cx5, k1, k2, k3, Al7, key, EVM, EVC, EVP, ↓reduceIte, EV, Nat.reduceAdd, Nat.reduceEqDiff, Int.reduceToNat, reduceCtorEq]
  rfl
 ·rw [if_neg e]
  simp (disch := omega) only [Cx5, k1, k2, e, EVM, EVC, EVP, ↓reduceIte, EV, Nat.reduceAdd, Nat.reduceEqDiff, Int.reduceToNat, reduceCtorEq]
  rfl
theorem Fd9 (m : Msg) (zone : List UInt8) (hm : MOk m) (hz : strr zone) : S Cf3 2 [m.pv, .s zone] = some (Cq3 (childN (insideM m zone) zone)) := by
 refine Kz0 (N := 2000) rfl ?_
 have k1 := Az9 m zone hm.wf hz hm.ans hm.auth hm.ext
 have hi := hm.inside zone
 generalize insideM m zone = x at *
 have k2 := Ch1 x zone hi.wf hz hi.ans hi.auth
 have k3 := At4 x zone hi.wf hz (by have := hi.auth; omega)
 have ha := hi.auth
 unfold childN
 by_cases e : kindM x zone = 3
 ·rw [if_pos e]
  obtain ⟨r, hr⟩ := Jb4 e
  rw [hr] at k3
  unfold optR at k3
  simp only [hr]
  have k4 := Fb9 x.auth r.name ha
  rw [e] at k2
  simp (disch := omega) only [Ip8, k1, k2, k3, k4, EVM, EVC, EVP, ↓reduceIte, EV, Nat.reduceAdd, Nat.reduceEqDiff, Int.reduceToNat, reduceCtorEq]
  rfl
 ·rw [if_neg e]
  simp (disch := omega) only [Ip8, k1, k2, e, EVM, EVC, EVP, ↓reduceIte, EV, Nat.reduceAdd, Nat.reduceEqDiff, Int.reduceToNat, reduceCtorEq]
  rfl
end Go.X.G
/- Lists of addresses and of names: what the library's functions give. -/
namespace Go.X.G
open Go Go.X

theorem Gg7 (l : List (List UInt8)) (hl : l.length ≤ 1000000) : S Fb1 1 [Aj7 l] = some [Aj7 (l.take 16)] := by
 refine Ld3 (N := 1) rfl ?_
 have hlen : (l.take 16).length ≤ 1000000 := by simp; omega
 by_cases h : l.length ≤ 16
 ·have e : l.take 16 = l := List.take_of_length_le h
  have e3 : (List.drop 0 (List.take l.length l)) = l := by simp
  simp (disch := omega) only [Kj9, Ab6, By3, e3, e, EVT, EVC, EVP, ↓reduceIte, EV, Nat.reduceAdd, Nat.reduceEqDiff, Int.reduceToNat, reduceCtorEq]
 ·have e3 : (List.drop 0 (List.take 16 l)) = l.take 16 := by simp
  simp (disch := omega) only [Kj9, Ab6, By3 (l.take 16) hlen, e3, EVT, EVC, EVP, ↓reduceIte, EV, Nat.reduceAdd, Nat.reduceEqDiff, Int.reduceToNat, reduceCtorEq]
theorem Dj8 (l : List Adr) (hl : l.length ≤ 1000000) : S Ct1 1 [Aj8 l] = some [Aj8 (l.take 16)] := by
 refine Ld2 (N := 1) rfl ?_
 have hlen : (l.take 16).length ≤ 1000000 := by simp; omega
 by_cases h : l.length ≤ 16
 ·have e : l.take 16 = l := List.take_of_length_le h
  have e3 : (List.drop 0 (List.take l.length l)) = l := by simp
  simp (disch := omega) only [Kj8, Ck0, By5, e3, e, EVT, EVC, EVP, ↓reduceIte, EV, Nat.reduceAdd, Nat.reduceEqDiff, Int.reduceToNat, reduceCtorEq]
 ·have e3 : (List.drop 0 (List.take 16 l)) = l.take 16 := by simp
  simp (disch := omega) only [Kj8, Ck0, By5 (l.take 16) hlen, e3, EVT, EVC, EVP, ↓reduceIte, EV, Nat.reduceAdd, Nat.reduceEqDiff, Int.reduceToNat, reduceCtorEq]
end Go.X.G
/- Names that tell little: what minimize gives. -/
namespace Go.X.G
open Go Go.X

theorem Gg1 (l : List (List UInt8)) (i : Nat) (c : List UInt8) (h : l[i]? = some c) : flat (l.take (i + 1)) = flat (l.take i) ++ c ++ [46] := by
 rw [List.take_add_one, h]
 simp [flat]
theorem Gg2 (l : List (List UInt8)) (i : Nat) : (flat (l.take i)).length ≤ (flat l).length := by
 have : flat l = flat (l.take i) ++ flat (l.drop i) := by
  rw [← Ck9, List.take_append_drop]
 rw [this]; simp
theorem Jt8 (l : List (List UInt8)) (hl : l.length ≤ 255) (hw : ∀ x ∈ l, Ad8 x = true) (hf : (flat l).length ≤ 254) (N : Nat) (hN : l.length < N) :
  Gd2.ev S N [Aj7 l] = some (.yld 0 [.l 1 (Aq1 (flat l))]) := by
 refine Ak2 l (fun i => [.i .i64 (i : Int), .l 1 (Aq1 (flat (l.take i)))]) (fun i r => .yld 0 [.l 1 (Aq1 (flat l))]) rfl hN (fun i c r hd hi hc => ?_) ?_
 ·left
  refine ⟨?_, rfl⟩
  have hlab := hw c (List.mem_of_getElem? hc)
  have hc63 := Bn3 hlab
  have hfl := Gg2 l i
  have hfl2 := Gg2 l (i + 1)
  have e1 := Gg1 l i c hc
  have g1 : (Aq1 (flat (l.take i))).length ≤ 254 := by rw [Cm1]; omega
  have g2 : (Aq1 c).length ≤ 63 := by rw [Cm1]; omega
  have g3 : (Aq1 (flat (l.take i)) ++ Aq1 c).length ≤ 400 := by rw [List.length_append]; omega
  have hord := Az6 c (by omega)
  have e2 : Aq1 (flat (l.take i)) ++ Aq1 c ++ [.i .u8 46] = Aq1 (flat (l.take (i + 1))) := by rw [e1]; simp [Aq1]
  have hb : Cm4 (.l 1 [.i .u8 46]) = some (.s [46]) := Cm3 [46]
  rw [Ch8] at hlab
  by_cases h42 : c = [42]
  ·subst h42
   simp (disch := omega) only [Ed4, hc, hord, Ef6, hb, e2, EVT, EVM, EVC, EVP, ↓reduceIte, EV, Nat.reduceAdd, Nat.reduceEqDiff, Int.reduceToNat, reduceCtorEq]
  ·have h1 : ord c = true := by simpa [h42] using hlab
   rw [h1] at hord
   simp (disch := omega) only [Ed4, hc, hord, hb, e2, EVT, EVM, EVC, EVP, ↓reduceIte, EV, Nat.reduceAdd, Nat.reduceEqDiff, Int.reduceToNat, reduceCtorEq]
 ·have e : l.take l.length = l := List.take_length
  simp (disch := omega) only [Ed4, e, EVT, EVM, EVC, EVP, ↓reduceIte, EV, Nat.reduceAdd, Nat.reduceEqDiff, Int.reduceToNat, reduceCtorEq]
  simp [Out.goes]
theorem Jt7 {n : List UInt8} (hn : vld n = true) (k : Nat) (hk : k < (lbl n).length) : S Cg2 1 [Aj7 ((lbl n).drop k)] = some [.s (jn ((lbl n).drop k)), .i .i64 0] := by
 refine Kb8 (N := 300) rfl ?_
 have hlen := Ag3 n
 have hne : (lbl n).drop k ≠ [] := by simp; omega
 have hd1 : ((lbl n).drop k).length ≤ 254 := by simp; omega
 have hd0 : 0 < ((lbl n).drop k).length := List.length_pos_iff.2 hne
 have hj : jn ((lbl n).drop k) = flat ((lbl n).drop k) := by unfold jn; rw [if_neg hne]
 have hv := (Ah5 hn k).1
 rw [hj] at hv ⊢
 have hfl := Ar3 hv
 have key := Jt8 ((lbl n).drop k) (by omega) (fun x hx => Ch0 n x (List.mem_of_mem_drop hx)) hfl 300 (by omega)
 have hval := Ad1 (flat ((lbl n).drop k)) (by omega)
 rw [hv] at hval
 have hp := Iy9 hv
 obtain ⟨c, hc⟩ : ∃ c, (flat ((lbl n).drop k))[0]? = some c := ⟨_, List.getElem?_eq_getElem hp⟩
 generalize (lbl n).drop k = l at *
 have e0 : ¬ ((l.length : Int) = 0) := by omega
 have e1 : ¬ (255 < (l.length : Int)) := by omega
 simp (disch := omega) only [Ed4, key, hval, hc, e0, e1, EVT, EVM, EVC, EVP, ↓reduceIte, EV, Nat.reduceAdd, Nat.reduceEqDiff, Int.reduceToNat, reduceCtorEq]
def Ar0 (n z : List UInt8) : Bool := !decide (n = z) && Ak4 n z
theorem In6 (n z : List UInt8) (hn : strr n) (hz : strr z) : S Cg3 2 [.s n, .s z] = some [.b (Ar0 n z)] := by
 refine Kc0 (N := 1) rfl ?_
 have hu := Aq6 n z hn hz
 unfold Ar0
 by_cases h : n = z
 ·simp (disch := omega) only [Ip9, h, EVT, EVM, EVC, EVP, ↓reduceIte, EV, Nat.reduceAdd, Nat.reduceEqDiff, Int.reduceToNat, reduceCtorEq]
  simp
 ·simp (disch := omega) only [Ip9, h, hu, EVT, EVM, EVC, EVP, ↓reduceIte, EV, Nat.reduceAdd, Nat.reduceEqDiff, Int.reduceToNat, reduceCtorEq]
  simp
def nextQ (q : Ques) (zone : List UInt8) (more : Int) : Ques × Bool :=
 if Ar0 q.name zone = false ∨ more < 0 ∨ 10 ≤ more then (q, true)
 else if (lbl q.name).length ≤ (lbl zone).length + 1 + more.toNat then (q, true)
 else (⟨jn ((lbl q.name).drop ((lbl q.name).length - ((lbl zone).length + 1 + more.toNat))), 2⟩, false)
theorem Bp6 {n z : List UInt8} (h : Ar0 n z = true) : vld n = true := by
 simp only [Ar0, Bool.and_eq_true] at h
 exact (Aw4.1 h.2).1
theorem Jt6 (q : Ques) (zone : List UInt8) (more : Int) (hq : q.wf) (hz : strr zone) (hm : i64r more) : S Gw8 3 [q.pv, .s zone, .i .i64 more] = some [(nextQ q zone more).1.pv, .b (nextQ q zone more).2] := by
 refine Lb2 (N := 1) rfl ?_
 have hb := In6 q.name zone hq.1 hz
 have h1 := Bp9 q.name hq.1
 have h2 := Bp9 zone hz
 have hl1 := Ag3 q.name
 have hl2 := Ag3 zone
 obtain ⟨m1, m2⟩ := hm
 unfold nextQ
 rcases Bool.eq_false_or_eq_true (Ar0 q.name zone) with hB | hB
 ·rw [hB] at hb
  by_cases c1 : more < 0
  ·simp (disch := omega) only [Ff4, hb, c1, EVT, EVM, EVC, EVP, ↓reduceIte, EV, Nat.reduceAdd, Nat.reduceEqDiff, Int.reduceToNat, reduceCtorEq]
   simp
  ·by_cases c2 : 10 ≤ more
   ·have c2' : more ≥ 10 := c2
    simp (disch := omega) only [Ff4, hb, c1, c2', EVT, EVM, EVC, EVP, ↓reduceIte, EV, Nat.reduceAdd, Nat.reduceEqDiff, Int.reduceToNat, reduceCtorEq]
    simp [c2]
   ·obtain ⟨k, rfl⟩ : ∃ k : Nat, more = k := ⟨more.toNat, by omega⟩
    have c2' : ¬ ((k : Int) ≥ 10) := c2
    by_cases c3 : (lbl q.name).length ≤ (lbl zone).length + 1 + k
    ·have c3' : ((lbl q.name).length : Int) ≤ ((lbl zone).length : Int) + 1 + k := by omega
     simp (disch := omega) only [Ff4, hb, h1, h2, c1, c2', c3', EVT, EVM, EVC, EVP, ↓reduceIte, EV, Nat.reduceAdd, Nat.reduceEqDiff, Int.reduceToNat, reduceCtorEq]
     simp [hB, c2, c3, c1]
    ·have c3' : ¬ ((lbl q.name).length : Int) ≤ ((lbl zone).length : Int) + 1 + k := by omega
     have hk : (lbl q.name).length - ((lbl zone).length + 1 + k) < (lbl q.name).length := by omega
     have hj := Jt7 (Bp6 hB) _ hk
     have hsl : Ac7 1 (Aj7 (lbl q.name)) (.i .i64 (((lbl q.name).length : Int) - (((lbl zone).length : Int) + 1 + k))) (.i .i64 ((lbl q.name).length : Int)) = some (Aj7 ((lbl q.name).drop ((lbl q.name).length - ((lbl zone).length + 1 + k)))) := by
      rw [Ab6 _ _ _ _ _ (by omega) (by omega) (by omega)]
      have e1 : (((lbl q.name).length : Int)).toNat = (lbl q.name).length := by omega
      have e2 : (((lbl q.name).length : Int) - (((lbl zone).length : Int) + 1 + k)).toNat = (lbl q.name).length - ((lbl zone).length + 1 + k) := by omega
      rw [e1, e2, List.take_length]
     simp (disch := omega) only [Ff4, hb, h1, h2, c1, c2', c3', hsl, hj, EVT, EVM, EVC, EVP, ↓reduceIte, EV, Nat.reduceAdd, Nat.reduceEqDiff, Int.reduceToNat, reduceCtorEq]
     simp [hB, c2, c3, c1]
 ·rw [hB] at hb
  simp (disch := omega) only [Ff4, hb, EVT, EVM, EVC, EVP, ↓reduceIte, EV, Nat.reduceAdd, Nat.reduceEqDiff, Int.reduceToNat, reduceCtorEq]
  simp [hB]
end Go.X.G
/- Tasks: what the program's small functions give. -/
namespace Go.X.G
open Go Go.X

structure Kd where
 num : Int
 mne : List UInt8
 fls : List UInt8
def Kd.pv (k : Kd) : PV := .a [.i .i64 k.num, .s k.mne, .s k.fls]
def Fb5 (l : List Kd) : PV := .l 3 (l.map Kd.pv)
def kds : List Kd := [⟨1, [65], [52]⟩, ⟨2, [78, 83], [104]⟩, ⟨5, [67, 78, 65, 77, 69], [104]⟩, ⟨6, [83, 79, 65], [104, 109, 118, 119, 120, 121, 122]⟩, ⟨12, [80, 84, 82], [104]⟩, ⟨15, [77, 88], [65, 104]⟩, ⟨16, [84, 88, 84], [116]⟩, ⟨28, [65, 65, 65, 65], [54]⟩, ⟨33, [83, 82, 86], [65, 66, 67, 104]⟩, ⟨39, [68, 78, 65, 77, 69], [104]⟩, ⟨43, [68, 83], [65, 98, 99, 114]⟩, ⟨46, [82, 82, 83, 73, 71], [65, 115, 98, 120, 121, 122, 70, 104, 114]⟩, ⟨47, [78, 83, 69, 67], [104, 110]⟩, ⟨48, [68, 78, 83, 75, 69, 89], [65, 98, 99, 114]⟩]
theorem Bt1 (k : Kd) : Aj6 0 k.pv = some (.i .i64 k.num) := rfl
theorem Bt0 (k : Kd) : Aj6 1 k.pv = some (.s k.mne) := rfl
theorem Bs9 (k : Kd) : Aj6 2 k.pv = some (.s k.fls) := rfl
theorem Fh4 (k : Kd) : Ab0 0 3 k.pv = some k.pv := rfl
theorem Cl7 (k : Kd) : As5 3 k.pv = some k.pv := rfl
theorem Bw8 (l : List Kd) : Aw9 (Fb5 l) = some (.i .i64 (l.length : Int)) := by simp [Fb5, Aw9]
theorem Ct9 (l : List Kd) (k : IntKind) (z : Int) (h : 0 ≤ z) : Ac8 3 (Fb5 l) (.i k z) = (l[z.toNat]?).map Kd.pv := by simp [Fb5, Ct8 _ _ _ _ h]
theorem Ig8 : S Cf8 0 [] = some [Fb5 kds] := Kz8 (N := 1) rfl (by kernel_rfl)
theorem Gg3 (k : Kd) : PV.flat k.pv = true := rfl
theorem Jc6 (t : Int) : S Gw3 1 [.i .i64 t] = some (match kds.find? (fun k => decide (k.num = t)) with | some k => [k.pv, .b true] | none => [Kd.pv ⟨0, [], []⟩, .b false]) := by
 refine Lz3 (N := 20) rfl ?_
 have key : ∀ l : List Kd, l.length ≤ 15 → It2.ev S 20 [.i .i64 t, Fb5 l] = some (match l.find? (fun k => decide (k.num = t)) with | some k => .ret [k.pv, .b true] | none => .yld 0 [.i .i64 0, .s [], .s []]) := by
  intro l hl
  refine Ak2 l (fun i => [.i .i64 (i : Int), .i .i64 0, .s [], .s []]) (fun i r => match r.find? (fun k => decide (k.num = t)) with | some k => .ret [k.pv, .b true] | none => .yld 0 [.i .i64 0, .s [], .s []]) rfl (by omega) (fun i c r hd hi hc => ?_) ?_
  ·by_cases h : c.num = t
   ·right
    simp (disch := omega) only [Ff3, hc, h, Bt1, Bt0, Bs9, Fh4, Cl7, Bw8, Ct9, EVP, ↓reduceIte, EV, Nat.reduceAdd, Nat.reduceEqDiff, Int.reduceToNat, reduceCtorEq]
    simp [h, Out.goes]
   ·left
    simp (disch := omega) only [Ff3, hc, h, Bt1, Bt0, Bs9, Fh4, Cl7, Bw8, Ct9, EVP, ↓reduceIte, EV, Nat.reduceAdd, Nat.reduceEqDiff, Int.reduceToNat, reduceCtorEq]
    simp [h]
  ·simp (disch := omega) only [Ff3, Bt1, Bt0, Bs9, Fh4, Cl7, Bw8, Ct9, EVP, ↓reduceIte, EV, Nat.reduceAdd, Nat.reduceEqDiff, Int.reduceToNat, reduceCtorEq]
   simp [Out.goes]
 have hk := key kds (by decide)
 have hkd := Ig8
 cases h : kds.find? (fun k => decide (k.num = t)) with
 | some k =>
   rw [h] at hk
   simp (disch := omega) only [Ff3, hkd, hk, Bw8, EVP, ↓reduceIte, EV, Nat.reduceAdd, Nat.reduceEqDiff, Int.reduceToNat, reduceCtorEq]
 | none =>
   rw [h] at hk
   simp (disch := omega) only [Ff3, hkd, hk, Bw8, EVP, ↓reduceIte, EV, Nat.reduceAdd, Nat.reduceEqDiff, Int.reduceToNat, reduceCtorEq]
   rfl
theorem Im1 (t : Int) : (kds.find? (fun k => decide (k.num = t))).isSome = knw t := by
 rw [Bool.eq_iff_iff, List.find?_isSome]
 simp [kds, knw]
 grind
theorem Ix1 (t : Int) : S Gx7 1 [.i .i64 t] = some [.b (knw t)] := by
 refine Ld4 (N := 1) rfl ?_
 have h := Jc6 t
 have h2 := Im1 t
 cases hk : kds.find? (fun k => decide (k.num = t)) with
 | some k =>
   rw [hk] at h h2
   simp only [Option.isSome_some] at h2
   simp (disch := omega) only [Kk0, h, Gg3, Cl7, EVP, ↓reduceIte, EV, Nat.reduceAdd, Nat.reduceEqDiff, Int.reduceToNat, reduceCtorEq]
   rw [← h2]
 | none =>
   rw [hk] at h h2
   simp only [Option.isSome_none] at h2
   simp (disch := omega) only [Kk0, h, Gg3, Cl7, EVP, ↓reduceIte, EV, Nat.reduceAdd, Nat.reduceEqDiff, Int.reduceToNat, reduceCtorEq]
   rw [← h2]

structure TOk (t : Tk) (k : Nat) : Prop where
 q : t.q.wf
 name : strr t.name
 zone : strr t.zone
 hostsL : t.hosts.length ≤ 16
 hosts : ∀ h ∈ t.hosts, strr h
 addrs : t.addrs.length ≤ 16
 tried : t.tried.length ≤ k
 more0 : 0 ≤ t.more
 more1 : t.more ≤ 10 + k
 asked : t.asked.wf
 sent0 : 0 ≤ t.sent
 sent1 : t.sent ≤ 64
 chain : t.chain.length ≤ k
 small : k ≤ 900000
def ownT (t : Tk) : Ques := ⟨t.name, t.q.typ⟩
theorem Ir6 (t : Tk) : S Fz6 1 [t.pv] = some [(ownT t).pv] := by
 refine Lb1 (N := 1) rfl ?_
 simp (disch := omega) only [Lw0, EVT, EVM, EVC, EVP, ↓reduceIte, EV, Nat.reduceAdd, Nat.reduceEqDiff, Int.reduceToNat, reduceCtorEq]
 rfl
def Ak5 (t : Tk) : Tk :=
 if t.addrs.any (fun a => !decide (a ∈ t.tried)) = true then { t with state := 0 }
 else if t.hosts.any (fun h => !Ak4 h t.zone) = true then { t with state := 2 }
 else { t with state := 4, err := 29 }
theorem Cr0 (t : Tk) (a : Adr) (h : t.tried.length ≤ 1000000) : S Fz2 1 [a.pv, t.pv] = some [.b (!decide (a ∈ t.tried))] := by
 refine Ly9 (N := 1) rfl ?_
 have h1 := Aw2 t.tried a h
 simp (disch := omega) only [Lv2, h1, EVT, EVM, EVC, EVP, ↓reduceIte, EV, Nat.reduceAdd, Nat.reduceEqDiff, Int.reduceToNat, reduceCtorEq]
theorem Cp9 (t : Tk) (x : List UInt8) (h : strr x) (hz : strr t.zone) : S Fz1 1 [.s x, t.pv] = some [.b (!Ak4 x t.zone)] := by
 refine Ly7 (N := 1) rfl ?_
 have h1 := Aq6 x t.zone h hz
 simp (disch := omega) only [Lv0, h1, EVT, EVM, EVC, EVP, ↓reduceIte, EV, Nat.reduceAdd, Nat.reduceEqDiff, Int.reduceToNat, reduceCtorEq]
theorem Ah7 (t : Tk) (h1 : t.addrs.length ≤ 1000000) (h2 : t.tried.length ≤ 1000000) (h3 : t.hosts.length ≤ 1000000) (h4 : ∀ h ∈ t.hosts, strr h) (hz : strr t.zone) : S Cc8 1 [t.pv] = some [(Ak5 t).pv] := by
 refine Ld1 (N := 1) rfl ?_
 have k1 := Bj7 t.addrs Fz2 [t.pv] _ h1 (fun a _ => Cr0 t a h2)
 have k2 := Bj6 t.hosts Fz1 [t.pv] _ h3 (fun a ha => Cp9 t a (h4 a ha) hz)
 rcases Bool.eq_false_or_eq_true (t.addrs.any (fun a => !decide (a ∈ t.tried))) with c1 | c1
 ·rw [c1] at k1
  rw [show Ak5 t = { t with state := 0 } by unfold Ak5; rw [if_pos c1]]
  simp (disch := omega) only [Jk7, k1, EVT, EVM, EVC, EVP, ↓reduceIte, EV, Nat.reduceAdd, Nat.reduceEqDiff, Int.reduceToNat, reduceCtorEq]
 ·rw [c1] at k1
  rcases Bool.eq_false_or_eq_true (t.hosts.any (fun h => !Ak4 h t.zone)) with c2 | c2
  ·rw [c2] at k2
   rw [show Ak5 t = { t with state := 2 } by unfold Ak5; rw [if_neg (by rw [c1]; simp), if_pos c2]]
   simp (disch := omega) only [Jk7, k1, k2, EVT, EVM, EVC, EVP, ↓reduceIte, EV, Nat.reduceAdd, Nat.reduceEqDiff, Int.reduceToNat, reduceCtorEq]
  ·rw [c2] at k2
   rw [show Ak5 t = { t with state := 4, err := 29 } by unfold Ak5; rw [if_neg (by rw [c1]; simp), if_neg (by rw [c2]; simp)]]
   simp (disch := omega) only [Jk7, k1, k2, EVT, EVM, EVC, EVP, ↓reduceIte, EV, Nat.reduceAdd, Nat.reduceEqDiff, Int.reduceToNat, reduceCtorEq]
def Az0 (t : Tk) : Tk := Ak5 { t with tried := t.tried ++ [t.dst] }
theorem Bz7 (t : Tk) {k : Nat} (h : TOk t k) : S Fz5 1 [t.pv] = some [(Az0 t).pv] := by
 refine Lz8 (N := 1) rfl ?_
 have hs := h.small
 have ht := h.tried
 have hh := h.hostsL
 have ha := h.addrs
 have h1 := By5 t.tried (by omega)
 have h2 := Ah7 { t with tried := t.tried ++ [t.dst] } (by simp only; omega) (by simp; omega) (by simp only; omega) h.hosts h.zone
 have h3 := Cm7 t.tried t.dst (by omega)
 simp (disch := omega) only [Lv8, h1, h2, h3, EVT, EVM, EVC, EVP, ↓reduceIte, EV, Nat.reduceAdd, Nat.reduceEqDiff, Int.reduceToNat, reduceCtorEq]
 rfl
def Af2 (t : Tk) (more : Int) : Tk := { t with state := 0, more := more, tried := [] }
theorem Cv8 (t : Tk) (m : Int) : S Cs9 2 [t.pv, .i .i64 m] = some [(Af2 t m).pv] := by
 refine Lz7 (N := 1) rfl ?_
 simp (disch := omega) only [Lv7, EVT, EVM, EVC, EVP, ↓reduceIte, EV, Nat.reduceAdd, Nat.reduceEqDiff, Int.reduceToNat, reduceCtorEq]
 rfl
def Av7 (t : Tk) : Tk := if t.state = 1 then Az0 t else t
theorem Em8 (t : Tk) {k : Nat} (h : TOk t k) : S Gx4 1 [t.pv] = some [(Av7 t).pv] := by
 refine Lc2 (N := 1) rfl ?_
 have h1 := Bz7 t h
 unfold Av7
 by_cases c : t.state = 1
 ·simp (disch := omega) only [Kj6, h1, c, EVT, EVM, EVC, EVP, ↓reduceIte, EV, Nat.reduceAdd, Nat.reduceEqDiff, Int.reduceToNat, reduceCtorEq]
 ·simp (disch := omega) only [Kj6, h1, c, EVT, EVM, EVC, EVP, ↓reduceIte, EV, Nat.reduceAdd, Nat.reduceEqDiff, Int.reduceToNat, reduceCtorEq]
def zMsg : Msg := ⟨0, 0, 0, false, false, false, false, false, false, false, false, 0, ⟨[], 0⟩, [], [], []⟩
def Al9 (t : Tk) (a : Adr) : Tk × Msg × Bool :=
 if t.state ≠ 0 ∨ a ∉ t.addrs ∨ a ∈ t.tried then (t, zMsg, false)
 else if 64 ≤ t.sent then ({ t with state := 4, err := 9 }, zMsg, false)
 else ({ t with dst := a, asked := (nextQ (ownT t) t.zone t.more).1, state := 1, sent := t.sent + 1 }, { zMsg with dok := true, size := 1232, q := (nextQ (ownT t) t.zone t.more).1 }, true)
theorem Fl3 (t : Tk) (a : Adr) {k : Nat} (h : TOk t k) : S Fb2 2 [t.pv, a.pv] = some [(Al9 t a).1.pv, (Al9 t a).2.1.pv, .b (Al9 t a).2.2] := by
 refine Ld9 (N := 1) rfl ?_
 have hs := h.small
 have ht := h.tried
 have ha := h.addrs
 have m0 := h.more0
 have m1 := h.more1
 have s0 := h.sent0
 have s1 := h.sent1
 have h1 := Aw2 t.addrs a (by omega)
 have h2 := Aw2 t.tried a (by omega)
 have h4 := Jt6 ⟨t.name, t.q.typ⟩ t.zone t.more ⟨h.name, h.q.2⟩ h.zone ⟨by omega, by omega⟩
 unfold Al9
 by_cases c0 : t.state = 0
 ·by_cases c1 : a ∈ t.addrs
  ·by_cases c2 : a ∈ t.tried
   ·simp (disch := omega) only [Ff6, h1, h2, c0, c1, c2, EVT, EVM, EVC, EVP, ↓reduceIte, EV, Nat.reduceAdd, Nat.reduceEqDiff, Int.reduceToNat, reduceCtorEq]
    rfl
   ·by_cases c3 : 64 ≤ t.sent
    ·have c3' : t.sent ≥ 64 := c3
     simp (disch := omega) only [Ff6, h1, h2, c0, c1, c2, c3', EVT, EVM, EVC, EVP, ↓reduceIte, EV, Nat.reduceAdd, Nat.reduceEqDiff, Int.reduceToNat, reduceCtorEq]
     simp [c0, c1, c2, c3]
     rfl
    ·have c3' : ¬ t.sent ≥ 64 := c3
     simp (disch := omega) only [Ff6, h1, h2, Ir6, ownT, h4, c0, c1, c2, c3', EVT, EVM, EVC, EVP, ↓reduceIte, EV, Nat.reduceAdd, Nat.reduceEqDiff, Int.reduceToNat, reduceCtorEq]
     simp [c0, c1, c2, c3]
     rfl
  ·simp (disch := omega) only [Ff6, h1, h2, c0, c1, EVT, EVM, EVC, EVP, ↓reduceIte, EV, Nat.reduceAdd, Nat.reduceEqDiff, Int.reduceToNat, reduceCtorEq]
   rfl
 ·simp (disch := omega) only [Ff6, h1, h2, c0, EVT, EVM, EVC, EVP, ↓reduceIte, EV, Nat.reduceAdd, Nat.reduceEqDiff, Int.reduceToNat, reduceCtorEq]
  rfl
end Go.X.G
/- Tasks begun; records found; glue. -/
namespace Go.X.G
open Go Go.X

def zTk : Tk := ⟨⟨[], 0⟩, [], [], [], [], [], 0, 0, ⟨false, 0, 0⟩, ⟨[], 0⟩, 0, [], zMsg, 0⟩
def startT (q : Ques) (zone : List UInt8) (hosts : List (List UInt8)) (addrs : List Adr) : Tk × Int :=
 if Ak4 q.name zone = false then (zTk, 2)
 else if knw q.typ = false ∧ q.typ ≠ 255 then (zTk, 4)
 else (Ak5 ⟨q, q.name, zone, hosts.take 16, addrs.take 16, [], 0, 0, ⟨false, 0, 0⟩, ⟨[], 0⟩, 0, [], zMsg, 0⟩, 0)
theorem start_ok (q : Ques) (zone : List UInt8) (hosts : List (List UInt8)) (addrs : List Adr) (hq : q.wf) (hz : strr zone) (hh : hosts.length ≤ 1000000) (hw : ∀ h ∈ hosts, strr h) (ha : addrs.length ≤ 1000000) :
  S n_u7 4 [q.pv, .s zone, Aj7 hosts, Aj8 addrs] = some [(startT q zone hosts addrs).1.pv, .i .i64 (startT q zone hosts addrs).2] := by
 refine s_u7 (N := 1) rfl ?_
 have h1 := Aq6 q.name zone hq.1 hz
 have h2 := Ix1 q.typ
 have h3 := Gg7 hosts hh
 have h4 := Dj8 addrs ha
 have h5 := Ah7 ⟨q, q.name, zone, hosts.take 16, addrs.take 16, [], 0, 0, ⟨false, 0, 0⟩, ⟨[], 0⟩, 0, [], zMsg, 0⟩ (by simp; omega) (by simp) (by simp; omega) (fun h hm => hw h (List.mem_of_mem_take hm)) hz
 have ez : zMsg = ⟨0, 0, 0, false, false, false, false, false, false, false, false, 0, ⟨[], 0⟩, [], [], []⟩ := rfl
 rw [ez] at h5
 rcases Bool.eq_false_or_eq_true (Ak4 q.name zone) with c1 | c1
 ·rw [c1] at h1
  by_cases c2 : knw q.typ = false ∧ q.typ ≠ 255
  ·obtain ⟨c2, c3⟩ := c2
   rw [c2] at h2
   rw [show startT q zone hosts addrs = (zTk, 4) by unfold startT; rw [if_neg (by rw [c1]; simp), if_pos ⟨c2, c3⟩]]
   simp (disch := omega) only [x_u7, h1, h2, c3, EVT, EVM, EVC, EVP, ↓reduceIte, EV, Nat.reduceAdd, Nat.reduceEqDiff, Int.reduceToNat, reduceCtorEq]
   rfl
  ·rw [show startT q zone hosts addrs = (Ak5 ⟨q, q.name, zone, hosts.take 16, addrs.take 16, [], 0, 0, ⟨false, 0, 0⟩, ⟨[], 0⟩, 0, [], zMsg, 0⟩, 0) by unfold startT; rw [if_neg (by rw [c1]; simp), if_neg c2]]
   rw [ez]
   rcases Bool.eq_false_or_eq_true (knw q.typ) with c3 | c3
   ·rw [c3] at h2
    simp (disch := omega) only [x_u7, h1, h2, h3, h4, h5, EVT, EVM, EVC, EVP, ↓reduceIte, EV, Nat.reduceAdd, Nat.reduceEqDiff, Int.reduceToNat, reduceCtorEq]
   ·rw [c3] at h2
    have c4 : q.typ = 255 := Classical.byContradiction fun h => c2 ⟨c3, h⟩
    rw [c4] at h2
    obtain ⟨n, ty⟩ := q
    simp only at c4
    subst c4
    simp (disch := omega) only [x_u7, h1, h2, h3, h4, h5, EVT, EVM, EVC, EVP, ↓reduceIte, EV, Nat.reduceAdd, Nat.reduceEqDiff, Int.reduceToNat, reduceCtorEq]
 ·rw [c1] at h1
  rw [show startT q zone hosts addrs = (zTk, 2) by unfold startT; rw [if_pos c1]]
  simp (disch := omega) only [x_u7, h1, EVT, EVM, EVC, EVP, ↓reduceIte, EV, Nat.reduceAdd, Nat.reduceEqDiff, Int.reduceToNat, reduceCtorEq]
  rfl
def gluB (m : Msg) (h : List UInt8) (r : Rec) : Bool := ((decide (r.typ = 2) && decide (r.data.host = h)) && Ak4 m.q.name r.name) && Ak4 h r.name
def adrL (l : List Rec) : List Adr := l.map fun r => r.data.adr
def glueL (m : Msg) (h : List UInt8) : List Adr := if m.auth.any (gluB m h) = true then adrL (findR m.ext h 1) ++ adrL (findR m.ext h 28) else []
theorem Ip1 (m : Msg) (h : List UInt8) (r : Rec) (hm : m.wf) (hh : strr h) (hr : r.wf) : S Bl5 1 [r.pv, .s h, m.pv] = some [.b (gluB m h r)] := by
 refine Kx9 (N := 1) rfl ?_
 have h1 := Aq6 m.q.name r.name hm.q.1 hr.name
 have h2 := Aq6 h r.name hh hr.name
 unfold gluB
 by_cases c1 : r.typ = 2
 ·by_cases c2 : r.data.host = h
  ·rcases Bool.eq_false_or_eq_true (Ak4 m.q.name r.name) with c3 | c3
   ·rw [c3] at h1 ⊢
    simp (disch := omega) only [Ed0, c1, c2, h1, h2, EVT, EVM, EVC, EVP, ↓reduceIte, EV, Nat.reduceAdd, Nat.reduceEqDiff, Int.reduceToNat, reduceCtorEq]
    simp
   ·rw [c3] at h1 ⊢
    simp (disch := omega) only [Ed0, c1, c2, h1, EVT, EVM, EVC, EVP, ↓reduceIte, EV, Nat.reduceAdd, Nat.reduceEqDiff, Int.reduceToNat, reduceCtorEq]
    simp
  ·simp (disch := omega) only [Ed0, c1, c2, EVT, EVM, EVC, EVP, ↓reduceIte, EV, Nat.reduceAdd, Nat.reduceEqDiff, Int.reduceToNat, reduceCtorEq]
   simp
 ·simp (disch := omega) only [Ed0, c1, EVT, EVM, EVC, EVP, ↓reduceIte, EV, Nat.reduceAdd, Nat.reduceEqDiff, Int.reduceToNat, reduceCtorEq]
  simp
theorem Kj1 (fl : List Rec) (g0 : List Adr) (p0 p1 p2 p4 : PV) (hl : fl.length ≤ 1000000) (hg0 : g0.length ≤ 1000000) (N : Nat) (hN : fl.length < N) :
  Gb0.ev S N [p0, p1, p2, Aj8 g0, p4, Aj2 fl] = some (.yld 2 [Aj8 (g0 ++ adrL fl)]) := by
 refine Ak8 fl (fun i g => [Aj8 g, .i .i64 (i : Int)]) (fun i g r => .yld 2 [Aj8 (g ++ adrL r)]) (fun i g => g.length ≤ 1000000 + i) g0 rfl (by omega) hN (fun i g c r hd hi hc hg => ?_) (fun g hg => ?_)
 ·left
  refine ⟨g ++ [c.data.adr], ?_, by simp; omega, by simp [adrL]⟩
  simp (disch := omega) only [Bz3, hc, EVT, EVM, EVC, EVP, ↓reduceIte, EV, Nat.reduceAdd, Nat.reduceEqDiff, Int.reduceToNat, reduceCtorEq]
 ·simp (disch := omega) only [Bz3, EVT, EVM, EVC, EVP, ↓reduceIte, EV, Nat.reduceAdd, Nat.reduceEqDiff, Int.reduceToNat, reduceCtorEq]
  simp [Out.goes, adrL]
theorem Kj0 (m : Msg) (h : List UInt8) (hm : MOk m) (hh : strr h) : S Cg0 2 [m.pv, .s h] = some [Aj8 (glueL m h)] := by
 refine Kb5 (N := 2000) rfl ?_
 have ha := hm.auth
 have he := hm.ext
 have k1 := Av9 m.auth Bl5 [.s h, m.pv] _ (by omega) (fun r hr => Ip1 m h r hm.wf hh (hm.wf.auth.2 r hr))
 have hlit : Ap4 1 [.i .i64 1, .i .i64 28] = some (.l 1 ([(1 : Int), 28].map (.i .i64))) := rfl
 unfold glueL
 rcases Bool.eq_false_or_eq_true (m.auth.any (gluB m h)) with c | c
 ·rw [c] at k1 ⊢
  have key : Gd0.ev S 2000 [m.pv, .s h, .b true] = some (.yld 0 [Aj8 ([] ++ [(1 : Int), 28].flatMap fun t => adrL (findR m.ext h t))]) := by
   refine Ak8 [(1 : Int), 28] (fun i g => [Aj8 g, .i .i64 (i : Int)]) (fun i g r => .yld 0 [Aj8 (g ++ r.flatMap fun t => adrL (findR m.ext h t))]) (fun i g => g.length ≤ 1000 * i) [] rfl (by simp) (by simp) (fun i g c r hd hi hc hg => ?_) (fun g hg => ?_)
   ·left
    have hi2 : i < 2 := hi
    have hf := Ag8 m.ext h c
    have hF := Al7 m.ext h c (by omega)
    have hI := Kj1 (findR m.ext h c) g m.pv (.s h) (.b true) (.i .i64 (i : Int)) (by omega) (by omega) 2000 (by omega)
    have hix : Ac8 1 (.l 1 ([(1 : Int), 28].map (.i .i64))) (.i .i64 (i : Int)) = some (.i .i64 c) := by
     rw [Ct8 _ _ _ _ (by omega), Ir0, List.getElem?_map, hc]; rfl
    refine ⟨g ++ adrL (findR m.ext h c), ?_, by simp [adrL]; omega, by simp⟩
    simp (disch := omega) only [Bz3, hlit, hix, hF, hI, List.length_map, List.length_cons, List.length_nil, EVT, EVM, EVC, EVP, ↓reduceIte, EV, Nat.reduceAdd, Nat.reduceEqDiff, Int.reduceToNat, reduceCtorEq]
   ·have hl2 : ([(1 : Int), 28]).length = 2 := rfl
    rw [hl2] at hg ⊢
    simp (disch := omega) only [Bz3, hlit, List.length_map, List.length_cons, List.length_nil, EVT, EVM, EVC, EVP, ↓reduceIte, EV, Nat.reduceAdd, Nat.reduceEqDiff, Int.reduceToNat, reduceCtorEq]
    simp [Out.goes]
  simp only [List.nil_append, List.flatMap_cons, List.flatMap_nil, List.append_nil] at key
  simp (disch := omega) only [Bz3, k1, key, hlit, List.length_map, List.length_cons, List.length_nil, EVT, EVM, EVC, EVP, ↓reduceIte, EV, Nat.reduceAdd, Nat.reduceEqDiff, Int.reduceToNat, reduceCtorEq]
 ·rw [c] at k1 ⊢
  simp (disch := omega) only [Bz3, k1, EVT, EVM, EVC, EVP, ↓reduceIte, EV, Nat.reduceAdd, Nat.reduceEqDiff, Int.reduceToNat, reduceCtorEq]
theorem Bx2 (m : Msg) (h : List UInt8) : (glueL m h).length ≤ 2 * m.ext.length := by
 unfold glueL
 split
 ·have h1 := Ag8 m.ext h 1
  have h2 := Ag8 m.ext h 28
  simp [adrL]; omega
 ·simp
end Go.X.G
/- Tasks that are referred, and that follow aliases. -/
namespace Go.X.G
open Go Go.X

def addU (acc : List Adr) : List Adr → List Adr
 | [] => acc
 | a :: r => if a ∈ acc then addU acc r else addU (acc ++ [a]) r
theorem Bk7 : ∀ (l acc : List Adr), (addU acc l).length ≤ acc.length + l.length
 | [], acc => by simp [addU]
 | a :: r, acc => by
   unfold addU
   split
   ·have := Bk7 r acc; simp; omega
   ·have := Bk7 r (acc ++ [a]); simp at this ⊢; omega
def glues (m : Msg) (acc : List Adr) : List (List UInt8) → List Adr
 | [] => acc
 | h :: r => glues m (addU acc (glueL m h)) r
def Ay6 (t : Tk) (m : Msg) : Tk :=
 Ak5 { t with zone := (childN (insideM m t.zone) t.zone).1, hosts := (childN (insideM m t.zone) t.zone).2.1.take 16, addrs := (glues (insideM m t.zone) [] ((childN (insideM m t.zone) t.zone).2.1.take 16)).take 16, tried := [], more := 0 }
theorem Cr8 (l : List Adr) (g0 : List Adr) (p0 p1 p2 p3 p4 p5 p6 p7 p8 : PV) (hp8 : p8 = Aj8 g0) (hl : l.length ≤ 100000) (hg0 : g0.length ≤ 100000) (N : Nat) (hN : l.length < N) :
  Is3.ev S N [p0, p1, p2, p3, p4, p5, p6, p7, p8, Aj8 l] = some (.yld 2 [Aj8 (addU g0 l)]) := by
 subst hp8
 refine Ak8 l (fun i g => [.i .i64 (i : Int), Aj8 g]) (fun i g r => .yld 2 [Aj8 (addU g r)]) (fun i g => g.length ≤ 100000 + i) g0 rfl (by omega) hN (fun i g c r hd hi hc hg => ?_) (fun g hg => ?_)
 ·left
  have hC := Aw2 g c (by omega)
  by_cases h1 : c ∈ g
  ·refine ⟨g, ?_, by omega, by simp [addU, h1]⟩
   simp (disch := omega) only [Em1, hc, hC, h1, EVT, EVM, EVC, EVP, ↓reduceIte, EV, Nat.reduceAdd, Nat.reduceEqDiff, Int.reduceToNat, reduceCtorEq]
  ·refine ⟨g ++ [c], ?_, by simp; omega, by simp [addU, h1]⟩
   simp (disch := omega) only [Em1, hc, hC, h1, EVT, EVM, EVC, EVP, ↓reduceIte, EV, Nat.reduceAdd, Nat.reduceEqDiff, Int.reduceToNat, reduceCtorEq]
 ·simp (disch := omega) only [Em1, EVT, EVM, EVC, EVP, ↓reduceIte, EV, Nat.reduceAdd, Nat.reduceEqDiff, Int.reduceToNat, reduceCtorEq]
  simp [Out.goes, addU]
theorem Cr9 (m : Msg) (hs : List (List UInt8)) (p0 p1 p3 p4 p5 : PV) (hm : MOk m) (hl : hs.length ≤ 16) (hw : ∀ h ∈ hs, strr h) :
  It5.ev S 5000 [p0, p1, m.pv, p3, p4, p5, Aj7 hs] = some (.yld 0 [Aj8 (glues m [] hs)]) := by
 have he := hm.ext
 refine Ak8 hs (fun i g => [.i .i64 (i : Int), Aj8 g]) (fun i g r => .yld 0 [Aj8 (glues m g r)]) (fun i g => g.length ≤ 2000 * i) [] rfl (by simp) (by omega) (fun i g c r hd hi hc hg => ?_) (fun g hg => ?_)
 ·left
  have hG := Kj0 m c hm (hw c (List.mem_of_getElem? hc))
  have hgl := Bx2 m c
  have hI := Cr8 (glueL m c) g p0 p1 m.pv p3 p4 p5 (Aj7 hs) (.i .i64 (i : Int)) (Aj8 g) rfl (by omega) (by omega) 5000 (by omega)
  have ha := Bk7 (glueL m c) g
  refine ⟨addU g (glueL m c), ?_, by omega, by simp [glues]⟩
  simp (disch := omega) only [Em1, hc, hG, hI, EVT, EVM, EVC, EVP, ↓reduceIte, EV, Nat.reduceAdd, Nat.reduceEqDiff, Int.reduceToNat, reduceCtorEq]
 ·simp (disch := omega) only [Em1, EVT, EVM, EVC, EVP, ↓reduceIte, EV, Nat.reduceAdd, Nat.reduceEqDiff, Int.reduceToNat, reduceCtorEq]
  simp [Out.goes, glues]
theorem Cl2 (m : Msg) : ∀ (hs : List (List UInt8)) (acc : List Adr), (glues m acc hs).length ≤ acc.length + 2 * m.ext.length * hs.length
 | [], acc => by simp [glues]
 | h :: r, acc => by
   unfold glues
   have h1 := Cl2 m r (addU acc (glueL m h))
   have h2 := Bk7 (glueL m h) acc
   have h3 := Bx2 m h
   simp only [List.length_cons, Nat.mul_add, Nat.mul_one]
   omega
theorem Dk1 : ∀ (l : List Rec) (out : List (List UInt8)), (∀ r ∈ l, r.wf) → (∀ h ∈ out, strr h) → ∀ h ∈ dd out l, strr h
 | [], out, _, ho, h, hh => ho h (by simpa [dd] using hh)
 | r :: rs, out, hl, ho, h, hh => by
   unfold dd at hh
   split at hh
   ·exact Dk1 rs out (fun x hx => hl x (.tail _ hx)) ho h hh
   ·refine Dk1 rs _ (fun x hx => hl x (.tail _ hx)) (fun x hx => ?_) h hh
    rcases List.mem_append.1 hx with hx | hx
    ·exact ho x hx
    ·simp at hx; subst hx; exact (hl r (.head _)).data.host
theorem Cl8 {l : List Rec} {n : List UInt8} {t : Int} {r : Rec} (h : r ∈ findR l n t) : r ∈ l := (List.mem_filter.1 h).1
theorem Ic3 {m : Msg} {zone : List UInt8} {r : Rec} (h : refN m zone = some r) : r ∈ m.auth := by
 unfold refN at h
 split at h
 ·cases h
 ·exact List.mem_of_find?_eq_some h
theorem By0 {m : Msg} {zone : List UInt8} (hm : MOk m) : strr (childN m zone).1 ∧ (∀ h ∈ (childN m zone).2.1, strr h) ∧ (childN m zone).2.1.length ≤ 1000 := by
 have e0 : strr [] := by simp [strr]
 unfold childN
 split
 ·split
  ·rename_i r hr
   refine ⟨(hm.wf.auth.2 r (Ic3 hr)).name, ?_, ?_⟩
   ·exact Dk1 _ _ (fun x hx => hm.wf.auth.2 x (Cl8 hx)) (by simp)
   ·have h1 := Gh4 (findR m.auth r.name 2) []
    have h2 := Ag8 m.auth r.name 2
    have h3 := hm.auth
    simp only [List.length_nil] at h1
    show (dd [] (findR m.auth r.name 2)).length ≤ 1000
    omega
  ·exact ⟨e0, by simp, by simp⟩
 ·exact ⟨e0, by simp, by simp⟩
theorem Cr7 (t : Tk) (m : Msg) {k : Nat} (h : TOk t k) (hm : MOk m) : S Gw6 2 [t.pv, m.pv] = some [(Ay6 t m).pv] := by
 refine Lz9 (N := 5000) rfl ?_
 have h1 := Ah2 m t.zone hm.wf h.zone hm.ans hm.auth hm.ext
 have h2 := Ix9 m t.zone hm h.zone
 unfold Ay6
 have hi := hm.inside t.zone
 generalize insideM m t.zone = x at *
 obtain ⟨c1, c2, c3⟩ := By0 (zone := t.zone) hi
 generalize childN x t.zone = c at *
 obtain ⟨cz, ch, cb⟩ := c
 simp only at c1 c2 c3
 simp only [Cq3] at h2
 have h3 := Gg7 ch (by omega)
 have h4 : (ch.take 16).length ≤ 16 := by simp; omega
 have h5 := fun p0 p1 p3 p4 p5 => Cr9 x (ch.take 16) p0 p1 p3 p4 p5 hi h4 (fun h hm => c2 h (List.mem_of_mem_take hm))
 have h6 := Cl2 x (ch.take 16) []
 have h6' : 2 * x.ext.length * (ch.take 16).length ≤ 2000 * 16 := Nat.mul_le_mul (by have := hi.ext; omega) h4
 have h7 := Dj8 (glues x [] (ch.take 16)) (by rw [List.length_nil] at h6; omega)
 have h8 := Ah7 { t with zone := cz, hosts := ch.take 16, addrs := (glues x [] (ch.take 16)).take 16, tried := [], more := 0 } (by simp; omega) (by simp) (by simp only; omega) (fun h hm => c2 h (List.mem_of_mem_take hm)) c1
 simp only
 simp (disch := omega) only [Em1, h1, h2, h3, h5, h7, h8, EVT, EVM, EVC, EVP, ↓reduceIte, EV, Nat.reduceAdd, Nat.reduceEqDiff, Int.reduceToNat, reduceCtorEq]

def Im6 (fn : Fns) (η : List PV) (fl : Bool) (c : E) (ar : List E) (m : Nat) : PV → Option (List PV)
 | .b true => (c.ev η).bind (cloB fn η fl ar m)
 | .b false => some (η ++ List.replicate m .u)
 | _ => none
theorem Bj8 {fn : Fns} {η : List PV} (g : E) (fl : Bool) (c : E) (ar : List E) (m : Nat) : W.ev fn η (.clo (some g) fl c ar m) = (g.ev η).bind (Im6 fn η fl c ar m) := by
 simp only [W.ev, Aq7]
 congr 1; funext p
 cases p with
 | b v =>
   cases v with
   | false => rfl
   | true =>
     simp only [Im6]
     congr 1; funext q
     cases q <;> simp only [cloB] <;> cases h : E.evs η ar <;> rfl
 | _ => rfl
theorem Cq1 {fn : Fns} {η : List PV} (fl : Bool) (c : E) (ar : List E) (m : Nat) : Im6 fn η fl c ar m (.b true) = (c.ev η).bind (cloB fn η fl ar m) := rfl
theorem Cq2 {fn : Fns} {η : List PV} (fl : Bool) (c : E) (ar : List E) (m : Nat) : Im6 fn η fl c ar m (.b false) = some (η ++ List.replicate m .u) := rfl
theorem Cn0 (r : Rec) (t : Tk) : S Bm4 1 [r.pv, t.pv] = some [.b (decide (r.name = t.name) && (decide (r.typ = t.q.typ) || decide (t.q.typ = 255)))] := by
 refine Kb3 (N := 1) rfl ?_
 by_cases h1 : r.name = t.name <;> by_cases h2 : r.typ = t.q.typ <;> by_cases h3 : t.q.typ = 255 <;> simp (disch := omega) only [Kq0, h1, h2, h3, EVT, EVM, EVC, EVP, ↓reduceIte, EV, Nat.reduceAdd, Nat.reduceEqDiff, Int.reduceToNat, reduceCtorEq] <;> simp [h1, h2, h3]
theorem Ec3 (m : Msg) (t : Tk) (hl : m.ans.length ≤ 1000000) : S Cf9 0 [m.pv, t.pv] = some [.b (hasL m.ans t.name t.q.typ)] := by
 refine Kb4 (N := 1) rfl ?_
 have h1 := Av9 m.ans Bm4 [t.pv] _ hl (fun r _ => Cn0 r t)
 unfold hasL
 simp (disch := omega) only [Kq1, h1, EVT, EVM, EVC, EVP, ↓reduceIte, EV, Nat.reduceAdd, Nat.reduceEqDiff, Int.reduceToNat, reduceCtorEq]
theorem Ec2 (r : Rec) (t : Tk) : S Bm3 1 [r.pv, t.pv] = some [.b (decide (r.name = t.name))] := by
 refine Kb2 (N := 1) rfl ?_
 simp (disch := omega) only [Kk9, EVT, EVM, EVC, EVP, ↓reduceIte, EV, Nat.reduceAdd, Nat.reduceEqDiff, Int.reduceToNat, reduceCtorEq]
def folC (l : List Rec) (ty : Int) : Nat → List UInt8 → List Rec → List UInt8 × List Rec
 | 0, n, c => (n, c)
 | k + 1, n, c => if hasL l n ty = true then (n, c) else match findR l n 5 with
   | [] => (n, c)
   | r :: _ => folC l ty k r.data.host (c ++ [r])
def Ax2 (t : Tk) (m : Msg) : Tk :=
 let p := folC (insideM m t.zone).ans t.q.typ 8 t.name t.chain
 if p.1 = t.q.name ∨ p.2.any (fun r => decide (r.name = p.1)) = true ∨ 8 < p.2.length then { t with name := p.1, chain := p.2, state := 4, err := 28 }
 else if Ak4 p.1 t.zone = true then Af2 { t with name := p.1, chain := p.2 } 0
 else { t with name := p.1, chain := p.2, state := 5 }
theorem Bk3 (l : List Rec) (ty : Int) : ∀ (k : Nat) (n : List UInt8) (c : List Rec), (folC l ty k n c).2.length ≤ c.length + k
 | 0, n, c => by simp [folC]
 | k + 1, n, c => by
   unfold folC
   split
   ·simp
   ·split
    ·simp
    ·rename_i r _ _
     have := Bk3 l ty k r.data.host (c ++ [r])
     simp at this ⊢; omega
theorem Bx3 (l : List Rec) (ty : Int) (hl : ∀ r ∈ l, r.wf) : ∀ (k : Nat) (n : List UInt8) (c : List Rec), strr n → strr (folC l ty k n c).1
 | 0, n, c, h => by simpa [folC] using h
 | k + 1, n, c, h => by
   unfold folC
   split
   ·exact h
   ·split
    ·exact h
    ·rename_i r rest hf
     exact Bx3 l ty hl k _ _ (hl r (Cl8 (by rw [hf]; exact .head _))).data.host
theorem Fd2 (t : Tk) (m : Msg) (c0 : List Rec) (p1 : PV) (hm : MOk m) (hc : c0.length ≤ 1000000) :
  It4.ev S 20 [t.pv, p1, m.pv, Aj2 c0] = some (.yld 0 [.s (folC m.ans t.q.typ 8 t.name c0).1, Aj2 (folC m.ans t.q.typ 8 t.name c0).2]) := by
 have hans := hm.ans
 refine Aw8 (α := Nat × List UInt8 × List Rec) (fun a => [.i .i64 (a.1 : Int), .s a.2.1, Aj2 a.2.2]) (fun a => .yld 0 [.s (folC m.ans t.q.typ (8 - a.1) a.2.1 a.2.2).1, Aj2 (folC m.ans t.q.typ (8 - a.1) a.2.1 a.2.2).2]) (fun a => a.1 ≤ 8 ∧ a.2.2.length ≤ 1000000 + a.1) (fun a => 8 - a.1) (0, t.name, c0) ?_ ⟨by simp, by simpa using hc⟩ (by simp) ?_
 ·simp (disch := omega) only [EVT, EVM, EVC, EVP, ↓reduceIte, EV, Nat.reduceAdd, Nat.reduceEqDiff, Int.reduceToNat, reduceCtorEq]
 ·rintro ⟨j, n, c⟩ ⟨hj, hcl⟩
  simp only at hj hcl ⊢
  by_cases h8 : j = 8
  ·subst h8
   right
   have e0 : ¬ (((8 : Nat) : Int) < 8) := by omega
   simp (disch := omega) only [Br1, e0, Bj8, Cq1, Cq2, EVT, EVM, EVC, EVP, ↓reduceIte, EV, Nat.reduceAdd, Nat.reduceEqDiff, Int.reduceToNat, reduceCtorEq]
   simp [folC, Out.goes]
  ·have e0 : ((j : Int) < 8) := by omega
   obtain ⟨d, hd⟩ : ∃ d, 8 - j = d + 1 := ⟨7 - j, by omega⟩
   rw [hd]
   have hans1 := Ec3 m { t with name := n, chain := c } (by omega)
   simp only at hans1
   rcases Bool.eq_false_or_eq_true (hasL m.ans n t.q.typ) with h1 | h1
   ·right
    rw [h1] at hans1
    simp (disch := omega) only [Br1, e0, hans1, Bj8, Cq1, Cq2, EVT, EVM, EVC, EVP, ↓reduceIte, EV, Nat.reduceAdd, Nat.reduceEqDiff, Int.reduceToNat, reduceCtorEq]
    simp [folC, h1, Out.goes]
   ·rw [h1] at hans1
    have hF := Al7 m.ans n 5 (by omega)
    cases hf : findR m.ans n 5 with
    | nil =>
      rw [hf] at hF
      right
      simp (disch := omega) only [Br1, e0, hans1, hF, Bj8, Cq1, Cq2, EVT, EVM, EVC, EVP, ↓reduceIte, EV, Nat.reduceAdd, Nat.reduceEqDiff, Int.reduceToNat, reduceCtorEq]
      simp [folC, h1, hf, Out.goes]
    | cons r rest =>
      rw [hf] at hF
      left
      have hne : ¬ (((r :: rest).length : Int) = 0) := by simp; omega
      have hix : Ac8 16 (Aj2 (r :: rest)) (.i .i64 0) = some r.pv := rfl
      refine ⟨(j + 1, r.data.host, c ++ [r]), ?_, ⟨by simp only; omega, by simp; omega⟩, by simp only; omega, ?_⟩
      ·simp (disch := omega) only [Br1, e0, hans1, hF, hne, hix, Bj8, Cq1, Cq2, EVT, EVM, EVC, EVP, ↓reduceIte, EV, Nat.reduceAdd, Nat.reduceEqDiff, Int.reduceToNat, reduceCtorEq]
      ·have e8 : 8 - (j + 1) = d := by omega
       simp [folC, h1, hf, e8]
theorem Fd1 (t : Tk) (m : Msg) {k : Nat} (h : TOk t k) (hm : MOk m) (hn : ∀ r ∈ m.ans, r.wf) : S Gw5 2 [t.pv, m.pv] = some [(Ax2 t m).pv] := by
 refine Lz6 (N := 20) rfl ?_
 have hs := h.small
 have hch := h.chain
 have h1 := Ah2 m t.zone hm.wf h.zone hm.ans hm.auth hm.ext
 have hi := hm.inside t.zone
 have hstr : strr (folC (insideM m t.zone).ans t.q.typ 8 t.name t.chain).1 := Bx3 _ _ (fun r hr => hi.wf.ans.2 r hr) 8 _ _ h.name
 unfold Ax2
 generalize insideM m t.zone = x at *
 have h2 := By4 t.chain (by omega)
 have h3 := fun p1 => Fd2 t x t.chain p1 hi (by omega)
 have h4 := Bk3 x.ans t.q.typ 8 t.name t.chain
 generalize folC x.ans t.q.typ 8 t.name t.chain = p at *
 obtain ⟨pn, pc⟩ := p
 simp only at hstr h3 h4 ⊢
 have h5 := Av9 pc Bm3 [Tk.pv { t with name := pn, chain := pc }] _ (by omega) (fun r _ => Ec2 r { t with name := pn, chain := pc })
 simp only at h5
 have h6 := Aq6 pn t.zone hstr h.zone
 by_cases c1 : pn = t.q.name
 ·rw [if_pos (.inl c1)]
  simp (disch := omega) only [Br1, h1, h2, h3, c1, EVT, EVM, EVC, EVP, ↓reduceIte, EV, Nat.reduceAdd, Nat.reduceEqDiff, Int.reduceToNat, reduceCtorEq]
 ·rcases Bool.eq_false_or_eq_true (pc.any fun r => decide (r.name = pn)) with c2 | c2
  ·rw [c2] at h5
   rw [if_pos (.inr (.inl c2))]
   simp (disch := omega) only [Br1, h1, h2, h3, h5, c1, EVT, EVM, EVC, EVP, ↓reduceIte, EV, Nat.reduceAdd, Nat.reduceEqDiff, Int.reduceToNat, reduceCtorEq]
  ·rw [c2] at h5
   by_cases c3 : 8 < pc.length
   ·rw [if_pos (.inr (.inr c3))]
    have c3' : (pc.length : Int) > 8 := by omega
    simp (disch := omega) only [Br1, h1, h2, h3, h5, c1, c3', EVT, EVM, EVC, EVP, ↓reduceIte, EV, Nat.reduceAdd, Nat.reduceEqDiff, Int.reduceToNat, reduceCtorEq]
   ·rw [if_neg (by rintro (h | h | h); exact c1 h; rw [c2] at h; cases h; exact c3 h)]
    have c3' : ¬ (pc.length : Int) > 8 := by omega
    rcases Bool.eq_false_or_eq_true (Ak4 pn t.zone) with c4 | c4
    ·rw [c4] at h6
     rw [if_pos c4]
     simp (disch := omega) only [Br1, h1, h2, h3, h5, h6, c1, c3', Cv8, EVT, EVM, EVC, EVP, ↓reduceIte, EV, Nat.reduceAdd, Nat.reduceEqDiff, Int.reduceToNat, reduceCtorEq]
    ·rw [c4] at h6
     rw [if_neg (by rw [c4]; simp)]
     simp (disch := omega) only [Br1, h1, h2, h3, h5, h6, c1, c3', EVT, EVM, EVC, EVP, ↓reduceIte, EV, Nat.reduceAdd, Nat.reduceEqDiff, Int.reduceToNat, reduceCtorEq]
end Go.X.G
/- Tasks that receive, and that are supplied. -/
namespace Go.X.G
open Go Go.X

end Go.X.G
/- Tasks that receive, and that are supplied, ctd. -/
namespace Go.X.G
open Go Go.X

def supA (tried acc : List Adr) : List Adr → List Adr
 | [] => acc
 | a :: r => if a ∈ tried ∨ a ∈ acc then supA tried acc r else supA tried (acc ++ [a]) r
theorem Bs1 (tried : List Adr) : ∀ (l acc : List Adr), (supA tried acc l).length ≤ acc.length + l.length
 | [], acc => by simp [supA]
 | a :: r, acc => by
   unfold supA
   split
   ·have := Bs1 tried r acc; simp; omega
   ·have := Bs1 tried r (acc ++ [a]); simp at this ⊢; omega
def Av3 (t : Tk) (host : List UInt8) (addrs : List Adr) : Tk :=
 if t.state ≠ 2 ∨ host ∉ t.hosts then t else Ak5 { t with hosts := t.hosts.filter (fun x => !decide (x = host)), addrs := (supA t.tried [] addrs).take 16 }
theorem Fd4 (x host : List UInt8) : S Fy9 1 [.s x, .s host] = some [.b (decide (x = host))] := by
 refine Lx9 (N := 1) rfl ?_
 simp (disch := omega) only [Lq7, EVT, EVM, EVC, EVP, ↓reduceIte, EV, Nat.reduceAdd, Nat.reduceEqDiff, Int.reduceToNat, reduceCtorEq]
theorem Fh1 (t : Tk) (addrs : List Adr) (p1 p3 p4 p5 : PV) (ht : t.tried.length ≤ 1000000) (hl : addrs.length ≤ 100000) (N : Nat) (hN : addrs.length < N) :
  It8.ev S N [t.pv, p1, Aj8 addrs, p3, p4, p5] = some (.yld 0 [Aj8 (supA t.tried [] addrs)]) := by
 refine Ak8 addrs (fun i g => [.i .i64 (i : Int), Aj8 g]) (fun i g r => .yld 0 [Aj8 (supA t.tried g r)]) (fun i g => g.length ≤ i) [] rfl (by simp) hN (fun i g c r hd hi hc hg => ?_) (fun g hg => ?_)
 ·left
  have h1 := Aw2 t.tried c ht
  have h2 := Aw2 g c (by omega)
  by_cases c1 : c ∈ t.tried
  ·refine ⟨g, ?_, by omega, by simp [supA, c1]⟩
   simp (disch := omega) only [Cn7, hc, h1, c1, EVT, EVM, EVC, EVP, ↓reduceIte, EV, Nat.reduceAdd, Nat.reduceEqDiff, Int.reduceToNat, reduceCtorEq]
  ·by_cases c2 : c ∈ g
   ·refine ⟨g, ?_, by omega, by simp [supA, c2]⟩
    simp (disch := omega) only [Cn7, hc, h1, h2, c1, c2, EVT, EVM, EVC, EVP, ↓reduceIte, EV, Nat.reduceAdd, Nat.reduceEqDiff, Int.reduceToNat, reduceCtorEq]
   ·refine ⟨g ++ [c], ?_, by simp; omega, by simp [supA, c1, c2]⟩
    simp (disch := omega) only [Cn7, hc, h1, h2, c1, c2, EVT, EVM, EVC, EVP, ↓reduceIte, EV, Nat.reduceAdd, Nat.reduceEqDiff, Int.reduceToNat, reduceCtorEq]
 ·simp (disch := omega) only [Cn7, EVT, EVM, EVC, EVP, ↓reduceIte, EV, Nat.reduceAdd, Nat.reduceEqDiff, Int.reduceToNat, reduceCtorEq]
  simp [Out.goes, supA]
theorem Fh0 (t : Tk) (host : List UInt8) (addrs : List Adr) {k : Nat} (h : TOk t k) (ha : addrs.length ≤ 1000) : S Gx3 3 [t.pv, .s host, Aj8 addrs] = some [(Av3 t host addrs).pv] := by
 refine Lc1 (N := 2000) rfl ?_
 have hs := h.small
 have hh := h.hostsL
 have ht := h.tried
 have h1 := Ah4 t.hosts host (by omega)
 have h2 := By3 t.hosts (by omega)
 have h3 := Fd7 t.hosts Fy9 [.s host] _ (by omega) (fun r _ => Fd4 r host)
 have h4 := fun p1 p3 p4 p5 => Fh1 t addrs p1 p3 p4 p5 (by omega) (by omega) 2000 (by omega)
 have h5 := Bs1 t.tried addrs []
 have h6 := Dj8 (supA t.tried [] addrs) (by rw [List.length_nil] at h5; omega)
 have hf : (t.hosts.filter fun x => !decide (x = host)).length ≤ t.hosts.length := List.length_filter_le _ _
 have h7 := Ah7 { t with hosts := t.hosts.filter (fun x => !decide (x = host)), addrs := (supA t.tried [] addrs).take 16 } (by simp; omega) (by simp only; omega) (by simp only; omega) (fun x hx => h.hosts x (List.mem_filter.1 hx).1) h.zone
 by_cases c0 : t.state = 2
 ·by_cases c1 : host ∈ t.hosts
  ·rw [show Av3 t host addrs = Ak5 { t with hosts := t.hosts.filter (fun x => !decide (x = host)), addrs := (supA t.tried [] addrs).take 16 } by unfold Av3; rw [if_neg (by simp [c0, c1])]]
   generalize (t.hosts.filter fun x => !decide (x = host)) = fl at *
   have e0 : t = { t with state := 2 } := by rw [← c0]
   simp (disch := omega) only [Cn7, h1, h2, h3, h4, h6, h7, c1, Cy2, Kq8, EVT, EVM, EVC, EVP, ↓reduceIte, EV, Nat.reduceAdd, Nat.reduceEqDiff, Int.reduceToNat, reduceCtorEq]
  ·rw [show Av3 t host addrs = t by unfold Av3; rw [if_pos (.inr c1)]]
   simp (disch := omega) only [Cn7, h1, c0, c1, EVT, EVM, EVC, EVP, ↓reduceIte, EV, Nat.reduceAdd, Nat.reduceEqDiff, Int.reduceToNat, reduceCtorEq]
 ·rw [show Av3 t host addrs = t by unfold Av3; rw [if_pos (.inl c0)]]
  simp (disch := omega) only [Cn7, h1, c0, EVT, EVM, EVC, EVP, ↓reduceIte, EV, Nat.reduceAdd, Nat.reduceEqDiff, Int.reduceToNat, reduceCtorEq]
def Av8 (t : Tk) (src : Adr) (m : Msg) : Tk :=
 if t.state ≠ 1 ∨ src ≠ t.dst ∨ m.q ≠ t.asked then t
 else if kindM (insideM m t.zone) t.zone = 3 then Ay6 t m
 else if kindM (insideM m t.zone) t.zone = 0 then Az0 t
 else if t.asked ≠ ownT t ∧ kindM (insideM m t.zone) t.zone = 5 then Af2 t 10
 else if t.asked ≠ ownT t then Af2 t (t.more + 1)
 else if kindM (insideM m t.zone) t.zone = 2 then Ax2 t m
 else { t with state := 3, last := insideM m t.zone }
theorem Fq2 (t : Tk) (src : Adr) (m : Msg) {k : Nat} (h : TOk t k) (hm : MOk m) : S Gy1 3 [t.pv, src.pv, m.pv] = some [(Av8 t src m).pv] := by
 refine Ld8 (N := 1) rfl ?_
 have hs := h.small
 have m0 := h.more0
 have m1 := h.more1
 have h1 := Cn4 m t.zone hm h.zone
 have h2 := Ir6 t
 have h3 := Cr7 t m h hm
 have h4 := Bz7 t h
 have h5 := Cv8 t 10
 have h6 := Cv8 t (t.more + 1)
 have h7 := Fd1 t m h hm (fun r hr => hm.wf.ans.2 r hr)
 have h8 := Ah2 m t.zone hm.wf h.zone hm.ans hm.auth hm.ext
 unfold Av8
 by_cases c0 : t.state = 1
 ·by_cases c1 : src = t.dst
  ·by_cases c2 : m.q = t.asked
   ·generalize kindM (insideM m t.zone) t.zone = kd at *
    rw [if_neg (by simp [c0, c1, c2])]
    by_cases d1 : kd = 3
    ·simp (disch := omega) only [Br6, h1, h2, h3, c0, c1, c2, d1, EVT, EVM, EVC, EVP, ↓reduceIte, EV, Nat.reduceAdd, Nat.reduceEqDiff, Int.reduceToNat, reduceCtorEq]
    ·by_cases d2 : kd = 0
     ·subst d2
      simp (disch := omega) only [Br6, h1, h2, h4, c0, c1, c2, EVT, EVM, EVC, EVP, ↓reduceIte, EV, Nat.reduceAdd, Nat.reduceEqDiff, Int.reduceToNat, reduceCtorEq]
      rfl
     ·by_cases d3 : t.asked = ownT t
      ·by_cases d4 : kd = 2
       ·subst d4
        simp (disch := omega) only [Br6, h1, h2, h7, c0, c1, c2, d3, EVT, EVM, EVC, EVP, ↓reduceIte, EV, Nat.reduceAdd, Nat.reduceEqDiff, Int.reduceToNat, reduceCtorEq]
        simp
       ·simp (disch := omega) only [Br6, h1, h2, h8, c0, c1, c2, d1, d2, d3, d4, EVT, EVM, EVC, EVP, ↓reduceIte, EV, Nat.reduceAdd, Nat.reduceEqDiff, Int.reduceToNat, reduceCtorEq]
        simp
      ·by_cases d4 : kd = 5
       ·subst d4
        simp (disch := omega) only [Br6, h1, h2, h5, c0, c1, c2, d3, EVT, EVM, EVC, EVP, ↓reduceIte, EV, Nat.reduceAdd, Nat.reduceEqDiff, Int.reduceToNat, reduceCtorEq]
        simp
       ·simp (disch := omega) only [Br6, h1, h2, h6, c0, c1, c2, d1, d2, d3, d4, EVT, EVM, EVC, EVP, ↓reduceIte, EV, Nat.reduceAdd, Nat.reduceEqDiff, Int.reduceToNat, reduceCtorEq]
        simp
   ·simp (disch := omega) only [Br6, c0, c1, c2, EVT, EVM, EVC, EVP, ↓reduceIte, EV, Nat.reduceAdd, Nat.reduceEqDiff, Int.reduceToNat, reduceCtorEq]
    simp [c2]
  ·simp (disch := omega) only [Br6, c0, c1, EVT, EVM, EVC, EVP, ↓reduceIte, EV, Nat.reduceAdd, Nat.reduceEqDiff, Int.reduceToNat, reduceCtorEq]
   simp [c1]
 ·simp (disch := omega) only [Br6, c0, EVT, EVM, EVC, EVP, ↓reduceIte, EV, Nat.reduceAdd, Nat.reduceEqDiff, Int.reduceToNat, reduceCtorEq]
  simp [c0]
end Go.X.G
/- Tasks: what the reference does, first part. -/
namespace Go.X.G
open Go Go.X

theorem Bw9 (l : List Adr) (x : Adr) (hl : l.length ≤ 1000000) : S Cj5 2 [Aj8 l, x.pv] = some [.b (decide (x ∈ l))] := by
 refine Ly3 (N := l.length + 1) rfl ?_
 have key : It0.ev S (l.length + 1) [Aj8 l, x.pv] = some (if x ∈ l then .ret [.b true] else .yld 0 []) := by
  refine Ak2 l (fun i => [.i .i64 (i : Int)]) (fun i r => if x ∈ r then .ret [.b true] else .yld 0 []) rfl (by omega) (fun i c r hd hi hc => ?_) ?_
  ·by_cases h : c = x
   ·right
    simp (disch := omega) only [Ff2, hc, h, EVT, EVM, EVC, EVP, ↓reduceIte, EV, Nat.reduceAdd, Nat.reduceEqDiff, Int.reduceToNat, reduceCtorEq]
    simp [Out.goes]
   ·left
    have h2 : ¬ x = c := fun e => h e.symm
    simp (disch := omega) only [Ff2, hc, h, EVT, EVM, EVC, EVP, ↓reduceIte, EV, Nat.reduceAdd, Nat.reduceEqDiff, Int.reduceToNat, reduceCtorEq]
    simp [h2]
  ·simp (disch := omega) only [Ff2, EVT, EVM, EVC, EVP, ↓reduceIte, EV, Nat.reduceAdd, Nat.reduceEqDiff, Int.reduceToNat, reduceCtorEq]
   simp [Out.goes]
 by_cases h : x ∈ l
 ·rw [if_pos h] at key
  simp (disch := omega) only [Ff2, key, EVT, EVM, EVC, EVP, ↓reduceIte, EV, Nat.reduceAdd, Nat.reduceEqDiff, Int.reduceToNat, reduceCtorEq]
  try simp [h]
 ·rw [if_neg h] at key
  simp (disch := omega) only [Ff2, key, EVT, EVM, EVC, EVP, ↓reduceIte, EV, Nat.reduceAdd, Nat.reduceEqDiff, Int.reduceToNat, reduceCtorEq]
  try simp [h]
theorem Cz4 (l : List (List UInt8)) (hl : l.length ≤ 1000000) : S Fb0 1 [Aj7 l] = some [Aj7 (l.take 16)] := by
 refine Lc8 (N := l.length + 1) rfl ?_
 have key : Jj2.ev S (l.length + 1) [Aj7 l] = some (.yld 0 [Aj7 ([] ++ l.take (16 - 0))]) := by
  refine Ak8 l (fun i (g : List (List UInt8)) => [Aj7 g, .i .i64 (i : Int)]) (fun i g r => .yld 0 [Aj7 (g ++ r.take (16 - i))]) (fun i g => g.length ≤ i) [] rfl (Nat.zero_le _) (by omega) (fun i g c r hd hi hc hI => ?_) (fun g hI => ?_)
  ·by_cases h : i < 16
   ·left
    have h1 : (i : Int) < 16 := by omega
    refine ⟨g ++ [c], ?_, by simp; omega, ?_⟩
    ·simp (disch := omega) only [Iy5, hc, h1, EVT, EVM, EVC, EVP, ↓reduceIte, EV, Nat.reduceAdd, Nat.reduceEqDiff, Int.reduceToNat, reduceCtorEq]
    ·rw [show 16 - i = (16 - (i + 1)) + 1 by omega, List.take_succ_cons]; simp
   ·right
    have h1 : ¬ (i : Int) < 16 := by omega
    rw [show 16 - i = 0 by omega, List.take_zero, List.append_nil]
    refine ⟨?_, rfl⟩
    simp (disch := omega) only [Iy5, hc, h1, EVT, EVM, EVC, EVP, ↓reduceIte, EV, Nat.reduceAdd, Nat.reduceEqDiff, Int.reduceToNat, reduceCtorEq]
  ·simp (disch := omega) only [Iy5, EVT, EVM, EVC, EVP, ↓reduceIte, EV, Nat.reduceAdd, Nat.reduceEqDiff, Int.reduceToNat, reduceCtorEq]
   simp [Out.goes]
 rw [List.nil_append, Nat.sub_zero] at key
 simp (disch := omega) only [Iy5, key, EVT, EVM, EVC, EVP, ↓reduceIte, EV, Nat.reduceAdd, Nat.reduceEqDiff, Int.reduceToNat, reduceCtorEq]
theorem Bt7 (t : Tk) : S Cs8 1 [t.pv] = some [(ownT t).pv] := by
 refine Lx7 (N := 1) rfl ?_
 unfold ownT
 simp (disch := omega) only [Lq6, EVT, EVM, EVC, EVP, ↓reduceIte, EV, Nat.reduceAdd, Nat.reduceEqDiff, Int.reduceToNat, reduceCtorEq]

def addM (tried : List Adr) : List Adr → List Adr → List Adr
 | out, [] => out
 | out, a :: r => if 16 ≤ out.length then out else if a ∈ out ∨ a ∈ tried then addM tried out r else addM tried (out ++ [a]) r
theorem An4 (tried : List Adr) : ∀ (l acc : List Adr), ∃ s, supA tried acc l = acc ++ s
 | [], acc => ⟨[], by simp [supA]⟩
 | a :: r, acc => by
   unfold supA
   split
   ·exact An4 tried r acc
   ·obtain ⟨s, hs⟩ := An4 tried r (acc ++ [a])
    exact ⟨a :: s, by rw [hs]; simp⟩
theorem Ar1 (tried : List Adr) : ∀ (l out : List Adr), out.length ≤ 16 → addM tried out l = (supA tried out l).take 16
 | [], out, h => by simp only [addM, supA]; exact (List.take_of_length_le h).symm
 | a :: r, out, h => by
   unfold addM
   by_cases h16 : 16 ≤ out.length
   ·rw [if_pos h16]
    obtain ⟨s, hs⟩ := An4 tried (a :: r) out
    rw [hs, List.take_append_of_le_length (by omega), List.take_of_length_le h]
   ·rw [if_neg h16]
    unfold supA
    by_cases hm : a ∈ out ∨ a ∈ tried
    ·rw [if_pos hm, if_pos (hm.symm)]
     exact Ar1 tried r out h
    ·rw [if_neg hm, if_neg (fun q => hm q.symm)]
     exact Ar1 tried r (out ++ [a]) (by rw [List.length_append, List.length_singleton]; omega)
theorem Cv9 : ∀ (l acc : List Adr), addU acc l = supA [] acc l
 | [], acc => rfl
 | a :: r, acc => by
   unfold addU supA
   by_cases h : a ∈ acc
   ·rw [if_pos h, if_pos (.inr h)]; exact Cv9 r acc
   ·rw [if_neg h, if_neg (by simp [h])]; exact Cv9 r (acc ++ [a])
theorem In8 (tried : List Adr) (l out : List Adr) (h : out.length ≤ 16) : (addM tried out l).length ≤ 16 := by
 rw [Ar1 tried l out h, List.length_take]; omega
theorem El8 (l more tried : List Adr) (h1 : l.length ≤ 16) (h2 : more.length ≤ 100000) (h3 : tried.length ≤ 1000000) : S Bn0 3 [Aj8 l, Aj8 more, Aj8 tried] = some [Aj8 (addM tried l more)] := by
 refine Kc7 (N := more.length + 1) rfl ?_
 have h0 : Aw1 3 (Aj8 []) (Aj8 l) = some (Aj8 l) := by simpa using Bk6 [] l (by simp; omega)
 have key : Gd7.ev S (more.length + 1) [Aj8 l, Aj8 more, Aj8 tried] = some (.yld 0 [Aj8 (addM tried l more)]) := by
  refine Ak8 more (fun i (g : List Adr) => [Aj8 g, .i .i64 (i : Int)]) (fun i g r => .yld 0 [Aj8 (addM tried g r)]) (fun i g => g.length ≤ 16) l (by simp (disch := omega) only [h0, EVT, EVM, EVC, EVP, ↓reduceIte, EV, Nat.reduceAdd, Nat.reduceEqDiff, Int.reduceToNat, reduceCtorEq]) h1 (by omega) (fun i g c r hd hi hc hI => ?_) (fun g hI => ?_)
  ·have k1 := Bw9 g c (by omega)
   have k2 := Bw9 tried c h3
   by_cases h16 : 16 ≤ g.length
   ·right
    have h4 : ¬ (g.length : Int) < 16 := by omega
    have e : addM tried g (c :: r) = g := by unfold addM; rw [if_pos h16]
    rw [e]
    refine ⟨?_, rfl⟩
    simp (disch := omega) only [Bz4, hc, h4, EVT, EVM, EVC, EVP, ↓reduceIte, EV, Nat.reduceAdd, Nat.reduceEqDiff, Int.reduceToNat, reduceCtorEq]
   ·left
    have h4 : (g.length : Int) < 16 := by omega
    by_cases c1 : c ∈ g
    ·refine ⟨g, ?_, hI, by conv => rhs; unfold addM; rw [if_neg h16, if_pos (.inl c1)]⟩
     simp (disch := omega) only [Bz4, hc, h4, k1, c1, EVT, EVM, EVC, EVP, ↓reduceIte, EV, Nat.reduceAdd, Nat.reduceEqDiff, Int.reduceToNat, reduceCtorEq]
    ·by_cases c2 : c ∈ tried
     ·refine ⟨g, ?_, hI, by conv => rhs; unfold addM; rw [if_neg h16, if_pos (.inr c2)]⟩
      simp (disch := omega) only [Bz4, hc, h4, k1, k2, c1, c2, EVT, EVM, EVC, EVP, ↓reduceIte, EV, Nat.reduceAdd, Nat.reduceEqDiff, Int.reduceToNat, reduceCtorEq]
     ·refine ⟨g ++ [c], ?_, by rw [List.length_append, List.length_singleton]; omega, by conv => rhs; unfold addM; rw [if_neg h16, if_neg (by simp [c1, c2])]⟩
      simp (disch := omega) only [Bz4, hc, h4, k1, k2, c1, c2, EVT, EVM, EVC, EVP, ↓reduceIte, EV, Nat.reduceAdd, Nat.reduceEqDiff, Int.reduceToNat, reduceCtorEq]
  ·simp (disch := omega) only [Bz4, EVT, EVM, EVC, EVP, ↓reduceIte, EV, Nat.reduceAdd, Nat.reduceEqDiff, Int.reduceToNat, reduceCtorEq]
   simp [Out.goes, addM]
 simp (disch := omega) only [Bz4, key, EVT, EVM, EVC, EVP, ↓reduceIte, EV, Nat.reduceAdd, Nat.reduceEqDiff, Int.reduceToNat, reduceCtorEq]

abbrev zs34 : List PV := [.s [], .i .i64 0, .s [], .s [], Aj7 [], Aj8 [], Aj8 [], .i .i64 0, .i .i64 0, .b false, .i .u64 0, .i .u64 0, .s [], .i .i64 0, .i .i64 0, Aj2 [], .i .i64 0, .i .i64 0, .i .i64 0, .b false, .b false, .b false, .b false, .b false, .b false, .b false, .b false, .i .i64 0, .s [], .i .i64 0, Aj2 [], Aj2 [], Aj2 [], .i .i64 0]
theorem Cr2 (t : Tk) (h1 : t.addrs.length ≤ 1000000) (h2 : t.tried.length ≤ 1000000) (N : Nat) (hN : t.addrs.length < N) :
  Jj1.ev S N [t.pv] = some (if t.addrs.any (fun a => !decide (a ∈ t.tried)) = true then .ret [(Tk.pv { t with state := 0 })] else .yld 0 (.i .i64 t.state :: zs34)) := by
 refine Ak2 t.addrs (fun i => .i .i64 (i : Int) :: .i .i64 t.state :: zs34) (fun i r => if r.any (fun a => !decide (a ∈ t.tried)) = true then .ret [(Tk.pv { t with state := 0 })] else .yld 0 (.i .i64 t.state :: zs34)) (by simp (disch := omega) only [EVT, EVM, EVC, EVP, ↓reduceIte, EV, Nat.reduceAdd, Nat.reduceEqDiff, Int.reduceToNat, reduceCtorEq]) hN (fun i c r hd hi hc => ?_) ?_
 ·have k1 := Bw9 t.tried c h2
  by_cases h : c ∈ t.tried
  ·left
   simp (disch := omega) only [Br4, hc, k1, h, EVT, EVM, EVC, EVP, ↓reduceIte, EV, Nat.reduceAdd, Nat.reduceEqDiff, Int.reduceToNat, reduceCtorEq]
   simp [h]
  ·right
   rw [if_pos (by simp [h])]
   refine ⟨?_, rfl⟩
   simp (disch := omega) only [Br4, hc, k1, h, EVT, EVM, EVC, EVP, ↓reduceIte, EV, Nat.reduceAdd, Nat.reduceEqDiff, Int.reduceToNat, reduceCtorEq]
 ·rw [if_neg (by simp)]
  refine ⟨?_, rfl⟩
  simp (disch := omega) only [Br4, EVT, EVM, EVC, EVP, ↓reduceIte, EV, Nat.reduceAdd, Nat.reduceEqDiff, Int.reduceToNat, reduceCtorEq]
theorem Cr1 (t : Tk) (h3 : t.hosts.length ≤ 1000000) (h4 : ∀ h ∈ t.hosts, strr h) (hz : strr t.zone) (N : Nat) (hN : t.hosts.length < N) :
  Is5.ev S N (t.pv :: .i .i64 t.state :: zs34) = some (if t.hosts.any (fun h => !Ak4 h t.zone) = true then .ret [(Tk.pv { t with state := 2 })] else .yld 0 (.i .i64 t.state :: zs34)) := by
 refine Ak2 t.hosts (fun i => .i .i64 (i : Int) :: .i .i64 t.state :: zs34) (fun i r => if r.any (fun h => !Ak4 h t.zone) = true then .ret [(Tk.pv { t with state := 2 })] else .yld 0 (.i .i64 t.state :: zs34)) (by simp (disch := omega) only [EVT, EVM, EVC, EVP, ↓reduceIte, EV, Nat.reduceAdd, Nat.reduceEqDiff, Int.reduceToNat, reduceCtorEq]) hN (fun i c r hd hi hc => ?_) ?_
 ·have k1 := Aq2 c t.zone (h4 c (List.mem_of_getElem? hc)) hz
  rcases Bool.eq_false_or_eq_true (Ak4 c t.zone) with h | h
  ·left
   rw [h] at k1
   simp (disch := omega) only [Br4, hc, k1, EVT, EVM, EVC, EVP, ↓reduceIte, EV, Nat.reduceAdd, Nat.reduceEqDiff, Int.reduceToNat, reduceCtorEq]
   simp [h]
  ·right
   rw [h] at k1
   rw [if_pos (by simp [h])]
   refine ⟨?_, rfl⟩
   simp (disch := omega) only [Br4, hc, k1, EVT, EVM, EVC, EVP, ↓reduceIte, EV, Nat.reduceAdd, Nat.reduceEqDiff, Int.reduceToNat, reduceCtorEq]
 ·rw [if_neg (by simp)]
  refine ⟨?_, rfl⟩
  simp (disch := omega) only [Br4, EVT, EVM, EVC, EVP, ↓reduceIte, EV, Nat.reduceAdd, Nat.reduceEqDiff, Int.reduceToNat, reduceCtorEq]
theorem Az5 (t : Tk) (h1 : t.addrs.length ≤ 1000000) (h2 : t.tried.length ≤ 1000000) (h3 : t.hosts.length ≤ 1000000) (h4 : ∀ h ∈ t.hosts, strr h) (hz : strr t.zone) : S Cc7 1 [t.pv] = some [(Ak5 t).pv] := by
 refine Lc7 (N := 1000001) rfl ?_
 have k0 := Cr2 t h1 h2 1000001 (by omega)
 have k1 := Cr1 t h3 h4 hz 1000001 (by omega)
 generalize (1000001 : Nat) = N at *
 unfold Ak5
 by_cases c1 : t.addrs.any (fun a => !decide (a ∈ t.tried)) = true
 ·rw [if_pos c1] at k0 ⊢
  simp (disch := omega) only [Br4, k0, EVT, EVM, EVC, EVP, ↓reduceIte, EV, Nat.reduceAdd, Nat.reduceEqDiff, Int.reduceToNat, reduceCtorEq]
 ·rw [if_neg c1] at k0 ⊢
  by_cases c2 : t.hosts.any (fun h => !Ak4 h t.zone) = true
  ·rw [if_pos c2] at k1 ⊢
   simp (disch := omega) only [Br4, k0, k1, EVT, EVM, EVC, EVP, ↓reduceIte, EV, Nat.reduceAdd, Nat.reduceEqDiff, Int.reduceToNat, reduceCtorEq]
  ·rw [if_neg c2] at k1 ⊢
   simp (disch := omega) only [Br4, k0, k1, EVT, EVM, EVC, EVP, ↓reduceIte, EV, Nat.reduceAdd, Nat.reduceEqDiff, Int.reduceToNat, reduceCtorEq]
theorem Bz9 (t : Tk) {k : Nat} (h : TOk t k) : S Fy8 1 [t.pv] = some [(Az0 t).pv] := by
 refine Lx4 (N := 1) rfl ?_
 have hs := h.small
 have ht := h.tried
 have hh := h.hostsL
 have ha := h.addrs
 have h0 : Aw1 3 (Aj8 []) (Aj8 t.tried) = some (Aj8 t.tried) := by simpa using Bk6 [] t.tried (by simp; omega)
 have k1 := Az5 { t with tried := t.tried ++ [t.dst] } (by simp only; omega) (by simp only [List.length_append, List.length_singleton]; omega) (by simp only; omega) h.hosts h.zone
 unfold Az0
 simp (disch := omega) only [Lq4, h0, k1, EVT, EVM, EVC, EVP, ↓reduceIte, EV, Nat.reduceAdd, Nat.reduceEqDiff, Int.reduceToNat, reduceCtorEq]
theorem Cy1 (t : Tk) {k : Nat} (h : TOk t k) : S Gx0 1 [t.pv] = some [(Av7 t).pv] := by
 refine Lb7 (N := 1) rfl ?_
 have k1 := Bz9 t h
 unfold Av7
 by_cases c : t.state = 1
 ·rw [if_pos c]
  simp (disch := omega) only [Kj5, c, k1, EVT, EVM, EVC, EVP, ↓reduceIte, EV, Nat.reduceAdd, Nat.reduceEqDiff, Int.reduceToNat, reduceCtorEq]
 ·rw [if_neg c]
  simp (disch := omega) only [Kj5, c, EVT, EVM, EVC, EVP, ↓reduceIte, EV, Nat.reduceAdd, Nat.reduceEqDiff, Int.reduceToNat, reduceCtorEq]
end Go.X.G
/- Tasks: what the reference does, second part: messages that are sent, glue, referrals. -/
namespace Go.X.G
open Go Go.X

theorem Cl5 : ∀ (l : List (List UInt8)), (∀ x ∈ l, x ≠ []) → 2 * l.length ≤ (flat l).length
 | [], _ => by simp [flat]
 | x :: r, h => by
   have ih := Cl5 r fun y hy => h y (.tail _ hy)
   have hx := List.length_pos_iff.2 (h x (.head _))
   rw [Gg4, List.length_append, List.length_cons, List.length_cons]; omega
theorem Gz4 (n : List UInt8) : (lbl n).length ≤ 127 := by
 rcases Bool.eq_false_or_eq_true (vld n) with h | h
 ·rcases vld_cases h with ⟨_, h2⟩ | ⟨_, h2, h3, h4⟩
  ·rw [h2]; simp
  ·have := Cl5 (lbl n) fun x hx => Eh6 (Ay8 h2 hx)
   rw [← h3] at this
   omega
 ·rw [Ck2 h]; simp
theorem Jt5 (n : List UInt8) (hn : n.length ≤ 9223372036854775807) : S Cd7 1 [.s n] = some [.s (Bt6 n), .b (Jj8 n)] := by
 refine Kx8 (N := 1) rfl ?_
 have k1 := split_ok n hn
 have hl := Ag3 n
 unfold Bt6 Jj8
 by_cases h : lbl n = []
 ·have e : ¬ (vld n = true ∧ n ≠ [46]) := fun ⟨h1, h2⟩ => h2 ((Ck3 h1).1 h)
  have e2 : (vld n && !decide (n = [46])) = false := by
   rcases Bool.eq_false_or_eq_true (vld n) with h1 | h1
   ·have := (Ck3 h1).1 h
    simp [this]
   ·simp [h1]
  rw [if_neg e, e2]
  rw [h] at k1
  simp (disch := omega) only [Ip6, k1, EVM, EVC, EVP, ↓reduceIte, EV, Nat.reduceAdd, Nat.reduceEqDiff, Int.reduceToNat, reduceCtorEq]
  try simp
 ·have h1 : vld n = true := by
   rcases Bool.eq_false_or_eq_true (vld n) with h1 | h1
   ·exact h1
   ·exact absurd (Ck2 h1) h
  have h2 : n ≠ [46] := fun e => h ((Ck3 h1).2 e)
  have e2 : (vld n && !decide (n = [46])) = true := by simp [h1, h2]
  rw [if_pos ⟨h1, h2⟩, e2]
  have hp := List.length_pos_iff.2 h
  have ls : Ac7 1 (Aj7 (lbl n)) (.i .i64 1) (.i .i64 ((lbl n).length : Int)) = some (Aj7 ((lbl n).drop 1)) := by
   rw [Ab6 _ _ _ _ _ (by omega) (by omega) (by omega)]
   simp
  have k2 := Jy7 ((lbl n).drop 1) (by simp; omega) (fun x hx => Gz3 n x (List.mem_of_mem_drop hx))
  have h0 : ¬ ((lbl n).length : Int) = 0 := by omega
  simp (disch := omega) only [Ip6, k1, k2, ls, h0, EVM, EVC, EVP, ↓reduceIte, EV, Nat.reduceAdd, Nat.reduceEqDiff, Int.reduceToNat, reduceCtorEq]
theorem Gz5 (n : List UInt8) (hv : vld n = true) (k : Nat) (hk : k < (lbl n).length) : S Cf4 2 [.s n, .i .i64 (k : Int)] = some [.s (jn ((lbl n).drop ((lbl n).length - k)))] := by
 refine Kz2 (N := 1000) rfl ?_
 have hl := Gz4 n
 have h0 : jn ((lbl n).drop 0) = n := by rw [List.drop_zero]; exact (Fg4 hv).symm
 have key : Gc4.ev S 1000 [.s n, .i .i64 (k : Int)] = some (.yld 0 [.s (jn ((lbl n).drop ((lbl n).length - k)))]) := by
  refine Bk0 ((lbl n).length - k) (fun i => [.s (jn ((lbl n).drop i)), .i .i64 (i : Int)]) (fun _ => .yld 0 [.s (jn ((lbl n).drop ((lbl n).length - k)))]) ?_ (by omega) (fun i hi => ?_) ?_
  ·rw [h0]
   simp (disch := omega) only [EVT, EVM, EVC, EVP, ↓reduceIte, EV, Nat.reduceAdd, Nat.reduceEqDiff, Int.reduceToNat, reduceCtorEq]
  ·left
   obtain ⟨v1, v2⟩ := Ah5 hv i
   have q4 := Jj7 hv i
   have k1 := Al6 (jn ((lbl n).drop i)) (by omega)
   have k2 := Jt5 (jn ((lbl n).drop i)) (by omega)
   have hne : jn ((lbl n).drop i) ≠ [46] := by
    intro e
    have := (Ck3 v1).2 e
    rw [v2] at this
    have := congrArg List.length this
    rw [List.length_drop, List.length_nil] at this
    omega
   have e1 : Bt6 (jn ((lbl n).drop i)) = jn ((lbl n).drop (i + 1)) := by
    unfold Bt6
    rw [if_pos ⟨v1, hne⟩, v2, List.drop_drop]
   rw [e1] at k2
   rw [v2] at k1
   have hd : ((lbl n).drop i).length = (lbl n).length - i := List.length_drop
   have h1 : (k : Int) < (((lbl n).drop i).length : Int) := by omega
   have h2 : (i : Int) < 128 := by omega
   refine ⟨?_, rfl⟩
   generalize (lbl n).drop i = ld at *
   generalize jn ld = cu at *
   generalize jn ((lbl n).drop (i + 1)) = nx at *
   simp (disch := omega) only [Ff9, k1, k2, h1, h2, EVT, EVM, EVC, EVP, ↓reduceIte, EV, Nat.reduceAdd, Nat.reduceEqDiff, Int.reduceToNat, reduceCtorEq]
  ·obtain ⟨v1, v2⟩ := Ah5 hv ((lbl n).length - k)
   have q4 := Jj7 hv ((lbl n).length - k)
   have k1 := Al6 (jn ((lbl n).drop ((lbl n).length - k))) (by omega)
   rw [v2] at k1
   have hd : ((lbl n).drop ((lbl n).length - k)).length = k := by rw [List.length_drop]; omega
   have h1 : ¬ (k : Int) < (((lbl n).drop ((lbl n).length - k)).length : Int) := by omega
   have h2 : (((lbl n).length - k : Nat) : Int) < 128 := by omega
   refine ⟨?_, rfl⟩
   generalize (lbl n).drop ((lbl n).length - k) = ld at *
   generalize jn ld = cu at *
   generalize (lbl n).length - k = ix at *
   simp (disch := omega) only [Ff9, k1, h1, h2, EVT, EVM, EVC, EVP, ↓reduceIte, EV, Nat.reduceAdd, Nat.reduceEqDiff, Int.reduceToNat, reduceCtorEq]
 simp (disch := omega) only [Ff9, key, EVT, EVM, EVC, EVP, ↓reduceIte, EV, Nat.reduceAdd, Nat.reduceEqDiff, Int.reduceToNat, reduceCtorEq]
theorem Gv3 (q : Ques) (zone : List UInt8) (more : Int) (hq : q.wf) (hz : strr zone) (hm : i64r more) : S Gv6 3 [q.pv, .s zone, .i .i64 more] = some [(nextQ q zone more).1.pv, .b (nextQ q zone more).2] := by
 refine Lx8 (N := 1) rfl ?_
 have hn := hq.name
 have k1 := Aq2 q.name zone hn hz
 have k2 := Al6 q.name hn
 have k3 := Al6 zone hz
 have l1 := Ag3 q.name
 have l2 := Ag3 zone
 unfold nextQ Ar0
 by_cases h1 : q.name = zone
 ·rw [if_pos (.inl (by simp [h1]))]
  simp (disch := omega) only [Em0, h1, EVT, EVM, EVC, EVP, ↓reduceIte, EV, Nat.reduceAdd, Nat.reduceEqDiff, Int.reduceToNat, reduceCtorEq]
 ·rcases Bool.eq_false_or_eq_true (Ak4 q.name zone) with hu | hu
  ·rw [hu] at k1
   by_cases h2 : more < 0
   ·rw [if_pos (.inr (.inl h2))]
    simp (disch := omega) only [Em0, h1, k1, h2, EVT, EVM, EVC, EVP, ↓reduceIte, EV, Nat.reduceAdd, Nat.reduceEqDiff, Int.reduceToNat, reduceCtorEq]
   ·by_cases h3 : 10 ≤ more
    ·rw [if_pos (.inr (.inr h3))]
     simp (disch := omega) only [Em0, h1, k1, h2, h3, EVT, EVM, EVC, EVP, ↓reduceIte, EV, Nat.reduceAdd, Nat.reduceEqDiff, Int.reduceToNat, reduceCtorEq]
    ·rw [if_neg (by simp [h1, hu, h2, h3])]
     have hmt : (more.toNat : Int) = more := by omega
     by_cases h4 : (lbl q.name).length ≤ (lbl zone).length + 1 + more.toNat
     ·rw [if_pos h4]
      have h5 : ((lbl q.name).length : Int) ≤ ((lbl zone).length : Int) + 1 + more := by omega
      simp (disch := omega) only [Em0, h1, k1, k2, k3, h2, h3, h5, EVT, EVM, EVC, EVP, ↓reduceIte, EV, Nat.reduceAdd, Nat.reduceEqDiff, Int.reduceToNat, reduceCtorEq]
     ·rw [if_neg h4]
      have h5 : ¬ ((lbl q.name).length : Int) ≤ ((lbl zone).length : Int) + 1 + more := by omega
      have k4 := Gz5 q.name (Aw4.1 hu).1 ((lbl zone).length + 1 + more.toNat) (by omega)
      have e : (((lbl zone).length + 1 + more.toNat : Nat) : Int) = ((lbl zone).length : Int) + 1 + more := by omega
      rw [e] at k4
      generalize jn ((lbl q.name).drop ((lbl q.name).length - ((lbl zone).length + 1 + more.toNat))) = r at *
      simp (disch := omega) only [Em0, h1, k1, k2, k3, k4, h2, h3, h5, EVT, EVM, EVC, EVP, ↓reduceIte, EV, Nat.reduceAdd, Nat.reduceEqDiff, Int.reduceToNat, reduceCtorEq]
  ·rw [hu] at k1
   rw [if_pos (.inl (by simp [hu]))]
   simp (disch := omega) only [Em0, h1, k1, EVT, EVM, EVC, EVP, ↓reduceIte, EV, Nat.reduceAdd, Nat.reduceEqDiff, Int.reduceToNat, reduceCtorEq]
theorem Fl4 (t : Tk) (a : Adr) {k : Nat} (h : TOk t k) : S Gx2 2 [t.pv, a.pv] = some [(Al9 t a).1.pv, (Al9 t a).2.1.pv, .b (Al9 t a).2.2] := by
 refine Lb9 (N := 1) rfl ?_
 have hs := h.small
 have ht := h.tried
 have ha := h.addrs
 have s0 := h.sent0
 have s1 := h.sent1
 have k1 := Bw9 t.addrs a (by omega)
 have k2 := Bw9 t.tried a (by omega)
 have k3 := Bt7 t
 have m0 := h.more0
 have m1 := h.more1
 have k4 := Gv3 (ownT t) t.zone t.more ⟨h.name, h.q.typ⟩ h.zone ⟨by omega, by omega⟩
 unfold Al9
 by_cases c0 : t.state = 0
 ·by_cases c1 : a ∈ t.addrs
  ·by_cases c2 : a ∈ t.tried
   ·rw [if_pos (.inr (.inr c2))]
    simp (disch := omega) only [Ff5, c0, c1, c2, k1, k2, zMsg, EVT, EVM, EVC, EVP, ↓reduceIte, EV, Nat.reduceAdd, Nat.reduceEqDiff, Int.reduceToNat, reduceCtorEq]
   ·rw [if_neg (by simp [c0, c1, c2])]
    by_cases c3 : 64 ≤ t.sent
    ·rw [if_pos c3]
     simp (disch := omega) only [Ff5, c0, c1, c2, c3, k1, k2, zMsg, EVT, EVM, EVC, EVP, ↓reduceIte, EV, Nat.reduceAdd, Nat.reduceEqDiff, Int.reduceToNat, reduceCtorEq]
    ·rw [if_neg c3]
     generalize nextQ (ownT t) t.zone t.more = nq at *
     obtain ⟨nq, nb⟩ := nq
     simp (disch := omega) only [Ff5, c0, c1, c2, c3, k1, k2, k3, k4, zMsg, EVT, EVM, EVC, EVP, ↓reduceIte, EV, Nat.reduceAdd, Nat.reduceEqDiff, Int.reduceToNat, reduceCtorEq]
  ·rw [if_pos (.inr (.inl c1))]
   simp (disch := omega) only [Ff5, c0, c1, k1, zMsg, EVT, EVM, EVC, EVP, ↓reduceIte, EV, Nat.reduceAdd, Nat.reduceEqDiff, Int.reduceToNat, reduceCtorEq]
 ·rw [if_pos (.inl c0)]
  simp (disch := omega) only [Ff5, c0, zMsg, EVT, EVM, EVC, EVP, ↓reduceIte, EV, Nat.reduceAdd, Nat.reduceEqDiff, Int.reduceToNat, reduceCtorEq]
end Go.X.G
