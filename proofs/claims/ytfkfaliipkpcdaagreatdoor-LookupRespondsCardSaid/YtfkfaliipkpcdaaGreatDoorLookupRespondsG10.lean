/- The program's data out of the readings. -/
import Derived.Test.YtfkfaliipkpcdaaGreatDoorLookupRespondsG8

set_option maxHeartbeats 1000000
set_option linter.unusedVariables false
set_option linter.unusedSimpArgs false
namespace Go.X
open Go
def Lm8 : Sh := .st [.st [.b, .i .u64, .i .u64], .s, .s, .s, .i .i64, .i .i64, .i .i64, .i .i64, .i .i64, .i .i64, .i .u64]
def Bl6 : Sh := .st [.s, .i .i64, .i .i64, Lm8]
def Bt5 : Sh := .l Bl6
def Dz4 : Sh := .st [.s, Bt5]
theorem Ak0 {f : Sh} {fs : List Sh} {cs : List PV} (h : Sh.okCs (f :: fs) cs) : ∃ a b, cs = a ++ b ∧ f.okC a ∧ Sh.okCs fs b := by simpa only [Sh.okCs] using h
theorem Ap0 {cs : List PV} (h : Sh.okCs [] cs) : cs = [] := by simpa only [Sh.okCs] using h
theorem Cj3 {fs : List Sh} {cs : List PV} (h : (Sh.st fs).okC cs) : Sh.okCs fs cs := by simpa only [Sh.okC] using h
theorem Gd1 {cs : List PV} (h : Sh.s.okC cs) : ∃ x, cs = [.s x] ∧ strr x := by
 simp only [Sh.okC] at h
 exact h
theorem Cy2 {cs : List PV} (h : Sh.b.okC cs) : ∃ x, cs = [.b x] := by simpa only [Sh.okC] using h
theorem Ay7 {cs : List PV} (h : (Sh.i .i64).okC cs) : ∃ x, cs = [.i .i64 x] ∧ i64r x := by
 simp only [Sh.okC] at h
 exact h
theorem Ds5 {cs : List PV} (h : (Sh.i .u64).okC cs) : ∃ x, cs = [.i .u64 x] ∧ u64r x := by
 simp only [Sh.okC] at h
 exact h
theorem Mv0 {cs : List PV} (h : Lm8.okC cs) : ∃ d : Dat, d.wf ∧ cs = d.cells := by
 obtain ⟨c0, r0, rfl, h0, h⟩ := Ak0 (Cj3 h)
 obtain ⟨a1, r1, rfl, h1, h⟩ := Ak0 h
 obtain ⟨a2, r2, rfl, h2, h⟩ := Ak0 h
 obtain ⟨a3, r3, rfl, h3, h⟩ := Ak0 h
 obtain ⟨a4, r4, rfl, h4, h⟩ := Ak0 h
 obtain ⟨a5, r5, rfl, h5, h⟩ := Ak0 h
 obtain ⟨a6, r6, rfl, h6, h⟩ := Ak0 h
 obtain ⟨a7, r7, rfl, h7, h⟩ := Ak0 h
 obtain ⟨a8, r8, rfl, h8, h⟩ := Ak0 h
 obtain ⟨a9, r9, rfl, h9, h⟩ := Ak0 h
 obtain ⟨a10, r10, rfl, h10, h⟩ := Ak0 h
 obtain rfl := Ap0 h
 obtain ⟨b0, s0, rfl, g0, g⟩ := Ak0 (Cj3 h0)
 obtain ⟨b1, s1, rfl, g1, g⟩ := Ak0 g
 obtain ⟨b2, s2, rfl, g2, g⟩ := Ak0 g
 obtain rfl := Ap0 g
 obtain ⟨v6, rfl⟩ := Cy2 g0
 obtain ⟨hi, rfl, k1⟩ := Ds5 g1
 obtain ⟨lo, rfl, k2⟩ := Ds5 g2
 obtain ⟨x1, rfl, k3⟩ := Gd1 h1
 obtain ⟨x2, rfl, k4⟩ := Gd1 h2
 obtain ⟨x3, rfl, k5⟩ := Gd1 h3
 obtain ⟨x4, rfl, k6⟩ := Ay7 h4
 obtain ⟨x5, rfl, k7⟩ := Ay7 h5
 obtain ⟨x6, rfl, k8⟩ := Ay7 h6
 obtain ⟨x7, rfl, k9⟩ := Ay7 h7
 obtain ⟨x8, rfl, k10⟩ := Ay7 h8
 obtain ⟨x9, rfl, k11⟩ := Ay7 h9
 obtain ⟨x10, rfl, k12⟩ := Ds5 h10
 exact ⟨⟨v6, hi, lo, x1, x2, x3, x4, x5, x6, x7, x8, x9, x10⟩, ⟨k1, k2, k3, k4, k5, k6, k7, k8, k9, k10, k11, k12⟩, rfl⟩
theorem Mq9 {cs : List PV} (h : Bl6.okC cs) : ∃ r : Rec, r.wf ∧ cs = r.cells := by
 obtain ⟨a0, r0, rfl, h0, h⟩ := Ak0 (Cj3 h)
 obtain ⟨a1, r1, rfl, h1, h⟩ := Ak0 h
 obtain ⟨a2, r2, rfl, h2, h⟩ := Ak0 h
 obtain ⟨a3, r3, rfl, h3, h⟩ := Ak0 h
 obtain rfl := Ap0 h
 obtain ⟨x0, rfl, k0⟩ := Gd1 h0
 obtain ⟨x1, rfl, k1⟩ := Ay7 h1
 obtain ⟨x2, rfl, k2⟩ := Ay7 h2
 obtain ⟨d, k3, rfl⟩ := Mv0 h3
 exact ⟨⟨x0, x1, x2, d⟩, ⟨k0, k1, k2, k3⟩, by simp [Rec.cells]⟩
theorem Cy0 {cs : List PV} (h : Bt5.okC cs) : ∃ l : List Rec, Gs7 l ∧ cs = [Aj1 l] := by
 have h' : ∃ xs, cs = [.l Bl6.size xs] ∧ xs.length ≤ maxLen ∧ ∀ x, x ∈ xs → if Bl6.agg then ∃ ds, x = .a ds ∧ Bl6.okC ds else x.scal = true ∧ Bl6.okC [x] := by
  unfold Bt5 at h
  simpa only [Sh.okC] using h
 obtain ⟨xs, rfl, hl, hx⟩ := h'
 have go : ∀ xs : List PV, (∀ x, x ∈ xs → if Bl6.agg then ∃ ds, x = .a ds ∧ Bl6.okC ds else x.scal = true ∧ Bl6.okC [x]) → ∃ l : List Rec, (∀ r ∈ l, r.wf) ∧ xs = l.map Rec.pv := by
  intro xs
  induction xs with
  | nil => exact fun _ => ⟨[], fun r h => (by cases h), rfl⟩
  | cons x xs ih =>
    intro hx
    obtain ⟨l, h1, rfl⟩ := ih (fun y hy => hx y (List.mem_cons_of_mem _ hy))
    have := hx x (List.mem_cons_self ..)
    obtain ⟨ds, rfl, hd⟩ : ∃ ds, x = .a ds ∧ Bl6.okC ds := this
    obtain ⟨r, hr, rfl⟩ := Mq9 hd
    refine ⟨r :: l, fun y hy => ?_, rfl⟩
    rcases List.mem_cons.1 hy with rfl | hy
    ·exact hr
    ·exact h1 y hy
 obtain ⟨l, h1, rfl⟩ := go xs hx
 exact ⟨l, ⟨by simpa [maxLen] using hl, h1⟩, rfl⟩
theorem Lj8 {p : PV} (h : Dz4.ok p) : ∃ z : Zone, z.wf ∧ p = z.pv := by
 obtain ⟨ds, rfl, h⟩ : ∃ ds, p = .a ds ∧ Dz4.okC ds := h
 obtain ⟨a0, r0, rfl, h0, h⟩ := Ak0 (Cj3 h)
 obtain ⟨a1, r1, rfl, h1, h⟩ := Ak0 h
 obtain rfl := Ap0 h
 obtain ⟨x0, rfl, k0⟩ := Gd1 h0
 obtain ⟨l, k1, rfl⟩ := Cy0 h1
 exact ⟨⟨x0, l⟩, ⟨k0, k1⟩, rfl⟩
theorem Kv7 {p : PV} (h : Dz4.ok p) : ∃ z : Zone, z.wf ∧ p = z.pv := Lj8 h
theorem Fh7 {h0 : Sh} {hs : List Sh} : ∀ {qs : List PV}, Oks (h0 :: hs) qs → ∃ p q, qs = p :: q ∧ h0.ok p ∧ Oks hs q
 | [], h => by cases h
 | p :: q, h => ⟨p, q, rfl, h.1, h.2⟩
theorem Lj7 : ∀ {qs : List PV}, Oks [] qs → qs = []
 | [], _ => rfl
 | _ :: _, h => by cases h
end Go.X
