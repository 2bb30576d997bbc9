/- The program's data out of the readings. -/
import Derived.Test.YtbjmmfaolmclfaaGreatDoorIteratePlaysG8

set_option maxHeartbeats 1000000
set_option linter.unusedVariables false
set_option linter.unusedSimpArgs false
namespace Go.X
open Go
def Kv5 : Sh := .st [.st [.b, .i .u64, .i .u64], .s, .s, .s, .i .i64, .i .i64, .i .i64, .i .i64, .i .i64, .i .i64, .i .u64]
def By7 : Sh := .st [.s, .i .i64, .i .i64, Kv5]
def Cz7 : Sh := .l By7
theorem Aj9 {f : Sh} {fs : List Sh} {cs : List PV} (h : Sh.okCs (f :: fs) cs) : ∃ a b, cs = a ++ b ∧ f.okC a ∧ Sh.okCs fs b := by simpa only [Sh.okCs] using h
theorem Ab5 {cs : List PV} (h : Sh.okCs [] cs) : cs = [] := by simpa only [Sh.okCs] using h
theorem At6 {fs : List Sh} {cs : List PV} (h : (Sh.st fs).okC cs) : Sh.okCs fs cs := by simpa only [Sh.okC] using h
theorem Cc1 {cs : List PV} (h : Sh.s.okC cs) : ∃ x, cs = [.s x] ∧ strr x := by
 simp only [Sh.okC] at h
 exact h
theorem Bw0 {cs : List PV} (h : Sh.b.okC cs) : ∃ x, cs = [.b x] := by simpa only [Sh.okC] using h
theorem Ay0 {cs : List PV} (h : (Sh.i .i64).okC cs) : ∃ x, cs = [.i .i64 x] ∧ i64r x := by
 simp only [Sh.okC] at h
 exact h
theorem Bv9 {cs : List PV} (h : (Sh.i .u64).okC cs) : ∃ x, cs = [.i .u64 x] ∧ u64r x := by
 simp only [Sh.okC] at h
 exact h
theorem Kg4 {cs : List PV} (h : Kv5.okC cs) : ∃ d : Dat, d.wf ∧ cs = d.cells := by
 obtain ⟨c0, r0, rfl, h0, h⟩ := Aj9 (At6 h)
 obtain ⟨a1, r1, rfl, h1, h⟩ := Aj9 h
 obtain ⟨a2, r2, rfl, h2, h⟩ := Aj9 h
 obtain ⟨a3, r3, rfl, h3, h⟩ := Aj9 h
 obtain ⟨a4, r4, rfl, h4, h⟩ := Aj9 h
 obtain ⟨a5, r5, rfl, h5, h⟩ := Aj9 h
 obtain ⟨a6, r6, rfl, h6, h⟩ := Aj9 h
 obtain ⟨a7, r7, rfl, h7, h⟩ := Aj9 h
 obtain ⟨a8, r8, rfl, h8, h⟩ := Aj9 h
 obtain ⟨a9, r9, rfl, h9, h⟩ := Aj9 h
 obtain ⟨a10, r10, rfl, h10, h⟩ := Aj9 h
 obtain rfl := Ab5 h
 obtain ⟨b0, s0, rfl, g0, g⟩ := Aj9 (At6 h0)
 obtain ⟨b1, s1, rfl, g1, g⟩ := Aj9 g
 obtain ⟨b2, s2, rfl, g2, g⟩ := Aj9 g
 obtain rfl := Ab5 g
 obtain ⟨v6, rfl⟩ := Bw0 g0
 obtain ⟨hi, rfl, k1⟩ := Bv9 g1
 obtain ⟨lo, rfl, k2⟩ := Bv9 g2
 obtain ⟨x1, rfl, k3⟩ := Cc1 h1
 obtain ⟨x2, rfl, k4⟩ := Cc1 h2
 obtain ⟨x3, rfl, k5⟩ := Cc1 h3
 obtain ⟨x4, rfl, k6⟩ := Ay0 h4
 obtain ⟨x5, rfl, k7⟩ := Ay0 h5
 obtain ⟨x6, rfl, k8⟩ := Ay0 h6
 obtain ⟨x7, rfl, k9⟩ := Ay0 h7
 obtain ⟨x8, rfl, k10⟩ := Ay0 h8
 obtain ⟨x9, rfl, k11⟩ := Ay0 h9
 obtain ⟨x10, rfl, k12⟩ := Bv9 h10
 exact ⟨⟨v6, hi, lo, x1, x2, x3, x4, x5, x6, x7, x8, x9, x10⟩, ⟨k1, k2, k3, k4, k5, k6, k7, k8, k9, k10, k11, k12⟩, rfl⟩
theorem Kg2 {cs : List PV} (h : By7.okC cs) : ∃ r : Rec, r.wf ∧ cs = r.cells := by
 obtain ⟨a0, r0, rfl, h0, h⟩ := Aj9 (At6 h)
 obtain ⟨a1, r1, rfl, h1, h⟩ := Aj9 h
 obtain ⟨a2, r2, rfl, h2, h⟩ := Aj9 h
 obtain ⟨a3, r3, rfl, h3, h⟩ := Aj9 h
 obtain rfl := Ab5 h
 obtain ⟨x0, rfl, k0⟩ := Cc1 h0
 obtain ⟨x1, rfl, k1⟩ := Ay0 h1
 obtain ⟨x2, rfl, k2⟩ := Ay0 h2
 obtain ⟨d, k3, rfl⟩ := Kg4 h3
 exact ⟨⟨x0, x1, x2, d⟩, ⟨k0, k1, k2, k3⟩, by simp [Rec.cells]⟩
theorem Cs7 {cs : List PV} (h : Cz7.okC cs) : ∃ l : List Rec, Cs0 l ∧ cs = [Aj2 l] := by
 have h' : ∃ xs, cs = [.l By7.size xs] ∧ xs.length ≤ maxLen ∧ ∀ x, x ∈ xs → if By7.agg then ∃ ds, x = .a ds ∧ By7.okC ds else x.scal = true ∧ By7.okC [x] := by
  unfold Cz7 at h
  simpa only [Sh.okC] using h
 obtain ⟨xs, rfl, hl, hx⟩ := h'
 have go : ∀ xs : List PV, (∀ x, x ∈ xs → if By7.agg then ∃ ds, x = .a ds ∧ By7.okC ds else x.scal = true ∧ By7.okC [x]) → ∃ l : List Rec, (∀ r ∈ l, r.wf) ∧ xs = l.map Rec.pv := by
  intro xs
  induction xs with
  | nil => exact fun _ => ⟨[], fun r h => (by cases h), rfl⟩
  | cons x xs ih =>
    intro hx
    obtain ⟨l, h1, rfl⟩ := ih (fun y hy => hx y (List.mem_cons_of_mem _ hy))
    have := hx x (List.mem_cons_self ..)
    obtain ⟨ds, rfl, hd⟩ : ∃ ds, x = .a ds ∧ By7.okC ds := this
    obtain ⟨r, hr, rfl⟩ := Kg2 hd
    refine ⟨r :: l, fun y hy => ?_, rfl⟩
    rcases List.mem_cons.1 hy with rfl | hy
    ·exact hr
    ·exact h1 y hy
 obtain ⟨l, h1, rfl⟩ := go xs hx
 exact ⟨l, ⟨by simpa [maxLen] using hl, h1⟩, rfl⟩
theorem Ef8 {h0 : Sh} {hs : List Sh} : ∀ {qs : List PV}, Oks (h0 :: hs) qs → ∃ p q, qs = p :: q ∧ h0.ok p ∧ Oks hs q
 | [], h => by cases h
 | p :: q, h => ⟨p, q, rfl, h.1, h.2⟩
theorem Jy0 : ∀ {qs : List PV}, Oks [] qs → qs = []
 | [], _ => rfl
 | _ :: _, h => by cases h
end Go.X
