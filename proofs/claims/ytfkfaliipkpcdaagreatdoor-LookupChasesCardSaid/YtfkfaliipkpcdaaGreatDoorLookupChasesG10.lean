/- The program's data out of the readings. -/
import Derived.Test.YtfkfaliipkpcdaaGreatDoorLookupChasesG8

set_option maxHeartbeats 1000000
set_option linter.unusedVariables false
set_option linter.unusedSimpArgs false
namespace Go.X
open Go
def shDat : Sh := .st [.st [.b, .i .u64, .i .u64], .s, .s, .s, .i .i64, .i .i64, .i .i64, .i .i64, .i .i64, .i .i64, .i .u64]
def Ek6 : Sh := .st [.s, .i .i64, .i .i64, shDat]
def Qx1 : Sh := .l Ek6
def Iv7 : Sh := .st [.s, Qx1]
theorem Ak4 {f : Sh} {fs : List Sh} {cs : List PV} (h : Sh.okCs (f :: fs) cs) : ∃ a b, cs = a ++ b ∧ f.okC a ∧ Sh.okCs fs b := by simpa only [Sh.okCs] using h
theorem Cw6 {cs : List PV} (h : Sh.okCs [] cs) : cs = [] := by simpa only [Sh.okCs] using h
theorem Ix4 {fs : List Sh} {cs : List PV} (h : (Sh.st fs).okC cs) : Sh.okCs fs cs := by simpa only [Sh.okC] using h
theorem Px3 {cs : List PV} (h : Sh.s.okC cs) : ∃ x, cs = [.s x] ∧ strr x := by
 simp only [Sh.okC] at h
 exact h
theorem okC_b {cs : List PV} (h : Sh.b.okC cs) : ∃ x, cs = [.b x] := by simpa only [Sh.okC] using h
theorem Bw1 {cs : List PV} (h : (Sh.i .i64).okC cs) : ∃ x, cs = [.i .i64 x] ∧ i64r x := by
 simp only [Sh.okC] at h
 exact h
theorem Jy7 {cs : List PV} (h : (Sh.i .u64).okC cs) : ∃ x, cs = [.i .u64 x] ∧ u64r x := by
 simp only [Sh.okC] at h
 exact h
theorem ok_dat {cs : List PV} (h : shDat.okC cs) : ∃ d : Dat, d.wf ∧ cs = d.cells := by
 obtain ⟨c0, r0, rfl, h0, h⟩ := Ak4 (Ix4 h)
 obtain ⟨a1, r1, rfl, h1, h⟩ := Ak4 h
 obtain ⟨a2, r2, rfl, h2, h⟩ := Ak4 h
 obtain ⟨a3, r3, rfl, h3, h⟩ := Ak4 h
 obtain ⟨a4, r4, rfl, h4, h⟩ := Ak4 h
 obtain ⟨a5, r5, rfl, h5, h⟩ := Ak4 h
 obtain ⟨a6, r6, rfl, h6, h⟩ := Ak4 h
 obtain ⟨a7, r7, rfl, h7, h⟩ := Ak4 h
 obtain ⟨a8, r8, rfl, h8, h⟩ := Ak4 h
 obtain ⟨a9, r9, rfl, h9, h⟩ := Ak4 h
 obtain ⟨a10, r10, rfl, h10, h⟩ := Ak4 h
 obtain rfl := Cw6 h
 obtain ⟨b0, s0, rfl, g0, g⟩ := Ak4 (Ix4 h0)
 obtain ⟨b1, s1, rfl, g1, g⟩ := Ak4 g
 obtain ⟨b2, s2, rfl, g2, g⟩ := Ak4 g
 obtain rfl := Cw6 g
 obtain ⟨v6, rfl⟩ := okC_b g0
 obtain ⟨hi, rfl, k1⟩ := Jy7 g1
 obtain ⟨lo, rfl, k2⟩ := Jy7 g2
 obtain ⟨x1, rfl, k3⟩ := Px3 h1
 obtain ⟨x2, rfl, k4⟩ := Px3 h2
 obtain ⟨x3, rfl, k5⟩ := Px3 h3
 obtain ⟨x4, rfl, k6⟩ := Bw1 h4
 obtain ⟨x5, rfl, k7⟩ := Bw1 h5
 obtain ⟨x6, rfl, k8⟩ := Bw1 h6
 obtain ⟨x7, rfl, k9⟩ := Bw1 h7
 obtain ⟨x8, rfl, k10⟩ := Bw1 h8
 obtain ⟨x9, rfl, k11⟩ := Bw1 h9
 obtain ⟨x10, rfl, k12⟩ := Jy7 h10
 exact ⟨⟨v6, hi, lo, x1, x2, x3, x4, x5, x6, x7, x8, x9, x10⟩, ⟨k1, k2, k3, k4, k5, k6, k7, k8, k9, k10, k11, k12⟩, rfl⟩
theorem ok_rec {cs : List PV} (h : Ek6.okC cs) : ∃ r : Rec, r.wf ∧ cs = r.cells := by
 obtain ⟨a0, r0, rfl, h0, h⟩ := Ak4 (Ix4 h)
 obtain ⟨a1, r1, rfl, h1, h⟩ := Ak4 h
 obtain ⟨a2, r2, rfl, h2, h⟩ := Ak4 h
 obtain ⟨a3, r3, rfl, h3, h⟩ := Ak4 h
 obtain rfl := Cw6 h
 obtain ⟨x0, rfl, k0⟩ := Px3 h0
 obtain ⟨x1, rfl, k1⟩ := Bw1 h1
 obtain ⟨x2, rfl, k2⟩ := Bw1 h2
 obtain ⟨d, k3, rfl⟩ := ok_dat h3
 exact ⟨⟨x0, x1, x2, d⟩, ⟨k0, k1, k2, k3⟩, by simp [Rec.cells]⟩
theorem ok_recs {cs : List PV} (h : Qx1.okC cs) : ∃ l : List Rec, Qy5 l ∧ cs = [Aj2 l] := by
 have h' : ∃ xs, cs = [.l Ek6.size xs] ∧ xs.length ≤ maxLen ∧ ∀ x, x ∈ xs → if Ek6.agg then ∃ ds, x = .a ds ∧ Ek6.okC ds else x.scal = true ∧ Ek6.okC [x] := by
  unfold Qx1 at h
  simpa only [Sh.okC] using h
 obtain ⟨xs, rfl, hl, hx⟩ := h'
 have go : ∀ xs : List PV, (∀ x, x ∈ xs → if Ek6.agg then ∃ ds, x = .a ds ∧ Ek6.okC ds else x.scal = true ∧ Ek6.okC [x]) → ∃ l : List Rec, (∀ r ∈ l, r.wf) ∧ xs = l.map Rec.pv := by
  intro xs
  induction xs with
  | nil => exact fun _ => ⟨[], fun r h => (by cases h), rfl⟩
  | cons x xs ih =>
    intro hx
    obtain ⟨l, h1, rfl⟩ := ih (fun y hy => hx y (List.mem_cons_of_mem _ hy))
    have := hx x (List.mem_cons_self ..)
    obtain ⟨ds, rfl, hd⟩ : ∃ ds, x = .a ds ∧ Ek6.okC ds := this
    obtain ⟨r, hr, rfl⟩ := ok_rec hd
    refine ⟨r :: l, fun y hy => ?_, rfl⟩
    rcases List.mem_cons.1 hy with rfl | hy
    ·exact hr
    ·exact h1 y hy
 obtain ⟨l, h1, rfl⟩ := go xs hx
 exact ⟨l, ⟨by simpa [maxLen] using hl, h1⟩, rfl⟩
theorem ok_zone {p : PV} (h : Iv7.ok p) : ∃ z : Zone, z.wf ∧ p = z.pv := by
 obtain ⟨ds, rfl, h⟩ : ∃ ds, p = .a ds ∧ Iv7.okC ds := h
 obtain ⟨a0, r0, rfl, h0, h⟩ := Ak4 (Ix4 h)
 obtain ⟨a1, r1, rfl, h1, h⟩ := Ak4 h
 obtain rfl := Cw6 h
 obtain ⟨x0, rfl, k0⟩ := Px3 h0
 obtain ⟨l, k1, rfl⟩ := ok_recs h1
 exact ⟨⟨x0, l⟩, ⟨k0, k1⟩, rfl⟩
theorem Yq2 {p : PV} (h : Iv7.ok p) : ∃ z : Zone, z.wf ∧ p = z.pv := ok_zone h
theorem Nx2 {h0 : Sh} {hs : List Sh} : ∀ {qs : List PV}, Oks (h0 :: hs) qs → ∃ p q, qs = p :: q ∧ h0.ok p ∧ Oks hs q
 | [], h => by cases h
 | p :: q, h => ⟨p, q, rfl, h.1, h.2⟩
theorem oks_nil : ∀ {qs : List PV}, Oks [] qs → qs = []
 | [], _ => rfl
 | _ :: _, h => by cases h
end Go.X
