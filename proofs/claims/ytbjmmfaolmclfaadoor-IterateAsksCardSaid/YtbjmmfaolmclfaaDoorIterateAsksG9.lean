/- The program's data out of the readings. -/
import Derived.Test.YtbjmmfaolmclfaaDoorIterateAsksG7

set_option maxHeartbeats 1000000
set_option linter.unusedVariables false
set_option linter.unusedSimpArgs false
namespace Go.X
open Go
def shDat : Sh := .st [.st [.b, .i .u64, .i .u64], .s, .s, .s, .i .i64, .i .i64, .i .i64, .i .i64, .i .i64, .i .i64, .i .u64]
def shRec : Sh := .st [.s, .i .i64, .i .i64, shDat]
def shRecs : Sh := .l shRec
def shZone : Sh := .st [.s, shRecs]
theorem i64_rng {n : Int} (h1 : IntKind.i64.min ≤ n) (h2 : n ≤ IntKind.i64.max) : i64r n := ⟨h1, h2⟩
theorem u64_rng {n : Int} (h1 : IntKind.u64.min ≤ n) (h2 : n ≤ IntKind.u64.max) : u64r n := ⟨h1, h2⟩
theorem okCs_cons {f : Sh} {fs : List Sh} {cs : List PV} (h : Sh.okCs (f :: fs) cs) : ∃ a b, cs = a ++ b ∧ f.okC a ∧ Sh.okCs fs b := by simpa only [Sh.okCs] using h
theorem okCs_nil {cs : List PV} (h : Sh.okCs [] cs) : cs = [] := by simpa only [Sh.okCs] using h
theorem okC_st {fs : List Sh} {cs : List PV} (h : (Sh.st fs).okC cs) : Sh.okCs fs cs := by simpa only [Sh.okC] using h
theorem okC_s {cs : List PV} (h : Sh.s.okC cs) : ∃ x, cs = [.s x] ∧ strr x := by
  simp only [Sh.okC] at h
  exact h
theorem okC_b {cs : List PV} (h : Sh.b.okC cs) : ∃ x, cs = [.b x] := by simpa only [Sh.okC] using h
theorem okC_i64 {cs : List PV} (h : (Sh.i .i64).okC cs) : ∃ x, cs = [.i .i64 x] ∧ i64r x := by
  simp only [Sh.okC] at h
  exact h
theorem okC_u64 {cs : List PV} (h : (Sh.i .u64).okC cs) : ∃ x, cs = [.i .u64 x] ∧ u64r x := by
  simp only [Sh.okC] at h
  exact h
theorem ok_dat {cs : List PV} (h : shDat.okC cs) : ∃ d : Dat, d.wf ∧ cs = d.cells := by
  obtain ⟨c0, r0, rfl, h0, h⟩ := okCs_cons (okC_st h)
  obtain ⟨a1, r1, rfl, h1, h⟩ := okCs_cons h
  obtain ⟨a2, r2, rfl, h2, h⟩ := okCs_cons h
  obtain ⟨a3, r3, rfl, h3, h⟩ := okCs_cons h
  obtain ⟨a4, r4, rfl, h4, h⟩ := okCs_cons h
  obtain ⟨a5, r5, rfl, h5, h⟩ := okCs_cons h
  obtain ⟨a6, r6, rfl, h6, h⟩ := okCs_cons h
  obtain ⟨a7, r7, rfl, h7, h⟩ := okCs_cons h
  obtain ⟨a8, r8, rfl, h8, h⟩ := okCs_cons h
  obtain ⟨a9, r9, rfl, h9, h⟩ := okCs_cons h
  obtain ⟨a10, r10, rfl, h10, h⟩ := okCs_cons h
  obtain rfl := okCs_nil h
  obtain ⟨b0, s0, rfl, g0, g⟩ := okCs_cons (okC_st h0)
  obtain ⟨b1, s1, rfl, g1, g⟩ := okCs_cons g
  obtain ⟨b2, s2, rfl, g2, g⟩ := okCs_cons g
  obtain rfl := okCs_nil g
  obtain ⟨v6, rfl⟩ := okC_b g0
  obtain ⟨hi, rfl, k1⟩ := okC_u64 g1
  obtain ⟨lo, rfl, k2⟩ := okC_u64 g2
  obtain ⟨x1, rfl, k3⟩ := okC_s h1
  obtain ⟨x2, rfl, k4⟩ := okC_s h2
  obtain ⟨x3, rfl, k5⟩ := okC_s h3
  obtain ⟨x4, rfl, k6⟩ := okC_i64 h4
  obtain ⟨x5, rfl, k7⟩ := okC_i64 h5
  obtain ⟨x6, rfl, k8⟩ := okC_i64 h6
  obtain ⟨x7, rfl, k9⟩ := okC_i64 h7
  obtain ⟨x8, rfl, k10⟩ := okC_i64 h8
  obtain ⟨x9, rfl, k11⟩ := okC_i64 h9
  obtain ⟨x10, rfl, k12⟩ := okC_u64 h10
  exact ⟨⟨v6, hi, lo, x1, x2, x3, x4, x5, x6, x7, x8, x9, x10⟩, ⟨k1, k2, k3, k4, k5, k6, k7, k8, k9, k10, k11, k12⟩, rfl⟩
theorem ok_rec {cs : List PV} (h : shRec.okC cs) : ∃ r : Rec, r.wf ∧ cs = r.cells := by
  obtain ⟨a0, r0, rfl, h0, h⟩ := okCs_cons (okC_st h)
  obtain ⟨a1, r1, rfl, h1, h⟩ := okCs_cons h
  obtain ⟨a2, r2, rfl, h2, h⟩ := okCs_cons h
  obtain ⟨a3, r3, rfl, h3, h⟩ := okCs_cons h
  obtain rfl := okCs_nil h
  obtain ⟨x0, rfl, k0⟩ := okC_s h0
  obtain ⟨x1, rfl, k1⟩ := okC_i64 h1
  obtain ⟨x2, rfl, k2⟩ := okC_i64 h2
  obtain ⟨d, k3, rfl⟩ := ok_dat h3
  exact ⟨⟨x0, x1, x2, d⟩, ⟨k0, k1, k2, k3⟩, by simp [Rec.cells]⟩
theorem ok_recs {cs : List PV} (h : shRecs.okC cs) : ∃ l : List Rec, recsr l ∧ cs = [recsPV l] := by
  have h' : ∃ xs, cs = [.l shRec.size xs] ∧ xs.length ≤ maxLen ∧ ∀ x, x ∈ xs → if shRec.agg then ∃ ds, x = .a ds ∧ shRec.okC ds else x.scal = true ∧ shRec.okC [x] := by
    unfold shRecs at h
    simpa only [Sh.okC] using h
  obtain ⟨xs, rfl, hl, hx⟩ := h'
  have go : ∀ xs : List PV, (∀ x, x ∈ xs → if shRec.agg then ∃ ds, x = .a ds ∧ shRec.okC ds else x.scal = true ∧ shRec.okC [x]) → ∃ l : List Rec, (∀ r ∈ l, r.wf) ∧ xs = l.map Rec.pv := by
    intro xs
    induction xs with
    | nil => exact fun _ => ⟨[], fun r h => (by cases h), rfl⟩
    | cons x xs ih =>
      intro hx
      obtain ⟨l, h1, rfl⟩ := ih (fun y hy => hx y (List.mem_cons_of_mem _ hy))
      have := hx x (List.mem_cons_self ..)
      obtain ⟨ds, rfl, hd⟩ : ∃ ds, x = .a ds ∧ shRec.okC ds := this
      obtain ⟨r, hr, rfl⟩ := ok_rec hd
      refine ⟨r :: l, fun y hy => ?_, rfl⟩
      rcases List.mem_cons.1 hy with rfl | hy
      · exact hr
      · exact h1 y hy
  obtain ⟨l, h1, rfl⟩ := go xs hx
  exact ⟨l, ⟨by simpa [maxLen] using hl, h1⟩, rfl⟩
theorem ok_zone {p : PV} (h : shZone.ok p) : ∃ z : Zone, z.wf ∧ p = z.pv := by
  obtain ⟨ds, rfl, h⟩ : ∃ ds, p = .a ds ∧ shZone.okC ds := h
  obtain ⟨a0, r0, rfl, h0, h⟩ := okCs_cons (okC_st h)
  obtain ⟨a1, r1, rfl, h1, h⟩ := okCs_cons h
  obtain rfl := okCs_nil h
  obtain ⟨x0, rfl, k0⟩ := okC_s h0
  obtain ⟨l, k1, rfl⟩ := ok_recs h1
  exact ⟨⟨x0, l⟩, ⟨k0, k1⟩, rfl⟩
/-! ### arguments -/
theorem okA_str {p : PV} (h : Sh.s.ok p) : ∃ x, strr x ∧ p = .s x := by
  have h' : p.scal = true ∧ Sh.s.okC [p] := h
  obtain ⟨x, hx, hs⟩ := okC_s h'.2
  injection hx with hx
  exact ⟨x, hs, hx⟩
theorem okA_i64 {p : PV} (h : (Sh.i .i64).ok p) : ∃ x, i64r x ∧ p = .i .i64 x := by
  have h' : p.scal = true ∧ (Sh.i .i64).okC [p] := h
  obtain ⟨x, hx, hs⟩ := okC_i64 h'.2
  injection hx with hx
  exact ⟨x, hs, hx⟩
theorem okA_b {p : PV} (h : Sh.b.ok p) : ∃ x, p = .b x := by
  have h' : p.scal = true ∧ Sh.b.okC [p] := h
  obtain ⟨x, hx⟩ := okC_b h'.2
  injection hx with hx
  exact ⟨x, hx⟩
theorem okA_recs {p : PV} (h : shRecs.ok p) : ∃ l, recsr l ∧ p = recsPV l := by
  have h' : p.scal = true ∧ shRecs.okC [p] := h
  obtain ⟨l, hl, hp⟩ := ok_recs h'.2
  injection hp with hp
  exact ⟨l, hl, hp⟩
theorem okA_rec {p : PV} (h : shRec.ok p) : ∃ r : Rec, r.wf ∧ p = r.pv := by
  obtain ⟨ds, rfl, h⟩ : ∃ ds, p = .a ds ∧ shRec.okC ds := h
  obtain ⟨r, hr, rfl⟩ := ok_rec h
  exact ⟨r, hr, rfl⟩
theorem okA_zone {p : PV} (h : shZone.ok p) : ∃ z : Zone, z.wf ∧ p = z.pv := ok_zone h
def shStr2 : Sh := .st [.s, .s]
theorem okA_str2 {p : PV} (h : shStr2.ok p) : ∃ q : List UInt8 × List UInt8, (strr q.1 ∧ strr q.2) ∧ p = .a [.s q.1, .s q.2] := by
  obtain ⟨ds, rfl, h⟩ : ∃ ds, p = .a ds ∧ shStr2.okC ds := h
  obtain ⟨a0, r0, rfl, h0, h⟩ := okCs_cons (okC_st h)
  obtain ⟨a1, r1, rfl, h1, h⟩ := okCs_cons h
  obtain rfl := okCs_nil h
  obtain ⟨x0, rfl, k0⟩ := okC_s h0
  obtain ⟨x1, rfl, k1⟩ := okC_s h1
  exact ⟨(x0, x1), ⟨k0, k1⟩, rfl⟩
theorem oks_cons {h0 : Sh} {hs : List Sh} : ∀ {qs : List PV}, Oks (h0 :: hs) qs → ∃ p q, qs = p :: q ∧ h0.ok p ∧ Oks hs q
  | [], h => by cases h
  | p :: q, h => ⟨p, q, rfl, h.1, h.2⟩
theorem oks_nil : ∀ {qs : List PV}, Oks [] qs → qs = []
  | [], _ => rfl
  | _ :: _, h => by cases h
end Go.X
