/- Tasks: what the reference does, third part: beginnings, supplies, referrals. -/
import Derived.Test.YtbjmmfaolmclfaaGreatDoorIteratePlaysG11
import Derived.Test.YtbjmmfaolmclfaaGreatDoorIteratePlaysG10

set_option maxHeartbeats 1000000
set_option linter.unusedVariables false
set_option linter.unusedSimpArgs false
namespace Go.X.G
open Go Go.X

theorem Cp7 (q : Ques) (zone : List UInt8) (hosts : List (List UInt8)) (addrs : List Adr) (hq : q.wf) (hz : strr zone) (hh : hosts.length ≤ 1000000) (hw : ∀ h ∈ hosts, strr h) (ha : addrs.length ≤ 1000000) :
  S n_u8 4 [q.pv, .s zone, Aj7 hosts, Aj8 addrs] = some [(startT q zone hosts addrs).1.pv, .i .i64 (startT q zone hosts addrs).2] := by
 refine s_u8 (N := addrs.length + 1) rfl ?_
 have hn := hq.name
 have k1 := Aq2 q.name zone hn hz
 have k2 := Ix2 q.typ
 have k3 := Cz4 hosts hh
 have key : ∀ p4 p5 p6, Kh0.ev S (addrs.length + 1) [q.pv, .s zone, Aj7 hosts, Aj8 addrs, p4, p5, p6] = some (.yld 0 [Aj8 ([] ++ addrs.take (16 - 0))]) := by
  intro p4 p5 p6
  refine Ak8 addrs (fun i (g : List Adr) => [.i .i64 (i : Int), Aj8 g]) (fun i g r => .yld 0 [Aj8 (g ++ r.take (16 - i))]) (fun i g => g.length ≤ i) [] (by simp (disch := omega) only [EVT, EVM, EVC, EVP, ↓reduceIte, EV, Nat.reduceAdd, Nat.reduceEqDiff, Int.reduceToNat, reduceCtorEq]) (Nat.zero_le _) (by omega) (fun i g c r hd hi hc hI => ?_) (fun g hI => ?_)
  ·by_cases h : i < 16
   ·left
    have h1 : (i : Int) < 16 := by omega
    refine ⟨g ++ [c], ?_, by simp; omega, ?_⟩
    ·simp (disch := omega) only [x_u8, hc, h1, EVT, EVM, EVC, EVP, ↓reduceIte, EV, Nat.reduceAdd, Nat.reduceEqDiff, Int.reduceToNat, reduceCtorEq]
    ·rw [show 16 - i = (16 - (i + 1)) + 1 by omega, List.take_succ_cons]; simp
   ·right
    have h1 : ¬ (i : Int) < 16 := by omega
    rw [show 16 - i = 0 by omega, List.take_zero, List.append_nil]
    refine ⟨?_, rfl⟩
    simp (disch := omega) only [x_u8, hc, h1, EVT, EVM, EVC, EVP, ↓reduceIte, EV, Nat.reduceAdd, Nat.reduceEqDiff, Int.reduceToNat, reduceCtorEq]
  ·simp (disch := omega) only [x_u8, EVT, EVM, EVC, EVP, ↓reduceIte, EV, Nat.reduceAdd, Nat.reduceEqDiff, Int.reduceToNat, reduceCtorEq]
   simp [Out.goes]
 simp only [List.nil_append, Nat.sub_zero] at key
 unfold startT
 rcases Bool.eq_false_or_eq_true (Ak4 q.name zone) with hu | hu
 ·rw [hu] at k1
  rcases Bool.eq_false_or_eq_true (knw q.typ) with hk | hk
  ·rw [hk] at k2
   have k4 := Az5 ⟨q, q.name, zone, hosts.take 16, addrs.take 16, [], 0, 0, ⟨false, 0, 0⟩, ⟨[], 0⟩, 0, [], zMsg, 0⟩ (by simp only [List.length_take]; omega) (by simp) (by simp only [List.length_take]; omega) (fun h hm => hw h (List.mem_of_mem_take hm)) hz
   simp only [hu, hk]
   unfold zMsg at k4 ⊢
   generalize hosts.take 16 = h16 at *
   generalize addrs.take 16 = a16 at *
   simp (disch := omega) only [x_u8, k1, k2, k3, key, k4, EVT, EVM, EVC, EVP, ↓reduceIte, EV, Nat.reduceAdd, Nat.reduceEqDiff, Int.reduceToNat, reduceCtorEq]
   try simp
  ·rw [hk] at k2
   by_cases h255 : q.typ = 255
   ·have k4 := Az5 ⟨q, q.name, zone, hosts.take 16, addrs.take 16, [], 0, 0, ⟨false, 0, 0⟩, ⟨[], 0⟩, 0, [], zMsg, 0⟩ (by simp only [List.length_take]; omega) (by simp) (by simp only [List.length_take]; omega) (fun h hm => hw h (List.mem_of_mem_take hm)) hz
    obtain ⟨qn, qt⟩ := q
    simp only at h255 hu hk k1 k2 k4 key hn ⊢
    subst h255
    simp only [hu, hk]
    unfold zMsg at k4 ⊢
    generalize hosts.take 16 = h16 at *
    generalize addrs.take 16 = a16 at *
    simp (disch := omega) only [x_u8, k1, k2, k3, key, k4, EVT, EVM, EVC, EVP, ↓reduceIte, EV, Nat.reduceAdd, Nat.reduceEqDiff, Int.reduceToNat, reduceCtorEq]
    try simp
   ·simp only [hu, hk, h255]
    simp (disch := omega) only [x_u8, k1, k2, h255, EVT, EVM, EVC, EVP, ↓reduceIte, EV, Nat.reduceAdd, Nat.reduceEqDiff, Int.reduceToNat, reduceCtorEq]
    try simp [zTk, zMsg]
    try rfl
 ·rw [hu] at k1
  simp only [hu]
  simp (disch := omega) only [x_u8, k1, EVT, EVM, EVC, EVP, ↓reduceIte, EV, Nat.reduceAdd, Nat.reduceEqDiff, Int.reduceToNat, reduceCtorEq]
  try simp [zTk, zMsg]
  try rfl
theorem Cp3 (t : Tk) (host : List UInt8) (addrs : List Adr) {k : Nat} (h : TOk t k) (ha : addrs.length ≤ 1000) : S Gw9 3 [t.pv, .s host, Aj8 addrs] = some [(Av3 t host addrs).pv] := by
 refine Lb6 (N := 1000) rfl ?_
 have hs := h.small
 have hh := h.hostsL
 have ht := h.tried
 have key : It7.ev S 1000 [t.pv, .s host, Aj8 addrs] = some (.yld 0 [.b (false || t.hosts.any fun x => decide (x = host)), Aj7 ([] ++ t.hosts.filter fun x => !decide (x = host))]) := by
  refine Ak8 t.hosts (fun i (g : Bool × List (List UInt8)) => [.b g.1, Aj7 g.2, .i .i64 (i : Int)]) (fun i g r => .yld 0 [.b (g.1 || r.any fun x => decide (x = host)), Aj7 (g.2 ++ r.filter fun x => !decide (x = host))]) (fun i g => g.2.length ≤ i) (false, []) (by simp (disch := omega) only [EVT, EVM, EVC, EVP, ↓reduceIte, EV, Nat.reduceAdd, Nat.reduceEqDiff, Int.reduceToNat, reduceCtorEq]) (Nat.zero_le _) (by omega) (fun i g c r hd hi hc hI => ?_) (fun g hI => ?_)
  ·left
   obtain ⟨b, g⟩ := g
   simp only at hI
   by_cases hx : c = host
   ·refine ⟨(true, g), ?_, by simp only; omega, by simp [hx]⟩
    simp (disch := omega) only [Em2, hc, hx, EVT, EVM, EVC, EVP, ↓reduceIte, EV, Nat.reduceAdd, Nat.reduceEqDiff, Int.reduceToNat, reduceCtorEq]
   ·refine ⟨(b, g ++ [c]), ?_, by simp only [List.length_append, List.length_singleton]; omega, by simp [hx]⟩
    simp (disch := omega) only [Em2, hc, hx, EVT, EVM, EVC, EVP, ↓reduceIte, EV, Nat.reduceAdd, Nat.reduceEqDiff, Int.reduceToNat, reduceCtorEq]
  ·simp (disch := omega) only [Em2, EVT, EVM, EVC, EVP, ↓reduceIte, EV, Nat.reduceAdd, Nat.reduceEqDiff, Int.reduceToNat, reduceCtorEq]
   simp [Out.goes]
 have e : (t.hosts.any fun x => decide (x = host)) = decide (host ∈ t.hosts) := by rw [Bool.eq_iff_iff]; simp
 rw [e, Bool.false_or, List.nil_append] at key
 have k1 := El8 [] addrs t.tried (by simp) (by omega) (by omega)
 rw [Ar1 t.tried addrs [] (by simp)] at k1
 have hf : (t.hosts.filter fun x => !decide (x = host)).length ≤ t.hosts.length := List.length_filter_le _ _
 have k2 := Az5 { t with hosts := t.hosts.filter (fun x => !decide (x = host)), addrs := (supA t.tried [] addrs).take 16 } (by simp only [List.length_take]; omega) (by simp only; omega) (by simp only; omega) (fun x hx => h.hosts x (List.mem_filter.1 hx).1) h.zone
 unfold Av3
 by_cases c0 : t.state = 2
 ·by_cases c1 : host ∈ t.hosts
  ·rw [if_neg (by simp [c0, c1])]
   simp only [c0] at k2 ⊢
   generalize (t.hosts.filter fun x => !decide (x = host)) = fl at *
   generalize (supA t.tried [] addrs).take 16 = sa at *
   simp (disch := omega) only [Em2, key, k1, k2, c0, c1, EVT, EVM, EVC, EVP, ↓reduceIte, EV, Nat.reduceAdd, Nat.reduceEqDiff, Int.reduceToNat, reduceCtorEq]
  ·rw [if_pos (.inr c1)]
   generalize (t.hosts.filter fun x => !decide (x = host)) = fl at *
   simp (disch := omega) only [Em2, key, c0, c1, EVT, EVM, EVC, EVP, ↓reduceIte, EV, Nat.reduceAdd, Nat.reduceEqDiff, Int.reduceToNat, reduceCtorEq]
 ·rw [if_pos (.inl c0)]
  generalize (t.hosts.filter fun x => !decide (x = host)) = fl at *
  simp (disch := omega) only [Em2, key, c0, EVT, EVM, EVC, EVP, ↓reduceIte, EV, Nat.reduceAdd, Nat.reduceEqDiff, Int.reduceToNat, reduceCtorEq]

theorem Ix7 (m : Msg) (h : List UInt8) (hm : m.wf) (hh : strr h) (hl : m.auth.length ≤ 1000000) (N : Nat) (hN : m.auth.length < N) : Gc3.ev S N [m.pv, .s h] = some (.yld 0 [.b (false || m.auth.any (gluB m h))]) := by
 refine Ak8 m.auth (fun i (b : Bool) => [.b b, .i .i64 (i : Int)]) (fun i b r => .yld 0 [.b (b || r.any (gluB m h))]) (fun _ _ => True) false (by simp (disch := omega) only [EVT, EVM, EVC, EVP, ↓reduceIte, EV, Nat.reduceAdd, Nat.reduceEqDiff, Int.reduceToNat, reduceCtorEq]) trivial hN (fun i b c r hd hi hc _ => ?_) (fun b _ => ?_)
 ·left
  refine ⟨b || gluB m h c, ?_, trivial, by simp [Bool.or_assoc]⟩
  have hcw := (hm.auth.2 c (List.mem_of_getElem? hc)).name
  have k1 := Aq2 m.q.name c.name hm.q.name hcw
  have k2 := Aq2 h c.name hh hcw
  cases b with
  | true => simp (disch := omega) only [Ab2, hc, EVT, EVM, EVC, EVP, ↓reduceIte, EV, Nat.reduceAdd, Nat.reduceEqDiff, Int.reduceToNat, reduceCtorEq]; try simp
  | false =>
    unfold gluB
    by_cases c1 : c.typ = 2
    ·by_cases c2 : c.data.host = h
     ·rcases Bool.eq_false_or_eq_true (Ak4 m.q.name c.name) with c3 | c3
      ·rcases Bool.eq_false_or_eq_true (Ak4 h c.name) with c4 | c4
       ·rw [c3] at k1
        rw [c4] at k2
        simp (disch := omega) only [Ab2, hc, c1, c2, c3, c4, k1, k2, EVT, EVM, EVC, EVP, ↓reduceIte, EV, Nat.reduceAdd, Nat.reduceEqDiff, Int.reduceToNat, reduceCtorEq]; try simp
       ·rw [c3] at k1
        rw [c4] at k2
        simp (disch := omega) only [Ab2, hc, c1, c2, c3, c4, k1, k2, EVT, EVM, EVC, EVP, ↓reduceIte, EV, Nat.reduceAdd, Nat.reduceEqDiff, Int.reduceToNat, reduceCtorEq]; try simp
      ·rw [c3] at k1
       simp (disch := omega) only [Ab2, hc, c1, c2, c3, k1, EVT, EVM, EVC, EVP, ↓reduceIte, EV, Nat.reduceAdd, Nat.reduceEqDiff, Int.reduceToNat, reduceCtorEq]; try simp
     ·simp (disch := omega) only [Ab2, hc, c1, c2, EVT, EVM, EVC, EVP, ↓reduceIte, EV, Nat.reduceAdd, Nat.reduceEqDiff, Int.reduceToNat, reduceCtorEq]; try simp
    ·simp (disch := omega) only [Ab2, hc, c1, EVT, EVM, EVC, EVP, ↓reduceIte, EV, Nat.reduceAdd, Nat.reduceEqDiff, Int.reduceToNat, reduceCtorEq]; try simp
 ·simp (disch := omega) only [Ab2, EVT, EVM, EVC, EVP, ↓reduceIte, EV, Nat.reduceAdd, Nat.reduceEqDiff, Int.reduceToNat, reduceCtorEq]
  simp [Out.goes]
theorem Cn3 (p0 p1 p2 p4 p5 : PV) (fl : List Rec) (g0 : List Adr) (N : Nat) (hN : fl.length < N) (hl : fl.length ≤ 1000000) (hg : g0.length ≤ 1000000) : Gz6.ev S N [p0, p1, p2, Aj8 g0, p4, p5, Aj2 fl] = some (.yld 2 [Aj8 (g0 ++ adrL fl)]) := by
 refine Ak8 fl (fun i (g : List Adr) => [Aj8 g, .i .i64 (i : Int)]) (fun i g r => .yld 2 [Aj8 (g ++ adrL r)]) (fun i g => g.length ≤ 1000000 + i) g0 (by simp (disch := omega) only [EVT, EVM, EVC, EVP, ↓reduceIte, EV, Nat.reduceAdd, Nat.reduceEqDiff, Int.reduceToNat, reduceCtorEq]) (by omega) hN (fun i g c r hd hi hc hI => ?_) (fun g hI => ?_)
 ·left
  refine ⟨g ++ [c.data.adr], ?_, by rw [List.length_append, List.length_singleton]; omega, by simp [adrL]⟩
  simp (disch := omega) only [Ab2, hc, EVT, EVM, EVC, EVP, ↓reduceIte, EV, Nat.reduceAdd, Nat.reduceEqDiff, Int.reduceToNat, reduceCtorEq]
 ·simp (disch := omega) only [Ab2, EVT, EVM, EVC, EVP, ↓reduceIte, EV, Nat.reduceAdd, Nat.reduceEqDiff, Int.reduceToNat, reduceCtorEq]
  simp [Out.goes, adrL]
theorem Ix6 (m : Msg) (h : List UInt8) (hm : MOk m) (hh : strr h) : S Cf2 2 [m.pv, .s h] = some [Aj8 (glueL m h)] := by
 refine Ky9 (N := 2000) rfl ?_
 have h1 := hm.auth
 have h2 := hm.ext
 have k0 := Ix7 m h hm.wf hh (by omega) 2000 (by omega)
 rw [Bool.false_or] at k0
 have f1 := Al8 m.ext h 1 (by omega)
 have f2 := Al8 m.ext h 28 (by omega)
 have n1 : (findR m.ext h 1).length ≤ m.ext.length := List.length_filter_le _ _
 have n2 : (findR m.ext h 28).length ≤ m.ext.length := List.length_filter_le _ _
 have l1 := fun p0 p1 p2 p4 p5 => Cn3 p0 p1 p2 p4 p5 (findR m.ext h 1) [] 2000 (by omega) (by omega) (by simp)
 have l2 := fun p0 p1 p2 p4 p5 => Cn3 p0 p1 p2 p4 p5 (findR m.ext h 28) (adrL (findR m.ext h 1)) 2000 (by omega) (by omega) (by rw [adrL, List.length_map]; omega)
 simp only [List.nil_append] at l1
 unfold glueL
 rcases Bool.eq_false_or_eq_true (m.auth.any (gluB m h)) with hb | hb
 ·rw [if_pos hb]
  rw [hb] at k0
  have key : Gz9.ev S 2000 [m.pv, .s h, .b true] = some (.yld 0 [Aj8 (adrL (findR m.ext h 1) ++ adrL (findR m.ext h 28))]) := by
   generalize findR m.ext h 1 = r1 at *
   generalize findR m.ext h 28 = r2 at *
   refine Bk0 2 (fun i => [Aj8 (if i = 0 then [] else if i = 1 then adrL r1 else adrL r1 ++ adrL r2), .i .i64 (i : Int)]) (fun _ => .yld 0 [Aj8 (adrL r1 ++ adrL r2)]) (by simp (disch := omega) only [EVT, EVM, EVC, EVP, ↓reduceIte, EV, Nat.reduceAdd, Nat.reduceEqDiff, Int.reduceToNat, reduceCtorEq]) (by omega) (fun i hi => ?_) ?_
   ·left
    have : i = 0 ∨ i = 1 := by omega
    rcases this with rfl | rfl
    ·refine ⟨?_, rfl⟩
     simp (disch := omega) only [Ab2, f1, l1, EVT, EVM, EVC, EVP, ↓reduceIte, EV, Nat.reduceAdd, Nat.reduceEqDiff, Int.reduceToNat, reduceCtorEq]
     try rfl
    ·refine ⟨?_, rfl⟩
     generalize adrL r1 = a1 at *
     simp (disch := omega) only [Ab2, f2, l2, EVT, EVM, EVC, EVP, ↓reduceIte, EV, Nat.reduceAdd, Nat.reduceEqDiff, Int.reduceToNat, reduceCtorEq]
     try rfl
   ·refine ⟨?_, rfl⟩
    simp (disch := omega) only [Ab2, EVT, EVM, EVC, EVP, ↓reduceIte, EV, Nat.reduceAdd, Nat.reduceEqDiff, Int.reduceToNat, reduceCtorEq]
    try rfl
  generalize adrL (findR m.ext h 1) ++ adrL (findR m.ext h 28) = al at *
  simp (disch := omega) only [Ab2, k0, key, EVT, EVM, EVC, EVP, ↓reduceIte, EV, Nat.reduceAdd, Nat.reduceEqDiff, Int.reduceToNat, reduceCtorEq]
 ·rw [if_neg (by simp [hb])]
  rw [hb] at k0
  simp (disch := omega) only [Ab2, k0, EVT, EVM, EVC, EVP, ↓reduceIte, EV, Nat.reduceAdd, Nat.reduceEqDiff, Int.reduceToNat, reduceCtorEq]

def Bn8 (m : Msg) (acc : List Adr) : List (List UInt8) → List Adr
 | [] => acc
 | h :: r => Bn8 m (addM [] acc (glueL m h)) r
theorem Iz4 (l X : List Adr) : (supA [] (X.take 16) l).take 16 = (supA [] X l).take 16 := by
 by_cases h : X.length ≤ 16
 ·rw [List.take_of_length_le h]
 ·obtain ⟨s1, h1⟩ := An4 [] l (X.take 16)
  obtain ⟨s2, h2⟩ := An4 [] l X
  have hl : (X.take 16).length = 16 := by rw [List.length_take]; omega
  rw [h1, h2, List.take_append_of_le_length (by omega), List.take_append_of_le_length (by omega), List.take_take]
  rfl
theorem Cl3 (m : Msg) : ∀ (hs : List (List UInt8)) (X : List Adr), Bn8 m (X.take 16) hs = (glues m X hs).take 16
 | [], X => rfl
 | h :: r, X => by
   unfold Bn8 glues
   rw [Ar1 [] _ _ (by rw [List.length_take]; omega), Iz4, ← Cv9]
   exact Cl3 m r _
theorem Fq1 (t : Tk) (m : Msg) {k : Nat} (h : TOk t k) (hm : MOk m) : S Gv4 2 [t.pv, m.pv] = some [(Ay6 t m).pv] := by
 refine Lx5 (N := 1000) rfl ?_
 have hi := hm.inside t.zone
 have k1 := Az9 m t.zone hm.wf h.zone hm.ans hm.auth hm.ext
 have k2 := Fd9 m t.zone hm h.zone
 unfold Cq3 at k2
 obtain ⟨c1, c2, c3⟩ := By0 (zone := t.zone) hi
 have k3 := Cz4 (childN (insideM m t.zone) t.zone).2.1 (by omega)
 have hw16 : ∀ x ∈ (childN (insideM m t.zone) t.zone).2.1.take 16, strr x := fun x hx => c2 x (List.mem_of_mem_take hx)
 have key : ∀ p1 p3 p4 p5, Is8.ev S 1000 [t.pv, p1, (insideM m t.zone).pv, p3, p4, p5, Aj7 ((childN (insideM m t.zone) t.zone).2.1.take 16)] = some (.yld 0 [Aj8 (Bn8 (insideM m t.zone) [] ((childN (insideM m t.zone) t.zone).2.1.take 16))]) := by
  intro p1 p3 p4 p5
  have hl16 : ((childN (insideM m t.zone) t.zone).2.1.take 16).length ≤ 16 := by rw [List.length_take]; omega
  generalize (childN (insideM m t.zone) t.zone).2.1.take 16 = hs at *
  generalize insideM m t.zone = im at *
  refine Ak8 hs (fun i (g : List Adr) => [.i .i64 (i : Int), Aj8 g]) (fun i g r => .yld 0 [Aj8 (Bn8 im g r)]) (fun i g => g.length ≤ 16) [] (by simp (disch := omega) only [EVT, EVM, EVC, EVP, ↓reduceIte, EV, Nat.reduceAdd, Nat.reduceEqDiff, Int.reduceToNat, reduceCtorEq]) (by simp) (by omega) (fun i g c r hd hi' hc hI => ?_) (fun g hI => ?_)
  ·left
   have g1 := Ix6 im c hi (hw16 c (List.mem_of_getElem? hc))
   have gl := Bx2 im c
   have hext := hi.ext
   have g2 := El8 g (glueL im c) [] hI (by omega) (by simp)
   have ga := In8 [] (glueL im c) g hI
   refine ⟨addM [] g (glueL im c), ?_, ga, rfl⟩
   generalize addM [] g (glueL im c) = g' at *
   generalize glueL im c = gc at *
   simp (disch := omega) only [Jk4, hc, g1, g2, EVT, EVM, EVC, EVP, ↓reduceIte, EV, Nat.reduceAdd, Nat.reduceEqDiff, Int.reduceToNat, reduceCtorEq]
  ·simp (disch := omega) only [Jk4, EVT, EVM, EVC, EVP, ↓reduceIte, EV, Nat.reduceAdd, Nat.reduceEqDiff, Int.reduceToNat, reduceCtorEq]
   simp [Out.goes, Bn8]
 have e := Cl3 (insideM m t.zone) ((childN (insideM m t.zone) t.zone).2.1.take 16) []
 rw [List.take_nil] at e
 simp only [e] at key
 have hk := h.small
 have k4 := Az5 { t with zone := (childN (insideM m t.zone) t.zone).1, hosts := (childN (insideM m t.zone) t.zone).2.1.take 16, addrs := (glues (insideM m t.zone) [] ((childN (insideM m t.zone) t.zone).2.1.take 16)).take 16, tried := [], more := 0 }
  (by simp only [List.length_take]; omega) (by simp) (by simp only [List.length_take]; omega) hw16 c1
 unfold Ay6
 generalize (glues (insideM m t.zone) [] ((childN (insideM m t.zone) t.zone).2.1.take 16)).take 16 = ga at *
 generalize childN (insideM m t.zone) t.zone = cn at *
 obtain ⟨cz, ch, cb⟩ := cn
 simp only at k2 k3 k4 key ⊢
 generalize ch.take 16 = h16 at *
 generalize insideM m t.zone = im at *
 simp (disch := omega) only [Jk4, k1, k2, k3, k4, key, EVT, EVM, EVC, EVP, ↓reduceIte, EV, Nat.reduceAdd, Nat.reduceEqDiff, Int.reduceToNat, reduceCtorEq]
end Go.X.G
/- Tasks: what the reference does, fourth part: aliases and responses. -/
namespace Go.X.G
open Go Go.X

def folA (l : List Rec) (ty : Int) (k : Nat) (n : List UInt8) : List Rec := (folC l ty k n []).2
theorem Ad9 (l : List Rec) (ty : Int) : ∀ (k : Nat) (n : List UInt8) (c : List Rec), folC l ty k n c = ((folC l ty k n []).1, c ++ (folC l ty k n []).2)
 | 0, n, c => by simp [folC]
 | k + 1, n, c => by
   unfold folC
   by_cases h : hasL l n ty = true
   ·rw [if_pos h, if_pos h]; simp
   ·rw [if_neg h, if_neg h]
    cases hf : findR l n 5 with
    | nil => simp
    | cons r rs =>
      simp only [List.nil_append]
      rw [Ad9 l ty k r.data.host (c ++ [r]), Ad9 l ty k r.data.host [r]]
      simp
theorem folC_last (l : List Rec) (ty : Int) : ∀ (k : Nat) (n : List UInt8), (folA l ty k n = [] ∧ (folC l ty k n []).1 = n) ∨ ∃ r, (folA l ty k n).getLast? = some r ∧ r.data.host = (folC l ty k n []).1
 | 0, n => .inl ⟨rfl, rfl⟩
 | k + 1, n => by
   unfold folA folC
   by_cases h : hasL l n ty = true
   ·rw [if_pos h]; exact .inl ⟨rfl, rfl⟩
   ·rw [if_neg h]
    cases hf : findR l n 5 with
    | nil => exact .inl ⟨rfl, rfl⟩
    | cons r rs =>
      right
      simp only [List.nil_append]
      rw [Ad9]
      rcases folC_last l ty k r.data.host with ⟨h1, h2⟩ | ⟨r', h1, h2⟩
      ·unfold folA at h1
       rw [h1]
       exact ⟨r, rfl, h2.symm⟩
      ·unfold folA at h1
       refine ⟨r', ?_, h2⟩
       simp only
       rw [List.getLast?_append, h1]; rfl
theorem Gg0 (l : List Rec) (ty : Int) : ∀ (k : Nat) (n : List UInt8), folA l ty k n = [] ↔ (folL l ty k n).1 = []
 | 0, n => by simp [folA, folC, folL]
 | k + 1, n => by
   unfold folA folC folL
   by_cases h : hasL l n ty = true
   ·simp [h]
   ·rw [if_neg h, if_neg h]
    cases hf : findR l n 5 with
    | nil => simp
    | cons r rs => simp only [List.nil_append]; rw [Ad9]; simp
theorem Il5 (l : List Rec) (ty : Int) (k : Nat) (n : List UInt8) : (folA l ty k n).length ≤ k := by
 have := Bk3 l ty k n []
 simpa [folA] using this
theorem Gf9 (l : List Rec) (ty : Int) (hl : ∀ r ∈ l, r.wf) : ∀ (k : Nat) (n : List UInt8), ∀ r ∈ folA l ty k n, r.wf
 | 0, n, r, hr => by simp [folA, folC] at hr
 | k + 1, n, r, hr => by
   unfold folA folC at hr
   by_cases h : hasL l n ty = true
   ·rw [if_pos h] at hr; cases hr
   ·rw [if_neg h] at hr
    cases hf : findR l n 5 with
    | nil => rw [hf] at hr; cases hr
    | cons r0 rs =>
      rw [hf] at hr
      simp only [List.nil_append] at hr
      rw [Ad9] at hr
      simp only [List.mem_append, List.mem_singleton] at hr
      rcases hr with rfl | hr
      ·exact hl r (List.mem_filter.1 (show r ∈ findR l n 5 by rw [hf]; exact .head _)).1
      ·exact Gf9 l ty hl k r0.data.host r hr
theorem Cm9 (l out : List Rec) (q : Ques) (n : List UInt8) (p4 p5 : PV) (hl : l.length ≤ 1000) : Gz8.ev S 2000 [Aj2 l, q.pv, Aj2 out, .s n, p4, p5] = some (if hasL l n q.typ = true then .ret [Aj2 out] else .yld 2 []) := by
 unfold hasL
 refine Ak2 l (fun i => [.i .i64 (i : Int)]) (fun i r => if (r.any fun r => decide (r.name = n) && (decide (r.typ = q.typ) || decide (q.typ = 255))) = true then .ret [Aj2 out] else .yld 2 []) rfl (by omega) (fun i c r hd hi hc => ?_) ?_
 ·by_cases h1 : c.name = n
  ·by_cases h2 : c.typ = q.typ
   ·right
    rw [if_pos (by simp [h1, h2])]
    refine ⟨?_, rfl⟩
    simp (disch := omega) only [Af4, hc, h1, h2, EVT, EVM, EVC, EVP, ↓reduceIte, EV, Nat.reduceAdd, Nat.reduceEqDiff, Int.reduceToNat, reduceCtorEq]
   ·by_cases h3 : q.typ = 255
    ·right
     rw [if_pos (by simp [h1, h3])]
     refine ⟨?_, rfl⟩
     have h2' : ¬ c.typ = 255 := fun e => h2 (by rw [e, h3])
     simp (disch := omega) only [Af4, hc, h1, h2', h3, EVT, EVM, EVC, EVP, ↓reduceIte, EV, Nat.reduceAdd, Nat.reduceEqDiff, Int.reduceToNat, reduceCtorEq]
    ·left
     refine ⟨?_, by simp [h2, h3]⟩
     simp (disch := omega) only [Af4, hc, h1, h2, h3, EVT, EVM, EVC, EVP, ↓reduceIte, EV, Nat.reduceAdd, Nat.reduceEqDiff, Int.reduceToNat, reduceCtorEq]
  ·left
   refine ⟨?_, by simp [h1]⟩
   simp (disch := omega) only [Af4, hc, h1, EVT, EVM, EVC, EVP, ↓reduceIte, EV, Nat.reduceAdd, Nat.reduceEqDiff, Int.reduceToNat, reduceCtorEq]
 ·rw [if_neg (by simp)]
  refine ⟨?_, rfl⟩
  simp (disch := omega) only [Af4, EVT, EVM, EVC, EVP, ↓reduceIte, EV, Nat.reduceAdd, Nat.reduceEqDiff, Int.reduceToNat, reduceCtorEq]
theorem Cm8 (l : List Rec) (q : Ques) (hl : l.length ≤ 1000) : S Cf1 2 [Aj2 l, q.pv] = some [Aj2 (folA l q.typ 8 q.name)] := by
 refine Ky8 (N := 2000) rfl ?_
 let res : Nat → List Rec → List UInt8 → Out := fun i out n => if (folA l q.typ (8 - i) n).length = 8 - i then .yld 0 [Aj2 (out ++ folA l q.typ (8 - i) n)] else .ret [Aj2 (out ++ folA l q.typ (8 - i) n)]
 have key : Gc2.ev S 2000 [Aj2 l, q.pv] = some (res 0 [] q.name) := by
  refine Aw8 (α := Nat × List Rec × List UInt8) (fun a => [Aj2 a.2.1, .s a.2.2, .i .i64 (a.1 : Int)]) (fun a => res a.1 a.2.1 a.2.2) (fun a => a.1 ≤ 8 ∧ a.2.1.length ≤ a.1) (fun a => 8 - a.1) (0, [], q.name) (by simp (disch := omega) only [EVT, EVM, EVC, EVP, ↓reduceIte, EV, Nat.reduceAdd, Nat.reduceEqDiff, Int.reduceToNat, reduceCtorEq]) ⟨by simp, by simp⟩ (by simp) ?_
  rintro ⟨i, out, n⟩ ⟨i1, i2⟩
  simp only at i1 i2 ⊢
  have f1 := Al8 l n 5 (by omega)
  have n1 : (findR l n 5).length ≤ l.length := List.length_filter_le _ _
  have k1 := fun p4 p5 => Cm9 l out q n p4 p5 hl
  by_cases hi : i < 8
  ·have hi' : (i : Int) < 8 := by omega
   have e8 : 8 - i = (8 - (i + 1)) + 1 := by omega
   by_cases hh : hasL l n q.typ = true
   ·right
    have e : folA l q.typ (8 - i) n = [] := by rw [e8]; unfold folA folC; rw [if_pos hh]
    have er : res i out n = .ret [Aj2 out] := by
     simp only [res]
     rw [e, if_neg (by simp; omega)]; simp
    rw [er]
    simp only [if_pos hh] at k1
    refine ⟨?_, rfl⟩
    generalize findR l n 5 = fr at *
    simp (disch := omega) only [Af4, hi', f1, k1, EVT, EVM, EVC, EVP, ↓reduceIte, EV, Nat.reduceAdd, Nat.reduceEqDiff, Int.reduceToNat, reduceCtorEq]
   ·simp only [if_neg hh] at k1
    cases hf : findR l n 5 with
    | nil =>
      right
      have e : folA l q.typ (8 - i) n = [] := by rw [e8]; unfold folA folC; rw [if_neg hh, hf]
      have er : res i out n = .ret [Aj2 out] := by
       simp only [res]
       rw [e, if_neg (by simp; omega)]; simp
      rw [er]
      rw [hf] at f1
      refine ⟨?_, rfl⟩
      simp (disch := omega) only [Af4, hi', f1, k1, EVT, EVM, EVC, EVP, ↓reduceIte, EV, Nat.reduceAdd, Nat.reduceEqDiff, Int.reduceToNat, reduceCtorEq]
    | cons r rs =>
      left
      have e : folA l q.typ (8 - i) n = r :: folA l q.typ (8 - (i + 1)) r.data.host := by
       rw [e8]
       show (folC l q.typ (8 - (i + 1) + 1) n []).2 = _
       unfold folC
       rw [if_neg hh, hf]
       simp only [List.nil_append]
       rw [Ad9]; rfl
      rw [hf] at f1 n1
      have h0 : ¬ ((r :: rs).length : Int) = 0 := by simp only [List.length_cons]; omega
      have hix : Ac8 16 (Aj2 (r :: rs)) (.i .i64 0) = some r.pv := by rw [Ck6 _ _ _ (by omega)]; rfl
      refine ⟨(i + 1, out ++ [r], r.data.host), ?_, ⟨by omega, by simp only [List.length_append, List.length_singleton]; omega⟩, by simp only; omega, ?_⟩
      ·generalize (r :: rs) = fr at *
       simp (disch := omega) only [Af4, hi', f1, k1, h0, hix, EVT, EVM, EVC, EVP, ↓reduceIte, EV, Nat.reduceAdd, Nat.reduceEqDiff, Int.reduceToNat, reduceCtorEq]
      ·simp only [res]
       rw [e]
       simp only [List.length_cons, List.append_assoc, List.singleton_append]
       by_cases hq : (folA l q.typ (8 - (i + 1)) r.data.host).length = 8 - (i + 1)
       ·rw [if_pos hq, if_pos (by omega)]
       ·rw [if_neg hq, if_neg (by omega)]
  ·right
   have hi' : ¬ (i : Int) < 8 := by omega
   have e8 : 8 - i = 0 := by omega
   have er : res i out n = .yld 0 [Aj2 out] := by
    simp only [res]
    rw [e8]; simp [folA, folC]
   rw [er]
   refine ⟨?_, rfl⟩
   simp (disch := omega) only [Af4, hi', EVT, EVM, EVC, EVP, ↓reduceIte, EV, Nat.reduceAdd, Nat.reduceEqDiff, Int.reduceToNat, reduceCtorEq]
 simp only [res, Nat.sub_zero, List.nil_append] at key
 generalize folA l q.typ 8 q.name = fa at *
 by_cases h : fa.length = 8
 ·rw [if_pos h] at key
  simp (disch := omega) only [Af4, key, EVT, EVM, EVC, EVP, ↓reduceIte, EV, Nat.reduceAdd, Nat.reduceEqDiff, Int.reduceToNat, reduceCtorEq]
 ·rw [if_neg h] at key
  simp (disch := omega) only [Af4, key, EVT, EVM, EVC, EVP, ↓reduceIte, EV, Nat.reduceAdd, Nat.reduceEqDiff, Int.reduceToNat, reduceCtorEq]
theorem Fd3 (t : Tk) (m : Msg) {k : Nat} (h : TOk t k) (hm : MOk m) (hne : folA (insideM m t.zone).ans t.q.typ 8 t.name ≠ []) : S Fy7 2 [t.pv, m.pv] = some [(Ax2 t m).pv] := by
 refine Lx3 (N := 1000000) rfl ?_
 have hi := hm.inside t.zone
 have hs := h.small
 have hc := h.chain
 have k1 := Az9 m t.zone hm.wf h.zone hm.ans hm.auth hm.ext
 have k2 := Bt7 t
 have k3 := Cm8 (insideM m t.zone).ans (ownT t) hi.ans
 rw [show (ownT t).typ = t.q.typ from rfl, show (ownT t).name = t.name from rfl] at k3
 have hwf := Gf9 (insideM m t.zone).ans t.q.typ (fun r hr => hi.wf.ans.2 r hr) 8 t.name
 have hfl := Il5 (insideM m t.zone).ans t.q.typ 8 t.name
 obtain ⟨r, hr1, hr2⟩ := (folC_last (insideM m t.zone).ans t.q.typ 8 t.name).resolve_left (fun q => hne q.1)
 unfold Ax2
 rw [Ad9]
 rw [show (folC (insideM m t.zone).ans t.q.typ 8 t.name []).2 = folA (insideM m t.zone).ans t.q.typ 8 t.name from rfl, ← hr2]
 simp only
 have hrs : r.data.host.length ≤ 9223372036854775807 := (hwf r (List.mem_of_getLast? hr1)).data.host
 have k4 := Aq2 r.data.host t.zone hrs h.zone
 generalize folA (insideM m t.zone).ans t.q.typ 8 t.name = l at *
 have hlp := List.length_pos_iff.2 hne
 have hix : Ac8 16 (Aj2 l) (.i .i64 ((l.length : Int) - 1)) = some r.pv := by
  rw [Ck6 _ _ _ (by omega), show ((l.length : Int) - 1).toNat = l.length - 1 by omega, ← List.getLast?_eq_getElem?, hr1]; rfl
 have h0 : Aw1 16 (Aj2 []) (Aj2 t.chain) = some (Aj2 t.chain) := by simpa using Az1 [] t.chain (by simp; omega)
 have h1 : Aw1 16 (Aj2 t.chain) (Aj2 l) = some (Aj2 (t.chain ++ l)) := Az1 _ _ (by omega)
 have hcl : (t.chain ++ l).length ≤ 900008 := by rw [List.length_append]; omega
 have hlc : (t.chain ++ l).length = t.chain.length + l.length := List.length_append
 generalize t.chain ++ l = cl at *
 have key : ∀ p1 p2 p3, Is7.ev S 1000000 [t.pv, p1, p2, p3, Aj2 l] = some (.yld 0 [.b ((decide (8 < cl.length) || decide (r.data.host = t.q.name)) || cl.any fun x => decide (x.name = r.data.host))]) := by
  intro p1 p2 p3
  have hN : cl.length < 1000000 := by omega
  generalize (1000000 : Nat) = N at *
  refine Ak8 cl (fun i (b : Bool) => [.b b, .i .i64 (i : Int)]) (fun i b r' => .yld 0 [.b (b || r'.any fun x => decide (x.name = r.data.host))]) (fun _ _ => True) (decide (8 < cl.length) || decide (r.data.host = t.q.name)) ?_ trivial hN (fun i b c r' hd hi' hc' _ => ?_) (fun b _ => ?_)
  ·by_cases h8 : 8 < cl.length
   ·have h8' : (8 : Int) < (cl.length : Int) := by omega
    simp (disch := omega) only [h0, h1, hix, h8, h8', EVT, EVM, EVC, EVP, ↓reduceIte, EV, Nat.reduceAdd, Nat.reduceEqDiff, Int.reduceToNat, reduceCtorEq]
    try simp
   ·have h8' : ¬ (8 : Int) < (cl.length : Int) := by omega
    simp (disch := omega) only [h0, h1, hix, h8, h8', EVT, EVM, EVC, EVP, ↓reduceIte, EV, Nat.reduceAdd, Nat.reduceEqDiff, Int.reduceToNat, reduceCtorEq]
    try simp
  ·left
   refine ⟨b || decide (c.name = r.data.host), ?_, trivial, by simp [Bool.or_assoc]⟩
   cases b with
   | true => simp (disch := omega) only [El9, h0, h1, hix, hc', EVT, EVM, EVC, EVP, ↓reduceIte, EV, Nat.reduceAdd, Nat.reduceEqDiff, Int.reduceToNat, reduceCtorEq]; try simp
   | false => simp (disch := omega) only [El9, h0, h1, hix, hc', EVT, EVM, EVC, EVP, ↓reduceIte, EV, Nat.reduceAdd, Nat.reduceEqDiff, Int.reduceToNat, reduceCtorEq]; try simp
  ·simp (disch := omega) only [El9, h0, h1, hix, EVT, EVM, EVC, EVP, ↓reduceIte, EV, Nat.reduceAdd, Nat.reduceEqDiff, Int.reduceToNat, reduceCtorEq]
   simp [Out.goes]
 by_cases hL : r.data.host = t.q.name ∨ (cl.any fun x => decide (x.name = r.data.host)) = true ∨ 8 < cl.length
 ·rw [if_pos hL]
  have e : ((decide (8 < cl.length) || decide (r.data.host = t.q.name)) || cl.any fun x => decide (x.name = r.data.host)) = true := by
   rcases hL with h | h | h <;> simp [h]
  rw [e] at key
  generalize insideM m t.zone = im at *
  simp (disch := omega) only [El9, k1, k2, k3, key, h0, h1, hix, EVT, EVM, EVC, EVP, ↓reduceIte, EV, Nat.reduceAdd, Nat.reduceEqDiff, Int.reduceToNat, reduceCtorEq]
 ·rw [if_neg hL]
  have e : ((decide (8 < cl.length) || decide (r.data.host = t.q.name)) || cl.any fun x => decide (x.name = r.data.host)) = false := by
   simp only [not_or, Bool.not_eq_true] at hL
   obtain ⟨a1, a2, a3⟩ := hL
   simp only [a1, a2, a3, decide_false, Bool.or_self]
  rw [e] at key
  generalize insideM m t.zone = im at *
  rcases Bool.eq_false_or_eq_true (Ak4 r.data.host t.zone) with hu | hu
  ·rw [hu] at k4
   rw [if_pos hu]
   unfold Af2
   simp (disch := omega) only [El9, k1, k2, k3, k4, key, h0, h1, hix, EVT, EVM, EVC, EVP, ↓reduceIte, EV, Nat.reduceAdd, Nat.reduceEqDiff, Int.reduceToNat, reduceCtorEq]
  ·rw [hu] at k4
   rw [if_neg (by simp [hu])]
   simp (disch := omega) only [El9, k1, k2, k3, k4, key, h0, h1, hix, EVT, EVM, EVC, EVP, ↓reduceIte, EV, Nat.reduceAdd, Nat.reduceEqDiff, Int.reduceToNat, reduceCtorEq]
theorem Cb0 (t : Tk) (src : Adr) (m : Msg) {k : Nat} (h : TOk t k) (hm : MOk m) : S Gx1 3 [t.pv, src.pv, m.pv] = some [(Av8 t src m).pv] := by
 refine Lb8 (N := 1) rfl ?_
 have hs := h.small
 have m0 := h.more0
 have m1 := h.more1
 have h1 := Cw4 m t.zone hm h.zone
 have h2 := Bt7 t
 have h3 := Fq1 t m h hm
 have h4 := Bz9 t h
 have h8 := Az9 m t.zone hm.wf h.zone hm.ans hm.auth hm.ext
 unfold Av8
 by_cases c0 : t.state = 1
 ·by_cases c1 : src = t.dst
  ·by_cases c2 : m.q = t.asked
   ·rw [if_neg (by simp [c0, c1, c2])]
    have h7 : t.asked = ownT t → kindM (insideM m t.zone) t.zone = 2 → S Fy7 2 [t.pv, m.pv] = some [(Ax2 t m).pv] := by
     intro d3 d4
     refine Fd3 t m h hm ?_
     rw [show t.name = (ownT t).name from rfl, show t.q.typ = (ownT t).typ from rfl, ← d3, ← c2]
     intro hq
     rw [Gg0] at hq
     unfold kindM at d4
     split at d4
     ·simp only [show (insideM m t.zone).q = m.q from rfl] at d4
      split at d4
      ·omega
      ·rw [if_neg (by simp [hq])] at d4
       split at d4
       ·split at d4 <;> omega
       ·split at d4 <;> omega
     ·omega
    generalize kindM (insideM m t.zone) t.zone = kd at *
    by_cases d1 : kd = 3
    ·simp (disch := omega) only [Br3, h1, h2, h3, c0, c1, c2, d1, EVT, EVM, EVC, EVP, ↓reduceIte, EV, Nat.reduceAdd, Nat.reduceEqDiff, Int.reduceToNat, reduceCtorEq]
    ·by_cases d2 : kd = 0
     ·subst d2
      simp (disch := omega) only [Br3, h1, h2, h4, c0, c1, c2, EVT, EVM, EVC, EVP, ↓reduceIte, EV, Nat.reduceAdd, Nat.reduceEqDiff, Int.reduceToNat, reduceCtorEq]
      try rfl
     ·by_cases d3 : t.asked = ownT t
      ·by_cases d4 : kd = 2
       ·subst d4
        have h7 := h7 d3 rfl
        simp (disch := omega) only [Br3, h1, h2, h7, c0, c1, c2, d3, EVT, EVM, EVC, EVP, ↓reduceIte, EV, Nat.reduceAdd, Nat.reduceEqDiff, Int.reduceToNat, reduceCtorEq]
        try simp
       ·simp (disch := omega) only [Br3, h1, h2, h8, c0, c1, c2, d1, d2, d3, d4, EVT, EVM, EVC, EVP, ↓reduceIte, EV, Nat.reduceAdd, Nat.reduceEqDiff, Int.reduceToNat, reduceCtorEq]
        try simp
      ·by_cases d4 : kd = 5
       ·subst d4
        simp (disch := omega) only [Br3, h1, h2, c0, c1, c2, d3, Af2, EVT, EVM, EVC, EVP, ↓reduceIte, EV, Nat.reduceAdd, Nat.reduceEqDiff, Int.reduceToNat, reduceCtorEq]
        try simp
       ·simp (disch := omega) only [Br3, h1, h2, c0, c1, c2, d1, d2, d3, d4, Af2, EVT, EVM, EVC, EVP, ↓reduceIte, EV, Nat.reduceAdd, Nat.reduceEqDiff, Int.reduceToNat, reduceCtorEq]
        try simp
   ·simp (disch := omega) only [Br3, c0, c1, c2, EVT, EVM, EVC, EVP, ↓reduceIte, EV, Nat.reduceAdd, Nat.reduceEqDiff, Int.reduceToNat, reduceCtorEq]
    try simp [c2]
  ·simp (disch := omega) only [Br3, c0, c1, EVT, EVM, EVC, EVP, ↓reduceIte, EV, Nat.reduceAdd, Nat.reduceEqDiff, Int.reduceToNat, reduceCtorEq]
   try simp [c1]
 ·simp (disch := omega) only [Br3, c0, EVT, EVM, EVC, EVP, ↓reduceIte, EV, Nat.reduceAdd, Nat.reduceEqDiff, Int.reduceToNat, reduceCtorEq]
  try simp
end Go.X.G
/- What the laws on tasks are called with. -/
namespace Go.X

structure Begin where
 q : Ques
 zone : List UInt8
 hosts : List (List UInt8)
 addrs : List Adr
structure Actn where
 kind : Int
 n : Int
 odd : Bool
 m : Msg
 host : List UInt8
 addrs : List Adr
def u8r (x : Int) : Prop := 0 ≤ x ∧ x ≤ 255
structure Begin.wf (b : Begin) : Prop where
 q : b.q.wf
 zone : strr b.zone
 hosts : b.hosts.length ≤ 9223372036854775807 ∧ ∀ h ∈ b.hosts, strr h
 addrs : b.addrs.length ≤ 9223372036854775807
structure Actn.wf (a : Actn) : Prop where
 kind : u8r a.kind
 n : u8r a.n
 m : a.m.wf
 host : strr a.host
 addrs : a.addrs.length ≤ 9223372036854775807
def Jt4 (l : List Actn) : Prop := l.length ≤ 9223372036854775807 ∧ ∀ a ∈ l, a.wf
def Begin.cells (b : Begin) : List PV := [.s b.q.name, .i .i64 b.q.typ, .s b.zone, Aj7 b.hosts, Aj8 b.addrs]
def Begin.pv (b : Begin) : PV := .a b.cells
def Actn.cells (a : Actn) : List PV := [.i .u8 a.kind, .i .u8 a.n, .b a.odd, .i .i64 a.m.id, .i .i64 a.m.op, .i .i64 a.m.code, .b a.m.resp, .b a.m.aa, .b a.m.tc, .b a.m.rd, .b a.m.ra, .b a.m.ad, .b a.m.cd, .b a.m.dok, .i .i64 a.m.size, .s a.m.q.name, .i .i64 a.m.q.typ, Aj2 a.m.ans, Aj2 a.m.auth, Aj2 a.m.ext, .s a.host, Aj8 a.addrs]
def Actn.pv (a : Actn) : PV := .a a.cells
def Am6 (l : List Actn) : PV := .l 22 (l.map Actn.pv)
theorem Gq3 (a : Actn) : Aj6 0 a.pv = some (.i .u8 a.kind) := rfl
theorem Gq2 (a : Actn) : Aj6 1 a.pv = some (.i .u8 a.n) := rfl
theorem Gq1 (a : Actn) : Aj6 2 a.pv = some (.b a.odd) := rfl
theorem Gq0 (a : Actn) : Aj6 3 a.pv = some (.i .i64 a.m.id) := rfl
theorem Gk9 (a : Actn) : Aj6 4 a.pv = some (.i .i64 a.m.op) := rfl
theorem Gk8 (a : Actn) : Aj6 5 a.pv = some (.i .i64 a.m.code) := rfl
theorem Gk7 (a : Actn) : Aj6 6 a.pv = some (.b a.m.resp) := rfl
theorem Gk6 (a : Actn) : Aj6 7 a.pv = some (.b a.m.aa) := rfl
theorem Gk5 (a : Actn) : Aj6 8 a.pv = some (.b a.m.tc) := rfl
theorem Gk4 (a : Actn) : Aj6 9 a.pv = some (.b a.m.rd) := rfl
theorem Fy2 (a : Actn) : Aj6 10 a.pv = some (.b a.m.ra) := rfl
theorem Fy1 (a : Actn) : Aj6 11 a.pv = some (.b a.m.ad) := rfl
theorem Fy0 (a : Actn) : Aj6 12 a.pv = some (.b a.m.cd) := rfl
theorem Fx9 (a : Actn) : Aj6 13 a.pv = some (.b a.m.dok) := rfl
theorem Fx8 (a : Actn) : Aj6 14 a.pv = some (.i .i64 a.m.size) := rfl
theorem Fx7 (a : Actn) : Aj6 15 a.pv = some (.s a.m.q.name) := rfl
theorem Fx6 (a : Actn) : Aj6 16 a.pv = some (.i .i64 a.m.q.typ) := rfl
theorem Fx5 (a : Actn) : Aj6 17 a.pv = some (Aj2 a.m.ans) := rfl
theorem Fx4 (a : Actn) : Aj6 18 a.pv = some (Aj2 a.m.auth) := rfl
theorem Fx3 (a : Actn) : Aj6 19 a.pv = some (Aj2 a.m.ext) := rfl
theorem Fx2 (a : Actn) : Aj6 20 a.pv = some (.s a.host) := rfl
theorem Fx1 (a : Actn) : Aj6 21 a.pv = some (Aj8 a.addrs) := rfl
theorem Gj9 (b : Begin) : Aj6 0 b.pv = some (.s b.q.name) := rfl
theorem Gj8 (b : Begin) : Aj6 1 b.pv = some (.i .i64 b.q.typ) := rfl
theorem Gj7 (b : Begin) : Aj6 2 b.pv = some (.s b.zone) := rfl
theorem Gj6 (b : Begin) : Aj6 3 b.pv = some (Aj7 b.hosts) := rfl
theorem Gj5 (b : Begin) : Aj6 4 b.pv = some (Aj8 b.addrs) := rfl
theorem Jv9 (b : Begin) : Ab0 0 5 b.pv = some b.pv := rfl
theorem Jc3 (b : Begin) : As5 5 b.pv = some b.pv := rfl
theorem Fh5 (b : Begin) : Ab0 0 2 b.pv = some b.q.pv := rfl
theorem Jw1 (a : Actn) : Ab0 0 22 a.pv = some a.pv := rfl
theorem Jc5 (a : Actn) : As5 22 a.pv = some a.pv := rfl
theorem Fh6 (a : Actn) : Ab0 3 17 a.pv = some a.m.pv := rfl
theorem Ig5 (l : List Actn) : Aw9 (Am6 l) = some (.i .i64 (l.length : Int)) := by simp [Am6, Aw9]
theorem Ih7 (l : List Actn) (k : IntKind) (z : Int) (h : 0 ≤ z) : Ac8 22 (Am6 l) (.i k z) = (l[z.toNat]?).map Actn.pv := by simp [Am6, Ct8 _ _ _ _ h]
set_option linter.defProp false in
def EVA := (And.intro @Gq3 (And.intro @Gq2 (And.intro @Gq1 (And.intro @Gq0 (And.intro @Gk9 (And.intro @Gk8 (And.intro @Gk7 (And.intro @Gk6 (And.intro @Gk5 (And.intro @Gk4 (And.intro @Fy2 (And.intro @Fy1 (And.intro @Fy0 (And.intro @Fx9 (And.intro @Fx8 (And.intro @Fx7 (And.intro @Fx6 (And.intro @Fx5 (And.intro @Fx4 (And.intro @Fx3 (And.intro @Fx2 (And.intro @Fx1 (And.intro @Gj9 (And.intro @Gj8 (And.intro @Gj7 (And.intro @Gj6 (And.intro @Gj5 (And.intro @Jv9 (And.intro @Jc3 (And.intro @Fh5 (And.intro @Jw1 (And.intro @Jc5 (And.intro @Fh6 (And.intro @Ig5 @Ih7))))))))))))))))))))))))))))))))))

def Ib8 : Sh := .st [.b, .i .u64, .i .u64]
def Bs3 : Sh := .st [shQ, .s, .l .s, .l Ib8]
def Kv6 : Sh := .st [.i .u8, .i .u8, .b, Ib7, .s, .l Ib8]
def Ef1 : Sh := .l Kv6
theorem Gv0 {e : Sh} {α : Type} (W : α → Prop) (pv : α → PV) (hag : e.agg = true) (h1 : ∀ ds, e.okC ds → ∃ x, W x ∧ PV.a ds = pv x) {cs : List PV} (h : (Sh.l e).okC cs) : ∃ l : List α, l.length ≤ 9223372036854775807 ∧ (∀ x ∈ l, W x) ∧ cs = [.l e.size (l.map pv)] := by
 simp only [Sh.okC, hag, if_true] at h
 obtain ⟨xs, rfl, hl, hx⟩ := h
 have go : ∀ xs : List PV, (∀ x, x ∈ xs → ∃ ds, x = .a ds ∧ e.okC ds) → ∃ l : List α, (∀ r ∈ l, W r) ∧ xs = l.map pv := by
  intro xs
  induction xs with
  | nil => exact fun _ => ⟨[], fun r h => (by cases h), rfl⟩
  | cons x xs ih =>
    intro hx
    obtain ⟨l, g1, rfl⟩ := ih (fun y hy => hx y (List.mem_cons_of_mem _ hy))
    obtain ⟨ds, rfl, hd⟩ := hx x (List.mem_cons_self ..)
    obtain ⟨r, hr, hpv⟩ := h1 ds hd
    refine ⟨r :: l, fun y hy => ?_, by rw [hpv]; rfl⟩
    rcases List.mem_cons.1 hy with rfl | hy
    ·exact hr
    ·exact g1 y hy
 obtain ⟨l, g1, rfl⟩ := go xs hx
 exact ⟨l, by simpa [maxLen] using hl, g1, rfl⟩
theorem If4 {e : Sh} {α : Type} (W : α → Prop) (pv : α → PV) (hag : e.agg = false) (h1 : ∀ p, e.okC [p] → ∃ x, W x ∧ p = pv x) {cs : List PV} (h : (Sh.l e).okC cs) : ∃ l : List α, l.length ≤ 9223372036854775807 ∧ (∀ x ∈ l, W x) ∧ cs = [.l e.size (l.map pv)] := by
 simp only [Sh.okC, hag, Bool.false_eq_true, if_false] at h
 obtain ⟨xs, rfl, hl, hx⟩ := h
 have go : ∀ xs : List PV, (∀ x, x ∈ xs → x.scal = true ∧ e.okC [x]) → ∃ l : List α, (∀ r ∈ l, W r) ∧ xs = l.map pv := by
  intro xs
  induction xs with
  | nil => exact fun _ => ⟨[], fun r h => (by cases h), rfl⟩
  | cons x xs ih =>
    intro hx
    obtain ⟨l, g1, rfl⟩ := ih (fun y hy => hx y (List.mem_cons_of_mem _ hy))
    obtain ⟨r, hr, rfl⟩ := h1 x (hx x (List.mem_cons_self ..)).2
    refine ⟨r :: l, fun y hy => ?_, rfl⟩
    rcases List.mem_cons.1 hy with rfl | hy
    ·exact hr
    ·exact g1 y hy
 obtain ⟨l, g1, rfl⟩ := go xs hx
 exact ⟨l, by simpa [maxLen] using hl, g1, rfl⟩
theorem Is0 {cs : List PV} (h : (Sh.i .u8).okC cs) : ∃ x, cs = [.i .u8 x] ∧ u8r x := by
 simp only [Sh.okC] at h
 obtain ⟨n, rfl, h1, h2⟩ := h
 exact ⟨n, rfl, h1, h2⟩
theorem Kg5 {ds : List PV} (h : Ib8.okC ds) : ∃ x : Adr, True ∧ PV.a ds = x.pv := by
 obtain ⟨a0, r0, rfl, h0, h⟩ := Aj9 (At6 h)
 obtain ⟨a1, r1, rfl, h1, h⟩ := Aj9 h
 obtain ⟨a2, r2, rfl, h2, h⟩ := Aj9 h
 obtain rfl := Ab5 h
 obtain ⟨x0, rfl⟩ := Bw0 h0
 obtain ⟨x1, rfl, _⟩ := Bv9 h1
 obtain ⟨x2, rfl, _⟩ := Bv9 h2
 exact ⟨⟨x0, x1, x2⟩, trivial, rfl⟩
theorem Gv1 {cs : List PV} (h : (Sh.l Ib8).okC cs) : ∃ l : List Adr, l.length ≤ 9223372036854775807 ∧ cs = [Aj8 l] := by
 obtain ⟨l, h1, _, rfl⟩ := Gv0 (fun _ => True) Adr.pv rfl (fun ds hd => Kg5 hd) h
 exact ⟨l, h1, rfl⟩
theorem Jy1 {cs : List PV} (h : (Sh.l .s).okC cs) : ∃ l : List (List UInt8), (l.length ≤ 9223372036854775807 ∧ ∀ x ∈ l, strr x) ∧ cs = [Aj7 l] := by
 obtain ⟨l, h1, h2, rfl⟩ := If4 (fun x => strr x) PV.s rfl (fun p hp => by
  obtain ⟨x, hx, hs⟩ := Cc1 hp
  injection hx with hx
  exact ⟨x, hs, hx⟩) h
 exact ⟨l, ⟨h1, h2⟩, rfl⟩
theorem Kg3 {cs : List PV} (h : Ib7.okC cs) : ∃ m : Msg, m.wf ∧ cs = m.cells := by
 obtain ⟨m, h1, h2⟩ := Jy2 (p := .a cs) ⟨cs, rfl, h⟩
 exact ⟨m, h1, by injection h2⟩
theorem Gv2 {p : PV} (h : Bs3.ok p) : ∃ b : Begin, b.wf ∧ p = b.pv := by
 obtain ⟨ds, rfl, h⟩ : ∃ ds, p = .a ds ∧ Bs3.okC ds := h
 obtain ⟨a0, r0, rfl, h0, h⟩ := Aj9 (At6 h)
 obtain ⟨a1, r1, rfl, h1, h⟩ := Aj9 h
 obtain ⟨a2, r2, rfl, h2, h⟩ := Aj9 h
 obtain ⟨a3, r3, rfl, h3, h⟩ := Aj9 h
 obtain rfl := Ab5 h
 obtain ⟨q, k0, rfl⟩ := Gq9 h0
 obtain ⟨x1, rfl, k1⟩ := Cc1 h1
 obtain ⟨x2, k2, rfl⟩ := Jy1 h2
 obtain ⟨x3, k3, rfl⟩ := Gv1 h3
 exact ⟨⟨q, x1, x2, x3⟩, ⟨k0, k1, k2, k3⟩, rfl⟩
theorem Kg6 {ds : List PV} (h : Kv6.okC ds) : ∃ a : Actn, a.wf ∧ PV.a ds = a.pv := by
 obtain ⟨a0, r0, rfl, h0, h⟩ := Aj9 (At6 h)
 obtain ⟨a1, r1, rfl, h1, h⟩ := Aj9 h
 obtain ⟨a2, r2, rfl, h2, h⟩ := Aj9 h
 obtain ⟨a3, r3, rfl, h3, h⟩ := Aj9 h
 obtain ⟨a4, r4, rfl, h4, h⟩ := Aj9 h
 obtain ⟨a5, r5, rfl, h5, h⟩ := Aj9 h
 obtain rfl := Ab5 h
 obtain ⟨x0, rfl, k0⟩ := Is0 h0
 obtain ⟨x1, rfl, k1⟩ := Is0 h1
 obtain ⟨x2, rfl⟩ := Bw0 h2
 obtain ⟨m, k3, rfl⟩ := Kg3 h3
 obtain ⟨x4, rfl, k4⟩ := Cc1 h4
 obtain ⟨x5, k5, rfl⟩ := Gv1 h5
 exact ⟨⟨x0, x1, x2, m, x4, x5⟩, ⟨k0, k1, k3, k4, k5⟩, rfl⟩
theorem If5 {p : PV} (h : Ef1.ok p) : ∃ l : List Actn, Jt4 l ∧ p = Am6 l := by
 have h' : p.scal = true ∧ Ef1.okC [p] := h
 obtain ⟨l, h1, h2, h3⟩ := Gv0 (fun a : Actn => a.wf) Actn.pv rfl (fun ds hd => Kg6 hd) h'.2
 injection h3 with h3
 exact ⟨l, ⟨h1, h2⟩, h3⟩
end Go.X
/- The laws on tasks: their small functions. -/
namespace Go.X.G
open Go Go.X

def Bq3 (l : List Adr) (n : Int) : Adr := (l[n.toNat % l.length]?).getD ⟨false, 0, 0⟩
theorem Cy3 (l : List Adr) (n : Int) (hn : u8r n) (hl : l.length ≤ 1000000) : S Fz8 2 [Aj8 l, .i .u8 n] = some [(Bq3 l n).pv] := by
 refine Lc3 (N := 1) rfl ?_
 obtain ⟨n0, n1⟩ := hn
 unfold Bq3
 cases l with
 | nil =>
   have e : ((([] : List Adr).length : Int) = 0) := rfl
   simp (disch := omega) only [Kj7, e, EVT, EVM, EVC, EVP, ↓reduceIte, EV, Nat.reduceAdd, Nat.reduceEqDiff, Int.reduceToNat, reduceCtorEq]
   rfl
 | cons a r =>
   have hpos : 0 < (a :: r).length := by simp
   generalize (a :: r) = l at *
   have e : ¬ ((l.length : Int) = 0) := by omega
   have hlt : n.toNat % l.length < l.length := Nat.mod_lt _ hpos
   have hm : X.bin .rem (.i .i64 n) (.i .i64 (l.length : Int)) = some (.i .i64 ((n.toNat % l.length : Nat) : Int)) := by
    have e2 : ¬ ((l.length : Int) = 0) := e
    have e3 : n.tmod (l.length : Int) = ((n.toNat % l.length : Nat) : Int) := by
     obtain ⟨k, rfl⟩ : ∃ k : Nat, n = k := ⟨n.toNat, by omega⟩
     rw [Int.toNat_natCast, Int.tmod_eq_emod_of_nonneg (by omega)]
     exact (Int.natCast_emod k l.length).symm
    simp [X.bin, Av0, e3]
    exact List.length_pos_iff.1 hpos
   have hget : l[n.toNat % l.length]? = some l[n.toNat % l.length] := List.getElem?_eq_getElem hlt
   rw [hget]
   simp (disch := omega) only [Kj7, e, hm, hget, EVT, EVM, EVC, EVP, ↓reduceIte, EV, Nat.reduceAdd, Nat.reduceEqDiff, Int.reduceToNat, reduceCtorEq]
   rfl
def Dj0 (l : List (List UInt8)) (a : Actn) : List UInt8 := if a.odd = true then a.host else (l[a.n.toNat % l.length]?).getD a.host
theorem Gf6 (l : List (List UInt8)) (a : Actn) (hn : a.wf) (hl : l.length ≤ 1000000) : S Fz7 2 [Aj7 l, a.pv] = some [.s (Dj0 l a)] := by
 refine Lc0 (N := 1) rfl ?_
 obtain ⟨n0, n1⟩ := hn.n
 unfold Dj0
 rcases Bool.eq_false_or_eq_true a.odd with ho | ho
 ·simp (disch := omega) only [Jk5, ho, EVA, EVT, EVM, EVC, EVP, ↓reduceIte, EV, Nat.reduceAdd, Nat.reduceEqDiff, Int.reduceToNat, reduceCtorEq]
 ·cases l with
  | nil =>
    have e : ((([] : List (List UInt8)).length : Int) = 0) := rfl
    simp (disch := omega) only [Jk5, ho, e, EVA, EVT, EVM, EVC, EVP, ↓reduceIte, EV, Nat.reduceAdd, Nat.reduceEqDiff, Int.reduceToNat, reduceCtorEq]
    rfl
  | cons x r =>
    have hpos : 0 < (x :: r).length := by simp
    generalize (x :: r) = l at *
    have e : ¬ ((l.length : Int) = 0) := by omega
    have hlt : a.n.toNat % l.length < l.length := Nat.mod_lt _ hpos
    have hm : X.bin .rem (.i .i64 a.n) (.i .i64 (l.length : Int)) = some (.i .i64 ((a.n.toNat % l.length : Nat) : Int)) := by
     have e3 : a.n.tmod (l.length : Int) = ((a.n.toNat % l.length : Nat) : Int) := by
      generalize a.n = n at *
      obtain ⟨k, rfl⟩ : ∃ k : Nat, n = k := ⟨n.toNat, by omega⟩
      rw [Int.toNat_natCast, Int.tmod_eq_emod_of_nonneg (by omega)]
      exact (Int.natCast_emod k l.length).symm
     simp [X.bin, Av0, e3]
     exact List.length_pos_iff.1 hpos
    have hget : l[a.n.toNat % l.length]? = some l[a.n.toNat % l.length] := List.getElem?_eq_getElem hlt
    rw [hget]
    simp (disch := omega) only [Jk5, ho, e, hm, hget, EVA, EVT, EVM, EVC, EVP, ↓reduceIte, EV, Nat.reduceAdd, Nat.reduceEqDiff, Int.reduceToNat, reduceCtorEq]
    rfl
def actM (t : Tk) (a : Actn) : Msg := if a.odd = true then a.m else { a.m with q := t.asked }
def actS (t : Tk) (a : Actn) : Adr := if a.odd = true ∧ a.n % 2 = 1 then ⟨false, 0, 99⟩ else t.dst
def doT (t : Tk) (a : Actn) : Tk × Msg × Bool :=
 if a.kind % 4 = 0 then Al9 t (Bq3 t.addrs a.n)
 else if a.kind % 4 = 1 then (Av8 t (actS t a) (actM t a), zMsg, false)
 else if a.kind % 4 = 2 then (Av7 t, zMsg, false)
 else (Av3 t (Dj0 t.hosts a) a.addrs, zMsg, false)
structure AOk (a : Actn) : Prop where
 wf : a.wf
 m : MOk a.m
 addrs : a.addrs.length ≤ 1000
theorem AOk.actM {a : Actn} (h : AOk a) {t : Tk} (ht : t.asked.wf) : MOk (actM t a) := by
 unfold G.actM
 split
 ·exact h.m
 ·exact ⟨⟨h.m.wf.id, h.m.wf.op, h.m.wf.code, h.m.wf.size, ht, h.m.wf.ans, h.m.wf.auth, h.m.wf.ext⟩, h.m.ans, h.m.auth, h.m.ext⟩
theorem Ls7 (t : Tk) (a : Actn) {k : Nat} (h : TOk t k) (ha : AOk a) : S Gy4 2 [t.pv, a.pv] = some [(doT t a).1.pv, (doT t a).2.1.pv, .b (doT t a).2.2] := by
 refine Lf1 (N := 1) rfl ?_
 have hs := h.small
 have hhl := h.hostsL
 have hal := h.addrs
 obtain ⟨k0, k1⟩ := ha.wf.kind
 obtain ⟨n0, n1⟩ := ha.wf.n
 have h1 := Cy3 t.addrs a.n ha.wf.n (by omega)
 have h2 := Fl3 t (Bq3 t.addrs a.n) h
 have h3 := Fq2 t (actS t a) (actM t a) h (ha.actM h.asked)
 have h4 := Em8 t h
 have h5 := Gf6 t.hosts a ha.wf (by omega)
 have h6 := Fh0 t (Dj0 t.hosts a) a.addrs h ha.addrs
 have hm4 : X.bin .rem (.i .u8 a.kind) (.i .u8 4) = some (.i .u8 (a.kind % 4)) := by
  simp [X.bin, Av0, Int.tmod_eq_emod_of_nonneg k0]
 have hm2 : X.bin .rem (.i .u8 a.n) (.i .u8 2) = some (.i .u8 (a.n % 2)) := by
  simp [X.bin, Av0, Int.tmod_eq_emod_of_nonneg n0]
 unfold doT
 by_cases c0 : a.kind % 4 = 0
 ·rw [if_pos c0]
  simp (disch := omega) only [Em4, hm4, c0, h1, h2, EVA, EVT, EVM, EVC, EVP, ↓reduceIte, EV, Nat.reduceAdd, Nat.reduceEqDiff, Int.reduceToNat, reduceCtorEq]
 ·rw [if_neg c0]
  by_cases c1 : a.kind % 4 = 1
  ·rw [if_pos c1]
   have ez : (zMsg.pv : PV) = Msg.pv ⟨0, 0, 0, false, false, false, false, false, false, false, false, 0, ⟨[], 0⟩, [], [], []⟩ := rfl
   rw [ez]
   rcases Bool.eq_false_or_eq_true a.odd with ho | ho
   ·have em : actM t a = a.m := by unfold actM; rw [if_pos ho]
    rw [em] at h3 ⊢
    by_cases c2 : a.n % 2 = 1
    ·have es : actS t a = ⟨false, 0, 99⟩ := by unfold actS; rw [if_pos ⟨ho, c2⟩]
     rw [es] at h3 ⊢
     simp (disch := omega) only [Em4, hm4, hm2, c1, c2, ho, h3, EVA, EVT, EVM, EVC, EVP, ↓reduceIte, EV, Nat.reduceAdd, Nat.reduceEqDiff, Int.reduceToNat, reduceCtorEq]
    ·have es : actS t a = t.dst := by unfold actS; rw [if_neg (fun e => c2 e.2)]
     rw [es] at h3 ⊢
     simp (disch := omega) only [Em4, hm4, hm2, c1, c2, ho, h3, EVA, EVT, EVM, EVC, EVP, ↓reduceIte, EV, Nat.reduceAdd, Nat.reduceEqDiff, Int.reduceToNat, reduceCtorEq]
   ·have em : actM t a = { a.m with q := t.asked } := by unfold actM; rw [if_neg (by rw [ho]; simp)]
    have es : actS t a = t.dst := by unfold actS; rw [if_neg (fun e => by rw [ho] at e; cases e.1)]
    rw [em, es] at h3 ⊢
    simp (disch := omega) only [Em4, hm4, c1, ho, h3, EVA, EVT, EVM, EVC, EVP, ↓reduceIte, EV, Nat.reduceAdd, Nat.reduceEqDiff, Int.reduceToNat, reduceCtorEq]
  ·rw [if_neg c1]
   have ez : (zMsg.pv : PV) = Msg.pv ⟨0, 0, 0, false, false, false, false, false, false, false, false, 0, ⟨[], 0⟩, [], [], []⟩ := rfl
   by_cases c2 : a.kind % 4 = 2
   ·rw [if_pos c2]
    simp only [ez]
    simp (disch := omega) only [Em4, hm4, c2, h4, EVA, EVT, EVM, EVC, EVP, ↓reduceIte, EV, Nat.reduceAdd, Nat.reduceEqDiff, Int.reduceToNat, reduceCtorEq]
   ·rw [if_neg c2]
    simp only [ez]
    simp (disch := omega) only [Em4, hm4, c0, c1, c2, h5, h6, EVA, EVT, EVM, EVC, EVP, ↓reduceIte, EV, Nat.reduceAdd, Nat.reduceEqDiff, Int.reduceToNat, reduceCtorEq]
end Go.X.G
/- The laws on tasks: small arguments, the first check. -/
namespace Go.X.G
open Go Go.X

theorem Bs2 (l : List Rec) (hl : l.length ≤ 9223372036854775807) : ∃ b, S Am0 1 [Aj2 l] = some [.b b] ∧ (b = true → l.length ≤ 20) := by
 by_cases h20 : (20 : Int) < (l.length : Int)
 ·refine ⟨false, Kw3 (N := 1) rfl ?_, by simp⟩
  simp (disch := omega) only [Br5, h20, EVT, EVM, EVC, EVP, ↓reduceIte, EV, Nat.reduceAdd, Nat.reduceEqDiff, Int.reduceToNat, reduceCtorEq]
 ·let okR : Rec → Bool := fun r => !(decide ((300 : Int) < (r.name.length : Int)) || decide ((300 : Int) < (r.data.host.length : Int)) || decide ((300 : Int) < (r.data.mail.length : Int)) || decide ((300 : Int) < (r.data.text.length : Int)))
  refine ⟨l.all okR, Kw3 (N := 30) rfl ?_, fun _ => by omega⟩
  have key : Jj3.ev S 30 [Aj2 l] = some (if l.all okR = true then .yld 0 [] else .ret [.b false]) := by
   refine Ak2 l (fun i => [.i .i64 (i : Int)]) (fun i r => if r.all okR = true then .yld 0 [] else .ret [.b false]) rfl (by omega) (fun i c r hd hi hc => ?_) ?_
   ·by_cases c1 : (300 : Int) < (c.name.length : Int)
    ·right
     simp (disch := omega) only [Br5, hc, c1, EVT, EVM, EVC, EVP, ↓reduceIte, EV, Nat.reduceAdd, Nat.reduceEqDiff, Int.reduceToNat, reduceCtorEq]
     simp [okR, c1, Out.goes]
    ·by_cases c2 : (300 : Int) < (c.data.host.length : Int)
     ·right
      simp (disch := omega) only [Br5, hc, c1, c2, EVT, EVM, EVC, EVP, ↓reduceIte, EV, Nat.reduceAdd, Nat.reduceEqDiff, Int.reduceToNat, reduceCtorEq]
      simp [okR, c2, Out.goes]
     ·by_cases c3 : (300 : Int) < (c.data.mail.length : Int)
      ·right
       simp (disch := omega) only [Br5, hc, c1, c2, c3, EVT, EVM, EVC, EVP, ↓reduceIte, EV, Nat.reduceAdd, Nat.reduceEqDiff, Int.reduceToNat, reduceCtorEq]
       simp [okR, c3, Out.goes]
      ·by_cases c4 : (300 : Int) < (c.data.text.length : Int)
       ·right
        simp (disch := omega) only [Br5, hc, c1, c2, c3, c4, EVT, EVM, EVC, EVP, ↓reduceIte, EV, Nat.reduceAdd, Nat.reduceEqDiff, Int.reduceToNat, reduceCtorEq]
        simp [okR, c4, Out.goes]
       ·left
        simp (disch := omega) only [Br5, hc, c1, c2, c3, c4, EVT, EVM, EVC, EVP, ↓reduceIte, EV, Nat.reduceAdd, Nat.reduceEqDiff, Int.reduceToNat, reduceCtorEq]
        simp [okR, c1, c2, c3, c4]
   ·simp (disch := omega) only [Br5, EVT, EVM, EVC, EVP, ↓reduceIte, EV, Nat.reduceAdd, Nat.reduceEqDiff, Int.reduceToNat, reduceCtorEq]
    simp [Out.goes]
  rcases Bool.eq_false_or_eq_true (l.all okR) with hb | hb
  ·rw [hb] at key ⊢
   simp only [if_true] at key
   simp (disch := omega) only [Br5, h20, key, EVT, EVM, EVC, EVP, ↓reduceIte, EV, Nat.reduceAdd, Nat.reduceEqDiff, Int.reduceToNat, reduceCtorEq]
  ·rw [hb] at key ⊢
   simp only [Bool.false_eq_true, if_false] at key
   simp (disch := omega) only [Br5, h20, key, EVT, EVM, EVC, EVP, ↓reduceIte, EV, Nat.reduceAdd, Nat.reduceEqDiff, Int.reduceToNat, reduceCtorEq]
theorem Fl0 (a : Actn) (h : a.wf) : ∃ b : Bool, (b = true → AOk a) ∧ ∃ b1 b2 b3, S Am0 1 [Aj2 a.m.ans] = some [.b b1] ∧ S Am0 1 [Aj2 a.m.auth] = some [.b b2] ∧ S Am0 1 [Aj2 a.m.ext] = some [.b b3] ∧ b = (!decide ((20 : Int) < (a.addrs.length : Int)) && b1 && b2 && b3) := by
 obtain ⟨b1, g1, e1⟩ := Bs2 a.m.ans h.m.ans.1
 obtain ⟨b2, g2, e2⟩ := Bs2 a.m.auth h.m.auth.1
 obtain ⟨b3, g3, e3⟩ := Bs2 a.m.ext h.m.ext.1
 refine ⟨_, fun hb => ?_, b1, b2, b3, g1, g2, g3, rfl⟩
 simp only [Bool.and_eq_true, Bool.not_eq_true', decide_eq_false_iff_not] at hb
 obtain ⟨⟨⟨h0, h1⟩, h2⟩, h3⟩ := hb
 have := e1 h1
 have := e2 h2
 have := e3 h3
 exact ⟨h, ⟨h.m, by omega, by omega, by omega⟩, by omega⟩
theorem Ib4 (p0 : PV) (l : List Actn) (hl : l.length ≤ 20) (hw : ∀ a ∈ l, a.wf) : ∃ b : Bool, (b = true → ∀ a ∈ l, AOk a) ∧ Kg8.ev S 30 [p0, Am6 l] = some (if b = true then .yld 0 [] else .ret [.b false]) := by
 have hch : ∃ f : Actn → Bool, ∀ a ∈ l, (f a = true → AOk a) ∧ ∃ b1 b2 b3, S Am0 1 [Aj2 a.m.ans] = some [.b b1] ∧ S Am0 1 [Aj2 a.m.auth] = some [.b b2] ∧ S Am0 1 [Aj2 a.m.ext] = some [.b b3] ∧ f a = (!decide ((20 : Int) < (a.addrs.length : Int)) && b1 && b2 && b3) := by
  have : ∀ a, ∃ b : Bool, a ∈ l → (b = true → AOk a) ∧ ∃ b1 b2 b3, S Am0 1 [Aj2 a.m.ans] = some [.b b1] ∧ S Am0 1 [Aj2 a.m.auth] = some [.b b2] ∧ S Am0 1 [Aj2 a.m.ext] = some [.b b3] ∧ b = (!decide ((20 : Int) < (a.addrs.length : Int)) && b1 && b2 && b3) := by
   intro a
   by_cases ha : a ∈ l
   ·obtain ⟨b, h⟩ := Fl0 a (hw a ha)
    exact ⟨b, fun _ => h⟩
   ·exact ⟨false, fun h => absurd h ha⟩
  exact ⟨fun a => Classical.choose (this a), fun a ha => Classical.choose_spec (this a) ha⟩
 obtain ⟨f, hf⟩ := hch
 refine ⟨l.all f, fun h a ha => (hf a ha).1 (List.all_eq_true.1 h a ha), ?_⟩
 refine Ak2 l (fun i => [.i .i64 (i : Int)]) (fun i r => if r.all f = true then .yld 0 [] else .ret [.b false]) rfl (by omega) (fun i c r hd hi hc => ?_) ?_
 ·obtain ⟨_, b1, b2, b3, g1, g2, g3, e⟩ := hf c (List.mem_of_getElem? hc)
  by_cases c1 : (20 : Int) < (c.addrs.length : Int)
  ·right
   have ef : f c = false := by rw [e]; simp [c1]
   simp (disch := omega) only [x_u6, hc, c1, EVA, EVT, EVM, EVC, EVP, ↓reduceIte, EV, Nat.reduceAdd, Nat.reduceEqDiff, Int.reduceToNat, reduceCtorEq]
   simp [ef, Out.goes]
  ·cases b1 with
   | false =>
     right
     have ef : f c = false := by rw [e]; simp
     simp (disch := omega) only [x_u6, hc, c1, g1, EVA, EVT, EVM, EVC, EVP, ↓reduceIte, EV, Nat.reduceAdd, Nat.reduceEqDiff, Int.reduceToNat, reduceCtorEq]
     simp [ef, Out.goes]
   | true =>
     cases b2 with
     | false =>
       right
       have ef : f c = false := by rw [e]; simp
       simp (disch := omega) only [x_u6, hc, c1, g1, g2, EVA, EVT, EVM, EVC, EVP, ↓reduceIte, EV, Nat.reduceAdd, Nat.reduceEqDiff, Int.reduceToNat, reduceCtorEq]
       simp [ef, Out.goes]
     | true =>
       cases b3 with
       | false =>
         right
         have ef : f c = false := by rw [e]; simp
         simp (disch := omega) only [x_u6, hc, c1, g1, g2, g3, EVA, EVT, EVM, EVC, EVP, ↓reduceIte, EV, Nat.reduceAdd, Nat.reduceEqDiff, Int.reduceToNat, reduceCtorEq]
         simp [ef, Out.goes]
       | true =>
         left
         have ef : f c = true := by rw [e]; simp [c1]
         simp (disch := omega) only [x_u6, hc, c1, g1, g2, g3, EVA, EVT, EVM, EVC, EVP, ↓reduceIte, EV, Nat.reduceAdd, Nat.reduceEqDiff, Int.reduceToNat, reduceCtorEq]
         simp [ef]
 ·simp (disch := omega) only [x_u6, EVA, EVT, EVM, EVC, EVP, ↓reduceIte, EV, Nat.reduceAdd, Nat.reduceEqDiff, Int.reduceToNat, reduceCtorEq]
  simp [Out.goes]
theorem Ib5 (b : Begin) (p1 : PV) (hl : b.hosts.length ≤ 20) (hw : ∀ h ∈ b.hosts, strr h) : ∃ c : Bool, Kh1.ev S 30 [b.pv, p1] = some (if c = true then .yld 0 [] else .ret [.b false]) := by
 obtain ⟨f, hf⟩ : ∃ f : List UInt8 → Bool, ∀ h, f h = !decide ((300 : Int) < (h.length : Int)) := ⟨_, fun _ => rfl⟩
 refine ⟨b.hosts.all f, ?_⟩
 refine Ak2 b.hosts (fun i => [.i .i64 (i : Int)]) (fun i r => if r.all f = true then .yld 0 [] else .ret [.b false]) rfl (by omega) (fun i c r hd hi hc => ?_) ?_
 ·have ef := hf c
  by_cases c1 : (300 : Int) < (c.length : Int)
  ·right
   rw [Lk3 c1] at ef
   simp (disch := omega) only [x_u6, hc, c1, EVA, EVT, EVM, EVC, EVP, ↓reduceIte, EV, Nat.reduceAdd, Nat.reduceEqDiff, Int.reduceToNat, reduceCtorEq]
   simp [ef, Out.goes]
  ·left
   rw [Lk4 c1] at ef
   simp (disch := omega) only [x_u6, hc, c1, EVA, EVT, EVM, EVC, EVP, ↓reduceIte, EV, Nat.reduceAdd, Nat.reduceEqDiff, Int.reduceToNat, reduceCtorEq]
   simp [ef]
 ·simp (disch := omega) only [x_u6, EVA, EVT, EVM, EVC, EVP, ↓reduceIte, EV, Nat.reduceAdd, Nat.reduceEqDiff, Int.reduceToNat, reduceCtorEq]
  simp [Out.goes]
theorem Ib3 (b : Begin) (l : List Actn) (hb : b.wf) (hl : Jt4 l) : ∃ c, S n_u6 2 [b.pv, Am6 l] = some [.b c] ∧ (c = true → l.length ≤ 20 ∧ b.hosts.length ≤ 20 ∧ b.addrs.length ≤ 20 ∧ ∀ a ∈ l, AOk a) := by
 by_cases c1 : (20 : Int) < (l.length : Int)
 ·refine ⟨false, s_u6 (N := 1) rfl ?_, by simp⟩
  simp (disch := omega) only [x_u6, c1, EVA, EVT, EVM, EVC, EVP, ↓reduceIte, EV, Nat.reduceAdd, Nat.reduceEqDiff, Int.reduceToNat, reduceCtorEq]
 ·by_cases c2 : (20 : Int) < (b.hosts.length : Int)
  ·refine ⟨false, s_u6 (N := 1) rfl ?_, by simp⟩
   simp (disch := omega) only [x_u6, c1, c2, EVA, EVT, EVM, EVC, EVP, ↓reduceIte, EV, Nat.reduceAdd, Nat.reduceEqDiff, Int.reduceToNat, reduceCtorEq]
  ·by_cases c3 : (20 : Int) < (b.addrs.length : Int)
   ·refine ⟨false, s_u6 (N := 1) rfl ?_, by simp⟩
    simp (disch := omega) only [x_u6, c1, c2, c3, EVA, EVT, EVM, EVC, EVP, ↓reduceIte, EV, Nat.reduceAdd, Nat.reduceEqDiff, Int.reduceToNat, reduceCtorEq]
   ·by_cases c4 : (300 : Int) < (b.q.name.length : Int)
    ·refine ⟨false, s_u6 (N := 1) rfl ?_, by simp⟩
     simp (disch := omega) only [x_u6, c1, c2, c3, c4, EVA, EVT, EVM, EVC, EVP, ↓reduceIte, EV, Nat.reduceAdd, Nat.reduceEqDiff, Int.reduceToNat, reduceCtorEq]
    ·by_cases c5 : (300 : Int) < (b.zone.length : Int)
     ·refine ⟨false, s_u6 (N := 1) rfl ?_, by simp⟩
      simp (disch := omega) only [x_u6, c1, c2, c3, c4, c5, EVA, EVT, EVM, EVC, EVP, ↓reduceIte, EV, Nat.reduceAdd, Nat.reduceEqDiff, Int.reduceToNat, reduceCtorEq]
     ·obtain ⟨x, hx⟩ := Ib5 b (Am6 l) (by omega) hb.hosts.2
      obtain ⟨y, hy1, hy⟩ := Ib4 b.pv l (by omega) hl.2
      cases x with
      | false =>
        refine ⟨false, s_u6 (N := 30) rfl ?_, by simp⟩
        simp only [Bool.false_eq_true, if_false] at hx
        simp (disch := omega) only [x_u6, c1, c2, c3, c4, c5, hx, EVA, EVT, EVM, EVC, EVP, ↓reduceIte, EV, Nat.reduceAdd, Nat.reduceEqDiff, Int.reduceToNat, reduceCtorEq]
      | true =>
        simp only [if_true] at hx
        cases y with
        | false =>
          refine ⟨false, s_u6 (N := 30) rfl ?_, by simp⟩
          simp only [Bool.false_eq_true, if_false] at hy
          simp (disch := omega) only [x_u6, c1, c2, c3, c4, c5, hx, hy, EVA, EVT, EVM, EVC, EVP, ↓reduceIte, EV, Nat.reduceAdd, Nat.reduceEqDiff, Int.reduceToNat, reduceCtorEq]
        | true =>
          refine ⟨true, s_u6 (N := 30) rfl ?_, fun _ => ⟨by omega, by omega, by omega, hy1 rfl⟩⟩
          simp only [if_true] at hy
          simp (disch := omega) only [x_u6, c1, c2, c3, c4, c5, hx, hy, EVA, EVT, EVM, EVC, EVP, ↓reduceIte, EV, Nat.reduceAdd, Nat.reduceEqDiff, Int.reduceToNat, reduceCtorEq]
def tk0 : Tk := ⟨⟨[97, 46, 100, 46, 120, 46], 1⟩, [97, 46, 100, 46, 120, 46], [120, 46], [], [⟨false, 0, 7⟩], [], 0, 0, ⟨false, 0, 0⟩, ⟨[], 0⟩, 0, [], zMsg, 0⟩
theorem Fg7 : startT ⟨[97, 46, 100, 46, 120, 46], 1⟩ [120, 46] [] [⟨false, 0, 7⟩] = (tk0, 0) := by kernel_rfl
theorem Kq7 : TOk tk0 0 := ⟨⟨by simp [tk0, strr], by simp [tk0, i64r]⟩, by simp [tk0, strr], by simp [tk0, strr], by simp [tk0], by simp [tk0], by simp [tk0], by simp [tk0], by simp [tk0], by simp [tk0], ⟨by simp [tk0, strr], by simp [tk0, i64r]⟩, by simp [tk0], by simp [tk0], by simp [tk0], by simp⟩
theorem Fk7 : S Gx9 0 [] = some [tk0.pv] := by
 refine Ld6 (N := 1) rfl ?_
 have h := start_ok ⟨[97, 46, 100, 46, 120, 46], 1⟩ [120, 46] [] [⟨false, 0, 7⟩] ⟨by simp [strr], by simp [i64r]⟩ (by simp [strr]) (by simp) (by simp) (by simp)
 rw [Fg7] at h
 simp only at h
 have hs : Aj7 [] = PV.l 1 [] := rfl
 simp (disch := omega) only [Lw6, h, EVA, EVT, EVM, EVC, EVP, ↓reduceIte, EV, Nat.reduceAdd, Nat.reduceEqDiff, Int.reduceToNat, reduceCtorEq]
theorem Iz2 : Al9 tk0 ⟨false, 0, 7⟩ = ({ tk0 with dst := ⟨false, 0, 7⟩, asked := ⟨[100, 46, 120, 46], 2⟩, state := 1, sent := 1 }, { zMsg with dok := true, size := 1232, q := ⟨[100, 46, 120, 46], 2⟩ }, true) := by kernel_rfl
theorem Fc8 : S n_u5 0 [] = some [.b true] := by
 refine s_u5 (N := 1) rfl ?_
 have h := Fl3 tk0 ⟨false, 0, 7⟩ Kq7
 rw [Iz2] at h
 simp only at h
 have h0 := Fk7
 generalize tk0 = t at *
 simp (disch := omega) only [x_u5, h0, h, EVA, EVT, EVM, EVC, EVP, ↓reduceIte, EV, Nat.reduceAdd, Nat.reduceEqDiff, Int.reduceToNat, reduceCtorEq]
end Go.X.G
/- Tasks: what stays so, whatever is done. -/
namespace Go.X.G
open Go Go.X

theorem TOk.mono {t : Tk} {k k' : Nat} (h : TOk t k) (hk : k ≤ k') (hk' : k' ≤ 900000) : TOk t k' :=
 ⟨h.q, h.name, h.zone, h.hostsL, h.hosts, h.addrs, Nat.le_trans h.tried hk, h.more0, by have := h.more1; omega, h.asked, h.sent0, h.sent1, Nat.le_trans h.chain hk, hk'⟩
theorem By8 (t : Tk) : (Ak5 t).state = 0 ∨ (Ak5 t).state = 2 ∨ (Ak5 t).state = 4 := by
 unfold Ak5
 split
 ·exact .inl rfl
 ·split
  ·exact .inr (.inl rfl)
  ·exact .inr (.inr rfl)
theorem Bs4 (t : Tk) : (Ak5 t).q = t.q ∧ (Ak5 t).name = t.name ∧ (Ak5 t).zone = t.zone ∧ (Ak5 t).sent = t.sent ∧ (Ak5 t).asked = t.asked := by
 unfold Ak5
 split
 ·exact ⟨rfl, rfl, rfl, rfl, rfl⟩
 ·split <;> exact ⟨rfl, rfl, rfl, rfl, rfl⟩
theorem TOk.settled {t : Tk} {k : Nat} (h : TOk t k) : TOk (Ak5 t) k := by
 unfold Ak5
 split
 ·exact ⟨h.q, h.name, h.zone, h.hostsL, h.hosts, h.addrs, h.tried, h.more0, h.more1, h.asked, h.sent0, h.sent1, h.chain, h.small⟩
 ·split <;> exact ⟨h.q, h.name, h.zone, h.hostsL, h.hosts, h.addrs, h.tried, h.more0, h.more1, h.asked, h.sent0, h.sent1, h.chain, h.small⟩
theorem TOk.useless {t : Tk} {k : Nat} (h : TOk t k) (hk : k + 1 ≤ 900000) : TOk (Az0 t) (k + 1) := by
 unfold Az0
 refine TOk.settled ?_
 have h' := h.mono (Nat.le_succ k) hk
 exact ⟨h'.q, h'.name, h'.zone, h'.hostsL, h'.hosts, h'.addrs, by have := h.tried; simp; omega, h'.more0, h'.more1, h'.asked, h'.sent0, h'.sent1, h'.chain, h'.small⟩
theorem TOk.again {t : Tk} {k : Nat} (h : TOk t k) {m : Int} (h0 : 0 ≤ m) (h1 : m ≤ 10 + k) : TOk (Af2 t m) k :=
 ⟨h.q, h.name, h.zone, h.hostsL, h.hosts, h.addrs, by simp [Af2], h0, h1, h.asked, h.sent0, h.sent1, h.chain, h.small⟩
theorem TOk.referred {t : Tk} {k : Nat} (h : TOk t k) {m : Msg} (hm : MOk m) : TOk (Ay6 t m) k := by
 unfold Ay6
 refine TOk.settled ?_
 obtain ⟨c1, c2, c3⟩ := By0 (zone := t.zone) (hm.inside t.zone)
 exact ⟨h.q, h.name, c1, by simp; omega, fun x hx => c2 x (List.mem_of_mem_take hx), by simp; omega, by simp, by simp, by simp; omega, h.asked, h.sent0, h.sent1, h.chain, h.small⟩
theorem TOk.aliased {t : Tk} {k : Nat} (h : TOk t k) {m : Msg} (hm : MOk m) (hk : k + 8 ≤ 900000) : TOk (Ax2 t m) (k + 8) := by
 have h' := h.mono (Nat.le_add_right k 8) hk
 have hs : strr (folC (insideM m t.zone).ans t.q.typ 8 t.name t.chain).1 := Bx3 _ _ (fun r hr => (hm.inside t.zone).wf.ans.2 r hr) 8 _ _ h.name
 have hl := Bk3 (insideM m t.zone).ans t.q.typ 8 t.name t.chain
 have hc := h.chain
 unfold Ax2
 simp only
 generalize folC (insideM m t.zone).ans t.q.typ 8 t.name t.chain = p at *
 have hb : TOk { t with name := p.1, chain := p.2 } (k + 8) := ⟨h'.q, hs, h'.zone, h'.hostsL, h'.hosts, h'.addrs, h'.tried, h'.more0, h'.more1, h'.asked, h'.sent0, h'.sent1, by simp only; omega, h'.small⟩
 split
 ·exact ⟨hb.q, hb.name, hb.zone, hb.hostsL, hb.hosts, hb.addrs, hb.tried, hb.more0, hb.more1, hb.asked, hb.sent0, hb.sent1, hb.chain, hb.small⟩
 ·split
  ·exact hb.again (by omega) (by omega)
  ·exact ⟨hb.q, hb.name, hb.zone, hb.hostsL, hb.hosts, hb.addrs, hb.tried, hb.more0, hb.more1, hb.asked, hb.sent0, hb.sent1, hb.chain, hb.small⟩
theorem If7 {q : Ques} {zone : List UInt8} {more : Int} (hq : q.wf) : (nextQ q zone more).1.wf := by
 unfold nextQ
 split
 ·exact hq
 ·rename_i hc
  split
  ·exact hq
  ·have hB : Ar0 q.name zone = true := by
    rcases Bool.eq_false_or_eq_true (Ar0 q.name zone) with h | h
    ·exact h
    ·exact absurd (.inl h) hc
   have := Ar3 (Ah5 (Bp6 hB) ((lbl q.name).length - ((lbl zone).length + 1 + more.toNat))).1
   exact ⟨by simp only [strr]; omega, by simp [i64r]⟩
theorem TOk.send {t : Tk} {k : Nat} (h : TOk t k) (a : Adr) : TOk (Al9 t a).1 k := by
 unfold Al9
 split
 ·exact h
 ·split
  ·exact ⟨h.q, h.name, h.zone, h.hostsL, h.hosts, h.addrs, h.tried, h.more0, h.more1, h.asked, h.sent0, h.sent1, h.chain, h.small⟩
  ·rename_i h64
   exact ⟨h.q, h.name, h.zone, h.hostsL, h.hosts, h.addrs, h.tried, h.more0, h.more1, If7 ⟨h.name, h.q.2⟩, by have := h.sent0; simp only; omega, by have := h.sent1; simp only; omega, h.chain, h.small⟩
theorem TOk.timeout {t : Tk} {k : Nat} (h : TOk t k) (hk : k + 8 ≤ 900000) : TOk (Av7 t) (k + 8) := by
 unfold Av7
 split
 ·exact (h.useless (by omega)).mono (by omega) hk
 ·exact h.mono (by omega) hk
theorem TOk.receive {t : Tk} {k : Nat} (h : TOk t k) {m : Msg} (hm : MOk m) (src : Adr) (hk : k + 8 ≤ 900000) : TOk (Av8 t src m) (k + 8) := by
 have h' := h.mono (Nat.le_add_right k 8) hk
 have m0 := h.more0
 have m1 := h.more1
 unfold Av8
 split
 ·exact h'
 ·split
  ·exact h'.referred hm
  ·split
   ·exact (h.useless (by omega)).mono (by omega) hk
   ·split
    ·exact h'.again (by omega) (by omega)
    ·split
     ·exact h'.again (by omega) (by omega)
     ·split
      ·exact h.aliased hm hk
      ·exact ⟨h'.q, h'.name, h'.zone, h'.hostsL, h'.hosts, h'.addrs, h'.tried, h'.more0, h'.more1, h'.asked, h'.sent0, h'.sent1, h'.chain, h'.small⟩
theorem TOk.supply {t : Tk} {k : Nat} (h : TOk t k) (host : List UInt8) (addrs : List Adr) : TOk (Av3 t host addrs) k := by
 unfold Av3
 split
 ·exact h
 ·refine TOk.settled ?_
  exact ⟨h.q, h.name, h.zone, Nat.le_trans (List.length_filter_le _ _) h.hostsL, fun x hx => h.hosts x (List.mem_filter.1 hx).1, by simp; omega, h.tried, h.more0, h.more1, h.asked, h.sent0, h.sent1, h.chain, h.small⟩
theorem TOk.act {t : Tk} {k : Nat} (h : TOk t k) {a : Actn} (ha : AOk a) (hk : k + 8 ≤ 900000) : TOk (doT t a).1 (k + 8) := by
 unfold doT
 split
 ·exact (h.send _).mono (by omega) hk
 ·split
  ·exact h.receive (ha.actM h.asked) _ hk
  ·split
   ·exact h.timeout hk
   ·exact (h.supply _ _).mono (by omega) hk
theorem TOk.start {q : Ques} {zone : List UInt8} {hosts : List (List UInt8)} {addrs : List Adr} (hq : q.wf) (hz : strr zone) (hw : ∀ h ∈ hosts, strr h) : TOk (startT q zone hosts addrs).1 0 := by
 have e0 : strr [] := by simp [strr]
 have ei : i64r 0 := by simp [i64r]
 have z : TOk zTk 0 := ⟨⟨e0, ei⟩, e0, e0, by simp [zTk], by simp [zTk], by simp [zTk], by simp [zTk], by simp [zTk], by simp [zTk], ⟨e0, ei⟩, by simp [zTk], by simp [zTk], by simp [zTk], by simp⟩
 unfold startT
 split
 ·exact z
 ·split
  ·exact z
  ·refine TOk.settled ?_
   exact ⟨hq, hq.1, hz, by simp; omega, fun x hx => hw x (List.mem_of_mem_take hx), by simp; omega, by simp, by simp, by simp, ⟨e0, ei⟩, by simp, by simp, by simp, by simp⟩

theorem Gh3 {t : Tk} {a : Actn} (h : t.state = 3 ∨ t.state = 4 ∨ t.state = 5) : (doT t a).1 = t ∧ (doT t a).2.2 = false := by
 have h0 : t.state ≠ 0 := by omega
 have h1 : t.state ≠ 1 := by omega
 have h2 : t.state ≠ 2 := by omega
 unfold doT
 split
 ·unfold Al9; rw [if_pos (.inl h0)]; exact ⟨rfl, rfl⟩
 ·split
  ·unfold Av8; rw [if_pos (.inl h1)]; exact ⟨rfl, rfl⟩
  ·split
   ·unfold Av7; rw [if_neg h1]; exact ⟨rfl, rfl⟩
   ·unfold Av3; rw [if_pos (.inl h2)]; exact ⟨rfl, rfl⟩

theorem Cp0 {a b c : List UInt8} (h1 : Ak4 a b = true) (h2 : Ak4 b c = true) : Ak4 a c = true := by
 rw [Aw4] at *
 exact ⟨h1.1, h2.2.1, h2.2.2.trans h1.2.2⟩
theorem Bz8 {a : List UInt8} (h : vld a = true) : Ak4 a a = true := Aw4.2 ⟨h, h, List.suffix_refl _⟩
structure AInv (t : Tk) (ty : Int) : Prop where
 typ : t.q.typ = ty
 z : t.state ≠ 4 → t.state ≠ 5 → Ak4 t.name t.zone = true
 a : t.state = 1 → Ak4 t.name t.asked.name = true
theorem If8 {q : Ques} {zone : List UInt8} {more : Int} (h : Ak4 q.name zone = true) : Ak4 (nextQ q zone more).1.name zone = true ∧ Ak4 q.name (nextQ q zone more).1.name = true ∧ ((nextQ q zone more).1.typ = 2 ∨ (nextQ q zone more).1.typ = q.typ) := by
 have hv := (Aw4.1 h).1
 unfold nextQ
 split
 ·exact ⟨h, Bz8 hv, .inr rfl⟩
 ·split
  ·exact ⟨h, Bz8 hv, .inr rfl⟩
  ·rename_i hlen
   obtain ⟨_, hz, hs⟩ := Aw4.1 h
   obtain ⟨v1, v2⟩ := Ah5 hv ((lbl q.name).length - ((lbl zone).length + 1 + more.toNat))
   refine ⟨Aw4.2 ⟨v1, hz, ?_⟩, Aw4.2 ⟨hv, v1, ?_⟩, .inl rfl⟩
   ·simp only
    rw [v2]
    exact List.suffix_of_suffix_length_le hs (List.drop_suffix _ _) (by simp; omega)
   ·simp only
    rw [v2]
    exact List.drop_suffix _ _
theorem AInv.settled {t : Tk} {ty : Int} (hty : t.q.typ = ty) (hu : Ak4 t.name t.zone = true) : AInv (Ak5 t) ty := by
 obtain ⟨e1, e2, e3, _, _⟩ := Bs4 t
 have hs := By8 t
 exact ⟨by rw [e1]; exact hty, fun _ _ => by rw [e2, e3]; exact hu, fun h => by omega⟩
theorem Dk4 {m : Msg} {zone n : List UInt8} (hk : kindM (insideM m zone) zone = 3) (hn : Ak4 n m.q.name = true) : Ak4 n (childN (insideM m zone) zone).1 = true := by
 obtain ⟨r, hr⟩ := Jb4 hk
 unfold childN
 rw [if_pos hk, hr]
 simp only
 unfold refN at hr
 split at hr
 ·cases hr
 ·have hp := List.find?_some hr
  simp only [firB, Bool.and_eq_true] at hp
  exact Cp0 hn hp.1.2
theorem AInv.act {t : Tk} {ty : Int} (h : AInv t ty) (a : Actn) : AInv (doT t a).1 ty ∧ ((doT t a).2.2 = true → Ak4 (doT t a).2.1.q.name (doT t a).1.zone = true ∧ Ak4 (doT t a).1.name (doT t a).2.1.q.name = true ∧ ((doT t a).2.1.q.typ = 2 ∨ (doT t a).2.1.q.typ = ty) ∧ (doT t a).2.1.q = (doT t a).1.asked ∧ (doT t a).1.state = 1) := by
 by_cases hend : t.state = 3 ∨ t.state = 4 ∨ t.state = 5
 ·obtain ⟨e1, e2⟩ := Gh3 (a := a) hend
  rw [e1, e2]
  exact ⟨h, fun e => by simp at e⟩
 ·have hu : Ak4 t.name t.zone = true := h.z (fun e => hend (.inr (.inl e))) (fun e => hend (.inr (.inr e)))
  unfold doT
  split
  ·unfold Al9
   split
   ·exact ⟨h, fun e => by simp at e⟩
   ·split
    ·exact ⟨⟨h.typ, fun e _ => absurd rfl e, fun e => by simp at e⟩, fun e => by simp at e⟩
    ·obtain ⟨n1, n2, n3⟩ := If8 (q := ownT t) (zone := t.zone) (more := t.more) hu
     have hty : (ownT t).typ = ty := h.typ
     rw [hty] at n3
     exact ⟨⟨h.typ, fun _ _ => hu, fun _ => n2⟩, fun _ => ⟨n1, n2, n3, rfl, rfl⟩⟩
  ·split
   ·refine ⟨?_, fun e => by simp at e⟩
    show AInv (Av8 t (actS t a) (actM t a)) ty
    unfold Av8
    split
    ·exact h
    ·rename_i hc
     simp only [not_or, Decidable.not_not] at hc
     obtain ⟨c1, c2, c3⟩ := hc
     split
     ·rename_i hk
      unfold Ay6
      exact AInv.settled h.typ (Dk4 hk (by rw [c3]; exact h.a c1))
     ·split
      ·unfold Az0; exact AInv.settled h.typ hu
      ·split
       ·exact ⟨h.typ, fun _ _ => hu, fun e => by simp [Af2] at e⟩
       ·split
        ·exact ⟨h.typ, fun _ _ => hu, fun e => by simp [Af2] at e⟩
        ·split
         ·unfold Ax2
          simp only
          split
          ·exact ⟨h.typ, fun e _ => absurd rfl e, fun e => by simp at e⟩
          ·split
           ·rename_i hun
            exact ⟨h.typ, fun _ _ => hun, fun e => by simp [Af2] at e⟩
           ·exact ⟨h.typ, fun _ e => absurd rfl e, fun e => by simp at e⟩
         ·exact ⟨h.typ, fun _ _ => hu, fun e => by simp at e⟩
   ·split
    ·refine ⟨?_, fun e => by simp at e⟩
     show AInv (Av7 t) ty
     unfold Av7
     split
     ·unfold Az0; exact AInv.settled h.typ hu
     ·exact h
    ·refine ⟨?_, fun e => by simp at e⟩
     show AInv (Av3 t (Dj0 t.hosts a) a.addrs) ty
     unfold Av3
     split
     ·exact h
     ·exact AInv.settled h.typ hu
theorem AInv.start {q : Ques} {zone : List UInt8} {hosts : List (List UInt8)} {addrs : List Adr} (h : (startT q zone hosts addrs).2 = 0) : AInv (startT q zone hosts addrs).1 q.typ := by
 unfold startT at h ⊢
 split
 ·rename_i c; rw [if_pos c] at h; simp at h
 ·rename_i c
  rw [if_neg c] at h
  split
  ·rename_i c2; rw [if_pos c2] at h; simp at h
  ·exact AInv.settled rfl (by simpa using c)
end Go.X.G
/- What tasks need and give; tasks compared. -/
namespace Go.X.G
open Go Go.X

def Gy9 (t : Tk) : Option (List UInt8) := if t.state = 2 then t.hosts.find? (fun h => !Ak4 h t.zone) else none
def Bn1 (t : Tk) : List PV := match Gy9 t with | some h => [.s h, .b true] | none => [.s [], .b false]
theorem Eg4 (t : Tk) {k : Nat} (h : TOk t k) : S Gy8 1 [t.pv] = some (Bn1 t) := by
 refine Lf6 (N := 1000) rfl ?_
 have hl := h.hostsL
 have key : Jj6.ev S 1000 [t.pv] = some (match t.hosts.find? (fun h => !Ak4 h t.zone) with | some h => .ret [.s h, .b true] | none => .yld 0 []) := by
  refine Ak2 t.hosts (fun i => [.i .i64 (i : Int)]) (fun i r => match r.find? (fun h => !Ak4 h t.zone) with | some h => .ret [.s h, .b true] | none => .yld 0 []) (by simp (disch := omega) only [EVT, EVM, EVC, EVP, ↓reduceIte, EV, Nat.reduceAdd, Nat.reduceEqDiff, Int.reduceToNat, reduceCtorEq]) (by omega) (fun i c r hd hi hc => ?_) ?_
  ·have k1 := Aq6 c t.zone (h.hosts c (List.mem_of_getElem? hc)) h.zone
   rcases Bool.eq_false_or_eq_true (Ak4 c t.zone) with hu | hu
   ·left
    rw [hu] at k1
    rw [List.find?_cons_of_neg (by simp [hu])]
    refine ⟨?_, rfl⟩
    simp (disch := omega) only [Em6, hc, k1, EVT, EVM, EVC, EVP, ↓reduceIte, EV, Nat.reduceAdd, Nat.reduceEqDiff, Int.reduceToNat, reduceCtorEq]
   ·right
    rw [hu] at k1
    rw [List.find?_cons_of_pos (by simp [hu])]
    refine ⟨?_, rfl⟩
    simp (disch := omega) only [Em6, hc, k1, EVT, EVM, EVC, EVP, ↓reduceIte, EV, Nat.reduceAdd, Nat.reduceEqDiff, Int.reduceToNat, reduceCtorEq]
  ·rw [List.find?_nil]
   refine ⟨?_, rfl⟩
   simp (disch := omega) only [Em6, EVT, EVM, EVC, EVP, ↓reduceIte, EV, Nat.reduceAdd, Nat.reduceEqDiff, Int.reduceToNat, reduceCtorEq]
 unfold Bn1 Gy9
 by_cases c : t.state = 2
 ·rw [if_pos c]
  cases hf : t.hosts.find? (fun h => !Ak4 h t.zone) with
  | some x =>
    rw [hf] at key
    simp (disch := omega) only [Em6, c, key, EVT, EVM, EVC, EVP, ↓reduceIte, EV, Nat.reduceAdd, Nat.reduceEqDiff, Int.reduceToNat, reduceCtorEq]
  | none =>
    rw [hf] at key
    simp (disch := omega) only [Em6, c, key, EVT, EVM, EVC, EVP, ↓reduceIte, EV, Nat.reduceAdd, Nat.reduceEqDiff, Int.reduceToNat, reduceCtorEq]
 ·rw [if_neg c]
  simp (disch := omega) only [Em6, c, EVT, EVM, EVC, EVP, ↓reduceIte, EV, Nat.reduceAdd, Nat.reduceEqDiff, Int.reduceToNat, reduceCtorEq]
theorem Eg3 (t : Tk) {k : Nat} (h : TOk t k) : S Gy7 1 [t.pv] = some (Bn1 t) := by
 refine Lf5 (N := 1000) rfl ?_
 have hl := h.hostsL
 have key : Jj5.ev S 1000 [t.pv] = some (match t.hosts.find? (fun h => !Ak4 h t.zone) with | some h => .ret [.s h, .b true] | none => .yld 0 []) := by
  refine Ak2 t.hosts (fun i => [.i .i64 (i : Int)]) (fun i r => match r.find? (fun h => !Ak4 h t.zone) with | some h => .ret [.s h, .b true] | none => .yld 0 []) (by simp (disch := omega) only [EVT, EVM, EVC, EVP, ↓reduceIte, EV, Nat.reduceAdd, Nat.reduceEqDiff, Int.reduceToNat, reduceCtorEq]) (by omega) (fun i c r hd hi hc => ?_) ?_
  ·have k1 := Aq2 c t.zone (h.hosts c (List.mem_of_getElem? hc)) h.zone
   rcases Bool.eq_false_or_eq_true (Ak4 c t.zone) with hu | hu
   ·left
    rw [hu] at k1
    rw [List.find?_cons_of_neg (by simp [hu])]
    refine ⟨?_, rfl⟩
    simp (disch := omega) only [Em5, hc, k1, EVT, EVM, EVC, EVP, ↓reduceIte, EV, Nat.reduceAdd, Nat.reduceEqDiff, Int.reduceToNat, reduceCtorEq]
   ·right
    rw [hu] at k1
    rw [List.find?_cons_of_pos (by simp [hu])]
    refine ⟨?_, rfl⟩
    simp (disch := omega) only [Em5, hc, k1, EVT, EVM, EVC, EVP, ↓reduceIte, EV, Nat.reduceAdd, Nat.reduceEqDiff, Int.reduceToNat, reduceCtorEq]
  ·rw [List.find?_nil]
   refine ⟨?_, rfl⟩
   simp (disch := omega) only [Em5, EVT, EVM, EVC, EVP, ↓reduceIte, EV, Nat.reduceAdd, Nat.reduceEqDiff, Int.reduceToNat, reduceCtorEq]
 unfold Bn1 Gy9
 by_cases c : t.state = 2
 ·rw [if_pos c]
  cases hf : t.hosts.find? (fun h => !Ak4 h t.zone) with
  | some x =>
    rw [hf] at key
    simp (disch := omega) only [Em5, c, key, EVT, EVM, EVC, EVP, ↓reduceIte, EV, Nat.reduceAdd, Nat.reduceEqDiff, Int.reduceToNat, reduceCtorEq]
  | none =>
    rw [hf] at key
    simp (disch := omega) only [Em5, c, key, EVT, EVM, EVC, EVP, ↓reduceIte, EV, Nat.reduceAdd, Nat.reduceEqDiff, Int.reduceToNat, reduceCtorEq]
 ·rw [if_neg c]
  simp (disch := omega) only [Em5, c, EVT, EVM, EVC, EVP, ↓reduceIte, EV, Nat.reduceAdd, Nat.reduceEqDiff, Int.reduceToNat, reduceCtorEq]

theorem Fm5 (n : Int) (h0 : 0 ≤ n) (h1 : n ≤ 1073741824) : Bv4 16 (.i .i64 n) (Rec.pv ⟨[], 0, 0, ⟨false, 0, 0, [], [], [], 0, 0, 0, 0, 0, 0, 0⟩⟩) = some (Aj2 (List.replicate n.toNat ⟨[], 0, 0, ⟨false, 0, 0, [], [], [], 0, 0, 0, 0, 0, 0, 0⟩⟩)) := by
 have h2 : n ≤ (LIM : Int) := by simp only [LIM]; omega
 have h3 : (Rec.pv ⟨[], 0, 0, ⟨false, 0, 0, [], [], [], 0, 0, 0, 0, 0, 0, 0⟩⟩).cells.length = 16 := rfl
 simp only [Bv4, h0, h2, h3, and_self, if_true]
 simp [Aj2, Rec.pv, Rec.cells, Dat.cells]
theorem Jt9 (n : Nat) (hn : n ≤ 1000000) : S Gv8 1048578 [Aj2 [], .i .i64 (n : Int)] = some [Aj2 []] := by
 refine Ly2 (N := 1) rfl ?_
 by_cases h : n = 0
 ·subst h
  simp (disch := first | omega | (simp; omega)) only [Kj4, EVT, EVM, EVC, EVP, ↓reduceIte, EV, Nat.reduceAdd, Nat.reduceEqDiff, Int.reduceToNat, reduceCtorEq]
  try simp
 ·have h0 : (0 : Int) < (n : Int) := by omega
  have hr := Fm5 (n : Int) (by omega) (by omega)
  have ha : Aw1 16 (Aj2 []) (Aj2 (List.replicate ((n : Int)).toNat ⟨[], 0, 0, ⟨false, 0, 0, [], [], [], 0, 0, 0, 0, 0, 0, 0⟩⟩)) = some (Aj2 (List.replicate ((n : Int)).toNat ⟨[], 0, 0, ⟨false, 0, 0, [], [], [], 0, 0, 0, 0, 0, 0, 0⟩⟩)) := by
   simpa using Az1 [] (List.replicate ((n : Int)).toNat ⟨[], 0, 0, ⟨false, 0, 0, [], [], [], 0, 0, 0, 0, 0, 0, 0⟩⟩) (by simp; omega)
  have e0 : (n : Int) - ((([] : List Rec).length : Int) - (([] : List Rec).length : Int)) = (n : Int) := by simp
  have hl0 : Ac7 16 (Aj2 []) (.i .i64 0) (.i .i64 (([] : List Rec).length : Int)) = some (Aj2 []) := by
   rw [Cj9 _ _ _ _ _ (by omega) (by simp) (by simp)]; rfl
  have hl1 : Ac7 16 (Aj2 (List.replicate ((n : Int)).toNat ⟨[], 0, 0, ⟨false, 0, 0, [], [], [], 0, 0, 0, 0, 0, 0, 0⟩⟩)) (.i .i64 0) (.i .i64 (([] : List Rec).length : Int)) = some (Aj2 []) := by
   rw [Cj9 _ _ _ _ _ (by omega) (by simp) (by simp)]; rfl
  simp only [List.length_nil, Int.ofNat_zero, Int.natCast_zero, Int.sub_zero] at e0 hl0 hl1
  simp (disch := first | omega | (simp; omega)) only [Kj4, Eg9, List.length_nil, Int.natCast_zero, Int.sub_zero, h0, hr, ha, e0, hl0, hl1, EVT, EVM, EVC, EVP, ↓reduceIte, EV, Nat.reduceAdd, Nat.reduceEqDiff, Int.reduceToNat, reduceCtorEq]
  try simp
end Go.X.G
/- The law IteratePlays. -/
namespace Go.X.G
open Go Go.X

theorem Fd8 (a b : List Rec) (ha : a.length ≤ 950000) (hb : b.length ≤ 40000) : S Gx5 1 [.l 1 ([a, b].map Aj2)] = some [Aj2 (a ++ b)] := by
 refine Lc5 (N := 10) rfl ?_
 have i0 : Ac8 1 (.l 1 ([a, b].map Aj2)) (.i .i64 0) = some (Aj2 a) := rfl
 have i1 : Ac8 1 (.l 1 ([a, b].map Aj2)) (.i .i64 1) = some (Aj2 b) := rfl
 have hl : Aw9 (.l 1 ([a, b].map Aj2)) = some (.i .i64 2) := rfl
 generalize (PV.l 1 ([a, b].map Aj2)) = ab at *
 have g1 := Jt9 (a.length + b.length) (by omega)
 have a1 : Aw1 16 (Aj2 []) (Aj2 a) = some (Aj2 a) := by simpa using Az1 [] a (by simp; omega)
 have a2 : Aw1 16 (Aj2 a) (Aj2 b) = some (Aj2 (a ++ b)) := Az1 _ _ (by omega)
 have k0 : It9.ev S 10 [ab] = some (.yld 0 [.i .i64 ((a.length + b.length : Nat) : Int)]) := by
  refine Bk0 2 (fun i => [.i .i64 (if i = 0 then 0 else if i = 1 then (a.length : Int) else ((a.length + b.length : Nat) : Int)), .i .i64 (i : Int)]) (fun _ => .yld 0 [.i .i64 ((a.length + b.length : Nat) : Int)]) (by simp (disch := omega) only [EVT, EVM, EVC, EVP, ↓reduceIte, EV, Nat.reduceAdd, Nat.reduceEqDiff, Int.reduceToNat, reduceCtorEq]) (by omega) (fun i hi => ?_) ?_
  ·left
   have : i = 0 ∨ i = 1 := by omega
   rcases this with rfl | rfl
   ·refine ⟨?_, rfl⟩
    have hn : ¬ ((0 : Int) + (a.length : Int)) < 0 := by omega
    have e0 : (0 : Int) + (a.length : Int) = (a.length : Int) := by omega
    simp (disch := omega) only [Cn8, hl, i0, e0, EVT, EVM, EVC, EVP, ↓reduceIte, EV, Nat.reduceAdd, Nat.reduceEqDiff, Int.reduceToNat, reduceCtorEq]
    try simp
   ·refine ⟨?_, rfl⟩
    have hn : ¬ ((a.length : Int) + (b.length : Int)) < 0 := by omega
    simp (disch := omega) only [Cn8, hl, i1, hn, EVT, EVM, EVC, EVP, ↓reduceIte, EV, Nat.reduceAdd, Nat.reduceEqDiff, Int.reduceToNat, reduceCtorEq]
    try simp
  ·refine ⟨?_, rfl⟩
   simp (disch := omega) only [Cn8, hl, EVT, EVM, EVC, EVP, ↓reduceIte, EV, Nat.reduceAdd, Nat.reduceEqDiff, Int.reduceToNat, reduceCtorEq]
   try simp
 have k1 : ∀ p1 , Is4.ev S 10 [ab, p1, Aj2 []] = some (.yld 0 [Aj2 (a ++ b)]) := by
  intro p1
  refine Bk0 2 (fun i => [Aj2 (if i = 0 then [] else if i = 1 then a else a ++ b), .i .i64 (i : Int)]) (fun _ => .yld 0 [Aj2 (a ++ b)]) (by simp (disch := omega) only [EVT, EVM, EVC, EVP, ↓reduceIte, EV, Nat.reduceAdd, Nat.reduceEqDiff, Int.reduceToNat, reduceCtorEq]) (by omega) (fun i hi => ?_) ?_
  ·left
   have : i = 0 ∨ i = 1 := by omega
   rcases this with rfl | rfl
   ·refine ⟨?_, rfl⟩
    simp (disch := omega) only [Cn8, hl, i0, a1, EVT, EVM, EVC, EVP, ↓reduceIte, EV, Nat.reduceAdd, Nat.reduceEqDiff, Int.reduceToNat, reduceCtorEq]
    try simp
   ·refine ⟨?_, rfl⟩
    simp (disch := omega) only [Cn8, hl, i1, a2, EVT, EVM, EVC, EVP, ↓reduceIte, EV, Nat.reduceAdd, Nat.reduceEqDiff, Int.reduceToNat, reduceCtorEq]
    try simp
  ·refine ⟨?_, rfl⟩
   simp (disch := omega) only [Cn8, hl, EVT, EVM, EVC, EVP, ↓reduceIte, EV, Nat.reduceAdd, Nat.reduceEqDiff, Int.reduceToNat, reduceCtorEq]
   try simp
 generalize ((a.length + b.length : Nat) : Int) = n at *
 simp (disch := omega) only [Cn8, hl, k0, k1, g1, Cy2, Kq8, EVT, EVM, EVC, EVP, ↓reduceIte, EV, Nat.reduceAdd, Nat.reduceEqDiff, Int.reduceToNat, reduceCtorEq]
structure LInv (t : Tk) : Prop where
 ans : t.last.ans.length ≤ 1000
 auth : t.last.auth.length ≤ 1000
 ext : t.last.ext.length ≤ 1000
def resT (t : Tk) : Msg × Bool :=
 if t.state = 3 then (⟨0, 0, t.last.code, true, false, false, false, false, false, false, false, 0, t.q, t.chain ++ t.last.ans, t.last.auth, t.last.ext⟩, true)
 else if t.state = 4 then (⟨0, 0, 2, true, false, false, false, false, false, false, false, 0, t.q, [], [], []⟩, true)
 else (zMsg, false)
theorem Fm4 (t : Tk) {k : Nat} (h : TOk t k) (hL : LInv t) : S Gy6 1 [t.pv] = some [(resT t).1.pv, .b (resT t).2] := by
 refine Lf4 (N := 1) rfl ?_
 have hs := h.small
 have hc := h.chain
 have l1 := hL.ans
 have l2 := hL.auth
 have l3 := hL.ext
 have k1 := Fd8 t.chain t.last.ans (by omega) (by omega)
 have k2 := By4 t.last.auth (by omega)
 have k3 := By4 t.last.ext (by omega)
 have k4 := Cg9 t.chain t.last.ans
 generalize (PV.l 1 ([t.chain, t.last.ans].map Aj2)) = ab at *
 unfold resT
 by_cases c3 : t.state = 3
 ·rw [if_pos c3]
  generalize t.chain ++ t.last.ans = ca at *
  simp (disch := omega) only [Jq1, c3, k1, k2, k3, k4, EVT, EVM, EVC, EVP, ↓reduceIte, EV, Nat.reduceAdd, Nat.reduceEqDiff, Int.reduceToNat, reduceCtorEq]
 ·rw [if_neg c3]
  by_cases c4 : t.state = 4
  ·rw [if_pos c4]
   simp (disch := omega) only [Jq1, c4, EVT, EVM, EVC, EVP, ↓reduceIte, EV, Nat.reduceAdd, Nat.reduceEqDiff, Int.reduceToNat, reduceCtorEq]
  ·rw [if_neg c4]
   unfold zMsg
   simp (disch := omega) only [Jq1, c3, c4, EVT, EVM, EVC, EVP, ↓reduceIte, EV, Nat.reduceAdd, Nat.reduceEqDiff, Int.reduceToNat, reduceCtorEq]
theorem Fm3 (t : Tk) {k : Nat} (h : TOk t k) (hL : LInv t) : S Gy5 1 [t.pv] = some [(resT t).1.pv, .b (resT t).2] := by
 refine Lf3 (N := 1) rfl ?_
 have hs := h.small
 have hc := h.chain
 have l1 := hL.ans
 have h0 : Aw1 16 (Aj2 []) (Aj2 t.chain) = some (Aj2 t.chain) := by simpa using Az1 [] t.chain (by simp; omega)
 have h1 : Aw1 16 (Aj2 t.chain) (Aj2 t.last.ans) = some (Aj2 (t.chain ++ t.last.ans)) := Az1 _ _ (by omega)
 unfold resT
 by_cases c3 : t.state = 3
 ·rw [if_pos c3]
  generalize t.chain ++ t.last.ans = ca at *
  simp (disch := omega) only [Jq0, c3, h0, h1, EVT, EVM, EVC, EVP, ↓reduceIte, EV, Nat.reduceAdd, Nat.reduceEqDiff, Int.reduceToNat, reduceCtorEq]
 ·rw [if_neg c3]
  by_cases c4 : t.state = 4
  ·rw [if_pos c4]
   simp (disch := omega) only [Jq0, c4, EVT, EVM, EVC, EVP, ↓reduceIte, EV, Nat.reduceAdd, Nat.reduceEqDiff, Int.reduceToNat, reduceCtorEq]
  ·rw [if_neg c4]
   unfold zMsg
   simp (disch := omega) only [Jq0, c3, c4, EVT, EVM, EVC, EVP, ↓reduceIte, EV, Nat.reduceAdd, Nat.reduceEqDiff, Int.reduceToNat, reduceCtorEq]

theorem Ay3 (a : List Rec) (ha : a.length ≤ 1000000) : S Cd0 2 [Aj2 a, Aj2 a] = some [.b true] := by
 refine Ld7 (N := a.length + 1) rfl ?_
 have key : Jj4.ev S (a.length + 1) [Aj2 a, Aj2 a] = some (.yld 0 []) := by
  refine Ak2 a (fun i => [.i .i64 (i : Int)]) (fun i r => .yld 0 []) rfl (by omega) (fun i c r hd hi hc => ?_) ?_
  ·left
   simp (disch := omega) only [Jk9, hc, EVM, EVP, ↓reduceIte, EV, Nat.reduceAdd, Nat.reduceEqDiff, Int.reduceToNat, reduceCtorEq]
   try simp
  ·simp (disch := omega) only [Jk9, EVM, EVP, ↓reduceIte, EV, Nat.reduceAdd, Nat.reduceEqDiff, Int.reduceToNat, reduceCtorEq]
   simp [Out.goes]
 simp (disch := omega) only [Jk9, key, EVM, EVP, ↓reduceIte, EV, Nat.reduceAdd, Nat.reduceEqDiff, Int.reduceToNat, reduceCtorEq]
theorem Bj3 (a : List Adr) (ha : a.length ≤ 1000000) : S Fz9 2 [Aj8 a, Aj8 a] = some [.b true] := by
 refine Lc6 (N := a.length + 1) rfl ?_
 have key : Jj0.ev S (a.length + 1) [Aj8 a, Aj8 a] = some (.yld 0 []) := by
  refine Ak2 a (fun i => [.i .i64 (i : Int)]) (fun i r => .yld 0 []) rfl (by omega) (fun i c r hd hi hc => ?_) ?_
  ·left
   simp (disch := omega) only [Jk6, hc, EVT, EVM, EVP, ↓reduceIte, EV, Nat.reduceAdd, Nat.reduceEqDiff, Int.reduceToNat, reduceCtorEq]
   try simp
  ·simp (disch := omega) only [Jk6, EVT, EVM, EVP, ↓reduceIte, EV, Nat.reduceAdd, Nat.reduceEqDiff, Int.reduceToNat, reduceCtorEq]
   simp [Out.goes]
 simp (disch := omega) only [Jk6, key, EVT, EVM, EVP, ↓reduceIte, EV, Nat.reduceAdd, Nat.reduceEqDiff, Int.reduceToNat, reduceCtorEq]
theorem Aw7 (x : Msg) (h1 : x.ans.length ≤ 1000000) (h2 : x.auth.length ≤ 1000000) (h3 : x.ext.length ≤ 1000000) : S Ct2 2 [x.pv, x.pv] = some [.b true] := by
 refine Lf2 (N := 1) rfl ?_
 have a1 := Ay3 x.ans h1
 have a2 := Ay3 x.auth h2
 have a3 := Ay3 x.ext h3
 simp (disch := omega) only [Lw7, a1, a2, a3, Fc3, Bl0, EVM, EVC, EVP, ↓reduceIte, EV, Nat.reduceAdd, Nat.reduceEqDiff, Int.reduceToNat, reduceCtorEq]
 simp
theorem Bq8 (t : Tk) {k : Nat} (h : TOk t k) (hL : LInv t) : S n_u9 2 [t.pv, t.pv] = some [.b true] := by
 refine s_u9 (N := 100) rfl ?_
 have hs := h.small
 have hc := h.chain
 have ht := h.tried
 have ha := h.addrs
 have hh := h.hostsL
 have a1 := Bj3 t.addrs (by omega)
 have a2 := Bj3 t.tried (by omega)
 have a3 := Ay3 t.chain (by omega)
 have a4 := Aw7 t.last (by have := hL.ans; omega) (by have := hL.auth; omega) (by have := hL.ext; omega)
 have key : Kg9.ev S 100 [t.pv, t.pv] = some (.yld 0 []) := by
  refine Ak2 t.hosts (fun i => [.i .i64 (i : Int)]) (fun i r => .yld 0 []) (by simp (disch := omega) only [EVT, EVM, EVC, EVP, ↓reduceIte, EV, Nat.reduceAdd, Nat.reduceEqDiff, Int.reduceToNat, reduceCtorEq]) (by omega) (fun i c r hd hi hc => ?_) ?_
  ·left
   simp (disch := omega) only [x_u9, hc, EVT, EVM, EVP, ↓reduceIte, EV, Nat.reduceAdd, Nat.reduceEqDiff, Int.reduceToNat, reduceCtorEq]
   try simp
  ·simp (disch := omega) only [x_u9, EVT, EVM, EVP, ↓reduceIte, EV, Nat.reduceAdd, Nat.reduceEqDiff, Int.reduceToNat, reduceCtorEq]
   simp [Out.goes]
 simp (disch := omega) only [x_u9, a1, a2, a3, a4, key, EVT, EVM, EVC, EVP, ↓reduceIte, EV, Nat.reduceAdd, Nat.reduceEqDiff, Int.reduceToNat, reduceCtorEq]
 try simp
theorem Fb3 (t : Tk) (a : Actn) {k : Nat} (h : TOk t k) (ha : AOk a) : S Gy3 2 [t.pv, a.pv] = some [(doT t a).1.pv, (doT t a).2.1.pv, .b (doT t a).2.2] := by
 refine Lf0 (N := 1) rfl ?_
 have hs := h.small
 have hhl := h.hostsL
 have hal := h.addrs
 obtain ⟨k0, k1⟩ := ha.wf.kind
 obtain ⟨n0, n1⟩ := ha.wf.n
 have h1 := Cy3 t.addrs a.n ha.wf.n (by omega)
 have h2 := Fl4 t (Bq3 t.addrs a.n) h
 have h3 := Cb0 t (actS t a) (actM t a) h (ha.actM h.asked)
 have h4 := Cy1 t h
 have h5 := Gf6 t.hosts a ha.wf (by omega)
 have h6 := Cp3 t (Dj0 t.hosts a) a.addrs h ha.addrs
 have hm4 : X.bin .rem (.i .u8 a.kind) (.i .u8 4) = some (.i .u8 (a.kind % 4)) := by
  simp [X.bin, Av0, Int.tmod_eq_emod_of_nonneg k0]
 have hm2 : X.bin .rem (.i .u8 a.n) (.i .u8 2) = some (.i .u8 (a.n % 2)) := by
  simp [X.bin, Av0, Int.tmod_eq_emod_of_nonneg n0]
 unfold doT
 by_cases c0 : a.kind % 4 = 0
 ·rw [if_pos c0]
  simp (disch := omega) only [Em3, hm4, c0, h1, h2, EVA, EVT, EVM, EVC, EVP, ↓reduceIte, EV, Nat.reduceAdd, Nat.reduceEqDiff, Int.reduceToNat, reduceCtorEq]
 ·rw [if_neg c0]
  by_cases c1 : a.kind % 4 = 1
  ·rw [if_pos c1]
   have ez : (zMsg.pv : PV) = Msg.pv ⟨0, 0, 0, false, false, false, false, false, false, false, false, 0, ⟨[], 0⟩, [], [], []⟩ := rfl
   rw [ez]
   rcases Bool.eq_false_or_eq_true a.odd with ho | ho
   ·have em : actM t a = a.m := by unfold actM; rw [if_pos ho]
    rw [em] at h3 ⊢
    by_cases c2 : a.n % 2 = 1
    ·have es : actS t a = ⟨false, 0, 99⟩ := by unfold actS; rw [if_pos ⟨ho, c2⟩]
     rw [es] at h3 ⊢
     simp (disch := omega) only [Em3, hm4, hm2, c1, c2, ho, h3, EVA, EVT, EVM, EVC, EVP, ↓reduceIte, EV, Nat.reduceAdd, Nat.reduceEqDiff, Int.reduceToNat, reduceCtorEq]
    ·have es : actS t a = t.dst := by unfold actS; rw [if_neg (fun e => c2 e.2)]
     rw [es] at h3 ⊢
     simp (disch := omega) only [Em3, hm4, hm2, c1, c2, ho, h3, EVA, EVT, EVM, EVC, EVP, ↓reduceIte, EV, Nat.reduceAdd, Nat.reduceEqDiff, Int.reduceToNat, reduceCtorEq]
   ·have em : actM t a = { a.m with q := t.asked } := by unfold actM; rw [if_neg (by rw [ho]; simp)]
    have es : actS t a = t.dst := by unfold actS; rw [if_neg (fun e => by rw [ho] at e; cases e.1)]
    rw [em, es] at h3 ⊢
    simp (disch := omega) only [Em3, hm4, c1, ho, h3, EVA, EVT, EVM, EVC, EVP, ↓reduceIte, EV, Nat.reduceAdd, Nat.reduceEqDiff, Int.reduceToNat, reduceCtorEq]
  ·rw [if_neg c1]
   have ez : (zMsg.pv : PV) = Msg.pv ⟨0, 0, 0, false, false, false, false, false, false, false, false, 0, ⟨[], 0⟩, [], [], []⟩ := rfl
   by_cases c2 : a.kind % 4 = 2
   ·rw [if_pos c2]
    simp only [ez]
    simp (disch := omega) only [Em3, hm4, c2, h4, EVA, EVT, EVM, EVC, EVP, ↓reduceIte, EV, Nat.reduceAdd, Nat.reduceEqDiff, Int.reduceToNat, reduceCtorEq]
   ·rw [if_neg c2]
    simp only [ez]
    simp (disch := omega) only [Em3, hm4, c0, c1, c2, h5, h6, EVA, EVT, EVM, EVC, EVP, ↓reduceIte, EV, Nat.reduceAdd, Nat.reduceEqDiff, Int.reduceToNat, reduceCtorEq]
end Go.X.G
/- The laws on tasks, without the reference: ends, and what is asked. -/
namespace Go.X.G
open Go Go.X

theorem An3 (t : Tk) : t.cells = [.s t.q.name, .i .i64 t.q.typ, .s t.name, .s t.zone, Aj7 t.hosts, Aj8 t.addrs, Aj8 t.tried, .i .i64 t.state, .i .i64 t.more, .b t.dst.v6, .i .u64 t.dst.hi, .i .u64 t.dst.lo, .s t.asked.name, .i .i64 t.asked.typ, .i .i64 t.sent, Aj2 t.chain, .i .i64 t.last.id, .i .i64 t.last.op, .i .i64 t.last.code, .b t.last.resp, .b t.last.aa, .b t.last.tc, .b t.last.rd, .b t.last.ra, .b t.last.ad, .b t.last.cd, .b t.last.dok, .i .i64 t.last.size, .s t.last.q.name, .i .i64 t.last.q.typ, Aj2 t.last.ans, Aj2 t.last.auth, Aj2 t.last.ext, .i .i64 t.err] := rfl
end Go.X.G
/- The law IteratePlays. -/
namespace Go.X.G
open Go Go.X

theorem Aw5 (t : Tk) : (Ak5 t).last = t.last := by
 unfold Ak5; split
 ·rfl
 ·split <;> rfl
theorem Cv7 (t : Tk) (m : Msg) : (Ax2 t m).last = t.last := by
 unfold Ax2; simp only; split
 ·rfl
 ·split <;> rfl
theorem LInv.of {t u : Tk} (h : LInv t) (e : u.last = t.last) : LInv u := ⟨by rw [e]; exact h.ans, by rw [e]; exact h.auth, by rw [e]; exact h.ext⟩
theorem LInv.act {t : Tk} (h : LInv t) {a : Actn} (ha : AOk a) (hq : t.asked.wf) : LInv (doT t a).1 := by
 unfold doT
 split
 ·refine h.of ?_
  unfold Al9; split
  ·rfl
  ·split <;> rfl
 ·split
  ·show LInv (Av8 t (actS t a) (actM t a))
   have hm := ha.actM hq
   generalize actM t a = m at *
   unfold Av8
   split
   ·exact h
   ·split
    ·exact h.of (Aw5 _)
    ·split
     ·exact h.of (Aw5 _)
     ·split
      ·exact h.of rfl
      ·split
       ·exact h.of rfl
       ·split
        ·exact h.of (Cv7 t m)
        ·have hi := hm.inside t.zone
         exact ⟨hi.ans, hi.auth, hi.ext⟩
  ·split
   ·show LInv (Av7 t)
    unfold Av7; split
    ·exact h.of (Aw5 _)
    ·exact h
   ·show LInv (Av3 t (Dj0 t.hosts a) a.addrs)
    unfold Av3; split
    ·exact h
    ·exact h.of (Aw5 _)
theorem Jf4 (t : Tk) (a : Actn) : (doT t a).2.1.ans = [] ∧ (doT t a).2.1.auth = [] ∧ (doT t a).2.1.ext = [] := by
 unfold doT
 split
 ·unfold Al9; split
  ·exact ⟨rfl, rfl, rfl⟩
  ·split <;> exact ⟨rfl, rfl, rfl⟩
 ·split
  ·exact ⟨rfl, rfl, rfl⟩
  ·split <;> exact ⟨rfl, rfl, rfl⟩
theorem Cp6 (q : Ques) (zone : List UInt8) (hosts : List (List UInt8)) (addrs : List Adr) : LInv (startT q zone hosts addrs).1 := by
 have hz : LInv zTk := ⟨by simp [zTk, zMsg], by simp [zTk, zMsg], by simp [zTk, zMsg]⟩
 unfold startT
 split
 ·exact hz
 ·split
  ·exact hz
  ·exact hz.of (by rw [Aw5]; rfl)
set_option maxHeartbeats 4000000 in
set_option maxRecDepth 20000 in
theorem Ip0 (b : Begin) (l : List Actn) (p2 p3 p5 p7 p8 : PV) (t : Tk) (h : TOk t 0) (hL : LInv t) (hl : ∀ a ∈ l, AOk a) (h20 : l.length ≤ 20) :
  Kh2.ev S 300 [b.pv, Am6 l, p2, p3, t.pv, p5, t.pv, p7, p8] = some (.ret [.b true]) := by
 refine Ak8 l (fun i (g : Tk) => .i .i64 (i : Int) :: (g.cells ++ g.cells)) (fun i g r => .ret [.b true]) (fun i g => TOk g (8 * i) ∧ LInv g) t ?_ ⟨h, hL⟩ (by omega) (fun i g c r hd hi hc hgI => ?_) (fun g hgI => ?_)
 ·simp (disch := omega) only [An3, EVA, EVT, EVM, EVC, EVP, ↓reduceIte, EV, Nat.reduceAdd, Nat.reduceEqDiff, Int.reduceToNat, reduceCtorEq]
 ·left
  obtain ⟨hg, hgL⟩ := hgI
  have hcA := hl c (List.mem_of_getElem? hc)
  have m1 := Eg4 g hg
  have m2 := Eg3 g hg
  have r1 := Fm4 g hg hgL
  have r2 := Fm3 g hg hgL
  have hD := Ls7 g c hg hcA
  have hM := Fb3 g c hg hcA
  have hT := hg.act hcA (by omega)
  have hTL := hgL.act hcA hg.asked
  have sm := Bq8 (doT g c).1 hT hTL
  have hs := hg.small
  have hch := hg.chain
  have g1 := Aw7 (resT g).1 (by
    unfold resT; split
    ·simp only [List.length_append]; have := hgL.ans; omega
    ·split <;> simp [zMsg]) (by
    unfold resT; split
    ·have := hgL.auth; simp only; omega
    ·split <;> simp [zMsg]) (by
    unfold resT; split
    ·have := hgL.ext; simp only; omega
    ·split <;> simp [zMsg])
  obtain ⟨e1, e2, e3⟩ := Jf4 g c
  have g2 := Aw7 (doT g c).2.1 (by rw [e1]; simp) (by rw [e2]; simp) (by rw [e3]; simp)
  refine ⟨(doT g c).1, ?_, ⟨by rw [show 8 * (i + 1) = 8 * i + 8 by omega]; exact hT, hTL⟩, rfl⟩
  clear hT hTL hg hgL e1 e2 e3
  generalize (resT g).1 = rm at *
  generalize (resT g).2 = rb at *
  generalize (doT g c).1 = u at *
  generalize (doT g c).2.1 = dm at *
  generalize (doT g c).2.2 = db at *
  have hle : (i : Int) ≤ (l.length : Int) := by omega
  have hne : ¬ (i : Int) = (l.length : Int) := by omega
  unfold Bn1 at m1 m2
  cases hms : Gy9 g with
  | none =>
    rw [hms] at m1 m2
    simp only at m1 m2
    simp (maxSteps := 4000000) (disch := omega) only [x_u3, hc, hle, hne, m1, m2, r1, r2, hD, hM, sm, g1, g2, An3, Fc3, Bl0, beq_self_eq_true, Bool.not_true, EVA, EVT, EVM, EVC, EVP, ↓reduceIte, EV, Nat.reduceAdd, Nat.reduceEqDiff, Int.reduceToNat, reduceCtorEq]
    try simp
  | some x =>
    rw [hms] at m1 m2
    simp only at m1 m2
    simp (maxSteps := 4000000) (disch := omega) only [x_u3, hc, hle, hne, m1, m2, r1, r2, hD, hM, sm, g1, g2, An3, Fc3, Bl0, beq_self_eq_true, Bool.not_true, EVA, EVT, EVM, EVC, EVP, ↓reduceIte, EV, Nat.reduceAdd, Nat.reduceEqDiff, Int.reduceToNat, reduceCtorEq]
    try simp
 ·obtain ⟨hg, hgL⟩ := hgI
  have m1 := Eg4 g hg
  have m2 := Eg3 g hg
  have r1 := Fm4 g hg hgL
  have r2 := Fm3 g hg hgL
  have hs := hg.small
  have hch := hg.chain
  have g1 := Aw7 (resT g).1 (by
    unfold resT; split
    ·simp only [List.length_append]; have := hgL.ans; omega
    ·split <;> simp [zMsg]) (by
    unfold resT; split
    ·have := hgL.auth; simp only; omega
    ·split <;> simp [zMsg]) (by
    unfold resT; split
    ·have := hgL.ext; simp only; omega
    ·split <;> simp [zMsg])
  clear hg hgL
  generalize (resT g).1 = rm at *
  generalize (resT g).2 = rb at *
  have hle : ((l.length : Nat) : Int) ≤ (l.length : Int) := by omega
  refine ⟨?_, rfl⟩
  unfold Bn1 at m1 m2
  cases hms : Gy9 g with
  | none =>
    rw [hms] at m1 m2
    simp only at m1 m2
    simp (maxSteps := 4000000) (disch := omega) only [x_u3, hle, m1, m2, r1, r2, g1, An3, Fc3, Bl0, beq_self_eq_true, Bool.not_true, EVA, EVT, EVM, EVC, EVP, ↓reduceIte, EV, Nat.reduceAdd, Nat.reduceEqDiff, Int.reduceToNat, reduceCtorEq]
    try simp
  | some x =>
    rw [hms] at m1 m2
    simp only at m1 m2
    simp (maxSteps := 4000000) (disch := omega) only [x_u3, hle, m1, m2, r1, r2, g1, An3, Fc3, Bl0, beq_self_eq_true, Bool.not_true, EVA, EVT, EVM, EVC, EVP, ↓reduceIte, EV, Nat.reduceAdd, Nat.reduceEqDiff, Int.reduceToNat, reduceCtorEq]
    try simp
theorem law_IteratePlays (b : Begin) (l : List Actn) (hb : b.wf) (hl : Jt4 l) : S n_u3 2 [b.pv, Am6 l] = some [.b true] := by
 refine s_u3 (N := 300) rfl ?_
 have ha := Fc8
 obtain ⟨c, hc, hs⟩ := Ib3 b l hb hl
 cases c with
 | false => simp (maxSteps := 4000000) (disch := omega) only [x_u3, ha, hc, EVA, EVT, EVM, EVC, EVP, ↓reduceIte, EV, Nat.reduceAdd, Nat.reduceEqDiff, Int.reduceToNat, reduceCtorEq]
 | true =>
   obtain ⟨h1, h2, h3, h4⟩ := hs rfl
   have hst := start_ok b.q b.zone b.hosts b.addrs hb.q hb.zone (by omega) hb.hosts.2 (by omega)
   have hsr := Cp7 b.q b.zone b.hosts b.addrs hb.q hb.zone (by omega) hb.hosts.2 (by omega)
   have hT := TOk.start (q := b.q) (zone := b.zone) (hosts := b.hosts) (addrs := b.addrs) hb.q hb.zone hb.hosts.2
   have hL := Cp6 b.q b.zone b.hosts b.addrs
   generalize startT b.q b.zone b.hosts b.addrs = p at *
   obtain ⟨t, e⟩ := p
   simp only at hst hsr hT hL
   have sm := Bq8 t hT hL
   by_cases c1 : e = 0
   ·subst c1
    have hI := fun p2 p3 p5 p7 p8 => Ip0 b l p2 p3 p5 p7 p8 t hT hL h4 h1
    simp (maxSteps := 4000000) (disch := omega) only [x_u3, ha, hc, hst, hsr, sm, hI, EVA, EVT, EVM, EVC, EVP, ↓reduceIte, EV, Nat.reduceAdd, Nat.reduceEqDiff, Int.reduceToNat, reduceCtorEq]
    try simp
   ·simp (maxSteps := 4000000) (disch := omega) only [x_u3, ha, hc, hst, hsr, sm, c1, EVA, EVT, EVM, EVC, EVP, ↓reduceIte, EV, Nat.reduceAdd, Nat.reduceEqDiff, Int.reduceToNat, reduceCtorEq]
    try simp
end Go.X.G
