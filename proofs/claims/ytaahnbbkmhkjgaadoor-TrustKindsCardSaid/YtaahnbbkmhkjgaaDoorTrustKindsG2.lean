/- Operations with maps. -/
import Derived.Test.YtaahnbbkmhkjgaaDoorTrustKindsG1
import Derived.Test.YtaahnbbkmhkjgaaDoorTrustKindsG0
import Derived.MapKept
set_option linter.unusedVariables false
set_option linter.unusedSimpArgs false
namespace Go.X
open Go Go.RowKit

theorem strEq (y y' : ByteArray) : (y == y') = (y.data.toList == y'.data.toList) := by
  cases y with | mk a => cases y' with | mk b =>
  show (a == b) = _
  rcases a with ⟨a⟩
  rcases b with ⟨b⟩
  simp

/-- looking a key up, in both worlds -/
theorem mfind_now {M : Vw} {x : List UInt8} {y : ByteArray} (hy : y.data.toList = x) : ∀ (es : List (PV × PV)) (ents : List MapEntry) (i : Nat) (r : Option PV), ents.length = es.length →
    (∀ (j : Nat) (e : PV × PV) (z : MapEntry), es[j]? = some e → ents[j]? = some z → Rep M e.1 z.key) → mfind (.s x) es = some r →
    (r = none ∧ Instr.findNow .string (.string y) ents i = some none) ∨
    ∃ j z e, Instr.findNow .string (.string y) ents i = some (some (i + j, z.val)) ∧ ents[j]? = some z ∧ es[j]? = some e ∧ r = some e.2
  | [], [], i, r, _, _, h => by
    simp only [mfind, Option.some.injEq] at h
    exact .inl ⟨h.symm, rfl⟩
  | e :: es, z :: ents, i, r, hl, hk, h => by
    have k0 := hk 0 e z rfl rfl
    have hk' : ∀ (j : Nat) (e : PV × PV) (z : MapEntry), es[j]? = some e → ents[j]? = some z → Rep M e.1 z.key := fun j e' z' h1 h2 => hk (j + 1) e' z' (by simpa using h1) (by simpa using h2)
    simp only [mfind] at h
    cases hc : e.1 with
    | s x' =>
      rw [hc] at k0
      obtain ⟨y', hz, hy'⟩ := k0.str
      simp only [hc, keyEq] at h
      have hs : Instr.sameNow .string (.string y) z.key = some (x == x') := by
        rw [hz]; simp only [Instr.sameNow]; rw [strEq, hy, hy']
      cases hb : (x == x') with
      | true =>
        rw [hb] at h hs
        simp only [Option.some.injEq] at h
        refine .inr ⟨0, z, e, ?_, rfl, rfl, h.symm⟩
        simp only [Instr.findNow, hs, Nat.add_zero]
      | false =>
        rw [hb] at h hs
        simp only at h
        rcases mfind_now hy es ents (i + 1) r (by simpa using hl) hk' h with ⟨h1, h2⟩ | ⟨j, z', e', h1, h2, h3, h4⟩
        · exact .inl ⟨h1, by simp only [Instr.findNow, hs, h2]⟩
        · refine .inr ⟨j + 1, z', e', ?_, by simpa using h2, by simpa using h3, h4⟩
          simp only [Instr.findNow, hs, h1]
          rw [Nat.add_assoc, Nat.add_comm 1 j]
    | _ => simp [hc, keyEq] at h
  | [], _ :: _, _, _, hl, _, _ => by simp at hl
  | _ :: _, [], _, _, hl, _, _ => by simp at hl

theorem mput_now {M : Vw} {x : List UInt8} {y : ByteArray} {v : PV} (hy : y.data.toList = x) : ∀ (es : List (PV × PV)) (ents : List MapEntry) (i : Nat) (es' : List (PV × PV)), ents.length = es.length →
    (∀ (j : Nat) (e : PV × PV) (z : MapEntry), es[j]? = some e → ents[j]? = some z → Rep M e.1 z.key) → mput (.s x) v es = some es' →
    (Instr.findNow .string (.string y) ents i = some none ∧ es' = es ++ [(.s x, v)]) ∨
    ∃ j z, Instr.findNow .string (.string y) ents i = some (some (i + j, z.val)) ∧ ents[j]? = some z ∧ z.key = .string y ∧ es' = es.set j (.s x, v)
  | [], [], i, es', _, _, h => by
    simp only [mput, Option.some.injEq] at h
    exact .inl ⟨rfl, h.symm⟩
  | e :: es, z :: ents, i, es', hl, hk, h => by
    have k0 := hk 0 e z rfl rfl
    have hk' : ∀ (j : Nat) (e : PV × PV) (z : MapEntry), es[j]? = some e → ents[j]? = some z → Rep M e.1 z.key := fun j e' z' h1 h2 => hk (j + 1) e' z' (by simpa using h1) (by simpa using h2)
    simp only [mput] at h
    cases hc : e.1 with
    | s x' =>
      rw [hc] at k0
      obtain ⟨y', hz, hy'⟩ := k0.str
      simp only [hc, keyEq] at h
      have hs : Instr.sameNow .string (.string y) z.key = some (x == x') := by
        rw [hz]; simp only [Instr.sameNow]; rw [strEq, hy, hy']
      cases hb : (x == x') with
      | true =>
        have hyy : y = y' := by
          have : (y == y') = true := by rw [strEq, hy, hy', hb]
          exact (MapKept.bytes_beq _ _).1 this
        rw [hb] at h hs
        simp only [Option.some.injEq] at h
        refine .inr ⟨0, z, ?_, rfl, by rw [hz, hyy], by rw [← h]; rfl⟩
        simp only [Instr.findNow, hs, Nat.add_zero]
      | false =>
        rw [hb] at h hs
        simp only [Option.map_eq_some_iff] at h
        obtain ⟨es1, hm1, rfl⟩ := h
        rcases mput_now hy es ents (i + 1) es1 (by simpa using hl) hk' hm1 with ⟨h1, rfl⟩ | ⟨j, z', h1, h2, h3, rfl⟩
        · exact .inl ⟨by simp only [Instr.findNow, hs, h1], rfl⟩
        · refine .inr ⟨j + 1, z', ?_, by simpa using h2, h3, rfl⟩
          simp only [Instr.findNow, hs, h1]
          rw [Nat.add_assoc, Nat.add_comm 1 j]
    | _ => simp [hc, keyEq] at h
  | [], _ :: _, _, _, hl, _, _ => by simp at hl
  | _ :: _, [], _, _, hl, _, _ => by simp at hl

theorem strMap_ok {P : Program} {t e : TypeId} (h : strMap P t = some e) : ∃ k, P.underlying t = some (.map k e) ∧ P.underlying k = some .string := by
  unfold strMap at h
  split at h
  · rename_i k e' hu
    split at h
    · rename_i hk
      injection h with h; subst h
      exact ⟨k, hu, hk⟩
    · cases h
  · cases h
theorem zero1_ok {P : Program} {t : TypeId} {z : E} {w : World} (h : zero1 P t = some z) (C : Cx) : ∃ v p, (zeroValue t).run P w = .ok v w ∧ One v ∧ z.ev C.η = some p ∧ Rep C.M p v := by
  unfold zero1 at h
  split at h
  · rename_i i hi
    split at h
    · rename_i v hv
      split at h
      · rename_i h1
        obtain ⟨p, hp, hr⟩ := SV.asE_ok h (svConst_ok C (tESize P t) v)
        exact ⟨v, p, by simp [zeroValue, typeInfo, hi, hv], h1, hp, hr⟩
      · cases h
    · cases h
  · cases h

section
variable {P : Program} {w0 : World} {Oe : Nat → Option Nat} {η : List PV} {σ : St} {a : Act} {tm : Array Value} {w : World} {β : Nat → Nat} {hv : Nat → Value} {O : Nat → Option Nat} {G : Option E} {o : Oper} {ws : List W}

theorem mapE_ok (h : Rel w0 Oe η σ tm w β hv O) {sv : SV} {x : E} {v : Value} (hx : mapE σ.m sv = some x) (hr : RepSV ⟨η, view w O, β, hv, σ.m⟩ sv v) {es : List (PV × PV)} (hev : x.ev η = some (.m es)) :
    ∃ r ents clock, v = .map (some r) ∧ w.heap[r]? = some (.map ents clock) ∧ MapRep (view w O) es ents := by
  unfold mapE at hx
  split at hx
  · injection hx with hx; subst hx
    simp only [RepSV] at hr
    obtain ⟨p, hp, hpr⟩ := hr
    have hp' : E.ev η _ = some p := hp
    rw [hev] at hp'; injection hp' with hp'; subst hp'
    cases hpr with
    | m _ r ents hr hl hk hv h1 =>
      obtain ⟨_, clock, hh⟩ := view_map hr
      exact ⟨r, ents, clock, rfl, hh, hl, hk, hv, h1⟩
  · split at hx
    · rename_i s y ro hb
      injection hx with hx; subst hx
      obtain ⟨_, _, es', ents, clock, g1, g2, g3⟩ := h.mem _ _ hb
      have g1' : E.ev η _ = some (.m es') := g1
      rw [hev] at g1'; injection g1' with g1'; injection g1' with g1'; subst g1'
      simp only [RepSV] at hr
      exact ⟨_, ents, clock, hr, g2, g3⟩
    · cases hx
  · cases hx

theorem mget_ev {x k z : E} {q : PV} (h : (E.mget x k z).ev η = some q) : ∃ es kp zp r, x.ev η = some (.m es) ∧ k.ev η = some kp ∧ z.ev η = some zp ∧ mfind kp es = some r ∧ q = r.getD zp := by
  simp only [E.ev, Option.bind_eq_some_iff] at h
  obtain ⟨p, hp, kp, hkp, zp, hzp, h⟩ := h
  unfold mgetPV at h
  split at h
  · rename_i es
    split at h
    · obtain ⟨r, hr, hq⟩ := Option.map_eq_some_iff.1 h
      exact ⟨es, kp, zp, r, hp, hkp, hzp, hr, hq.symm⟩
    · cases h
  · cases h

theorem op_lookup {t k e : TypeId} {m x : Operand} {sv : SV} {em ex z : E} (ho : o.op = .lookup t m x false) (ht : P.underlying t = some (.map k e)) (hkt : P.underlying k = some .string)
    (h : Rel w0 Oe η σ a.tmps w β hv O) (hG : GOk η G) (hm : opd P σ G 0 m = some sv) (hme : mapE σ.m sv = some em) (hx : opdE P σ G 0 x = some ex) (hz : zero1 P e = some z)
    (hk : Chk η [chkG G (.mget em ex z), chkG G (.slen ex)]) : Step P o a w (Post w0 Oe η σ a.tmps (effK σ) (.e (.mget em ex z))) := by
  have hr := opd_ok (ds := a.defers) (C := ⟨η, view w O, β, hv, σ.m⟩) hG rfl hm h.tmps
  obtain ⟨kp, hkp, hkr⟩ := opdE_ok (ds := a.defers) (C := ⟨η, view w O, β, hv, σ.m⟩) hG rfl hx h.tmps
  have hkp' : ex.ev η = some kp := hkp
  obtain ⟨q, hq⟩ := hk.g hG (.head _)
  obtain ⟨l, hl⟩ := hk.g hG (.tail _ (.head _))
  obtain ⟨es, kp', zp, r, q1, q2, q3, q4, q5⟩ := mget_ev hq
  rw [hkp'] at q2; injection q2 with q2; subst q2
  have hks : ∃ xs, kp = .s xs := by
    simp only [E.ev, hkp', Option.bind_some] at hl
    cases kp <;> simp [slenPV] at hl
    exact ⟨_, rfl⟩
  obtain ⟨xs, rfl⟩ := hks
  obtain ⟨y, hy, hyx⟩ := hkr.str
  obtain ⟨rr, ents, clock, hmv, hheap, hrep⟩ := mapE_ok h hme hr q1
  obtain ⟨zv, zp', hz1, hz2, hz3, hz4⟩ := zero1_ok (w := w) hz ⟨η, view w O, β, hv, σ.m⟩
  have hz3' : z.ev η = some zp' := hz3
  rw [q3] at hz3'; injection hz3' with hz3'; subst hz3'
  have hm' : a.eval m = .map (some rr) := hmv
  have hx' : a.eval x = .string y := hy
  have hch : ∀ em, (Instr.checkKey em 10000 k (.string y)).run P w = .ok () w := fun em => by
    rw [show (10000 : Nat) = 9999 + 1 from rfl]
    unfold Instr.checkKey
    simp [run_underlying hkt, Result.andThen]
  have hfk : ∀ u, Instr.findNow .string (.string y) ents.toList 0 = some u → (Instr.findKey k (.string y) ents.toList).run P w = .ok u w := fun u hu => by
    simp [Instr.findKey, run_underlying hkt, Result.andThen, hu]
  rcases mfind_now (M := view w O) hyx es ents.toList 0 r (by simpa using hrep.len) (fun j e z h1 h2 => hrep.key j e z h1 (by simpa using h2)) q4 with ⟨rfl, h1⟩ | ⟨j, z', e', h1, h2, h3, rfl⟩
  · refine Step.value (v := zv) (w' := w) ?_ (Post.keep h ?_)
    · simp [execOp, ho, hm', hx', Instr.lookup, run_underlying ht, MapKept.run_getObj_map hheap, hch, hfk _ h1, hz1, Result.andThen]
    · simp only [RepSV]
      exact ⟨_, hq, by rw [q5]; exact hz4⟩
  · refine Step.value (v := z'.val) (w' := w) ?_ (Post.keep h ?_)
    · simp [execOp, ho, hm', hx', Instr.lookup, run_underlying ht, MapKept.run_getObj_map hheap, hch, hfk _ h1, Result.andThen]
    · simp only [RepSV]
      exact ⟨_, hq, by rw [q5]; exact hrep.val j e' z' h3 (by simpa using h2)⟩

theorem op_makeMap {t : TypeId} {s : Nat} (ho : o.op = .makeMap t none) (h : Rel w0 Oe η σ a.tmps w β hv O) :
    Step P o a w (Post w0 Oe η σ a.tmps (effF σ.m σ.n s (.map (.c (.m [])) false)) (.mh s)) := by
  obtain ⟨β', O', hβ, hrel⟩ := h.alloc (s := s) (b := .map (.c (.m [])) false) (n := σ.n) (.map #[] 0) fun β' O' hb _ hO _ => by
    refine ⟨by show _ ≤ β' s; rw [hb]; exact h.bel.size, fun _ => by show O' (β' s) = _; rw [hb]; exact hO, [], #[], 0, rfl, ?_, ⟨rfl, fun j e z h1 => by simp at h1, fun j e z h1 => by simp at h1, fun j e z h1 => by simp at h1⟩⟩
    show (w.alloc _).heap[β' s]? = _
    rw [hb]; exact heap_alloc_new w _
  refine Step.value (v := .map (some w.heap.size)) (w' := w.alloc (.map #[] 0)) ?_ ⟨β', hv, O', hrel, ?_⟩
  · simp [execOp, ho, Instr.makeMap]
  · simp only [RepSV, hβ]

theorem op_mapUpdate {t k e : TypeId} {m x y : Operand} {s : Nat} {em ex ev : E} (ho : o.op = .mapUpdate t m x y) (ht : P.underlying t = some (.map k e)) (hkt : P.underlying k = some .string)
    (h : Rel w0 Oe η σ a.tmps w β hv O) (hG : GOk η G) (hm : opd P σ G 0 m = some (.mh s)) (hb : mget σ.m s = some (.map em false)) (hx : opdE P σ G 0 x = some ex) (hy : opdE P σ G 0 y = some ev)
    (hk : Chk η [.chk (.mset em ex ev), .chk (.slen ex), .chk (.scal ev)]) : Step P o a w (Post w0 Oe η σ a.tmps ⟨bput σ.m s (.map (.mset em ex ev) false), σ.n, none⟩ .und) := by
  have hr := opd_ok (ds := a.defers) (C := ⟨η, view w O, β, hv, σ.m⟩) hG rfl hm h.tmps
  simp only [RepSV] at hr
  obtain ⟨kp, hkp, hkr⟩ := opdE_ok (ds := a.defers) (C := ⟨η, view w O, β, hv, σ.m⟩) hG rfl hx h.tmps
  obtain ⟨vp, hvp, hvr⟩ := opdE_ok (ds := a.defers) (C := ⟨η, view w O, β, hv, σ.m⟩) hG rfl hy h.tmps
  have hkp' : ex.ev η = some kp := hkp
  have hvp' : ev.ev η = some vp := hvp
  obtain ⟨q, hq⟩ := hk _ (.head _)
  obtain ⟨l, hl⟩ := hk _ (.tail _ (.head _))
  obtain ⟨l2, hl2⟩ := hk _ (.tail _ (.tail _ (.head _)))
  have hks : ∃ xs, kp = .s xs := by
    simp only [E.ev, hkp', Option.bind_some] at hl
    cases kp <;> simp [slenPV] at hl
    exact ⟨_, rfl⟩
  obtain ⟨xs, rfl⟩ := hks
  have hsc : vp.scal = true := by
    simp only [E.ev, hvp', Option.bind_some] at hl2
    by_cases hs : vp.scal = true
    · exact hs
    · simp [hs] at hl2
  obtain ⟨yk, hyk, hyx⟩ := hkr.str
  obtain ⟨g1, g2, es, ents, clock, g3, g4, g5⟩ := h.mem s _ hb
  have g3' : em.ev η = some (.m es) := g3
  have g4' : w.heap[β s]? = some (.map ents clock) := g4
  have hq' := hq
  simp only [E.ev, g3', hkp', hvp', Option.bind_some, msetPV, keyOk, if_true, Option.map_eq_some_iff] at hq'
  obtain ⟨es', q4, rfl⟩ := hq'
  have hm' : a.eval m = .map (some (β s)) := hr
  have hx' : a.eval x = .string yk := hyk
  have hch : ∀ em, (Instr.checkKey em 10000 k (.string yk)).run P w = .ok () w := fun em => by
    rw [show (10000 : Nat) = 9999 + 1 from rfl]
    unfold Instr.checkKey
    simp [run_underlying hkt, Result.andThen]
  have hfk : ∀ u, Instr.findNow .string (.string yk) ents.toList 0 = some u → (Instr.findKey k (.string yk) ents.toList).run P w = .ok u w := fun u hu => by
    simp [Instr.findKey, run_underlying hkt, Result.andThen, hu]
  have fin : ∀ ents' clock', MapRep (view w O) es' ents' → (execOp a.eval o).run P w = .ok .skip { w with heap := w.heap.setIfInBounds (β s) (.map ents' clock') } → Step P o a w (Post w0 Oe η σ a.tmps ⟨bput σ.m s (.map (.mset em ex ev) false), σ.n, none⟩ .und) := by
    intro ents' clock' hrep hrun
    have hset := MapKept.heap_set (o' := .map ents' clock') g4'
    refine .inr (.inl ⟨_, hrun, β, hv, O, ?_, by simp only [RepSV]⟩)
    have hM : (view w O).Le (view { w with heap := w.heap.setIfInBounds (β s) (.map ents' clock') } O) :=
      view_le (fun c _ hc => hset.2 c (fun e => by subst e; exact absurd (hc 0 (g2 rfl)) (by omega))) (fun c _ lim hl => ⟨lim, hl, Nat.le_refl _⟩) (fun c _ hn => hn)
    have hbs : w0.heap.size ≤ β s := g1
    refine h.put hb trivial (g2 rfl) (h.bel.trans ⟨rfl, rfl, rfl, by simp, fun k hk => hset.2 k (by omega)⟩) (by simp) (fun c hc => hset.2 c hc) (fun e sz x ro xs hh => by cases hh) ⟨g1, g2, es', ents', clock', hq, hset.1, hrep.mono hM⟩
  rcases mput_now (M := view w O) hyx es ents.toList 0 es' (by simpa using g5.len) (fun j e z h1 h2 => g5.key j e z h1 (by simpa using h2)) q4 with ⟨h1, rfl⟩ | ⟨j, z', h1, h2, h3, rfl⟩
  · refine fin (ents.push ⟨.string yk, a.eval y, clock⟩) (clock + 1) ?_ ?_
    · have hlen := g5.len
      have get : ∀ (j : Nat) (e : PV × PV) (z : MapEntry), (es ++ [(PV.s xs, vp)])[j]? = some e → (ents.push ⟨.string yk, a.eval y, clock⟩)[j]? = some z → (es[j]? = some e ∧ ents[j]? = some z) ∨ (e = (PV.s xs, vp) ∧ z = ⟨.string yk, a.eval y, clock⟩) := by
        intro j e z h1 h2
        by_cases hj : j < es.length
        · rw [List.getElem?_append_left hj] at h1
          rw [Array.getElem?_push, if_neg (by omega)] at h2
          exact .inl ⟨h1, h2⟩
        · by_cases hj2 : j = es.length
          · subst hj2
            rw [List.getElem?_append_right (Nat.le_refl _)] at h1
            rw [Array.getElem?_push, if_pos hlen.symm] at h2
            simp at h1 h2
            exact .inr ⟨h1.symm, h2.symm⟩
          · rw [List.getElem?_eq_none (by simp; omega)] at h1; cases h1
      refine ⟨by simp [hlen], fun j e z h1 h2 => ?_, fun j e z h1 h2 => ?_, fun j e z h1 h2 => ?_⟩
      · rcases get j e z h1 h2 with ⟨h3, h4⟩ | ⟨rfl, rfl⟩
        · exact g5.key j e z h3 h4
        · exact .s _ _ hyx
      · rcases get j e z h1 h2 with ⟨h3, h4⟩ | ⟨rfl, rfl⟩
        · exact g5.val j e z h3 h4
        · exact hvr
      · rcases get j e z h1 h2 with ⟨h3, h4⟩ | ⟨rfl, rfl⟩
        · exact g5.one j e z h3 h4
        · exact hvr.one hsc
    · simp [execOp, ho, hm', hx', Instr.mapUpdate, run_underlying ht, MapKept.run_getObj_map g4', hch, hfk _ h1, MapKept.run_setObj_map _ g4', Result.andThen]
  · have h2' : ents[j]? = some z' := by simpa using h2
    have hj : j < ents.size := (Array.getElem?_eq_some_iff.1 h2').1
    refine fin (ents.modify j fun e => { e with key := .string yk, val := a.eval y }) clock ?_ ?_
    · have hlen := g5.len
      have get : ∀ (i : Nat) (e : PV × PV) (z : MapEntry), (es.set j (PV.s xs, vp))[i]? = some e → (ents.modify j fun e => { e with key := .string yk, val := a.eval y })[i]? = some z → (es[i]? = some e ∧ ents[i]? = some z) ∨ (e = (PV.s xs, vp) ∧ z.key = .string yk ∧ z.val = a.eval y) := by
        intro i e z h1 h2
        rw [Array.getElem?_modify] at h2
        rw [List.getElem?_set] at h1
        by_cases hij : j = i
        · subst hij
          rw [if_pos rfl, if_pos (by omega)] at h1
          rw [if_pos rfl, h2'] at h2
          simp at h1 h2
          exact .inr ⟨h1.symm, by rw [← h2], by rw [← h2]⟩
        · rw [if_neg hij] at h1 h2
          exact .inl ⟨h1, h2⟩
      refine ⟨by simp [hlen], fun j e z h1 h2 => ?_, fun j e z h1 h2 => ?_, fun j e z h1 h2 => ?_⟩
      · rcases get j e z h1 h2 with ⟨h3, h4⟩ | ⟨rfl, h3, h4⟩
        · exact g5.key j e z h3 h4
        · rw [h3]; exact .s _ _ hyx
      · rcases get j e z h1 h2 with ⟨h3, h4⟩ | ⟨rfl, h3, h4⟩
        · exact g5.val j e z h3 h4
        · rw [h4]; exact hvr
      · rcases get j e z h1 h2 with ⟨h3, h4⟩ | ⟨rfl, h3, h4⟩
        · exact g5.one j e z h3 h4
        · rw [h4]; exact hvr.one hsc
    · have hsb : Instr.sameBits 10000 (.string yk) (.string yk) = true := by
        rw [show (10000 : Nat) = 9999 + 1 from rfl]; simp only [Instr.sameBits]; exact (MapKept.bytes_beq _ _).2 rfl
      simp [execOp, ho, hm', hx', Instr.mapUpdate, run_underlying ht, MapKept.run_getObj_map g4', hch, hfk _ h1, h2', h3, Instr.keyThatStays, hsb, MapKept.run_setObj_map _ g4', Result.andThen]
end
end Go.X
/- One operation. -/
namespace Go.X
open Go Go.RowKit

section
variable {P : Program} {sig : Nat → Option Nat} {fn : Fns} {w0 : World} {Oe : Nat → Option Nat} {η : List PV} {σ : St} {a : Act} {tm : Array Value} {w : World} {β : Nat → Nat} {hv : Nat → Value} {O : Nat → Option Nat} {G : Option E} {o : Oper} {ws : List W}

theorem quiet_ok {r : Option (List W × SV)} {v : SV} {ε : Eff} (h : quiet r σ = some (ws, v, ε)) : r = some (ws, v) ∧ ε = effK σ := by
  unfold quiet at h
  obtain ⟨⟨a, b⟩, h1, h2⟩ := Option.map_eq_some_iff.1 h
  simp only [Prod.mk.injEq] at h2
  obtain ⟨rfl, rfl, rfl⟩ := h2
  exact ⟨h1, rfl⟩

/-- a call through a value -/
theorem call_ok (hC : Contract P sig fn) {c : Call} {x : Operand} {svs : List SV} {more : List Nat} {r : SV} {ε : Eff} {mk : Option E → Bool → List E → Nat → W} {η1 η2 ζ : List PV} {own : Bool} {s : Nat} {r' : SV} {ε' : Eff} (ho : o.op = .call c) (hc : c.callee = .value x)
    (h : Rel w0 Oe η σ a.tmps w β hv O) (hG : GOk η G) (hargs : args P σ G c.args.toList c.argTypes.toList = some svs) (hcall : callSV P σ G o.type mk svs more = some (ws, r, ε))
    (hmk : ∀ flat es m, (mk G flat es m).ev fn η1 = some η2 → ∃ vs f caps, E.evs η1 es = some vs ∧ results flat m η1 (fn f vs.length (vs ++ caps)) = some η2 ∧
      (own = true → ∃ e, sig f = some e ∧ r' = .h s ∧ ε' = effF ε.m ε.n s (.arr e (tSize P e) (.v σ.n) false)) ∧
      ∀ O1, (view w O).Le (view w O1) → (∀ s, s ∈ more → Opened ⟨η, view w O, β, hv, σ.m⟩ O1 s) → Tgt (view w O1) f caps (a.eval x))
    (hw : evalWs fn η1 ws = some η2) (hη : η = η2 ++ ζ) (hn : η1.length = σ.n) (hown : own = false → r' = r ∧ ε' = ε) : Step P o a w (Post w0 Oe η σ a.tmps ε' r') := by
  unfold callSV at hcall
  split at hcall
  · cases hcall
  · rename_i es ss hes
    dsimp only at hcall
    split at hcall
    · cases hcall
    · rename_i hsm
      split at hcall
      · cases hcall
      · simp only [Option.some.injEq, Prod.mk.injEq] at hcall
        obtain ⟨rfl, rfl, rfl⟩ := hcall
        simp only [evalWs, Option.bind_eq_some_iff] at hw
        obtain ⟨η3, hw, he⟩ := hw
        injection he with he
        subst he
        obtain ⟨vs, f, caps, k1, k2, k3, k4⟩ := hmk _ _ _ hw
        obtain ⟨rs, q1, q2, q3, q4⟩ := results_ok k2
        subst q4
        have hvs : E.evs η es = some vs := by rw [hη, List.append_assoc]; exact E.evs_mono _ _ _ _ k1
        have hr : RepSVs ⟨η, view w O, β, hv, σ.m⟩ svs (c.args.map a.eval).toList := by
          have := args_ok (ds := a.defers) (C := ⟨η, view w O, β, hv, σ.m⟩) hG rfl h.tmps hargs
          simpa using this
        refine call_go (s := s) hC (single := isSingle P o.type) ho hc h hr hes hvs k4 q1 q2 q3 hη hn (fun h1 => ?_) (fun h1 => ?_) ?_
        · unfold isSingle at h1
          unfold resTypes
          split at h1
          · cases h1
          · rfl
        · rw [h1] at hsm
          simpa using hsm
        · cases own with
          | false =>
            obtain ⟨rfl, rfl⟩ := hown rfl
            exact .inl ⟨rfl, rfl⟩
          | true =>
            obtain ⟨e, g1, rfl, rfl⟩ := k3 rfl
            right
            exact ⟨e, g1, rfl, rfl⟩

theorem xop_ok (hC : Contract P sig fn) {own : List Nat} {s : Nat} {r : SV} {ε : Eff} (h : Rel w0 Oe η σ a.tmps w β hv O) (hG : GOk η G) (hx : xop P sig own σ G s o = some (ws, r, ε)) {η1 η2 ζ : List PV} (hw : evalWs fn η1 ws = some η2) (hη : η = η2 ++ ζ) (hn : η1.length = σ.n) :
    Step P o a w (Post w0 Oe η σ a.tmps ε r) := by
  have hk : Chk η ws := fun x hx => chk_mem hw ⟨ζ, hη⟩ x hx
  unfold xop at hx
  dsimp only at hx
  split at hx
  · -- move
    rename_i x ho
    obtain ⟨v, hv1, he⟩ := Option.map_eq_some_iff.1 hx
    simp only [Prod.mk.injEq] at he
    obtain ⟨rfl, rfl, rfl⟩ := he
    exact op_move (.inl ho) h hG hv1
  · rename_i x ho
    obtain ⟨v, hv1, he⟩ := Option.map_eq_some_iff.1 hx
    simp only [Prod.mk.injEq] at he
    obtain ⟨rfl, rfl, rfl⟩ := he
    exact op_move (.inr ho) h hG hv1
  · rename_i c x y ho
    split at hx
    · rename_i ec hc
      split at hx
      · rename_i ea eb h1 h2
        simp only [Option.some.injEq, Prod.mk.injEq] at hx
        obtain ⟨rfl, rfl, rfl⟩ := hx
        exact op_pick ho h hG hc h1 h2 hk
      · cases hx
    · cases hx
  · -- alloc
    rename_i t ho
    split at hx
    · cases hx
    · obtain ⟨cs, h1, he⟩ := Option.map_eq_some_iff.1 hx
      simp only [Prod.mk.injEq] at he
      obtain ⟨rfl, rfl, rfl⟩ := he
      exact op_alloc ho h h1
  · -- box
    rename_i t x ho
    split at hx
    · cases hx
    · split at hx
      · rename_i ws' cs hb
        simp only [Option.some.injEq, Prod.mk.injEq] at hx
        obtain ⟨rfl, rfl, rfl⟩ := hx
        obtain ⟨sv, h1, h2⟩ := Option.bind_eq_some_iff.1 hb
        exact op_box ho h hG h1 h2 hk
      · cases hx
  · -- build
    rename_i t parts ho
    split at hx
    · rename_i zs vs h1 h2
      split at hx
      · rename_i ws' cs hf
        split at hx
        · rename_i hc
          simp only [Option.some.injEq, Prod.mk.injEq] at hx
          obtain ⟨rfl, rfl, rfl⟩ := hx
          simp only [Bool.and_eq_true] at hc
          exact op_build ho h hG h1 h2 hf hc.2 hk
        · cases hx
      · cases hx
    · cases hx
  · -- buildSlice
    rename_i t len parts ho
    split at hx
    · rename_i e vs h1 h2
      split at hx
      · cases hx
      · rename_i hc
        simp only [Bool.or_eq_true, not_or, Bool.not_eq_true', Bool.not_eq_false, bne_iff_ne, ne_eq, Decidable.not_not, decide_eq_true_eq, Bool.not_eq_true, Option.isNone_iff_eq_none, decide_eq_false_iff_not] at hc
        obtain ⟨⟨⟨⟨_, hr⟩, hsm⟩, hsz⟩, hz⟩ := hc
        obtain ⟨zs, hz⟩ := Option.ne_none_iff_exists'.1 (by simpa using hz)
        have ht : P.underlying t = some (.slice e) := by
          unfold tElem at h1
          split at h1
          · rename_i h; rw [h]; injection h1 with h1; rw [h1]
          · cases h1
        split at hx
        · rename_i ws' es ss h3 h4
          split at hx
          · split at hx
            · simp only [Option.some.injEq, Prod.mk.injEq] at hx
              obtain ⟨rfl, rfl, rfl⟩ := hx
              exact op_buildSlice (own := true) ho ht h hG hz h2 hr (by simpa using hsm) hsz h3 h4 hk (.inr ⟨rfl, rfl, rfl⟩)
            · cases hx
          · simp only [Option.some.injEq, Prod.mk.injEq] at hx
            obtain ⟨rfl, rfl, rfl⟩ := hx
            exact op_buildSlice (own := false) (s := s) ho ht h hG hz h2 hr (by simpa using hsm) hsz h3 h4 hk (.inl ⟨rfl, rfl, rfl⟩)
        · cases hx
    · cases hx
  · -- load
    rename_i t x ho
    obtain ⟨h1, rfl⟩ := quiet_ok hx
    obtain ⟨p, h2, h3⟩ := Option.bind_eq_some_iff.1 h1
    exact op_load ho h hG h2 h3 hk
  · -- store
    rename_i t x y ho
    split at hx
    · cases hx
    · split at hx
      · rename_i p v h1 h2
        obtain ⟨⟨ws', ε'⟩, h3, he⟩ := Option.map_eq_some_iff.1 hx
        simp only [Prod.mk.injEq] at he
        obtain ⟨rfl, rfl, rfl⟩ := he
        exact op_store ho h hG h1 h2 h3 hk
      · cases hx
  · -- nilCheck
    rename_i x ho
    split at hx
    all_goals first
      | (rename_i h1
         simp only [Option.some.injEq, Prod.mk.injEq] at hx
         obtain ⟨rfl, rfl, rfl⟩ := hx
         first
           | exact op_nilCheck ho h hG h1 (.inl ⟨_, rfl, hk⟩)
           | exact op_nilCheck ho h hG h1 (.inr (.inl ⟨_, _, rfl⟩))
           | exact op_nilCheck ho h hG h1 (.inr (.inr (.inl ⟨_, _, rfl⟩)))
           | exact op_nilCheck ho h hG h1 (.inr (.inr (.inr (.inl ⟨_, _, _, rfl⟩))))
           | exact op_nilCheck ho h hG h1 (.inr (.inr (.inr (.inr ⟨_, _, rfl⟩)))))
      | cases hx
  · -- binOp
    rename_i op xt x y yt ho
    split at hx
    · rename_i ex ey h1 h2
      split at hx
      · rename_i hag
        split at hx
        · rename_i ts hts
          have hbt : tAgg P xt = false → P.underlying xt = some .bool := by
            intro h0
            rw [h0] at hag
            simp only [Bool.false_or, isBoolT] at hag
            split at hag
            · assumption
            · cases hag
          split at hx
          · split at hx
            · cases hx
            · rename_i hg
              simp only [Option.some.injEq, Prod.mk.injEq] at hx
              obtain ⟨rfl, rfl, rfl⟩ := hx
              exact op_eqs (neg := false) ho rfl rfl hts (by simpa using hg) hbt h hG h1 h2 hk
          · split at hx
            · cases hx
            · rename_i hg
              simp only [Option.some.injEq, Prod.mk.injEq] at hx
              obtain ⟨rfl, rfl, rfl⟩ := hx
              exact op_eqs (neg := true) ho rfl rfl hts (by simpa using hg) hbt h hG h1 h2 hk
          · cases hx
        · cases hx
      · simp only [Option.some.injEq, Prod.mk.injEq] at hx
        obtain ⟨rfl, rfl, rfl⟩ := hx
        exact op_bin ho h hG h1 h2 hk
    · cases hx
  · -- unOp
    rename_i op t x ho
    obtain ⟨ex, h1, he⟩ := Option.map_eq_some_iff.1 hx
    simp only [Prod.mk.injEq] at he
    obtain ⟨rfl, rfl, rfl⟩ := he
    exact op_un ho h hG h1 hk
  · -- convert
    rename_i src dst x ho
    split at hx
    · rename_i k' k h1 h2
      obtain ⟨ex, h3, he⟩ := Option.map_eq_some_iff.1 hx
      simp only [Prod.mk.injEq] at he
      obtain ⟨rfl, rfl, rfl⟩ := he
      exact op_conv ho h1 h2 h hG h3 hk
    · rename_i h1 h2
      obtain ⟨ex, h3, he⟩ := Option.map_eq_some_iff.1 hx
      simp only [Prod.mk.injEq] at he
      obtain ⟨rfl, rfl, rfl⟩ := he
      exact op_convS ho h1 h2 h hG h3 hk
    · rename_i e h1 h2
      split at hx
      · rename_i hu
        split at hx
        · cases hx
        · rename_i hfree
          obtain ⟨ex, h3, he⟩ := Option.map_eq_some_iff.1 hx
          simp only [Prod.mk.injEq] at he
          obtain ⟨rfl, rfl, rfl⟩ := he
          have hu' : P.underlying e = some (.int .u8) := by
            unfold isU8T at hu
            split at hu
            · assumption
            · cases hu
          cases G with
          | some g => simp at hfree
          | none => exact op_s2b ho h1 h2 hu' h hG h3 hk
      · cases hx
    · rename_i e h1 h2
      split at hx
      · rename_i hu
        split at hx
        · rename_i ex ss hb
          simp only [Option.some.injEq, Prod.mk.injEq] at hx
          obtain ⟨rfl, rfl, rfl⟩ := hx
          obtain ⟨sv, h3, h4⟩ := Option.bind_eq_some_iff.1 hb
          have hu' : P.underlying e = some (.int .u8) := by
            unfold isU8T at hu
            split at hu
            · assumption
            · cases hu
          exact op_b2s ho h1 h2 hu' h hG h3 h4 hk
        · cases hx
      · cases hx
    · cases hx
  · -- makeFunc
    rename_i f first captured ho
    split at hx
    · rename_i hf
      obtain ⟨cs, h1, he⟩ := Option.map_eq_some_iff.1 hx
      simp only [Prod.mk.injEq] at he
      obtain ⟨rfl, rfl, rfl⟩ := he
      exact op_makeFunc ho hf h hG h1
    · cases hx
  · -- fieldAddr
    rename_i t x f ho
    split at hx
    · rename_i off ft p h1 h2
      split at hx
      · cases hx
      · rename_i hz
        split at hx
        · simp only [Option.some.injEq, Prod.mk.injEq] at hx
          obtain ⟨rfl, rfl, rfl⟩ := hx
          exact op_fieldAddr ho h1 hz h hG h2 (.inl ⟨_, _, rfl, rfl⟩)
        · simp only [Option.some.injEq, Prod.mk.injEq] at hx
          obtain ⟨rfl, rfl, rfl⟩ := hx
          exact op_fieldAddr ho h1 hz h hG h2 (.inr (.inl ⟨_, _, rfl, rfl⟩))
        · simp only [Option.some.injEq, Prod.mk.injEq] at hx
          obtain ⟨rfl, rfl, rfl⟩ := hx
          exact op_fieldAddr ho h1 hz h hG h2 (.inr (.inr ⟨_, _, _, rfl, rfl⟩))
        · cases hx
    · cases hx
  · -- field
    rename_i t x f ho
    split at hx
    · rename_i off ft sv h1 h2
      obtain ⟨h3, rfl⟩ := quiet_ok hx
      exact op_field ho h1 h hG h2 h3 hk
    · cases hx
  · -- indexAddr
    rename_i t x i ho
    split at hx
    · rename_i e sv ei h1 h2 h3
      split at hx
      · split at hx
        · rename_i e' sz y ro hb
          split at hx
          · rename_i hsz
            simp only [Option.some.injEq, Prod.mk.injEq] at hx
            obtain ⟨rfl, rfl, rfl⟩ := hx
            exact op_indexAddrH ho h1 hsz h hG h2 hb h3 hk
          · cases hx
        · cases hx
      · split at hx
        · rename_i y hy
          split at hx
          · cases hx
          · rename_i hz
            simp only [Option.some.injEq, Prod.mk.injEq] at hx
            obtain ⟨rfl, rfl, rfl⟩ := hx
            exact op_indexAddr ho h1 hz h hG h2 hy h3 hk
        · cases hx
    · rename_i n e sv kk k h1 h2 h3
      split at hx
      · rename_i hb
        split at hx
        · simp only [Option.some.injEq, Prod.mk.injEq] at hx
          obtain ⟨rfl, rfl, rfl⟩ := hx
          exact op_indexAddr_arr ho h1 h hG h2 h3 hb (.inl ⟨_, _, rfl, rfl⟩)
        · simp only [Option.some.injEq, Prod.mk.injEq] at hx
          obtain ⟨rfl, rfl, rfl⟩ := hx
          exact op_indexAddr_arr ho h1 h hG h2 h3 hb (.inr ⟨_, _, rfl, rfl⟩)
        · cases hx
      · cases hx
    · cases hx
  · -- index
    rename_i t x i ho
    split at hx
    · rename_i ex ei h1 h2 h3
      simp only [Option.some.injEq, Prod.mk.injEq] at hx
      obtain ⟨rfl, rfl, rfl⟩ := hx
      exact op_index_str ho h1 h hG (by simp only [opdE, h2, Option.bind_some, SV.asE]) h3 hk
    · rename_i n e sv kk k h1 h2 h3
      split at hx
      · rename_i hb
        obtain ⟨h4, rfl⟩ := quiet_ok hx
        exact op_index_arr ho h1 h hG h2 h3 hb h4 hk
      · cases hx
    · cases hx
  · -- slice
    rename_i t x lo hi mx ho
    obtain ⟨sv, h1, h2⟩ := Option.bind_eq_some_iff.1 hx
    exact op_slice ho h hG h1 h2 hk
  · -- extract
    rename_i x i ho
    split at hx
    · rename_i xs h1
      obtain ⟨v, h2, he⟩ := Option.map_eq_some_iff.1 hx
      simp only [Prod.mk.injEq] at he
      obtain ⟨rfl, rfl, rfl⟩ := he
      exact op_extract ho h hG h1 h2
    · cases hx
  · -- makeSlice
    rename_i t l c ho
    split at hx
    · cases hx
    · split at hx
      · rename_i e n n' h1 h2 h3
        split at hx
        · cases hx
        · rename_i hc
          simp only [Bool.or_eq_true, not_or, Bool.not_eq_true', Bool.not_eq_false] at hc
          split at hx
          · rename_i zs hz
            split at hx
            · rename_i z hz2
              simp only [Option.some.injEq, Prod.mk.injEq] at hx
              obtain ⟨rfl, rfl, rfl⟩ := hx
              exact op_makeSlice ho h1 h hG h2 h3 hc.1 hc.2 hz hz2 hk
            · cases hx
          · cases hx
      · cases hx
  · -- makeMap
    rename_i t r0 ho
    split at hx
    · cases hx
    · rename_i hc
      simp only [Bool.or_eq_true, not_or, Bool.not_eq_true', Bool.not_eq_false, Bool.not_eq_true, Option.isSome_eq_false_iff, Option.isNone_iff_eq_none] at hc
      have hr0 : r0 = none := by cases r0 <;> simp_all
      subst hr0
      simp only [Option.some.injEq, Prod.mk.injEq] at hx
      obtain ⟨rfl, rfl, rfl⟩ := hx
      exact op_makeMap ho h
  · -- lookup
    rename_i t x k ho
    split at hx
    · rename_i e sv ek h1 h2 h3
      obtain ⟨k', h4, h5⟩ := strMap_ok h1
      split at hx
      · rename_i em z h6 h7
        simp only [Option.some.injEq, Prod.mk.injEq] at hx
        obtain ⟨rfl, rfl, rfl⟩ := hx
        exact op_lookup ho h4 h5 h hG h2 h6 h3 h7 hk
      · cases hx
    · cases hx
  · -- mapUpdate
    rename_i t x k y ho
    split at hx
    · cases hx
    · split at hx
      · rename_i e s0 ek ey h1 h2 h3 h4
        obtain ⟨k', h5, h6⟩ := strMap_ok h1
        split at hx
        · rename_i em hb
          simp only [Option.some.injEq, Prod.mk.injEq] at hx
          obtain ⟨rfl, rfl, rfl⟩ := hx
          exact op_mapUpdate ho h5 h6 h hG h2 hb h3 h4 hk
        · cases hx
      · cases hx
  · -- call
    rename_i c ho
    split at hx
    · rename_i hc
      split at hx
      · rename_i x ha
        split at hx
        · rename_i t ht
          obtain ⟨h1, rfl⟩ := quiet_ok hx
          obtain ⟨sv, h2, h3⟩ := Option.bind_eq_some_iff.1 h1
          exact op_len ho hc ha ht h hG h2 h3 hk
        · cases hx
      · cases hx
    · rename_i hc
      split at hx
      · cases hx
      · split at hx
        · rename_i d x t t' ha hty
          split at hx
          · rename_i ht
            subst ht
            split at hx
            · rename_i sd sx h1 h2
              exact op_append ho hc ha hty h hG h1 h2 hx hk
            · cases hx
          · cases hx
        · cases hx
    · rename_i hc
      split at hx
      · rename_i x y ha
        split at hx
        · rename_i ex ey h1 h2
          simp only [Option.some.injEq, Prod.mk.injEq] at hx
          obtain ⟨rfl, rfl, rfl⟩ := hx
          exact op_min ho hc ha h hG h1 h2 hk
        · cases hx
      · cases hx
    · rename_i hc
      split at hx
      · rename_i x y ha
        split at hx
        · rename_i ex ey h1 h2
          simp only [Option.some.injEq, Prod.mk.injEq] at hx
          obtain ⟨rfl, rfl, rfl⟩ := hx
          exact op_max ho hc ha h hG h1 h2 hk
        · cases hx
      · cases hx
    · -- a function that is known
      rename_i f hc
      split at hx
      · rename_i as has
        split at hx
        · rename_i ws' r1 ε1 hcall
          have tgt : ∀ (own : Bool) (r' : SV) (ε' : Eff), (own = true → ∃ e, sig f = some e ∧ r' = .h s ∧ ε' = effF ε1.m ε1.n s (.arr e (tSize P e) (.v σ.n) false)) → (own = false → r' = r1 ∧ ε' = ε1) → evalWs fn η1 ws' = some η2 → Step P o a w (Post w0 Oe η σ a.tmps ε' r') := by
            intro own r' ε' ho1 ho2 hw
            refine call_ok hC (own := own) (s := s) ho hc h hG has hcall (fun flat es m hm => ?_) hw hη hn ho2
            simp only [W.ev] at hm
            have hm2 := guarded_ok (ζ := ζ) (η := η) hm hη (fun hh => by
              obtain ⟨vs, _, hh⟩ := Option.bind_eq_some_iff.1 hh
              obtain ⟨rs, _, _, _, h4⟩ := results_ok hh
              exact ⟨rs, h4⟩) hG
            obtain ⟨vs, hvs, hres⟩ := Option.bind_eq_some_iff.1 hm2
            exact ⟨vs, f, [], hvs, by simpa using hres, ho1, fun O1 _ _ => Tgt.static _ f⟩
          split at hx
          · split at hx
            · rename_i e he
              split at hx
              · rename_i hcond
                simp only [Option.some.injEq, Prod.mk.injEq] at hx
                obtain ⟨rfl, rfl, rfl⟩ := hx
                simp only [Bool.and_eq_true, beq_iff_eq] at hcond
                exact tgt true _ _ (fun _ => ⟨e, hcond.1.2, rfl, rfl⟩) (fun h => by cases h) hw
              · cases hx
            · cases hx
          · simp only [Option.some.injEq, Prod.mk.injEq] at hx
            obtain ⟨rfl, rfl, rfl⟩ := hx
            exact tgt false _ _ (fun h => by cases h) (fun _ => ⟨rfl, rfl⟩) hw
        · cases hx
      · cases hx
    · -- a function value
      rename_i t hc
      have cloEv : ∀ {x : E} {flat : Bool} {es : List E} {m : Nat}, (W.clo G flat x es m).ev fn η1 = some η2 → ∃ vs f caps, E.evs η1 es = some vs ∧ x.ev η = some (.f f caps) ∧ results flat m η1 (fn f vs.length (vs ++ caps)) = some η2 := by
        intro x flat es m hm
        simp only [W.ev] at hm
        have hm2 := guarded_ok (ζ := ζ) (η := η) hm hη (fun hh => by
          obtain ⟨q, _, hh⟩ := Option.bind_eq_some_iff.1 hh
          obtain ⟨vs, _, hh⟩ := Option.bind_eq_some_iff.1 hh
          split at hh
          · obtain ⟨rs, _, _, _, h4⟩ := results_ok hh
            exact ⟨rs, h4⟩
          · cases hh) hG
        obtain ⟨q, hq, hh⟩ := Option.bind_eq_some_iff.1 hm2
        obtain ⟨vs, hvs, hh⟩ := Option.bind_eq_some_iff.1 hh
        cases q with
        | f f caps =>
          obtain ⟨rs, _, _, _, h4⟩ := results_ok hh
          refine ⟨vs, f, caps, hvs, ?_, hh⟩
          rw [hη, h4, List.append_assoc]
          exact E.ev_mono _ _ _ _ hq
        | _ => simp at hh
      split at hx
      · rename_i x as h1 has
        have hr := opd_ok (ds := a.defers) (C := ⟨η, view w O, β, hv, σ.m⟩) hG rfl h1 h.tmps
        simp only [RepSV] at hr
        obtain ⟨p, hp, hpr⟩ := hr
        refine call_ok hC (own := false) (s := s) ho hc h hG has hx (fun flat es m hm => ?_) hw hη hn (fun _ => ⟨rfl, rfl⟩)
        obtain ⟨vs, f, caps, k1, k2, k3⟩ := cloEv hm
        have hp' : x.ev η = some p := hp
        rw [k2] at hp'
        injection hp' with hp'
        subst hp'
        exact ⟨vs, f, caps, k1, k3, (fun h => by cases h), fun O1 hM _ => Tgt.of_rep (hpr.mono hM)⟩
      · rename_i f0 cs as h1 has
        split at hx
        · rename_i x ss hto
          have hr := opd_ok (ds := a.defers) (C := ⟨η, view w O, β, hv, σ.m⟩) hG rfl h1 h.tmps
          refine call_ok hC (own := false) (s := s) ho hc h hG has hx (fun flat es m hm => ?_) hw hη hn (fun _ => ⟨rfl, rfl⟩)
          obtain ⟨vs, f, caps, k1, k2, k3⟩ := cloEv hm
          refine ⟨vs, f, caps, k1, k3, (fun h => by cases h), fun O1 hM hop => ?_⟩
          obtain ⟨p, hp, hpr⟩ := toE_ok h hM 20 _ _ x ss hto hr hop
          rw [k2] at hp
          injection hp with hp
          subst hp
          exact Tgt.of_rep hpr
        · cases hx
      · cases hx
    · cases hx
  · cases hx
end
end Go.X
/- One operation with its guard; regions of a fixed order. -/
namespace Go.X
open Go Go.RowKit

theorem Blk.same_eq : ∀ {x y : Blk}, x.same y = true → x = y := by
  intro x y h
  cases x <;> cases y <;> simp only [Blk.same, Bool.and_eq_true, beq_iff_eq, Bool.false_eq_true] at h
  · rw [h.1, SV.sames_eq _ _ h.2]
  · rw [h.1.1.1, h.1.1.2, h.1.2, E.same_eq _ _ h.2]
  · rw [h.1, E.same_eq _ _ h.2]
theorem sameM_eq : ∀ {m m' : List (Nat × Blk)}, sameM m m' = true → m = m'
  | [], [], _ => rfl
  | [], _ :: _, h => by simp [sameM] at h
  | _ :: _, [], h => by simp [sameM] at h
  | (s, b) :: m, (s', b') :: m', h => by
    simp only [sameM, Bool.and_eq_true, beq_iff_eq] at h
    rw [h.1.1, Blk.same_eq h.1.2, sameM_eq h.2]

theorem W.ev_len {fn : Fns} {η η' : List PV} : ∀ {x : W}, x.ev fn η = some η' → η'.length = η.length + x.cnt := by
  have res : ∀ {flat : Bool} {m : Nat} {r : Option (List PV)}, results flat m η r = some η' → η'.length = η.length + m := by
    intro flat m r h
    obtain ⟨rs, _, h2, _, rfl⟩ := results_ok h
    rw [List.length_append, h2]
  have gd : ∀ {m : Nat} {g : Option E} {r : Option (List PV)}, guarded η m g r = some η' → (r = some η' → η'.length = η.length + m) → η'.length = η.length + m := by
    intro m g r h hr
    unfold guarded at h
    split at h
    · exact hr h
    · simp only [Option.bind_eq_some_iff] at h
      obtain ⟨v, _, h⟩ := h
      split at h
      · exact hr h
      · injection h with h; rw [← h]; simp
      · cases h
  intro x h
  cases x with
  | chk x =>
    simp only [W.ev, Option.map_eq_some_iff] at h
    obtain ⟨_, _, rfl⟩ := h
    simp [W.cnt]
  | call g flat f as m =>
    simp only [W.ev] at h
    refine gd h fun h => ?_
    simp only [Option.bind_eq_some_iff] at h
    obtain ⟨vs, _, h⟩ := h
    exact res h
  | clo g flat c as m =>
    simp only [W.ev] at h
    refine gd h fun h => ?_
    simp only [Option.bind_eq_some_iff] at h
    obtain ⟨q, _, vs, _, h⟩ := h
    split at h
    · exact res h
    · cases h
theorem evalWs_len {fn : Fns} : ∀ {ws : List W} {η η' : List PV}, evalWs fn η ws = some η' → η'.length = η.length + wsN ws
  | [], η, η', h => by simp only [evalWs, Option.some.injEq] at h; simp [h, wsN]
  | x :: r, η, η', h => by
    simp only [evalWs, Option.bind_eq_some_iff] at h
    obtain ⟨η1, h1, h2⟩ := h
    rw [evalWs_len h2, W.ev_len h1]
    simp only [wsN]; omega

theorem isB_ev {η : List PV} : ∀ {g : E} {p : PV}, g.isB = true → g.ev η = some p → ∃ b, p = .b b
  | .bin op x y, p, h, he => by
    simp only [E.ev, Option.bind_eq_some_iff] at he
    obtain ⟨a, _, b, _, he⟩ := he
    cases op <;> simp only [E.isB, Bool.false_eq_true] at h <;> (
      cases a <;> cases b <;> simp only [X.bin, binInt, binStr] at he <;> first
        | (cases he; done)
        | (split at he <;> first | (injection he with he; exact ⟨_, he.symm⟩) | (cases he; done))
        | (injection he with he; exact ⟨_, he.symm⟩))
  | .un op x, p, h, he => by
    simp only [E.ev, Option.bind_eq_some_iff] at he
    obtain ⟨a, _, he⟩ := he
    cases op <;> simp only [E.isB, Bool.false_eq_true] at h
    cases a <;> simp only [X.un] at he <;> first
      | (cases he; done)
      | (injection he with he; exact ⟨_, he.symm⟩)
  | .eqs n g ts x y, p, h, he => by
    simp only [E.ev, Option.bind_eq_some_iff] at he
    obtain ⟨a, _, b, _, he⟩ := he
    unfold eqsPV at he
    split at he
    · obtain ⟨r, _, he⟩ := Option.map_eq_some_iff.1 he
      exact ⟨_, he.symm⟩
    · split at he
      · obtain ⟨r, _, he⟩ := Option.map_eq_some_iff.1 he
        exact ⟨_, he.symm⟩
      · cases he
    · cases he
  | .c (.b b), p, h, he => by
    simp only [E.ev, Option.some.injEq] at he
    exact ⟨b, he.symm⟩
  | .ite g x y, p, h, he => by
    simp only [E.isB, Bool.and_eq_true] at h
    simp only [E.ev, Option.bind_eq_some_iff] at he
    obtain ⟨a, _, he⟩ := he
    split at he
    · exact isB_ev h.1 he
    · exact isB_ev h.2 he
    · cases he
  | .c .u, p, h, _ | .c (.i ..), p, h, _ | .c (.s ..), p, h, _ | .c (.a ..), p, h, _ | .c (.l ..), p, h, _ | .c (.f ..), p, h, _ | .c (.m ..), p, h, _
  | .v .., p, h, _ | .proj .., p, h, _ | .sub .., p, h, _ | .agg .., p, h, _ | .fit .., p, h, _ | .scal .., p, h, _ | .idx .., p, h, _ | .len .., p, h, _ | .slen .., p, h, _ | .sidx .., p, h, _ | .ssl .., p, h, _ | .lsl .., p, h, _ | .app .., p, h, _
  | .lit .., p, h, _ | .rep .., p, h, _ | .set .., p, h, _ | .conv .., p, h, _ | .b2s .., p, h, _ | .s2b .., p, h, _ | .clo .., p, h, _ | .mn .., p, h, _ | .mx .., p, h, _ | .mget .., p, h, _ | .mset .., p, h, _ => by simp [E.isB] at h

section
variable {P : Program} {sig : Nat → Option Nat} {fn : Fns} {w0 : World} {Oe : Nat → Option Nat} {η : List PV} {σ : St} {a : Act} {tm : Array Value} {w : World} {β : Nat → Nat} {hv : Nat → Value} {O : Nat → Option Nat} {G : Option E} {o : Oper} {ws : List W} {ops : Array Oper}

theorem guardE_ok {j : Nat} {want : Bool} {g : E} {tm : Array Value} {C : Cx} (hg : guardE σ ops j want = some g) (h : RepSVs C σ.t tm.toList) {b : Bool} (hb : g.ev C.η = some (.b b)) : (yielded ops tm j == some want) = b := by
  unfold guardE at hg
  split at hg
  · rename_i g0 hd
    injection hg with hg; subst hg
    obtain ⟨t, ht, hs⟩ := Option.bind_eq_some_iff.1 hd
    obtain ⟨v, hv1, hv2⟩ := h.get t _ hs
    simp only [RepSV] at hv2
    obtain ⟨p, hp, hpr⟩ := hv2
    have hy : ((ops[j]?).bind (·.dst)).bind (tm[·]?) = some v := by rw [ht]; simpa using hv1
    unfold yielded
    rw [hy]
    cases want with
    | true =>
      simp only [if_true] at hb
      rw [hb] at hp; injection hp with hp; subst hp
      have := hpr.bool; subst this
      cases b <;> rfl
    | false =>
      simp only [Bool.false_eq_true, if_false, E.ev, hp, Option.bind_some] at hb
      cases p <;> simp [X.un] at hb
      have := hpr.bool; subst this
      subst hb
      rename_i x
      cases x <;> first | rfl | (cases b <;> rfl)
  · rename_i g0 gg hd
    injection hg with hg; subst hg
    obtain ⟨t, ht, hs⟩ := Option.bind_eq_some_iff.1 hd
    obtain ⟨v, hv1, hv2⟩ := h.get t _ hs
    simp only [RepSV] at hv2
    obtain ⟨c, hc, h1, h2⟩ := hv2
    have hy : ((ops[j]?).bind (·.dst)).bind (tm[·]?) = some v := by rw [ht]; simpa using hv1
    unfold yielded
    rw [hy]
    cases c with
    | false =>
      have := h2 rfl; subst this
      simp only [E.ev, hc, Option.bind_some, Option.some.injEq, PV.b.injEq] at hb
      subst hb
      cases want <;> rfl
    | true =>
      obtain ⟨p, hp, hpr⟩ := h1 rfl
      simp only [E.ev, hc, Option.bind_some] at hb
      cases want with
      | true =>
        simp only [if_true] at hb
        rw [hb] at hp; injection hp with hp; subst hp
        have := hpr.bool; subst this
        cases b <;> rfl
      | false =>
        simp only [Bool.false_eq_true, if_false, E.ev, hp, Option.bind_some] at hb
        cases p <;> simp [X.un] at hb
        have := hpr.bool; subst this
        subst hb
        rename_i x
        cases x <;> first | rfl | (cases b <;> rfl)
  · cases hg
theorem guardE_bool {j : Nat} {want : Bool} {g : E} {tm : Array Value} {C : Cx} (hg : guardE σ ops j want = some g) (h : RepSVs C σ.t tm.toList) (hB : g.isB = true) : ∃ b, g.ev C.η = some (.b b) := by
  have not_ok : ∀ (x : E) p, x.isB = true → x.ev C.η = some p → ∃ b, (E.un .not x).ev C.η = some (.b b) := by
    intro x p hx hp
    obtain ⟨b, rfl⟩ := isB_ev hx hp
    exact ⟨!b, by simp only [E.ev, hp, Option.bind_some, X.un]⟩
  unfold guardE at hg
  split at hg
  · rename_i g0 hd
    injection hg with hg; subst hg
    obtain ⟨t, ht, hs⟩ := Option.bind_eq_some_iff.1 hd
    obtain ⟨v, hv1, hv2⟩ := h.get t _ hs
    simp only [RepSV] at hv2
    obtain ⟨p, hp, hpr⟩ := hv2
    cases want with
    | true =>
      simp only [if_true] at hB ⊢
      obtain ⟨b, rfl⟩ := isB_ev hB hp
      exact ⟨b, hp⟩
    | false =>
      simp only [Bool.false_eq_true, if_false, E.isB] at hB ⊢
      exact not_ok _ p hB hp
  · rename_i g0 gg hd
    injection hg with hg; subst hg
    obtain ⟨t, ht, hs⟩ := Option.bind_eq_some_iff.1 hd
    obtain ⟨v, hv1, hv2⟩ := h.get t _ hs
    simp only [RepSV] at hv2
    obtain ⟨c, hc, h1, h2⟩ := hv2
    simp only [E.isB, Bool.and_true] at hB
    cases c with
    | false => exact ⟨false, by simp only [E.ev, hc, Option.bind_some]⟩
    | true =>
      obtain ⟨p, hp, hpr⟩ := h1 rfl
      cases want with
      | true =>
        simp only [if_true] at hB ⊢
        obtain ⟨b, rfl⟩ := isB_ev hB hp
        exact ⟨b, by simp only [E.ev, hc, hp, Option.bind_some]⟩
      | false =>
        simp only [Bool.false_eq_true, if_false, E.isB] at hB ⊢
        obtain ⟨b, hb⟩ := not_ok _ p hB hp
        exact ⟨b, by rw [E.ev, hc]; exact hb⟩
  · cases hg

theorem xcore_len {own : List Nat} {s : Nat} {sv : SV} {ε : Eff} (hx : xcore P sig own ops s o σ = some (ws, sv, ε)) {η1 η2 : List PV} (hw : evalWs fn η1 ws = some η2) (hn : η1.length = σ.n) : η2.length = ε.n := by
  have := evalWs_len hw
  unfold xcore at hx
  split at hx
  · split at hx
    · split at hx
      · rename_i hc
        simp only [Option.some.injEq, Prod.mk.injEq] at hx
        obtain ⟨rfl, rfl, rfl⟩ := hx
        omega
      · cases hx
    · cases hx
  · split at hx
    · cases hx
    · split at hx
      · rename_i g _
        split at hx
        · rename_i ws' sv' ε' _
          split at hx
          · rename_i hc
            simp only [Option.some.injEq, Prod.mk.injEq] at hx
            obtain ⟨rfl, rfl, rfl⟩ := hx
            have : wsN ((if g.isB then [] else [.chk (.ite g (.c .u) (.c .u))]) ++ ws') = wsN ws' := by
              split <;> simp [wsN, W.cnt]
            omega
          · cases hx
        · cases hx
      · cases hx

theorem xcore_ok (hC : Contract P sig fn) {own : List Nat} {s : Nat} {sv : SV} {ε : Eff} (h : Rel w0 Oe η σ a.tmps w β hv O) (hx : xcore P sig own ops s o σ = some (ws, sv, ε)) {η1 η2 ζ : List PV} (hw : evalWs fn η1 ws = some η2) (hη : η = η2 ++ ζ) (hn : η1.length = σ.n) :
    (Region.wanted o (yielded ops a.tmps) = true ∧ Step P o a w (Post w0 Oe η σ a.tmps ε sv)) ∨ (Region.wanted o (yielded ops a.tmps) = false ∧ Post w0 Oe η σ a.tmps ε sv undef w) := by
  unfold xcore at hx
  split at hx
  · rename_i hg
    split at hx
    · rename_i ws' sv' ε' hx'
      split at hx
      · simp only [Option.some.injEq, Prod.mk.injEq] at hx
        obtain ⟨rfl, rfl, rfl⟩ := hx
        exact .inl ⟨by simp only [Region.wanted, hg], xop_ok hC h (fun g hg => by cases hg) hx' hw hη hn⟩
      · cases hx
    · cases hx
  · rename_i j want hg
    split at hx
    · cases hx
    · split at hx
      · rename_i g hgE
        split at hx
        · rename_i ws' sv' ε' hx'
          split at hx
          · rename_i hc
            obtain ⟨_, hm, hkl⟩ := hc
            simp only [Option.some.injEq, Prod.mk.injEq] at hx
            obtain ⟨rfl, rfl, rfl⟩ := hx
            have hm' := sameM_eq hm
            have hkl' : ε'.kl = none := by simpa using hkl
            rw [evalWs_append] at hw
            obtain ⟨η1', hw1, hw2⟩ := Option.bind_eq_some_iff.1 hw
            have hsame : η1' = η1 := by
              split at hw1
              · simp only [evalWs, Option.some.injEq] at hw1; exact hw1.symm
              · simp only [evalWs, W.ev, Option.bind_eq_some_iff, Option.map_eq_some_iff] at hw1
                obtain ⟨_, ⟨_, _, rfl⟩, h2⟩ := hw1
                injection h2 with h2; exact h2.symm
            subst hsame
            obtain ⟨ζ1, hζ1⟩ := evalWs_pre hw2
            -- the guard is true or false
            have hgb : ∃ b, g.ev η = some (.b b) := by
              by_cases hB : g.isB = true
              · exact guardE_bool (C := ⟨η, view w O, β, hv, σ.m⟩) hgE h.tmps hB
              · rw [if_neg hB] at hw1
                simp only [evalWs, W.ev, Option.bind_eq_some_iff, Option.map_eq_some_iff] at hw1
                obtain ⟨_, ⟨q, hq, _⟩, _⟩ := hw1
                simp only [E.ev, Option.bind_eq_some_iff] at hq
                obtain ⟨p, hp, hq⟩ := hq
                split at hq
                · exact ⟨true, by rw [hη, hζ1, List.append_assoc]; exact E.ev_mono _ _ _ _ hp⟩
                · exact ⟨false, by rw [hη, hζ1, List.append_assoc]; exact E.ev_mono _ _ _ _ hp⟩
                · cases hq
            obtain ⟨b, hb⟩ := hgb
            have hwant : Region.wanted o (yielded ops a.tmps) = b := by
              simp only [Region.wanted, hg]
              exact guardE_ok (C := ⟨η, view w O, β, hv, σ.m⟩) hgE h.tmps hb
            cases b with
            | true =>
              refine .inl ⟨hwant, (xop_ok hC h (fun g' hg' => by injection hg' with hg'; subst hg'; exact hb) hx' hw2 hη hn).mono fun v w' hp => ?_⟩
              obtain ⟨β', hv', O', r1, r2⟩ := hp
              refine ⟨β', hv', O', r1, ?_⟩
              simp only [RepSV]
              exact ⟨true, hb, (fun _ => r2), fun h => by cases h⟩
            | false =>
              refine .inr ⟨hwant, β, hv, O, ?_, ?_⟩
              · have : σ.eff ε' = σ.eff ⟨σ.m, ε'.n, none⟩ := by
                  unfold St.eff; rw [hm', hkl']
                rw [this]
                exact h.setN _
              · simp only [RepSV]
                exact ⟨false, hb, (fun h => by cases h), fun _ => trivial⟩
          · cases hx
        · cases hx
      · cases hx

theorem put_tmps (a : Act) (d : Option Tmp) (v : Value) : (a.put d v).tmps = ((Act.mk a.tmps a.defers).put d v).tmps := rfl
theorem put_defers (a : Act) (d : Option Tmp) (v : Value) : (a.put d v).defers = a.defers := by cases d <;> rfl

/-- what is known behind an operation -/
theorem Post.rels {ε : Eff} {sv : SV} {v : Value} {w' : World} {d : Option Tmp} (h : Post w0 Oe η σ a.tmps ε sv v w') : Rels w0 Oe η ((σ.eff ε).set d sv) (a.put d v).tmps w' := by
  obtain ⟨β, hv, O, h1, h2⟩ := h
  exact ⟨β, hv, O, h1.setT d (ds := a.defers) h2⟩

theorem step_wpOp {Q : Exit → Act → World → Prop} {K : Act → World → Prop} {i : Nat} {R : Value → World → Prop} (hi : ops[i]? = some o)
    (h : (Region.wanted o (yielded ops a.tmps) = true ∧ Step P o a w R) ∨ (Region.wanted o (yielded ops a.tmps) = false ∧ R undef w)) (hK : ∀ v w', R v w' → K (a.put o.dst v) w') : wpOp P ops Q i K a w := by
  unfold wpOp
  simp only [hi]
  rcases h with ⟨h1, h2⟩ | ⟨h1, h2⟩
  · rw [if_pos h1]
    exact .inl (h2.wp hK)
  · rw [h1]
    simp only [Bool.false_eq_true, if_false]
    exact hK _ _ h2

theorem xops_len {own : List Nat} {rid : Nat} : ∀ (l : List Oper) (i : Nat) (σ : St) (η1 η2 : List PV) (ws : List W) (σ' : St), xops P sig own ops rid l i σ = some (ws, σ') → evalWs fn η1 ws = some η2 → η1.length = σ.n → η2.length = σ'.n
  | [], i, σ, η1, η2, ws, σ', hx, hw, hn => by
    simp only [xops, Option.some.injEq, Prod.mk.injEq] at hx
    obtain ⟨rfl, rfl⟩ := hx
    simp only [evalWs, Option.some.injEq] at hw
    subst hw; exact hn
  | o :: l, i, σ, η1, η2, ws, σ', hx, hw, hn => by
    simp only [xops] at hx
    split at hx
    · rename_i ws1 sv ε hc
      obtain ⟨⟨ws2, σ2⟩, hrec, he⟩ := Option.map_eq_some_iff.1 hx
      simp only [Prod.mk.injEq] at he
      obtain ⟨rfl, rfl⟩ := he
      rw [evalWs_append] at hw
      obtain ⟨η3, hw1, hw2⟩ := Option.bind_eq_some_iff.1 hw
      have hset : ((σ.eff ε).set o.dst sv).n = ε.n := by cases o.dst <;> rfl
      exact xops_len l _ _ _ _ _ _ hrec hw2 (by rw [xcore_len hc hw1 hn, hset])
    · cases hx

theorem xops_ok (hC : Contract P sig fn) {own : List Nat} {rid : Nat} {Q : Exit → Act → World → Prop} : ∀ (l : List Oper) (i : Nat) (σ : St) (a : Act) (w : World) (η1 η2 ζ : List PV) (ws : List W) (σ' : St), (∀ k o, l[k]? = some o → ops[i + k]? = some o) → Rels w0 Oe η σ a.tmps w →
    xops P sig own ops rid l i σ = some (ws, σ') → evalWs fn η1 ws = some η2 → η = η2 ++ ζ → η1.length = σ.n → (∀ a' w', a'.defers = a.defers → Rels w0 Oe η σ' a'.tmps w' → Q .normal a' w') →
    wpOps P ops Q (List.range' i l.length) a w
  | [], i, σ, a, w, η1, η2, ζ, ws, σ', _, h, hx, hw, hη, hn, hQ => by
    simp only [xops, Option.some.injEq, Prod.mk.injEq] at hx
    obtain ⟨rfl, rfl⟩ := hx
    simp only [evalWs, Option.some.injEq] at hw
    subst hw
    exact hQ a w rfl h
  | o :: l, i, σ, a, w, η1, η2, ζ, ws, σ', hops, h, hx, hw, hη, hn, hQ => by
    simp only [xops] at hx
    split at hx
    · rename_i ws1 sv ε hc
      obtain ⟨⟨ws2, σ2⟩, hrec, he⟩ := Option.map_eq_some_iff.1 hx
      simp only [Prod.mk.injEq] at he
      obtain ⟨rfl, rfl⟩ := he
      rw [evalWs_append] at hw
      obtain ⟨η3, hw1, hw2⟩ := Option.bind_eq_some_iff.1 hw
      obtain ⟨ζ2, hζ2⟩ := evalWs_pre hw2
      obtain ⟨β, hv, O, hrel⟩ := h
      have hlen := xcore_len hc hw1 hn
      have hstep := xcore_ok hC hrel hc hw1 (ζ := ζ2 ++ ζ) (by rw [hη, hζ2, List.append_assoc]) hn
      have hi : ops[i]? = some o := by simpa using hops 0 o rfl
      have hset : ((σ.eff ε).set o.dst sv).n = ε.n := by cases o.dst <;> rfl
      have ih : ∀ v w', Post w0 Oe η σ a.tmps ε sv v w' → wpOps P ops Q (List.range' (i + 1) l.length) (a.put o.dst v) w' := fun v w' hp =>
        xops_ok hC l (i + 1) _ _ _ η3 η2 ζ ws2 σ2 (fun k o' hk => by have := hops (k + 1) o' (by simpa using hk); rwa [show i + (k + 1) = i + 1 + k by omega] at this) hp.rels hrec hw2 hη (by rw [hlen, hset]) (fun a' w'' hd hr => hQ a' w'' (by rw [hd, put_defers]) hr)
      rw [List.length_cons, List.range'_succ, wpOps_cons]
      exact step_wpOp hi hstep ih
    · cases hx
end
end Go.X
/- What an operation's reckoning hangs on. -/
namespace Go.X
open Go Go.RowKit

section
variable {P : Program} {sig : Nat → Option Nat} {t t' : List SV} {m : List (Nat × Blk)} {n : Nat} {G : Option E} {o : Oper}

theorem loadSV_t (G : Option E) (ty : TypeId) (p : SV) : loadSV P ⟨t', m, n⟩ G ty p = loadSV P ⟨t, m, n⟩ G ty p := rfl
theorem storeSV_t (ty : TypeId) (p v : SV) : storeSV P ⟨t', m, n⟩ ty p v = storeSV P ⟨t, m, n⟩ ty p v := rfl
theorem callSV_t (G : Option E) (ty : TypeId) (mk : Option E → Bool → List E → Nat → W) (as : List SV) (more : List Nat) : callSV P ⟨t', m, n⟩ G ty mk as more = callSV P ⟨t, m, n⟩ G ty mk as more := rfl
theorem appendSV_t (s : Nat) (ty : TypeId) (d x : SV) : appendSV P ⟨t', m, n⟩ s ty d x = appendSV P ⟨t, m, n⟩ s ty d x := rfl
theorem lenSV_t (G : Option E) (ty : TypeId) (x : SV) : lenSV P ⟨t', m, n⟩ G ty x = lenSV P ⟨t, m, n⟩ G ty x := rfl
theorem quiet_t (r : Option (List W × SV)) : quiet r ⟨t', m, n⟩ = quiet r ⟨t, m, n⟩ := rfl
theorem effK_t : effK ⟨t', m, n⟩ = effK ⟨t, m, n⟩ := rfl

theorem args_t {l : List Operand} (h : ∀ x, x ∈ l → ∀ G ty, opd P ⟨t', m, n⟩ G ty x = opd P ⟨t, m, n⟩ G ty x) : ∀ ts : List TypeId, args P ⟨t', m, n⟩ G l ts = args P ⟨t, m, n⟩ G l ts := by
  induction l with
  | nil => intro ts; rfl
  | cons x l ih =>
    intro ts
    simp only [args]
    rw [h x (.head _), ih (fun y hy => h y (.tail _ hy))]
theorem opds_t {tf : Nat → TypeId} {l : List (Nat × Operand)} (h : ∀ x, x ∈ l.map (·.2) → ∀ G ty, opd P ⟨t', m, n⟩ G ty x = opd P ⟨t, m, n⟩ G ty x) : opds P ⟨t', m, n⟩ G tf l = opds P ⟨t, m, n⟩ G tf l := by
  induction l with
  | nil => rfl
  | cons p l ih =>
    obtain ⟨i, x⟩ := p
    simp only [opds]
    rw [h x (by simp), ih (fun y hy => h y (by simp at hy ⊢; exact .inr hy))]

theorem bound_t {x : Option Operand} {d : E} (h : ∀ y, x = some y → ∀ G ty, opd P ⟨t', m, n⟩ G ty y = opd P ⟨t, m, n⟩ G ty y) : boundE P ⟨t', m, n⟩ G x d = boundE P ⟨t, m, n⟩ G x d := by
  cases x with
  | none => rfl
  | some y => simp only [boundE, opdE]; rw [h y rfl]

theorem sliceSV_t {ty : TypeId} {x : SV} {lo hi mx : Option Operand} (h1 : ∀ y, lo = some y → ∀ G ty, opd P ⟨t', m, n⟩ G ty y = opd P ⟨t, m, n⟩ G ty y) (h2 : ∀ y, hi = some y → ∀ G ty, opd P ⟨t', m, n⟩ G ty y = opd P ⟨t, m, n⟩ G ty y) (h3 : ∀ y, mx = some y → ∀ G ty, opd P ⟨t', m, n⟩ G ty y = opd P ⟨t, m, n⟩ G ty y) :
    sliceSV P ⟨t', m, n⟩ G ty x lo hi mx = sliceSV P ⟨t, m, n⟩ G ty x lo hi mx := by
  have e3 : ∀ y, mx = some y → opdE P ⟨t', m, n⟩ G 0 y = opdE P ⟨t, m, n⟩ G 0 y := fun y hy => by simp only [opdE]; rw [h3 y hy]
  unfold sliceSV
  simp only [bound_t h1, bound_t h2]
  cases mx with
  | none => rfl
  | some y => simp only [e3 y rfl]; rfl

theorem xop_t {own : List Nat} {s : Nat} (h : ∀ x, x ∈ o.op.operands → ∀ G ty, opd P ⟨t', m, n⟩ G ty x = opd P ⟨t, m, n⟩ G ty x) : xop P sig own ⟨t', m, n⟩ G s o = xop P sig own ⟨t, m, n⟩ G s o := by
  have hE : ∀ x, x ∈ o.op.operands → ∀ G ty, opdE P ⟨t', m, n⟩ G ty x = opdE P ⟨t, m, n⟩ G ty x := fun x hx G ty => by simp only [opdE]; rw [h x hx]
  obtain ⟨dst, op, type, pos, after, guard⟩ := o
  simp only at h hE
  cases op <;> simp only [Op.operands] at h hE <;> unfold xop <;> simp only
  case move x => rw [h x (by simp)]; rfl
  case assign x => rw [h x (by simp)]; rfl
  case pick c x y => rw [hE c (by simp)]; simp only [hE x (by simp), hE y (by simp)]; try rfl
  case box ty x => rw [h x (by simp)]; try rfl
  case build ty ps => rw [opds_t (fun x hx => h x (by simpa using hx))]; try rfl
  case buildSlice ty k ps => rw [opds_t (fun x hx => h x (by simpa using hx))]; try rfl
  case load ty x => rw [h x (by simp)]; rfl
  case store ty x y => rw [h x (by simp), h y (by simp)]; rfl
  case nilCheck x => rw [h x (by simp)]; rfl
  case binOp op xt x y yt => rw [hE x (by simp), hE y (by simp)]; rfl
  case unOp op ty x => rw [hE x (by simp)]; rfl
  case convert src dst x => rw [hE x (by simp), h x (by simp)]; rfl
  case makeFunc f first captured =>
    cases f <;> simp only
    rw [args_t (fun x hx => h x (by simp at hx ⊢; exact .inr hx))]; rfl
  case makeSlice ty x y => rw [hE x (by simp), hE y (by simp)]; try rfl
  case slice ty x lo hi mx =>
    rw [h x (by simp)]
    congr 1
    funext sv
    exact sliceSV_t (fun y hy => h y (by subst hy; simp)) (fun y hy => h y (by subst hy; simp)) (fun y hy => h y (by subst hy; simp))
  case fieldAddr ty x f => rw [h x (by simp)]; rfl
  case field ty x f => rw [h x (by simp)]; rfl
  case indexAddr ty x i => rw [h x (by simp), hE i (by simp)]; rfl
  case index ty x i => rw [h x (by simp), hE i (by simp)]; rfl
  case extract x i => rw [h x (by simp)]; rfl
  case lookup ty x k ok =>
    cases ok <;> simp only
    rw [h x (by simp), hE k (by simp)]; try rfl
  case mapUpdate ty x k v => rw [h x (by simp), hE k (by simp), hE v (by simp)]; try rfl
  case call c =>
    have hargs : ∀ x, x ∈ c.args.toList → ∀ G ty, opd P ⟨t', m, n⟩ G ty x = opd P ⟨t, m, n⟩ G ty x := fun x hx => h x (by unfold Call.operands; cases c.callee <;> simp at hx ⊢ <;> simp [hx])
    have hargsE : ∀ x, x ∈ c.args.toList → ∀ G ty, opdE P ⟨t', m, n⟩ G ty x = opdE P ⟨t, m, n⟩ G ty x := fun x hx G ty => by simp only [opdE]; rw [hargs x hx]
    have hA := args_t (P := P) (G := G) hargs c.argTypes.toList
    split
    · split
      · rename_i x hx
        split
        · rw [hargs x (by rw [hx]; simp)]; rfl
        · rfl
      · rfl
    · split
      · rfl
      · split
        · rename_i d x _ _ hx _
          rw [hargs d (by rw [hx]; simp), hargs x (by rw [hx]; simp)]; rfl
        · rfl
    · split
      · rename_i x y hx
        rw [hargsE x (by rw [hx]; simp), hargsE y (by rw [hx]; simp)]; rfl
      · rfl
    · split
      · rename_i x y hx
        rw [hargsE x (by rw [hx]; simp), hargsE y (by rw [hx]; simp)]; rfl
      · rfl
    · rw [hA]; rfl
    · rename_i tm hc
      rw [hA, h (.tmp tm) (by unfold Call.operands; rw [hc]; simp)]; rfl
    · rfl
  all_goals rfl

theorem guardE_t {ops : Array Oper} {j : Nat} {want : Bool} (h : ∀ d, (ops[j]?).bind (·.dst) = some d → t'[d]? = t[d]?) : guardE ⟨t', m, n⟩ ops j want = guardE ⟨t, m, n⟩ ops j want := by
  unfold guardE
  cases hd : (ops[j]?).bind (·.dst) with
  | none => rfl
  | some d => simp only [Option.bind_some]; rw [h d hd]

/-- What an operation is reckoned to hangs on the places that it looks at, on memory, and on how many variables there are. -/
theorem xcore_t {own : List Nat} {s : Nat} {ops : Array Oper} (h : ∀ d, d ∈ o.looksAt ops → t'[d]? = t[d]?) : xcore P sig own ops s o ⟨t', m, n⟩ = xcore P sig own ops s o ⟨t, m, n⟩ := by
  have hop : ∀ x, x ∈ o.op.operands → ∀ G ty, opd P ⟨t', m, n⟩ G ty x = opd P ⟨t, m, n⟩ G ty x := by
    intro x hx G ty
    cases x with
    | tmp d =>
      simp only [opd]
      rw [h d (List.mem_append_left _ (List.mem_filterMap.2 ⟨.tmp d, by simpa using hx, rfl⟩))]
    | _ => rfl
  unfold xcore
  split
  · rw [xop_t hop]
  · rename_i j want hg
    rw [guardE_t (t := t) (fun d hd => h d (List.mem_append_right _ (by rw [hg]; simp [hd])))]
    split
    · rfl
    · split
      · rw [xop_t hop]
      · rfl
end
end Go.X
/- Regions of any order: the order does not matter. -/
namespace Go.X
open Go Go.RowKit

/-! ### 1. What a set of operations has written -/
def applyV (v : Option (Nat × SV)) (t : List SV) : List SV := match v with | some (d, x) => t.set d x | none => t
def tA (V : Nat → Option (Nat × SV)) (L : Nat → Bool) (t0 : List SV) : Nat → List SV
  | 0 => t0
  | k + 1 => if L k then applyV (V k) (tA V L t0 k) else tA V L t0 k
def mA (M : Nat → Option (List (Nat × Blk))) (L : Nat → Bool) (m0 : List (Nat × Blk)) : Nat → List (Nat × Blk)
  | 0 => m0
  | k + 1 => if L k then (M k).getD (mA M L m0 k) else mA M L m0 k
def allL : Nat → Bool := fun _ => true

section
variable {V : Nat → Option (Nat × SV)} {M : Nat → Option (List (Nat × Blk))} {L L' : Nat → Bool} {t0 : List SV} {m0 : List (Nat × Blk)} {n j : Nat}

theorem applyV_ne {v : Option (Nat × SV)} {d : Nat} (h : ∀ x, v ≠ some (d, x)) (t : List SV) : (applyV v t)[d]? = t[d]? := by
  cases v with
  | none => rfl
  | some p =>
    obtain ⟨e, x⟩ := p
    have : e ≠ d := fun he => h x (by rw [he])
    simp only [applyV]
    rw [List.getElem?_set, if_neg this]
theorem tA_look {d : Nat} (hj : j ≤ n) (h : ∀ i x, i < n → V i = some (d, x) → (L i = true ↔ i < j)) : (tA V L t0 n)[d]? = (tA V allL t0 j)[d]? := by
  have h1 : ∀ k, k ≤ j → (tA V L t0 k)[d]? = (tA V allL t0 k)[d]? := by
    intro k
    induction k with
    | zero => intro _; rfl
    | succ k ih =>
      intro hk
      have ih := ih (by omega)
      simp only [tA, allL, if_true]
      by_cases hw : ∃ x, V k = some (d, x)
      · obtain ⟨x, hx⟩ := hw
        rw [(h k x (by omega) hx).2 (by omega)]
        simp only [if_true, applyV, hx]
        have hl : (tA V L t0 k).length = (tA V (fun _ => true) t0 k).length := by
          have len : ∀ (L : Nat → Bool) k, (tA V L t0 k).length = t0.length := by
            intro L k
            induction k with
            | zero => rfl
            | succ k ih =>
              simp only [tA]
              split
              · unfold applyV; split
                · rw [List.length_set]; exact ih
                · exact ih
              · exact ih
          rw [len, len]
        rw [List.getElem?_set, List.getElem?_set, hl]
        split
        · rfl
        · rename_i hne; exact absurd rfl hne
      · have hn : ∀ x, V k ≠ some (d, x) := fun x hx => hw ⟨x, hx⟩
        rw [applyV_ne hn]
        split
        · rw [applyV_ne hn]; exact ih
        · exact ih
  have h2 : ∀ k, j ≤ k → k ≤ n → (tA V L t0 k)[d]? = (tA V L t0 j)[d]? := by
    intro k
    induction k with
    | zero => intro hk _; have : j = 0 := by omega
              subst this; rfl
    | succ k ih =>
      intro hk hn
      by_cases he : j = k + 1
      · subst he; rfl
      · have ih := ih (by omega) (by omega)
        simp only [tA]
        split
        · rename_i hl
          rw [applyV_ne (fun x hx => by have := (h k x (by omega) hx).1 hl; omega)]
          exact ih
        · exact ih
  rw [h2 n hj (Nat.le_refl _), h1 j (Nat.le_refl _)]
theorem mA_look (hj : j ≤ n) (h : ∀ i x, i < n → M i = some x → (L i = true ↔ i < j)) : mA M L m0 n = mA M allL m0 j := by
  have h1 : ∀ k, k ≤ j → mA M L m0 k = mA M allL m0 k := by
    intro k
    induction k with
    | zero => intro _; rfl
    | succ k ih =>
      intro hk
      have ih := ih (by omega)
      simp only [mA, allL, if_true]
      cases hm : M k with
      | none => simp only [Option.getD_none]; split <;> exact ih
      | some x => rw [(h k x (by omega) hm).2 (by omega)]; rfl
  have h2 : ∀ k, j ≤ k → k ≤ n → mA M L m0 k = mA M L m0 j := by
    intro k
    induction k with
    | zero => intro hk _; have : j = 0 := by omega
              subst this; rfl
    | succ k ih =>
      intro hk hn
      by_cases he : j = k + 1
      · subst he; rfl
      · have ih := ih (by omega) (by omega)
        simp only [mA]
        split
        · rename_i hl
          cases hm : M k with
          | none => exact ih
          | some x => have := (h k x (by omega) hm).1 hl; omega
        · exact ih
  rw [h2 n hj (Nat.le_refl _), h1 j (Nat.le_refl _)]
theorem tA_congr (h : ∀ i, i < n → L i = L' i) : ∀ k, k ≤ n → tA V L t0 k = tA V L' t0 k := by
  intro k
  induction k with
  | zero => intro _; rfl
  | succ k ih => intro hk; simp only [tA]; rw [ih (by omega), h k (by omega)]
theorem mA_congr (h : ∀ i, i < n → L i = L' i) : ∀ k, k ≤ n → mA M L m0 k = mA M L' m0 k := by
  intro k
  induction k with
  | zero => intro _; rfl
  | succ k ih => intro hk; simp only [mA]; rw [ih (by omega), h k (by omega)]
theorem tA_none (h : ∀ i, i < n → L i = false) : ∀ k, k ≤ n → tA V L t0 k = t0 := by
  intro k
  induction k with
  | zero => intro _; rfl
  | succ k ih => intro hk; simp only [tA]; rw [ih (by omega), h k (by omega)]; rfl
theorem mA_none (h : ∀ i, i < n → L i = false) : ∀ k, k ≤ n → mA M L m0 k = m0 := by
  intro k
  induction k with
  | zero => intro _; rfl
  | succ k ih => intro hk; simp only [mA]; rw [ih (by omega), h k (by omega)]; rfl
theorem tA_put (hj : j < n) (hL : L j = false) (hL' : ∀ i, L' i = if i = j then true else L i) (h : ∀ i d x y, i < n → i ≠ j → j < i → L i = true → V j = some (d, x) → V i ≠ some (d, y)) : tA V L' t0 n = applyV (V j) (tA V L t0 n) := by
  have h1 : ∀ k, k ≤ j → tA V L' t0 k = tA V L t0 k := by
    intro k
    induction k with
    | zero => intro _; rfl
    | succ k ih =>
      intro hk
      simp only [tA]
      have e : L' k = L k := by rw [hL', if_neg (by omega)]
      rw [e, ih (by omega)]
  have h2 : ∀ k, j < k → k ≤ n → tA V L' t0 k = applyV (V j) (tA V L t0 k) := by
    intro k
    induction k with
    | zero => intro hk; omega
    | succ k ih =>
      intro hk hn
      simp only [tA]
      by_cases he : k = j
      · subst he
        have e : L' k = true := by rw [hL', if_pos rfl]
        rw [e, hL, h1 k (Nat.le_refl _)]
        simp
      · have e : L' k = L k := by rw [hL', if_neg he]
        rw [e, ih (by omega) (by omega)]
        split
        · rename_i hl
          cases hvj : V j with
          | none => rfl
          | some p =>
            cases hvk : V k with
            | none => rfl
            | some q =>
              obtain ⟨d, x⟩ := p
              obtain ⟨e, y⟩ := q
              have hne : d ≠ e := fun hde => by
                subst hde
                exact h k d x y (by omega) he (by omega) hl hvj hvk
              simp only [applyV]
              rw [List.set_comm _ _ hne]
        · rfl
  exact h2 n hj (Nat.le_refl _)
theorem mA_put (hj : j < n) (hL : L j = false) (hL' : ∀ i, L' i = if i = j then true else L i) (h : ∀ i x, i < n → j < i → L i = true → M i ≠ some x) : mA M L' m0 n = (M j).getD (mA M L m0 n) := by
  have h1 : ∀ k, k ≤ j → mA M L' m0 k = mA M L m0 k := by
    intro k
    induction k with
    | zero => intro _; rfl
    | succ k ih =>
      intro hk
      simp only [mA]
      have e : L' k = L k := by rw [hL', if_neg (by omega)]
      rw [e, ih (by omega)]
  have h2 : ∀ k, j < k → k ≤ n → mA M L' m0 k = (M j).getD (mA M L m0 k) := by
    intro k
    induction k with
    | zero => intro hk; omega
    | succ k ih =>
      intro hk hn
      simp only [mA]
      by_cases he : k = j
      · subst he
        have e : L' k = true := by rw [hL', if_pos rfl]
        rw [e, hL, h1 k (Nat.le_refl _)]
        simp
      · have e : L' k = L k := by rw [hL', if_neg he]
        rw [e, ih (by omega) (by omega)]
        split
        · rename_i hl
          cases hm : M k with
          | none => rfl
          | some x => exact absurd hm (h k x (by omega) (by omega) hl)
        · rfl
  exact h2 n hj (Nat.le_refl _)
end

/-! ### 2. What must stand before what -/
theorem orBits_bit {acc : List Nat} {i : Nat} : ∀ {ks : List Nat}, (orBits acc ks).testBit i = true → ∃ k, k ∈ ks ∧ (i = k ∨ (acc.getD k 0).testBit i = true)
  | [], h => by simp [orBits] at h
  | k :: ks, h => by
    simp only [orBits, Nat.testBit_or, Bool.or_eq_true, Nat.testBit_two_pow, decide_eq_true_eq] at h
    rcases h with h | h | h
    · exact ⟨k, .head _, .inl h.symm⟩
    · exact ⟨k, .head _, .inr h⟩
    · obtain ⟨k', h1, h2⟩ := orBits_bit h
      exact ⟨k', .tail _ h1, h2⟩
theorem ancL_get : ∀ (l : List Oper) (acc : List Nat), (∀ k, k < acc.length → (ancL acc l)[k]? = acc[k]?) ∧ ∀ (k : Nat) (o : Oper), l[k]? = some o → (ancL acc l)[acc.length + k]? = some (orBits ((ancL acc l).take (acc.length + k)) (eOns o))
  | [], acc => ⟨fun k _ => rfl, fun k o h => by simp at h⟩
  | o :: l, acc => by
    obtain ⟨h1, h2⟩ := ancL_get l (acc ++ [orBits acc (eOns o)])
    have hpre : ∀ k, k < acc.length → (ancL acc (o :: l))[k]? = acc[k]? := by
      intro k hk
      have := h1 k (by simp; omega)
      rw [List.getElem?_append_left hk] at this
      exact this
    refine ⟨hpre, fun k o' hk => ?_⟩
    cases k with
    | zero =>
      simp only [List.getElem?_cons_zero, Option.some.injEq] at hk
      subst hk
      have := h1 acc.length (by simp)
      rw [List.getElem?_append_right (Nat.le_refl _), Nat.sub_self] at this
      have htake : (ancL acc (o :: l)).take acc.length = acc := by
        apply List.ext_getElem?
        intro i
        rw [List.getElem?_take]
        split
        · rename_i hi; exact hpre i hi
        · rw [List.getElem?_eq_none (by omega)]
      rw [Nat.add_zero, htake]
      exact this
    | succ k =>
      have := h2 k o' (by simpa using hk)
      rw [List.length_append, List.length_singleton] at this
      rw [show acc.length + (k + 1) = acc.length + 1 + k by omega]
      exact this
/-- A set that holds what its members wait for holds all that stands before them. -/
theorem anc_closed {ops : List Oper} {L : Nat → Bool} (hcl : ∀ (j : Nat) (o : Oper), ops[j]? = some o → L j = true → ∀ k, k ∈ eOns o → L k = true) (hlt : ∀ (j : Nat) (o : Oper), ops[j]? = some o → ∀ k, k ∈ eOns o → k < j) :
    ∀ (N j : Nat) (o : Oper), j < N → ops[j]? = some o → (∀ k, k ∈ eOns o → L k = true) → ∀ i, ((ancL [] ops).getD j 0).testBit i = true → L i = true := by
  intro N
  induction N with
  | zero => intro j o hj; omega
  | succ N ih =>
    intro j o hj ho hk i hi
    have hget := (ancL_get ops []).2 j o ho
    simp only [List.length_nil, Nat.zero_add] at hget
    rw [List.getD_eq_getElem?_getD, hget, Option.getD_some] at hi
    obtain ⟨k, hk1, hk2⟩ := orBits_bit hi
    have hkj := hlt j o ho k hk1
    rcases hk2 with rfl | hk2
    · exact hk _ hk1
    · have : ((ancL [] ops).take j).getD k 0 = (ancL [] ops).getD k 0 := by
        rw [List.getD_eq_getElem?_getD, List.getD_eq_getElem?_getD, List.getElem?_take, if_pos hkj]
      rw [this] at hk2
      have hko : ∃ o', ops[k]? = some o' := ⟨_, List.getElem?_eq_getElem (by have := (List.getElem?_eq_some_iff.1 ho).1; omega)⟩
      obtain ⟨o', ho'⟩ := hko
      exact ih k o' (by omega) ho' (hcl k o' ho' (hk k hk1)) i hk2
end Go.X
/- Regions of any order, on the machine. -/
namespace Go.X
open Go Go.RowKit

section
variable {P : Program} {sig : Nat → Option Nat} {fn : Fns} {w0 : World} {Oe : Nat → Option Nat} {η : List PV} {ops : Array Oper}

/-- one operation of a region in the order of the text -/
structure Tr (P : Program) (sig : Nat → Option Nat) (fn : Fns) (η : List PV) (ops : Array Oper) (own : List Nat) (rid : Nat) (S : Nat → St) (V : Nat → Option (Nat × SV)) (M : Nat → Option (List (Nat × Blk))) (j : Nat) (o : Oper) : Prop where
  step : ∃ ws sv ε η1 η2 ζ, xcore P sig own ops (rid * 4096 + j) o (S j) = some (ws, sv, ε) ∧ ε.kl = none ∧ V j = o.dst.map (fun d => (d, sv)) ∧ evalWs fn η1 ws = some η2 ∧ η = η2 ++ ζ ∧ η1.length = (S j).n ∧
    (M j = some ε.m ∧ storing o.op = true ∨ M j = none ∧ ε.m = (S j).m)

theorem trace {own : List Nat} {rid : Nat} : ∀ (l : List Oper) (i : Nat) (σ : St) (η1 η2 ζ : List PV) (ws : List W) (σ' : St), xopsD P sig own ops rid l i σ = some (ws, σ') → evalWs fn η1 ws = some η2 → η = η2 ++ ζ → η1.length = σ.n →
    ∃ (S : Nat → St) (V : Nat → Option (Nat × SV)) (M : Nat → Option (List (Nat × Blk))), S i = σ ∧ S (i + l.length) = σ' ∧ (∀ k o, l[k]? = some o → Tr P sig fn η ops own rid S V M (i + k) o ∧ (S (i + k + 1)).t = applyV (V (i + k)) (S (i + k)).t ∧ (S (i + k + 1)).m = (M (i + k)).getD (S (i + k)).m) ∧ η2.length = σ'.n
  | [], i, σ, η1, η2, ζ, ws, σ', hx, hw, hη, hn => by
    simp only [xopsD, Option.some.injEq, Prod.mk.injEq] at hx
    obtain ⟨rfl, rfl⟩ := hx
    simp only [evalWs, Option.some.injEq] at hw
    subst hw
    exact ⟨fun _ => σ, fun _ => none, fun _ => none, rfl, rfl, fun k o h => by simp at h, hn⟩
  | o :: l, i, σ, η1, η2, ζ, ws, σ', hx, hw, hη, hn => by
    simp only [xopsD] at hx
    split at hx
    · rename_i ws1 sv ε hc
      split at hx
      · rename_i hcond
        obtain ⟨hkl, hm⟩ := hcond
        have hkl' : ε.kl = none := by simpa using hkl
        obtain ⟨⟨ws2, σ2⟩, hrec, he⟩ := Option.map_eq_some_iff.1 hx
        simp only [Prod.mk.injEq] at he
        obtain ⟨rfl, rfl⟩ := he
        rw [evalWs_append] at hw
        obtain ⟨η3, hw1, hw2⟩ := Option.bind_eq_some_iff.1 hw
        obtain ⟨ζ2, hζ2⟩ := evalWs_pre hw2
        have hset : ((σ.eff ε).set o.dst sv).n = ε.n := by cases o.dst <;> rfl
        have hlen := xcore_len hc hw1 hn
        obtain ⟨S, V, M, hS0, hSn, hS, hl2⟩ := trace l (i + 1) _ η3 η2 ζ ws2 σ2 hrec hw2 hη (by rw [hlen, hset])
        let S' := fun k => if k = i then σ else S k
        let V' := fun k => if k = i then o.dst.map (fun d => (d, sv)) else V k
        let M' := fun k => if k = i then (if storing o.op then some ε.m else none) else M k
        have hS' : ∀ k, k ≠ i → S' k = S k := fun k hk => if_neg hk
        have hV' : ∀ k, k ≠ i → V' k = V k := fun k hk => if_neg hk
        have hM' : ∀ k, k ≠ i → M' k = M k := fun k hk => if_neg hk
        have hSi : S' i = σ := if_pos rfl
        have hVi : V' i = o.dst.map (fun d => (d, sv)) := if_pos rfl
        have hMi : M' i = if storing o.op then some ε.m else none := if_pos rfl
        refine ⟨S', V', M', hSi, ?_, fun k o' hk => ?_, hl2⟩
        · rw [List.length_cons, hS' _ (by omega), ← hSn]; congr 1; omega
        · cases k with
          | zero =>
            simp only [List.getElem?_cons_zero, Option.some.injEq] at hk
            subst hk
            rw [Nat.add_zero]
            refine ⟨⟨ws1, sv, ε, η1, η3, ζ2 ++ ζ, by rw [hSi]; exact hc, hkl', hVi, hw1, by rw [hη, hζ2, List.append_assoc], by rw [hSi]; exact hn, ?_⟩, ?_, ?_⟩
            · rw [hMi, hSi]
              cases hst : storing o.op with
              | true => exact .inl ⟨rfl, rfl⟩
              | false =>
                refine .inr ⟨rfl, ?_⟩
                rcases hm with hm | hm
                · rw [hst] at hm; cases hm
                · exact sameM_eq hm
            · rw [hS' _ (by omega), hS0, hVi, hSi]
              cases o.dst with
              | none => show (σ.eff ε).t = σ.t; simp only [St.eff, hkl']
              | some d => show ((σ.eff ε).t.set d sv) = σ.t.set d sv; simp only [St.eff, hkl']
            · rw [hS' _ (by omega), hS0, hMi, hSi]
              have e1 : ((σ.eff ε).set o.dst sv).m = ε.m := by cases o.dst <;> rfl
              rw [e1]
              cases hst : storing o.op with
              | true => rfl
              | false =>
                rcases hm with hm | hm
                · rw [hst] at hm; cases hm
                · exact sameM_eq hm
          | succ k =>
            obtain ⟨⟨h1⟩, h2, h3⟩ := hS k o' (by simpa using hk)
            have e : i + (k + 1) = i + 1 + k := by omega
            rw [e]
            refine ⟨⟨?_⟩, by rw [hS' _ (by omega), hS' _ (by omega), hV' _ (by omega)]; exact h2, by rw [hS' _ (by omega), hS' _ (by omega), hM' _ (by omega)]; exact h3⟩
            rw [hS' _ (by omega), hV' _ (by omega), hM' _ (by omega)]
            exact h1
      · cases hx
    · cases hx

/-- how many are not listed -/
def cnt (L : Nat → Bool) : Nat → Nat
  | 0 => 0
  | k + 1 => cnt L k + if L k then 0 else 1
theorem cnt_set {L L' : Nat → Bool} {j : Nat} (hL : L j = false) (hL' : ∀ i, L' i = if i = j then true else L i) : ∀ k, cnt L k = cnt L' k + if j < k then 1 else 0
  | 0 => by simp [cnt]
  | k + 1 => by
    have ih := cnt_set hL hL' k
    by_cases hk : k = j
    · subst hk
      have e : L' k = true := by rw [hL', if_pos rfl]
      simp only [cnt, e, hL, if_true, Bool.false_eq_true, if_false]
      rw [if_neg (Nat.lt_irrefl k)] at ih
      rw [if_pos (Nat.lt_succ_self k)]
      omega
    · have e : L' k = L k := by rw [hL', if_neg hk]
      simp only [cnt, e]
      by_cases hjk : j < k
      · rw [if_pos hjk] at ih
        rw [if_pos (show j < k + 1 by omega)]
        omega
      · rw [if_neg hjk] at ih
        rw [if_neg (show ¬ j < k + 1 by omega)]
        omega
theorem cnt_zero {L : Nat → Bool} : ∀ k, cnt L k = 0 → ∀ i, i < k → L i = true
  | 0, _, i, hi => by omega
  | k + 1, h, i, hi => by
    simp only [cnt] at h
    by_cases hk : i = k
    · subst hk
      cases hl : L i with
      | true => rfl
      | false => rw [hl] at h; simp at h
    · exact cnt_zero k (by omega) i (by omega)

theorem draw_ok (hC : Contract P sig fn) {own : List Nat} {rid : Nat} {Q : Exit → Act → World → Prop} {ds : List Deferred} {S : Nat → St} {V : Nat → Option (Nat × SV)} {M : Nat → Option (List (Nat × Blk))}
    (hd : drawOK ops = true) (hT : ∀ k o, ops[k]? = some o → Tr P sig fn η ops own rid S V M k o ∧ (S (k + 1)).t = applyV (V k) (S k).t ∧ (S (k + 1)).m = (M k).getD (S k).m)
    (hQ : ∀ a' w', a'.defers = ds → Rels w0 Oe η ⟨(S ops.size).t, (S ops.size).m, 0⟩ a'.tmps w' → Q .normal a' w') :
    ∀ (fuel : Nat) (listed : Array Bool) (a : Act) (w : World), listed.size = ops.size → cnt (fun i => listed.getD i false) ops.size ≤ fuel →
      (∀ (j : Nat) (o : Oper), ops[j]? = some o → listed.getD j false = true → ∀ k, k ∈ eOns o → listed.getD k false = true) → a.defers = ds →
      Rels w0 Oe η ⟨tA V (fun i => listed.getD i false) (S 0).t ops.size, mA M (fun i => listed.getD i false) (S 0).m ops.size, 0⟩ a.tmps w → wpAny P .any ops Q fuel listed a w := by
  -- what the check says
  have hop : ∀ j, j < ops.size → ∃ y, ops[j]? = some y ∧ isSelect y.op = false ∧ (∀ k, k ∈ eOns y → k < j) ∧ ∀ i, i < j → ((ancL [] ops.toList).getD j 0).testBit i = true ∨ ∃ x, ops[i]? = some x ∧ x.apart ops y = true ∧ storing x.op = false ∧ storing y.op = false := by
    intro j hj
    unfold drawOK at hd
    have h1 := (List.all_eq_true.1 hd) j (by simp [hj])
    split at h1
    · rename_i y hy
      simp only [Bool.and_eq_true, Bool.not_eq_true', List.all_eq_true, decide_eq_true_eq, List.mem_range, Bool.or_eq_true] at h1
      refine ⟨y, hy, h1.1.1.2, fun k hk => h1.1.2 k hk, fun i hi => ?_⟩
      rcases h1.2 i hi with h2 | h2
      · exact .inl h2
      · right
        split at h2
        · rename_i x hx
          simp only [Bool.and_eq_true, Bool.not_eq_true'] at h2
          exact ⟨x, hx, h2.1.1, h2.1.2, h2.2⟩
        · cases h2
    · cases h1
  have hlt : ∀ (j : Nat) (o : Oper), ops.toList[j]? = some o → ∀ k, k ∈ eOns o → k < j := by
    intro j o ho k hk
    have ho' : ops[j]? = some o := by simpa using ho
    obtain ⟨y, hy, _, h2, _⟩ := hop j (Array.getElem?_eq_some_iff.1 ho').1
    rw [ho'] at hy; injection hy with hy; subst hy
    exact h2 k hk
  -- the states of the text's order
  have hAll : ∀ k, k ≤ ops.size → (S k).t = tA V allL (S 0).t k ∧ (S k).m = mA M allL (S 0).m k := by
    intro k
    induction k with
    | zero => intro _; exact ⟨rfl, rfl⟩
    | succ k ih =>
      intro hk
      obtain ⟨i1, i2⟩ := ih (by omega)
      obtain ⟨o, ho⟩ : ∃ o, ops[k]? = some o := ⟨_, Array.getElem?_eq_getElem (by omega)⟩
      obtain ⟨_, h2, h3⟩ := hT k o ho
      simp only [tA, mA, allL, if_true]
      refine ⟨?_, ?_⟩
      · rw [h2, i1]
      · rw [h3, i2]
  -- once all are listed
  have hend : ∀ (listed : Array Bool) (a : Act) (w : World), (∀ i, i < ops.size → listed.getD i false = true) → a.defers = ds →
      Rels w0 Oe η ⟨tA V (fun i => listed.getD i false) (S 0).t ops.size, mA M (fun i => listed.getD i false) (S 0).m ops.size, 0⟩ a.tmps w → Q .normal a w := by
    intro listed a w hl hds h
    refine hQ a w hds ?_
    obtain ⟨e1, e2⟩ := hAll ops.size (Nat.le_refl _)
    have c1 := tA_congr (V := V) (t0 := (S 0).t) (L := fun i => listed.getD i false) (L' := allL) (n := ops.size) hl
    have c2 := mA_congr (M := M) (m0 := (S 0).m) (L := fun i => listed.getD i false) (L' := allL) (n := ops.size) hl
    rw [e1, e2, ← c1 _ (Nat.le_refl _), ← c2 _ (Nat.le_refl _)]
    exact h
  intro fuel
  induction fuel with
  | zero =>
    intro listed a w hsize hcnt hcl hds h
    have hl := cnt_zero ops.size (by omega) (L := fun i => listed.getD i false)
    refine ⟨?_, hend listed a w hl hds h⟩
    refine List.eq_nil_iff_forall_not_mem.2 fun j hj => ?_
    rw [mem_ready] at hj
    obtain ⟨h0, o, ho, _⟩ := hj
    have hj' := (Array.getElem?_eq_some_iff.1 ho).1
    have := hl j hj'
    rw [Array.getD_eq_getD_getElem?, Array.getElem?_eq_getElem (by omega)] at h0 this
    simp only [Option.getD_some] at h0 this
    rw [h0] at this; cases this
  | succ fuel ih =>
    intro listed a w hsize hcnt hcl hds h
    let L : Nat → Bool := fun i => listed.getD i false
    refine ⟨fun hr => ?_, fun j hj => ?_⟩
    · -- none is ready: all are listed
      refine hend listed a w (fun i hi => ?_) hds h
      have : ∀ N i, i < N → i < ops.size → L i = true := by
        intro N
        induction N with
        | zero => intro i hi; omega
        | succ N ihN =>
          intro i hi1 hi2
          refine Classical.byContradiction fun hne => ?_
          obtain ⟨y, hy, _, hk, _⟩ := hop i hi2
          have hmem : i ∈ Region.ready .any ops listed := by
            rw [mem_ready]
            refine ⟨?_, y, hy, fun e he hb => ?_⟩
            · have : L i = false := by
                cases hh : L i with
                | false => rfl
                | true => exact absurd hh hne
              have h3 : listed.getD i false = false := this
              rw [Array.getD_eq_getD_getElem?, Array.getElem?_eq_getElem (by omega)] at h3 ⊢
              exact h3
            · have hin : e.on ∈ eOns y := List.mem_map.2 ⟨e, List.mem_filter.2 ⟨by simpa using he, hb⟩, rfl⟩
              have := hk _ hin
              exact ihN e.on (by omega) (by omega)
          rw [hr] at hmem; simp at hmem
      exact this (i + 1) i (by omega) hi
    · rw [mem_ready] at hj
      obtain ⟨h0, o, ho, hafter⟩ := hj
      have hj' : j < ops.size := (Array.getElem?_eq_some_iff.1 ho).1
      have hLj : L j = false := by
        show listed.getD j false = false
        rw [Array.getD_eq_getD_getElem?, Array.getElem?_eq_getElem (by omega)] at h0 ⊢
        exact h0
      obtain ⟨y, hy, hsel, hk, hpair⟩ := hop j hj'
      rw [ho] at hy; injection hy with hy; subst hy
      have hready : ∀ k, k ∈ eOns o → L k = true := by
        intro k hk1
        obtain ⟨e, he, rfl⟩ := List.mem_map.1 hk1
        obtain ⟨he1, he2⟩ := List.mem_filter.1 he
        exact hafter e (by simpa using he1) he2
      have hcl' : ∀ (j : Nat) (o : Oper), ops.toList[j]? = some o → L j = true → ∀ k, k ∈ eOns o → L k = true := fun j o ho hl => hcl j o (by simpa using ho) hl
      have hanc : ∀ i, ((ancL [] ops.toList).getD j 0).testBit i = true → L i = true := anc_closed hcl' hlt (j + 1) j o (by omega) (by simpa using ho) hready
      -- listed operations behind j
      have hbehind : ∀ i, j < i → i < ops.size → L i = true → ∃ x, ops[i]? = some x ∧ o.apart ops x = true ∧ storing o.op = false ∧ storing x.op = false := by
        intro i hji hin hLi
        obtain ⟨x, hx, _, hxk, hxp⟩ := hop i hin
        rcases hxp j hji with hb | ⟨o', ho', h1, h2, h3⟩
        · have := anc_closed hcl' hlt (i + 1) i x (by omega) (by simpa using hx) (fun k hk => hcl i x hx hLi k hk) j hb
          rw [hLj] at this; cases this
        · rw [ho] at ho'; injection ho' with ho'; subst ho'
          exact ⟨x, hx, h1, h2, h3⟩
      obtain ⟨⟨ws, sv, ε, η1, η2, ζ, hcore, hkl, hV, hw, hη, hn, hM⟩, _, _⟩ := hT j o ho
      obtain ⟨a1, a2⟩ := hAll j (by omega)
      -- writers
      have hVi : ∀ i d x, i < ops.size → V i = some (d, x) → ∃ y, ops[i]? = some y ∧ y.dst = some d := by
        intro i d x hi hv
        obtain ⟨y, hy⟩ : ∃ o, ops[i]? = some o := ⟨_, Array.getElem?_eq_getElem hi⟩
        obtain ⟨⟨_, sv', _, _, _, _, _, _, hV', _⟩, _, _⟩ := hT i y hy
        rw [hV'] at hv
        obtain ⟨d', hd', he⟩ := Option.map_eq_some_iff.1 hv
        simp only [Prod.mk.injEq] at he
        exact ⟨y, hy, by rw [hd', he.1]⟩
      have hMi : ∀ i x, i < ops.size → M i = some x → ∃ y, ops[i]? = some y ∧ storing y.op = true := by
        intro i x hi hv
        obtain ⟨y, hy⟩ : ∃ o, ops[i]? = some o := ⟨_, Array.getElem?_eq_getElem hi⟩
        obtain ⟨⟨_, _, _, _, _, _, _, _, _, _, _, _, hM'⟩, _, _⟩ := hT i y hy
        rcases hM' with ⟨_, h2⟩ | ⟨h1, _⟩
        · exact ⟨y, hy, h2⟩
        · rw [h1] at hv; cases hv
      have hlook : ∀ d, d ∈ o.looksAt ops → (tA V L (S 0).t ops.size)[d]? = (S j).t[d]? := by
        intro d hd
        rw [a1]
        refine tA_look (by omega) fun i x hi hv => ?_
        obtain ⟨y, hy, hyd⟩ := hVi i d x hi hv
        constructor
        · intro hLi
          refine Classical.byContradiction fun hge => ?_
          have hij : i ≠ j := fun e => by subst e; rw [hLj] at hLi; cases hLi
          obtain ⟨x', hx', hap, _, _⟩ := hbehind i (by omega) hi hLi
          rw [hy] at hx'; injection hx' with hx'; subst hx'
          exact (Oper.apart_spec hap).2.2 d hyd hd
        · intro hlt
          rcases hpair i hlt with hb | ⟨x', hx', hap, _, _⟩
          · exact hanc i hb
          · rw [hy] at hx'; injection hx' with hx'; subst hx'
            exact absurd hd ((Oper.apart_spec hap).1 d hyd)
      have hmem : mA M L (S 0).m ops.size = (S j).m := by
        rw [a2]
        refine mA_look (by omega) fun i x hi hv => ?_
        obtain ⟨y, hy, hys⟩ := hMi i x hi hv
        constructor
        · intro hLi
          refine Classical.byContradiction fun hge => ?_
          have hij : i ≠ j := fun e => by subst e; rw [hLj] at hLi; cases hLi
          obtain ⟨x', hx', _, _, hs⟩ := hbehind i (by omega) hi hLi
          rw [hy] at hx'; injection hx' with hx'; subst hx'
          rw [hys] at hs; cases hs
        · intro hlt
          rcases hpair i hlt with hb | ⟨x', hx', _, hs, _⟩
          · exact hanc i hb
          · rw [hy] at hx'; injection hx' with hx'; subst hx'
            rw [hys] at hs; cases hs
      -- the step
      have hcore' : xcore P sig own ops (rid * 4096 + j) o ⟨tA V L (S 0).t ops.size, (S j).m, (S j).n⟩ = some (ws, sv, ε) := by
        rw [← hcore]
        exact xcore_t hlook
      obtain ⟨β, hv, O, hrel⟩ := h
      have hrel' : Rel w0 Oe η ⟨tA V L (S 0).t ops.size, (S j).m, (S j).n⟩ a.tmps w β hv O := by
        have := hrel.setN (S j).n
        rw [← hmem]; exact this
      refine step_wpOp ho (xcore_ok hC hrel' hcore' hw hη hn) fun v w' hp => ?_
      have hrels := hp.rels (d := o.dst)
      let L' : Nat → Bool := fun i => (listed.setIfInBounds j true).getD i false
      have hL' : ∀ i, L' i = if i = j then true else L i := by
        intro i
        show (listed.setIfInBounds j true).getD i false = _
        split
        · rename_i he; subst he
          rw [Array.getD_eq_getD_getElem?, Array.getElem?_setIfInBounds_self_of_lt (by omega)]; rfl
        · rename_i he
          exact getD_set_ne false (Ne.symm he)
      refine ih _ _ _ (by simpa using hsize) ?_ ?_ (by rw [put_defers]; exact hds) ?_
      · have := cnt_set hLj hL' ops.size
        rw [if_pos hj'] at this
        have e1 : cnt L' ops.size = cnt (fun i => (listed.setIfInBounds j true).getD i false) ops.size := rfl
        have e2 : cnt L ops.size = cnt (fun i => listed.getD i false) ops.size := rfl
        omega
      · intro i y hy hl k hk
        by_cases hij : i = j
        · subst hij
          rw [ho] at hy; injection hy with hy; subst hy
          exact getD_set_true (hready k hk)
        · rw [getD_set_ne false (Ne.symm hij)] at hl
          exact getD_set_true (hcl i y hy hl k hk)
      · have e1 : tA V L' (S 0).t ops.size = applyV (V j) (tA V L (S 0).t ops.size) := tA_put hj' hLj hL' fun i d x y hi hij hji hLi h1 h2 => by
          obtain ⟨x', hx', hap, _, _⟩ := hbehind i hji hi hLi
          obtain ⟨y', hy', hyd⟩ := hVi i d y hi h2
          rw [hx'] at hy'; injection hy' with hy'; subst hy'
          obtain ⟨o', ho', hod⟩ := hVi j d x hj' h1
          rw [ho] at ho'; injection ho' with ho'; subst ho'
          exact (Oper.apart_spec hap).2.1 d hod hyd
        have e2 : mA M L' (S 0).m ops.size = (M j).getD (mA M L (S 0).m ops.size) := mA_put hj' hLj hL' fun i x hi hji hLi h1 => by
          obtain ⟨x', hx', _, _, hs⟩ := hbehind i hji hi hLi
          obtain ⟨y', hy', hys⟩ := hMi i x hi h1
          rw [hx'] at hy'; injection hy' with hy'; subst hy'
          rw [hys] at hs; cases hs
        have e3 : (M j).getD (mA M L (S 0).m ops.size) = ε.m := by
          rcases hM with ⟨h1, _⟩ | ⟨h1, h2⟩
          · rw [h1]; rfl
          · rw [h1, hmem]; exact h2.symm
        have e4 : tA V L' (S 0).t ops.size = (((⟨tA V L (S 0).t ops.size, (S j).m, (S j).n⟩ : St).eff ε).set o.dst sv).t := by
          rw [e1, hV]
          cases o.dst with
          | none => simp only [St.eff, hkl, St.set, Option.map_none, applyV]
          | some d => simp only [St.eff, hkl, St.set, Option.map_some, applyV]
        have e5 : mA M L' (S 0).m ops.size = (((⟨tA V L (S 0).t ops.size, (S j).m, (S j).n⟩ : St).eff ε).set o.dst sv).m := by
          rw [e2, e3]
          cases o.dst <;> rfl
        show Rels w0 Oe η ⟨tA V L' (S 0).t ops.size, mA M L' (S 0).m ops.size, 0⟩ _ _
        obtain ⟨β', hv', O', r⟩ := hrels
        rw [e4, e5]
        exact ⟨β', hv', O', r.setN 0⟩

theorem xdraw_ok (hC : Contract P sig fn) {own : List Nat} {rid : Nat} {Q : Exit → Act → World → Prop} {σ σ' : St} {a : Act} {w : World} {η1 η2 ζ : List PV} {ws : List W} (h : Rels w0 Oe η σ a.tmps w)
    (hx : xdraw P sig own ops rid σ = some (ws, σ')) (hw : evalWs fn η1 ws = some η2) (hη : η = η2 ++ ζ) (hn : η1.length = σ.n) (hQ : ∀ a' w', a'.defers = a.defers → Rels w0 Oe η σ' a'.tmps w' → Q .normal a' w') :
    (Code.region rid ops true).wp P Q a w ∧ η2.length = σ'.n := by
  unfold xdraw at hx
  split at hx
  · rename_i hc
    simp only [Bool.and_eq_true] at hc
    split at hx
    · rename_i σ1 _
      obtain ⟨S, V, M, h0, h1, h2, h3⟩ := trace (fn := fn) (η := η) (ops := ops) ops.toList 0 _ η1 η2 ζ ws σ' hx hw hη hn
      refine ⟨wp_region_any hc.2 ?_, h3⟩
      obtain ⟨β, hv, O, hrel⟩ := h
      obtain ⟨O', hfrz, _⟩ := hrel.frz (roSites σ1.m) (n := 0)
      have hrel2 := hfrz.below (w' := w.drew) ((Below.refl _ _).drew)
      have hsz : 0 + ops.toList.length = ops.size := by simp
      rw [hsz] at h1
      refine draw_ok (w0 := w0) (Oe := Oe) hC (ds := a.defers) hc.1 (fun k o ho => by have := h2 k o (by simpa using ho); simpa using this) (fun a' w' hd hr => hQ a' w' hd ?_) ops.size (Array.replicate ops.size false) a _ (by simp) ?_ ?_ rfl ?_
      · rw [h1] at hr
        obtain ⟨β', hv', O', r⟩ := hr
        exact ⟨β', hv', O', r.setN σ'.n⟩
      · have : ∀ (L : Nat → Bool) k, cnt L k ≤ k := by
          intro L k
          induction k with
          | zero => exact Nat.le_refl _
          | succ k ih => simp only [cnt]; split <;> omega
        exact this _ _
      · intro j o ho hl
        have hj := (Array.getElem?_eq_some_iff.1 ho).1
        simp [hj] at hl
      · have hno : ∀ i, i < ops.size → (Array.replicate ops.size false).getD i false = false := fun i hi => by simp [hi]
        have c1 := tA_none (V := V) (t0 := (S 0).t) (L := fun i => (Array.replicate ops.size false).getD i false) hno
        have c2 := mA_none (M := M) (m0 := (S 0).m) (L := fun i => (Array.replicate ops.size false).getD i false) hno
        rw [c1 _ (Nat.le_refl _), c2 _ (Nat.le_refl _), h0]
        exact ⟨β, hv, O', hrel2⟩
    · cases hx
  · cases hx
end
end Go.X
/- Where several ways come together. -/
namespace Go.X
open Go Go.RowKit

theorem evs_at {η : List PV} {es : List E} {vs : List PV} (h : E.evs η es = some vs) {j : Nat} {e : E} (he : es[j]? = some e) : ∃ p, vs[j]? = some p ∧ e.ev η = some p := (evs_get h).2 j e he

section
variable {η ζ vs : List PV} {es : List E} {n : Nat}

theorem subE_ok (hvs : E.evs (η ++ ζ) es = some vs) (hn : η.length = n) {x y : E} (h : subE es n x y = true) {p : PV} (hp : x.ev (η ++ ζ) = some p) : y.ev (η ++ vs) = some p := by
  have hh : ∀ k, k < n → (η ++ ζ)[k]? = (η ++ vs)[k]? := fun k hk => by rw [List.getElem?_append_left (by omega), List.getElem?_append_left (by omega)]
  unfold subE at h
  split at h
  · rename_i k
    split at h
    · rename_i hk
      split at h
      · rename_i e he
        have := E.same_eq _ _ h
        subst this
        obtain ⟨q, hq, hq2⟩ := evs_at hvs he
        rw [hp] at hq2; injection hq2 with hq2; subst hq2
        simp only [E.ev]
        rw [List.getElem?_append_right (by omega), hn]
        exact hq
      · cases h
    · rename_i hk
      have := E.same_eq _ _ h
      subst this
      rw [← E.ev_scp hh _ (by simp only [E.scp, decide_eq_true_eq]; omega)]
      exact hp
  · simp only [Bool.and_eq_true] at h
    have := E.same_eq _ _ h.1
    subst this
    rw [← E.ev_scp hh _ h.2]; exact hp

/-- from one reading to another, where a symbolic value speaks of what both have alike -/
structure Mv (C C' : Cx) (n : Nat) (R : List (Nat × SV)) : Prop where
  ev : ∀ x : E, x.scp n = true → x.ev C'.η = x.ev C.η
  M : C.M.Le C'.M
  at_ : ∀ s, lookR R s = none → C'.β s = C.β s ∧ C'.hv s = C.hv s
  arr : ∀ s e sz x ro xs, lookR R s = none → isArr C'.m s = true → mget C.m s = some (.arr e sz x ro) → x.ev C.η = some (.l sz xs) → ∃ e' x' ro', mget C'.m s = some (.arr e' sz x' ro') ∧ x'.ev C'.η = some (.l sz xs)

mutual
theorem RepSV.mv {C C' : Cx} {n : Nat} {R : List (Nat × SV)} (h : Mv C C' n R) : ∀ (x : SV) (v : Value), x.scp n = true → x.okM C'.m R = true → RepSV C x v → RepSV C' x v
  | .e x, v, hs, hk, hr => by
    simp only [RepSV, SV.scp] at hs hr ⊢
    obtain ⟨p, h1, h2⟩ := hr
    exact ⟨p, by rw [h.ev _ hs]; exact h1, h2.mono h.M⟩
  | .nil _, v, hs, hk, hr => by simpa only [RepSV] using hr
  | .lit sz x, v, hs, hk, hr => by
    simp only [RepSV, SV.scp] at hs hr ⊢
    obtain ⟨xs, a, h1, h2, h3⟩ := hr
    exact ⟨xs, a, by rw [h.ev _ hs]; exact h1, h2, h3.mono h.M⟩
  | .may g x, v, hs, hk, hr => by
    simp only [RepSV, SV.scp, SV.okM, Bool.and_eq_true] at hs hk hr ⊢
    obtain ⟨b, h1, h2, h3⟩ := hr
    exact ⟨b, by rw [h.ev _ hs.1]; exact h1, fun hb => RepSV.mv h x v hs.2 hk (h2 hb), h3⟩
  | .und, v, hs, hk, hr => by simp only [RepSV]
  | .bp s off, v, hs, hk, hr => by
    simp only [RepSV, SV.okM, Option.isNone_iff_eq_none] at hk hr ⊢
    rw [(h.at_ s hk).1]; exact hr
  | .ip x off, v, hs, hk, hr => by
    simp only [RepSV, SV.scp] at hs hr ⊢
    obtain ⟨p, h1, h2⟩ := hr
    exact ⟨p, by rw [h.ev _ hs]; exact h1, h2.mono h.M⟩
  | .ap s i off, v, hs, hk, hr => by
    simp only [RepSV, SV.scp, SV.okM, Bool.and_eq_true, Option.isNone_iff_eq_none] at hs hk hr ⊢
    obtain ⟨e, sz, x, ro, xs, k, iv, h1, h2, h3, h4, h5, h6⟩ := hr
    obtain ⟨e', x', ro', g1, g2⟩ := h.arr s e sz x ro xs hk.1 hk.2 h1 h2
    exact ⟨e', sz, x', ro', xs, k, iv, g1, g2, by rw [h.ev _ hs]; exact h3, h4, h5, by rw [(h.at_ s hk.1).1]; exact h6⟩
  | .h s, v, hs, hk, hr => by
    simp only [RepSV, SV.okM, Option.isNone_iff_eq_none] at hk hr ⊢
    rw [(h.at_ s hk).2]; exact hr
  | .mh s, v, hs, hk, hr => by
    simp only [RepSV, SV.okM, Option.isNone_iff_eq_none] at hk hr ⊢
    rw [(h.at_ s hk).1]; exact hr
  | .tup xs, v, hs, hk, hr => by
    simp only [RepSV, SV.scp, SV.okM] at hs hk hr ⊢
    obtain ⟨us, h1, h2⟩ := hr
    exact ⟨us, h1, RepSVs.mv h xs _ hs hk h2⟩
  | .ag xs, v, hs, hk, hr => by
    simp only [RepSV, SV.scp, SV.okM] at hs hk hr ⊢
    obtain ⟨us, h1, h2, h3⟩ := hr
    exact ⟨us, h1, h2, RepSVs.mv h xs _ hs hk h3⟩
  | .clo g xs, v, hs, hk, hr => by
    simp only [RepSV, SV.scp, SV.okM] at hs hk hr ⊢
    obtain ⟨us, h1, h2⟩ := hr
    exact ⟨us, h1, RepSVs.mv h xs _ hs hk h2⟩
theorem RepSVs.mv {C C' : Cx} {n : Nat} {R : List (Nat × SV)} (h : Mv C C' n R) : ∀ (xs : List SV) (us : List Value), SV.scps n xs = true → SV.okMs C'.m R xs = true → RepSVs C xs us → RepSVs C' xs us
  | [], us, hs, hk, hr => by simpa only [RepSVs] using hr
  | x :: xs, us, hs, hk, hr => by
    simp only [RepSVs, SV.scps, SV.okMs, Bool.and_eq_true] at hs hk hr ⊢
    obtain ⟨v, r, rfl, h1, h2⟩ := hr
    exact ⟨v, r, rfl, RepSV.mv h x v hs.1 hk.1 h1, RepSVs.mv h xs r hs.2 hk.2 h2⟩
end

theorem subSV_ok {C C' : Cx} {R : List (Nat × SV)} (hvs : E.evs (η ++ ζ) es = some vs) (hn : η.length = n) (hC : C.η = η ++ ζ) (hC' : C'.η = η ++ vs) (hm : Mv C C' n R)
    (hR : ∀ s s', lookR R s = some (.h s') → C'.hv s = C.hv s') (hR2 : ∀ s z, lookR R s = some (.nil z) → C'.hv s = .slice none 0 0) {x y : SV} (h : subSV es n C'.m R x y = true) {v : Value} (hr : RepSV C x v) : RepSV C' y v := by
  unfold subSV at h
  split at h
  · simp only [RepSV]
  · rename_i y
    split at h
    · rename_i e he
      obtain ⟨p, hp, hpr⟩ := SV.asE_ok he hr
      simp only [RepSV]
      rw [hC] at hp
      exact ⟨p, by rw [hC']; exact subE_ok hvs hn h hp, hpr.mono hm.M⟩
    · cases h
  · rename_i s
    simp only [RepSV]
    split at h
    · rename_i s' hl
      split at h
      · simp only [beq_iff_eq] at h; subst h
        simp only [RepSV] at hr
        rw [hR s _ hl]; exact hr
      · cases h
    · rename_i z hl
      split at h
      · simp only [RepSV] at hr
        rw [hR2 s _ hl]; exact hr
      · cases h
    · cases h
    · rename_i hl
      split at h
      · simp only [beq_iff_eq] at h; subst h
        simp only [RepSV] at hr
        rw [(hm.at_ _ hl).2]; exact hr
      · cases h
  · simp only [Bool.and_eq_true] at h
    have := SV.same_eq _ _ h.1.1
    subst this
    exact RepSV.mv hm _ _ h.1.2 h.2 hr

theorem subSVs_ok {C C' : Cx} {R : List (Nat × SV)} (hvs : E.evs (η ++ ζ) es = some vs) (hn : η.length = n) (hC : C.η = η ++ ζ) (hC' : C'.η = η ++ vs) (hm : Mv C C' n R)
    (hR : ∀ s s', lookR R s = some (.h s') → C'.hv s = C.hv s') (hR2 : ∀ s z, lookR R s = some (.nil z) → C'.hv s = .slice none 0 0) : ∀ {xs ys : List SV}, subSVs es n C'.m R xs ys = true → ∀ {us : List Value}, RepSVs C xs us → RepSVs C' ys us
  | [], [], _, us, hr => by simpa only [RepSVs] using hr
  | x :: xs, y :: ys, h, us, hr => by
    simp only [subSVs, Bool.and_eq_true] at h
    simp only [RepSVs] at hr ⊢
    obtain ⟨v, r, rfl, h1, h2⟩ := hr
    exact ⟨v, r, rfl, subSV_ok hvs hn hC hC' hm hR hR2 h.1 h1, subSVs_ok hvs hn hC hC' hm hR hR2 h.2 h2⟩
  | [], _ :: _, h, _, _ => by simp [subSVs] at h
  | _ :: _, [], h, _, _ => by simp [subSVs] at h
end

theorem mget_mem {m : List (Nat × Blk)} {s : Nat} {b : Blk} (h : mget m s = some b) : (s, b) ∈ m := by
  induction m with
  | nil => simp [mget] at h
  | cons p m ih =>
    obtain ⟨k, b'⟩ := p
    simp only [mget] at h
    split at h
    · rename_i hk; subst hk; injection h with h; subst h; exact .head _
    · exact .tail _ (ih h)
theorem lookR_gone {R : List (Nat × SV)} {s s' : Nat} (h : lookR R s = some (.h s')) : s' ∈ gone R := by
  induction R with
  | nil => simp [lookR] at h
  | cons p R ih =>
    obtain ⟨k, x⟩ := p
    simp only [lookR] at h
    split at h
    · injection h with h; subst h; simp [gone]
    · have := ih h
      cases x <;> simp [gone, this]
theorem nodup_gone {R : List (Nat × SV)} (hg : nodup (gone R) = true) {s1 s2 s' : Nat} (h1 : lookR R s1 = some (.h s')) (h2 : lookR R s2 = some (.h s')) : s1 = s2 := by
  induction R with
  | nil => simp [lookR] at h1
  | cons p R ih =>
    obtain ⟨k, x⟩ := p
    simp only [lookR] at h1 h2
    have hg' : nodup (gone R) = true := by
      cases x <;> simp only [gone, nodup, Bool.and_eq_true] at hg <;> first | exact hg | exact hg.2
    by_cases hk1 : k = s1
    · by_cases hk2 : k = s2
      · rw [← hk1, ← hk2]
      · rw [if_pos hk1] at h1
        rw [if_neg hk2] at h2
        injection h1 with h1; subst h1
        simp only [gone, nodup, Bool.and_eq_true, Bool.not_eq_true', List.contains_eq_mem, decide_eq_false_iff_not] at hg
        exact absurd (lookR_gone h2) hg.1
    · rw [if_neg hk1] at h1
      by_cases hk2 : k = s2
      · rw [if_pos hk2] at h2
        injection h2 with h2; subst h2
        simp only [gone, nodup, Bool.and_eq_true, Bool.not_eq_true', List.contains_eq_mem, decide_eq_false_iff_not] at hg
        exact absurd (lookR_gone h1) hg.1
      · rw [if_neg hk2] at h2
        exact ih hg' h1 h2
end Go.X
/- A state that arrives where several ways come together. -/
namespace Go.X
open Go Go.RowKit

section
variable {w0 : World} {Oe : Nat → Option Nat} {η ζ vs : List PV} {es : List E} {n : Nat} {σ' σh : St} {tm : Array Value} {w : World} {β : Nat → Nat} {hv : Nat → Value} {O : Nat → Option Nat}

def renβ (R : List (Nat × SV)) (β : Nat → Nat) (s : Nat) : Nat := match lookR R s with | some (.h s') => β s' | some _ => 0 | none => β s
def renH (R : List (Nat × SV)) (hv : Nat → Value) (s : Nat) : Value := match lookR R s with | some (.h s') => hv s' | some _ => .slice none 0 0 | none => hv s

theorem arrive_ok {p : Pat} (h : arrive σ' σh n p = some es) (hvs : E.evs (η ++ ζ) es = some vs) (hn : η.length = n) (hr : Rels w0 Oe (η ++ ζ) σ' tm w) : Rels w0 Oe (η ++ vs) σh tm w ∧ (η ++ vs).length = σh.n := by
  unfold arrive at h
  split at h
  · rename_i es' _
    dsimp only at h
    split at h
    · rename_i hc
      injection h with h
      subst h
      simp only [Bool.and_eq_true, beq_iff_eq, List.all_eq_true] at hc
      obtain ⟨⟨⟨⟨hT, hM⟩, hg⟩, _⟩, hN⟩ := hc
      generalize rens σ' p.items = R at hT hM hg
      obtain ⟨β, hv, O, rel⟩ := hr
      let C : Cx := ⟨η ++ ζ, view w O, β, hv, σ'.m⟩
      let C' : Cx := ⟨η ++ vs, view w O, renβ R β, renH R hv, σh.m⟩
      have hh : ∀ k, k < n → (η ++ vs)[k]? = (η ++ ζ)[k]? := fun k hk => by rw [List.getElem?_append_left (by omega), List.getElem?_append_left (by omega)]
      have hblk : ∀ s b, mget σh.m s = some b → subBlk es' n σh.m R σ'.m s = true := fun s b hb => hM (s, b) (mget_mem hb)
      have hmv : Mv C C' n R := by
        refine ⟨fun x hx => E.ev_scp hh x hx, Vw.Le.refl _, fun s hs => ⟨by simp only [C', C, renβ, hs], by simp only [C', C, renH, hs]⟩, fun s e sz x ro xs hs ha hx hx2 => ?_⟩
        have ha' : isArr σh.m s = true := ha
        unfold isArr at ha'
        split at ha'
        · rename_i e' sz' y ro' hb
          have hx' : mget σ'.m s = some (.arr e sz x ro) := hx
          have := hblk s _ hb
          unfold subBlk at this
          rw [hs, hx', hb] at this
          simp only [Bool.and_eq_true, beq_iff_eq] at this
          obtain ⟨_, ⟨⟨h1, h2⟩, h3⟩, h4⟩ := this
          subst h2
          exact ⟨e', y, ro', hb, subE_ok hvs hn h4 hx2⟩
        · cases ha'
      have hR1 : ∀ s s', lookR R s = some (.h s') → C'.hv s = C.hv s' := fun s s' hl => by simp only [C', C, renH, hl]
      have hR2 : ∀ s z, lookR R s = some (.nil z) → C'.hv s = .slice none 0 0 := fun s z hl => by simp only [C', renH, hl]
      -- where a site comes from
      have from_ : ∀ s b, mget σh.m s = some b → Has C' s b → ∃ s0 b0, mget σ'.m s0 = some b0 ∧ Has C s0 b0 ∧ renβ R β s = β s0 ∧ ((lookR R s = some (.h s0)) ∨ (lookR R s = none ∧ s0 = s ∧ s ∉ gone R)) := by
        intro s b hb hhas
        have := hblk s b hb
        unfold subBlk at this
        split at this
        · rename_i s' hl
          split at this
          · rename_i e sz x e' sz' y h1 h2
            rw [hb] at h2
            injection h2 with h2
            subst h2
            have hhas' : blkOf (renH R hv s) = some (renβ R β s) := hhas
            simp only [renH, renβ, hl] at hhas'
            exact ⟨s', _, h1, hhas', by simp only [renβ, hl], .inl hl⟩
          · cases this
        · rename_i z hl
          split at this
          · rename_i e sz y h2
            rw [hb] at h2
            injection h2 with h2
            subst h2
            have hhas' : blkOf (renH R hv s) = some (renβ R β s) := hhas
            simp only [renH, hl, blkOf] at hhas'
            cases hhas'
          · cases this
        · cases this
        · rename_i hl
          simp only [Bool.and_eq_true, Bool.not_eq_true', List.contains_eq_mem, decide_eq_false_iff_not] at this
          obtain ⟨hgs, this⟩ := this
          split at this
          · rename_i xs ro ys ro' h1 h2
            exact ⟨s, _, h1, trivial, by simp only [renβ, hl], .inr ⟨hl, rfl, hgs⟩⟩
          · rename_i e sz x ro e' sz' y ro' h1 h2
            rw [hb] at h2
            injection h2 with h2
            subst h2
            have hhas' : blkOf (renH R hv s) = some (renβ R β s) := hhas
            simp only [renH, renβ, hl] at hhas'
            exact ⟨s, _, h1, hhas', by simp only [renβ, hl], .inr ⟨hl, rfl, hgs⟩⟩
          · rename_i x ro y ro' h1 h2
            exact ⟨s, _, h1, trivial, by simp only [renβ, hl], .inr ⟨hl, rfl, hgs⟩⟩
          · cases this
      have evs_len : vs.length = es'.length := (evs_get hvs).1
      refine ⟨⟨renβ R β, renH R hv, O, rel.bel, rel.ext, rel.out, subSVs_ok hvs hn rfl rfl hmv hR1 hR2 hT rel.tmps, fun s b hb => ?_, fun s1 s2 b1 b2 h1 h2 h12 k1 k2 => ?_⟩, by rw [List.length_append, hn, evs_len, hN]⟩
      · have := hblk s b hb
        unfold subBlk at this
        have copy : ∀ s' e sz x ro y, mget σ'.m s' = some (.arr e sz x ro) → subE es' n x y = true → renβ R β s = β s' → renH R hv s = hv s' → BlkRep C' w O w0.heap.size s (.arr e sz y ro) := by
          intro s' e sz x ro y h1 h2 h3 h4
          obtain ⟨q0, xs, us, q1, q2, q3, q4⟩ := rel.mem s' _ h1
          refine ⟨q0, xs, us, subE_ok hvs hn h2 q1, ?_, q3, ?_⟩
          · show Own w w0.heap.size e sz (renH R hv s) xs.length us
            rw [h4]; exact q2
          · intro g hg'
            have hg2 : blkOf (renH R hv s) = some g := hg'
            rw [h4] at hg2
            obtain ⟨q5, q6⟩ := q4 g hg2
            exact ⟨by show g = renβ R β s; rw [h3]; exact q5, q6⟩
        split at this
        · rename_i s' hl
          split at this
          · rename_i e sz x e' sz' y h1 h2
            rw [hb] at h2
            injection h2 with h2
            subst h2
            simp only [Bool.and_eq_true, beq_iff_eq] at this
            obtain ⟨⟨rfl, rfl⟩, h3⟩ := this
            exact copy s' e sz x false y h1 h3 (by simp only [renβ, hl]) (by simp only [renH, hl])
          · cases this
        · rename_i z hl
          split at this
          · rename_i e sz y h2
            rw [hb] at h2
            injection h2 with h2
            subst h2
            simp only [Bool.and_eq_true, decide_eq_true_eq] at this
            refine ⟨this.1, [], [], subE_ok (p := .l sz []) hvs hn this.2 rfl, ?_, fun i x hx => by simp at hx, fun g hg' => ?_⟩
            · show Own w w0.heap.size e sz (renH R hv s) 0 []
              simp only [renH, hl]
              exact ⟨by simp, .inl ⟨none, rfl, rfl⟩⟩
            · have hg2 : blkOf (renH R hv s) = some g := hg'
              simp only [renH, hl, blkOf] at hg2
              cases hg2
          · cases this
        · cases this
        · rename_i hl
          simp only [Bool.and_eq_true] at this
          obtain ⟨_, this⟩ := this
          split at this
          · rename_i xs ro ys ro' h1 h2
            rw [hb] at h2
            injection h2 with h2
            subst h2
            simp only [Bool.and_eq_true, beq_iff_eq] at this
            obtain ⟨rfl, h3⟩ := this
            obtain ⟨q1, q2, us, T, q3, q4, q5⟩ := rel.mem s _ h1
            have hβ : renβ R β s = β s := by simp only [renβ, hl]
            refine ⟨by show _ ≤ renβ R β s; rw [hβ]; exact q1, fun hro => by show O (renβ R β s) = _; rw [hβ]; exact q2 hro, us, T, by show w.heap[renβ R β s]? = _; rw [hβ]; exact q3, q4, ?_⟩
            exact subSVs_ok hvs hn rfl rfl hmv hR1 hR2 h3 q5
          · rename_i e sz x ro e' sz' y ro' h1 h2
            rw [hb] at h2
            injection h2 with h2
            subst h2
            simp only [Bool.and_eq_true, beq_iff_eq] at this
            obtain ⟨⟨⟨rfl, rfl⟩, rfl⟩, h3⟩ := this
            exact copy s e sz x ro y h1 h3 (by simp only [renβ, hl]) (by simp only [renH, hl])
          · rename_i x ro y ro' h1 h2
            rw [hb] at h2
            injection h2 with h2
            subst h2
            simp only [Bool.and_eq_true, beq_iff_eq] at this
            obtain ⟨rfl, h3⟩ := this
            obtain ⟨q1, q2, qs, ents, clock, q3, q4, q5⟩ := rel.mem s _ h1
            have hβ : renβ R β s = β s := by simp only [renβ, hl]
            exact ⟨by show _ ≤ renβ R β s; rw [hβ]; exact q1, fun hro => by show O (renβ R β s) = _; rw [hβ]; exact q2 hro, qs, ents, clock, subE_ok hvs hn h3 q3, by show w.heap[renβ R β s]? = _; rw [hβ]; exact q4, q5⟩
          · cases this
      · obtain ⟨s1', c1, m1, p1, q1, r1⟩ := from_ s1 b1 h1 k1
        obtain ⟨s2', c2, m2, p2, q2, r2⟩ := from_ s2 b2 h2 k2
        rw [q1, q2]
        refine rel.inj s1' s2' c1 c2 m1 m2 (fun he => ?_) p1 p2
        subst he
        rcases r1 with r1 | ⟨_, r1, r1'⟩ <;> rcases r2 with r2 | ⟨_, r2, r2'⟩
        · exact h12 (nodup_gone hg r1 r2)
        · exact r2' (by rw [← r2]; exact lookR_gone r1)
        · exact r1' (by rw [← r1]; exact lookR_gone r2)
        · exact h12 (by rw [← r1, ← r2])
    · cases h
  · cases h
end
end Go.X
/- Code. -/
namespace Go.X
open Go Go.RowKit

theorem yields_no {fn : Fns} {N id : Nat} : ∀ (t : T) (η : List PV) (vs : List PV), t.yields id = false → t.ev fn N η = some (.yld id vs) → False
  | .w x k, η, vs, h, he => by
    simp only [T.ev, Option.bind_eq_some_iff] at he
    obtain ⟨η', _, he⟩ := he
    exact yields_no k η' vs h he
  | .ite c t e, η, vs, h, he => by
    simp only [T.yields, Bool.or_eq_false_iff] at h
    simp only [T.ev, Option.bind_eq_some_iff] at he
    obtain ⟨r, _, he⟩ := he
    split at he
    · exact yields_no t η vs h.1 he
    · exact yields_no e η vs h.2 he
    · cases he
  | .ret es, η, vs, h, he => by
    simp only [T.ev, Option.map_eq_some_iff] at he
    obtain ⟨_, _, he⟩ := he
    cases he
  | .yld j es, η, vs, h, he => by
    simp only [T.ev, Option.map_eq_some_iff] at he
    obtain ⟨_, _, he⟩ := he
    injection he with h1 h2
    simp only [T.yields, beq_eq_false_iff_ne, ne_eq] at h
    exact h h1
  | .blk j b k, η, vs, h, he => by
    simp only [T.yields, Bool.or_eq_false_iff] at h
    simp only [T.ev, Option.bind_eq_some_iff] at he
    obtain ⟨o, ho, he⟩ := he
    split at he
    · rename_i j' us
      split at he
      · exact yields_no k _ vs h.2 he
      · injection he with he
        injection he with h1 h2
        subst h1
        exact yields_no b η us h.1 ho
    · cases he
  | .loop j es b, η, vs, h, he => by
    simp only [T.ev, Option.bind_eq_some_iff] at he
    obtain ⟨st, _, he⟩ := he
    have key : ∀ m st, rounds (fun vs => b.ev fn N (η ++ vs)) j m st = some (.yld id vs) → False := by
      intro m
      induction m with
      | zero => intro st h; simp [rounds] at h
      | succ m ih =>
        intro st hr
        simp only [rounds, Option.bind_eq_some_iff] at hr
        obtain ⟨o, ho, hr⟩ := hr
        split at hr
        · rename_i j' us
          split at hr
          · exact ih _ hr
          · injection hr with hr
            injection hr with h1 h2
            subst h1
            exact yields_no b _ us h ho
        · cases hr
    exact key N st he

theorem noYld_some {id : Nat} {r : Option T} {t : T} (h : noYld id r = some t) : r = some t ∧ t.yields id = false := by
  unfold noYld at h
  obtain ⟨u, h1, h2⟩ := Option.bind_eq_some_iff.1 h
  split at h2
  · cases h2
  · rename_i hy
    injection h2 with h2
    subst h2
    exact ⟨h1, by simpa using hy⟩

theorem wp_loop_n {P : Program} {Q : Exit → Act → World → Prop} {a : Act} {w : World} {c : Code} {n : Nat} (I : Nat → Act → World → Prop) (h₀ : I n a w)
    (round : ∀ n a w, I n a w → c.wp P (Exit.then (fun a' w' => ∃ m, m < n ∧ I m a' w') Q) a w) : (Code.loop c).wp P Q a w := by
  intro b k cs
  have key : ∀ n a w, I n a w → ∃ e a' w', Q e a' w' ∧ Arrives P (lone (b.at a (.code c :: .inLoop c :: k)) cs w) b k cs e a' w' := by
    intro n
    induction n using Nat.strongRecOn with
    | _ n ih =>
      intro a w hI
      obtain ⟨e, a₁, w₁, hq, harr⟩ := round n a w hI b (.inLoop c :: k) cs
      cases e with
      | normal =>
        obtain ⟨m, hlt, hI₁⟩ := hq
        obtain ⟨e₂, a₂, w₂, hq₂, harr₂⟩ := ih m hlt a₁ w₁ hI₁
        exact ⟨e₂, a₂, w₂, hq₂, .of_steps (Steps.trans harr (.one step_inLoop)) harr₂⟩
      | exit id => exact ⟨_, a₁, w₁, hq, .pass (x := .inLoop c) rfl (fun _ _ => .inl (by simp)) harr⟩
      | goto l => exact ⟨_, a₁, w₁, hq, .pass (x := .inLoop c) rfl (fun _ _ => .inl (by simp)) harr⟩
      | ret => exact ⟨_, a₁, w₁, hq, .pass (x := .inLoop c) rfl (fun _ _ => .inl (by simp)) harr⟩
      | panic ch => exact ⟨_, a₁, w₁, hq, .pass (x := .inLoop c) rfl (fun _ _ => .inl (by simp)) harr⟩
      | outgrown => exact ⟨_, a₁, w₁, hq, .pass (x := .inLoop c) rfl (fun _ _ => .inl (by simp)) harr⟩
  obtain ⟨e, a', w', hq, harr⟩ := key n a w h₀
  exact ⟨e, a', w', hq, .of_steps (.one step_loop) harr⟩

def SX.exit' : SX → Exit
  | .normal => .normal
  | .exit b => .exit b
  | .ret => .ret

section
variable {P : Program} {sig : Nat → Option Nat} {fn : Fns} {w0 : World} {Oe : Nat → Option Nat} {N : Nat}

/-- what stands behind a piece of code -/
def KOk (fn : Fns) (N : Nat) (w0 : World) (Oe : Nat → Option Nat) (k : K) (η : List PV) (o : Out) (ds : List Deferred) (Q : Exit → Act → World → Prop) : Prop :=
  ∀ x σ' T' η' ζ a' w', k x σ' = some T' → T'.ev fn N η' = some o → η' = η ++ ζ → η'.length = σ'.n → Rels w0 Oe η' σ' a'.tmps w' → a'.defers = ds → Q x.exit' a' w'
theorem KOk.ext {k : K} {η ζ : List PV} {o : Out} {ds : List Deferred} {Q : Exit → Act → World → Prop} (h : KOk fn N w0 Oe k η o ds Q) : KOk fn N w0 Oe k (η ++ ζ) o ds Q :=
  fun x σ' T' η' ζ' a' w' h1 h2 h3 h4 h5 h6 => h x σ' T' η' (ζ ++ ζ') a' w' h1 h2 (by rw [h3, List.append_assoc]) h4 h5 h6

theorem Rels.env {η : List PV} {σ : St} {tm : Array Value} {w : World} (h : Rels w0 Oe η σ tm w) (ζ : List PV) : Rels w0 Oe (η ++ ζ) σ tm w := by
  obtain ⟨β, hv, O, h⟩ := h
  exact ⟨β, hv, O, h.env ζ⟩

/-- a block of several arrivals -/
theorem blk_ok {p : Pat} {σ σh : St} {k : K} {η : List PV} {o : Out} {ds : List Deferred} {Q : Exit → Act → World → Prop} {d : Nat} {body tk : T} (hev : (T.blk d body tk).ev fn N η = some o) (hn : η.length = σ.n)
    (htk : k .normal σh = some tk) (hk : KOk fn N w0 Oe k η o ds Q) :
    ∃ o1, body.ev fn N η = some o1 ∧ ∀ (x : SX) (σ' : St) (T' : T) (η' ζ : List PV) (a' : Act) (w' : World),
      ((∃ y, (arrive σ' σh σ.n p).map (.yld d) = some T' ∧ x = y ∧ y = .normal) ∨ noYld d (k x σ') = some T') → T'.ev fn N η' = some o1 → η' = η ++ ζ → η'.length = σ'.n → Rels w0 Oe η' σ' a'.tmps w' → a'.defers = ds → Q x.exit' a' w' := by
  simp only [T.ev, Option.bind_eq_some_iff] at hev
  obtain ⟨o1, ho1, hev⟩ := hev
  refine ⟨o1, ho1, fun x σ' T' η' ζ a' w' h1 h2 h3 h4 h5 h6 => ?_⟩
  rcases h1 with ⟨y, h1, rfl, rfl⟩ | h1
  · obtain ⟨es, ha, rfl⟩ := Option.map_eq_some_iff.1 h1
    simp only [T.ev, Option.map_eq_some_iff] at h2
    obtain ⟨vs, hvs, rfl⟩ := h2
    simp only [if_true] at hev
    subst h3
    obtain ⟨g1, g2⟩ := arrive_ok ha hvs hn h5
    exact hk .normal σh tk (η ++ vs) vs a' w' htk hev rfl g2 g1 h6
  · obtain ⟨h1, hy⟩ := noYld_some h1
    have : o1 = o := by
      split at hev
      · rename_i j vs
        split at hev
        · rename_i hj; subst hj; exact (yields_no T' η' vs hy h2).elim
        · injection hev
      · injection hev
    subst this
    exact hk x σ' T' η' ζ a' w' h1 h2 h3 h4 h5 h6

theorem sx_ok (hC : Contract P sig fn) {H : Hints} : ∀ (c : Code) (lb d : Nat) (σ : St) (k : K) (t : T) (η : List PV) (o : Out) (a : Act) (w : World) (Q : Exit → Act → World → Prop), sx P sig H c lb d σ k = some t → t.ev fn N η = some o → η.length = σ.n → Rels w0 Oe η σ a.tmps w →
    KOk fn N w0 Oe k η o a.defers Q → c.wp P Q a w
  | .skip, lb, d, σ, k, t, η, o, a, w, Q, hs, he, hn, hr, hk => by
    simp only [sx] at hs
    exact wp_skip (hk .normal σ t η [] a w hs he (by simp) hn hr rfl)
  | .exit id, lb, d, σ, k, t, η, o, a, w, Q, hs, he, hn, hr, hk => by
    simp only [sx] at hs
    exact wp_exit (hk (.exit id) σ t η [] a w hs he (by simp) hn hr rfl)
  | .ret, lb, d, σ, k, t, η, o, a, w, Q, hs, he, hn, hr, hk => by
    simp only [sx] at hs
    exact wp_ret (hk .ret σ t η [] a w hs he (by simp) hn hr rfl)
  | .region id ops draw, lb, d, σ, k, t, η, o, a, w, Q, hs, he, hn, hr, hk => by
    simp only [sx] at hs
    split at hs
    · rename_i ws σ' hx
      obtain ⟨t', hk', rfl⟩ := Option.map_eq_some_iff.1 hs
      rw [wraps_ev] at he
      obtain ⟨η2, hw, he⟩ := Option.bind_eq_some_iff.1 he
      obtain ⟨ζ, rfl⟩ := evalWs_pre hw
      cases draw with
      | true =>
        simp only [if_true] at hx
        refine (xdraw_ok (w0 := w0) (Oe := Oe) hC (hr.env ζ) hx hw (ζ := []) (by simp) hn (Q := Q) (fun a' w' hd hr' => ?_)).1
        have hlen := (xdraw_ok (w0 := w0) (Oe := Oe) (a := a) (w := w) (Q := fun _ _ _ => True) hC (hr.env ζ) hx hw (ζ := []) (by simp) hn (fun _ _ _ _ => trivial)).2
        exact hk .normal σ' t' _ ζ a' w' hk' he rfl hlen hr' hd
      | false =>
        simp only [Bool.false_eq_true, if_false] at hx
        refine wp_region ?_
        have := xops_ok (w0 := w0) (Oe := Oe) hC (Q := Q) ops.toList 0 σ a w η (η ++ ζ) [] ws σ' (fun k o hk => by simpa using hk) (hr.env ζ) hx hw (by simp) hn (fun a' w' hd hr' => hk .normal σ' t' _ ζ a' w' hk' he rfl (xops_len _ _ _ _ _ _ _ hx hw hn) hr' hd)
        rw [List.range_eq_range']
        simpa using this
    · split at hs
      · injection hs with hs
        subst hs
        simp [T.bot, T.ev, E.evs, E.ev, PV.scal] at he
      · cases hs
  | .seq x y, lb, d, σ, k, t, η, o, a, w, Q, hs, he, hn, hr, hk => by
    simp only [sx] at hs
    refine wp_seq (sx_ok hC x lb d σ _ t η o a w _ hs he hn hr fun z σ' T' η' ζ a' w' h1 h2 h3 h4 h5 h6 => ?_)
    cases z with
    | normal =>
      simp only at h1
      show y.wp P Q a' w'
      refine sx_ok hC y lb d σ' k T' η' o a' w' Q h1 h2 h4 h5 ?_
      rw [h6, h3]; exact hk.ext
    | exit b => exact hk _ σ' T' η' ζ a' w' h1 h2 h3 h4 h5 h6
    | ret => exact hk _ σ' T' η' ζ a' w' h1 h2 h3 h4 h5 h6
  | .cond c x y, lb, d, σ, k, t, η, o, a, w, Q, hs, he, hn, hr, hk => by
    have hbool : ∀ ec, opdE P σ none 0 c = some ec → ∀ b, ec.ev η = some (.b b) → a.eval c = .bool b := by
      intro ec hec b hb
      obtain ⟨β, hv, O, rel⟩ := hr
      obtain ⟨p, hp, hpr⟩ := opdE_ok (ds := a.defers) (C := ⟨η, view w O, β, hv, σ.m⟩) (G := none) (fun g hg => by cases hg) rfl hec rel.tmps
      have hp' : ec.ev η = some p := hp
      rw [hb] at hp'; injection hp' with hp'; subst hp'
      exact hpr.bool
    have plain : ∀ ec ta tb, opdE P σ none 0 c = some ec → ∀ (k' : K) (d' : Nat) (o' : Out), sx P sig H x lb d' σ k' = some ta → sx P sig H y lb d' σ k' = some tb → (T.ite ec ta tb).ev fn N η = some o' → KOk fn N w0 Oe k' η o' a.defers Q → (Code.cond c x y).wp P Q a w := by
      intro ec ta tb hec k' d' o' hta htb he' hk'
      simp only [T.ev, Option.bind_eq_some_iff] at he'
      obtain ⟨r, hr', he'⟩ := he'
      split at he'
      · exact wp_cond_true (hbool ec hec true hr') (sx_ok hC x lb d' σ k' ta η o' a w Q hta he' hn hr hk')
      · exact wp_cond_false (hbool ec hec false hr') (sx_ok hC y lb d' σ k' tb η o' a w Q htb he' hn hr hk')
      · cases he'
    simp only [sx] at hs
    split at hs
    · rename_i hec
      exact wp_cond_true (hbool _ hec true rfl) (sx_ok hC x lb d σ k t η o a w Q hs he hn hr hk)
    · rename_i hec
      exact wp_cond_false (hbool _ hec false rfl) (sx_ok hC y lb d σ k t η o a w Q hs he hn hr hk)
    · rename_i ec _ _ hec
      split at hs
      · split at hs
        · rename_i ta tb hta htb
          injection hs with hs
          subst hs
          exact plain ec ta tb hec k d o hta htb he hk
        · cases hs
      · rename_i p _
        split at hs
        · cases hs
        · rename_i σh _
          split at hs
          · rename_i ta tb tk hta htb htk
            injection hs with hs
            subst hs
            obtain ⟨o1, ho1, hgo⟩ := blk_ok (p := p) he hn htk hk
            refine plain ec ta tb hec _ (d + 1) o1 hta htb ho1 fun z σ' T' η' ζ a' w' h1 h2 h3 h4 h5 h6 => hgo z σ' T' η' ζ a' w' ?_ h2 h3 h4 h5 h6
            cases z with
            | normal => exact .inl ⟨.normal, h1, rfl, rfl⟩
            | exit b => exact .inr h1
            | ret => exact .inr h1
          · cases hs
    · cases hs
  | .block id c, lb, d, σ, k, t, η, o, a, w, Q, hs, he, hn, hr, hk => by
    simp only [sx] at hs
    split at hs
    · refine wp_block (sx_ok hC c id d σ _ t η o a w _ hs he hn hr fun z σ' T' η' ζ a' w' h1 h2 h3 h4 h5 h6 => ?_)
      cases z with
      | normal => exact hk .normal σ' T' η' ζ a' w' h1 h2 h3 h4 h5 h6
      | exit b =>
        simp only at h1
        simp only [SX.exit', Exit.inBlock]
        by_cases hb : b = id
        · rw [if_pos hb] at h1 ⊢
          exact hk .normal σ' T' η' ζ a' w' h1 h2 h3 h4 h5 h6
        · rw [if_neg hb] at h1 ⊢
          exact hk (.exit b) σ' T' η' ζ a' w' h1 h2 h3 h4 h5 h6
      | ret => exact hk .ret σ' T' η' ζ a' w' h1 h2 h3 h4 h5 h6
    · rename_i p _
      split at hs
      · cases hs
      · rename_i σh _
        split at hs
        · rename_i tc tk htc htk
          injection hs with hs
          subst hs
          obtain ⟨o1, ho1, hgo⟩ := blk_ok (p := p) he hn htk hk
          refine wp_block (sx_ok hC c id (d + 1) σ _ tc η o1 a w _ htc ho1 hn hr fun z σ' T' η' ζ a' w' h1 h2 h3 h4 h5 h6 => ?_)
          cases z with
          | normal => exact hgo .normal σ' T' η' ζ a' w' (.inl ⟨.normal, h1, rfl, rfl⟩) h2 h3 h4 h5 h6
          | exit b =>
            simp only at h1
            simp only [SX.exit', Exit.inBlock]
            by_cases hb : b = id
            · rw [if_pos hb] at h1 ⊢
              exact hgo .normal σ' T' η' ζ a' w' (.inl ⟨.normal, h1, rfl, rfl⟩) h2 h3 h4 h5 h6
            · rw [if_neg hb] at h1 ⊢
              exact hgo (.exit b) σ' T' η' ζ a' w' (.inr h1) h2 h3 h4 h5 h6
          | ret => exact hgo .ret σ' T' η' ζ a' w' (.inr h1) h2 h3 h4 h5 h6
        · cases hs
  | .loop c, lb, d, σ, k, t, η, o, a, w, Q, hs, he, hn, hr, hk => by
    simp only [sx] at hs
    split at hs
    · cases hs
    · rename_i p _
      split at hs
      · cases hs
      · rename_i σh _
        split at hs
        · rename_i es tb ha htb
          injection hs with hs
          subst hs
          simp only [T.ev, Option.bind_eq_some_iff] at he
          obtain ⟨st, hst, he⟩ := he
          have h0 := arrive_ok (η := η) (ζ := []) (vs := st) ha (by simpa using hst) hn (by simpa using hr)
          refine wp_loop_n (n := N) (fun m a' w' => ∃ st, rounds (fun vs => tb.ev fn N (η ++ vs)) d m st = some o ∧ Rels w0 Oe (η ++ st) σh a'.tmps w' ∧ (η ++ st).length = σh.n ∧ a'.defers = a.defers) ⟨st, he, h0.1, h0.2, rfl⟩ ?_
          rintro m a1 w1 ⟨st1, hround, hr1, hn1, hd1⟩
          cases m with
          | zero => simp [rounds] at hround
          | succ m =>
            simp only [rounds, Option.bind_eq_some_iff] at hround
            obtain ⟨o1, ho1, hround⟩ := hround
            refine sx_ok hC c lb (d + 1) σh _ tb (η ++ st1) o1 a1 w1 _ htb ho1 hn1 hr1 fun z σ' T' η' ζ a' w' h1 h2 h3 h4 h5 h6 => ?_
            have other : noYld d (k z σ') = some T' → Q z.exit' a' w' := by
              intro h1
              obtain ⟨h1, hy⟩ := noYld_some h1
              have : o1 = o := by
                split at hround
                · rename_i j vs
                  split at hround
                  · rename_i hj; subst hj; exact (yields_no T' η' vs hy h2).elim
                  · injection hround
                · injection hround
              subst this
              exact hk z σ' T' η' (st1 ++ ζ) a' w' h1 h2 (by rw [h3, List.append_assoc]) h4 h5 (by rw [h6, hd1])
            cases z with
            | normal =>
              simp only at h1
              obtain ⟨es1, ha1, rfl⟩ := Option.map_eq_some_iff.1 h1
              simp only [T.ev, Option.map_eq_some_iff] at h2
              obtain ⟨vs, hvs, rfl⟩ := h2
              simp only [if_true] at hround
              rw [List.append_assoc] at h3
              subst h3
              obtain ⟨g1, g2⟩ := arrive_ok ha1 hvs hn h5
              exact ⟨m, Nat.lt_succ_self m, vs, hround, g1, g2, by rw [h6, hd1]⟩
            | exit b => exact other h1
            | ret => exact other h1
        · cases hs
  | .scope .., lb, d, σ, k, t, η, o, a, w, Q, hs, _, _, _, _ => by simp [sx] at hs
  | .label .., lb, d, σ, k, t, η, o, a, w, Q, hs, _, _, _, _ => by simp [sx] at hs
  | .goto .., lb, d, σ, k, t, η, o, a, w, Q, hs, _, _, _, _ => by simp [sx] at hs
  | .rangeFunc .., lb, d, σ, k, t, η, o, a, w, Q, hs, _, _, _, _ => by simp [sx] at hs
  | .refuse .., lb, d, σ, k, t, η, o, a, w, Q, hs, _, _, _, _ => by simp [sx] at hs
end
end Go.X
/- Residual programs without the checks that what follows makes by itself. -/
namespace Go.X
open Go

/-- it always has a value -/
def E.triv : E → Bool
  | .c _ => true
  | _ => false
mutual
/-- whoever has b's value has a's -/
def cov (a : E) : E → Bool
  | .v n => E.same a (.v n) || a.triv
  | .c x => E.same a (.c x) || a.triv
  | .bin op x y => E.same a (.bin op x y) || a.triv || cov a x || cov a y
  | .un op x => E.same a (.un op x) || a.triv || cov a x
  | .ite g x y => a.triv || cov a g || (cov a x && cov a y) || E.same a (.ite g x y) ||
      (match a with
       | .ite (.un .not h) p q => (h.same g && cov p y && cov q x) || ((E.un .not h).same g && cov p x && cov q y)
       | .ite h p q => h.same g && cov p x && cov q y
       | _ => false)
  | .proj j x => E.same a (.proj j x) || a.triv || cov a x
  | .sub o n x => E.same a (.sub o n x) || a.triv || cov a x
  | .agg xs => E.same a (.agg xs) || a.triv || covs a xs
  | .fit n x => E.same a (.fit n x) || a.triv || cov a x
  | .scal x => E.same a (.scal x) || a.triv || cov a x
  | .idx sz x i => E.same a (.idx sz x i) || a.triv || cov a x || cov a i
  | .len x => E.same a (.len x) || a.triv || cov a x
  | .slen x => E.same a (.slen x) || a.triv || cov a x
  | .sidx x i => E.same a (.sidx x i) || a.triv || cov a x || cov a i
  | .ssl x lo hi => E.same a (.ssl x lo hi) || a.triv || cov a x || cov a lo || cov a hi
  | .lsl sz x lo hi => E.same a (.lsl sz x lo hi) || a.triv || cov a x || cov a lo || cov a hi
  | .app sz x y => E.same a (.app sz x y) || a.triv || cov a x || cov a y
  | .lit sz xs => E.same a (.lit sz xs) || a.triv || covs a xs
  | .rep sz n z => E.same a (.rep sz n z) || a.triv || cov a n || cov a z
  | .set sz x i off vs => E.same a (.set sz x i off vs) || a.triv || cov a x || cov a i || covs a vs
  | .conv k x => E.same a (.conv k x) || a.triv || cov a x
  | .b2s x => E.same a (.b2s x) || a.triv || cov a x
  | .s2b x => E.same a (.s2b x) || a.triv || cov a x
  | .eqs n g ts x y => E.same a (.eqs n g ts x y) || a.triv || cov a x || cov a y
  | .clo g caps => E.same a (.clo g caps) || a.triv || covs a caps
  | .mn x y => E.same a (.mn x y) || a.triv || cov a x || cov a y
  | .mx x y => E.same a (.mx x y) || a.triv || cov a x || cov a y
  | .mget x k z => E.same a (.mget x k z) || a.triv || cov a x || cov a k || cov a z
  | .mset x k v => E.same a (.mset x k v) || a.triv || cov a x || cov a k || cov a v
def covs (a : E) : List E → Bool
  | [] => false
  | x :: xs => cov a x || covs a xs
end

theorem triv_ok {a : E} {η : List PV} (h : a.triv = true) : (a.ev η).isSome = true := by
  cases a <;> simp [E.triv] at h
  simp [E.ev]
theorem same_some {a b : E} {η : List PV} {p : PV} (h : E.same a b = true) (e : b.ev η = some p) : (a.ev η).isSome = true := by
  rw [E.same_eq _ _ h, e]; rfl
mutual
theorem cov_ok {η : List PV} (a : E) : ∀ (b : E) (p : PV), cov a b = true → b.ev η = some p → (a.ev η).isSome = true
  | .v n, p, h, e => by
    simp only [cov, Bool.or_eq_true] at h
    rcases h with h | h
    · exact same_some h e
    · exact triv_ok h
  | .c x, p, h, e => by
    simp only [cov, Bool.or_eq_true] at h
    rcases h with h | h
    · exact same_some h e
    · exact triv_ok h
  | .bin op x y, p, h, e => by
    simp only [cov, Bool.or_eq_true] at h
    rcases h with ((h | h) | h) | h
    · exact same_some h e
    · exact triv_ok h
    · simp only [E.ev] at e; obtain ⟨q0, hq0, e0⟩ := Option.bind_eq_some_iff.1 e; exact cov_ok a x _ h hq0
    · simp only [E.ev] at e; obtain ⟨q0, hq0, e0⟩ := Option.bind_eq_some_iff.1 e; obtain ⟨q1, hq1, e1⟩ := Option.bind_eq_some_iff.1 e0; exact cov_ok a y _ h hq1
  | .un op x, p, h, e => by
    simp only [cov, Bool.or_eq_true] at h
    rcases h with (h | h) | h
    · exact same_some h e
    · exact triv_ok h
    · simp only [E.ev] at e; obtain ⟨q0, hq0, e0⟩ := Option.bind_eq_some_iff.1 e; exact cov_ok a x _ h hq0
  | .ite g x y, p, h, e => by
    have e0 := e
    simp only [E.ev] at e
    obtain ⟨r, hg, e1⟩ := Option.bind_eq_some_iff.1 e
    have key : ∀ (h' p' q' : E), (∀ b, g.ev η = some (.b b) → h'.ev η = some (.b b)) → cov p' x = true → cov q' y = true → ((E.ite h' p' q').ev η).isSome = true := by
      intro h' p' q' hh hp hq
      simp only [E.ev]
      split at e1
      · rw [hh true hg]; simp only [Option.bind_some]; exact cov_ok p' x _ hp e1
      · rw [hh false hg]; simp only [Option.bind_some]; exact cov_ok q' y _ hq e1
      · cases e1
    have keyN : ∀ (h' p' q' : E), (∀ b, g.ev η = some (.b b) → h'.ev η = some (.b b)) → cov p' y = true → cov q' x = true → ((E.ite (.un .not h') p' q').ev η).isSome = true := by
      intro h' p' q' hh hp hq
      simp only [E.ev]
      split at e1
      · rw [hh true hg]; simp only [Option.bind_some, X.un, Bool.not_true]; exact cov_ok q' x _ hq e1
      · rw [hh false hg]; simp only [Option.bind_some, X.un, Bool.not_false]; exact cov_ok p' y _ hp e1
      · cases e1
    simp only [cov, Bool.or_eq_true] at h
    rcases h with (((h | h) | h) | h) | h
    · exact triv_ok h
    · exact cov_ok a g _ h hg
    · simp only [Bool.and_eq_true] at h
      split at e1
      · exact cov_ok a x _ h.1 e1
      · exact cov_ok a y _ h.2 e1
      · cases e1
    · exact same_some h e0
    · split at h
      · simp only [Bool.or_eq_true, Bool.and_eq_true] at h
        rcases h with h | h
        · exact keyN _ _ _ (fun b hb => by rw [E.same_eq _ _ h.1.1]; exact hb) h.1.2 h.2
        · exact key _ _ _ (fun b hb => by rw [E.same_eq _ _ h.1.1]; exact hb) h.1.2 h.2
      · simp only [Bool.and_eq_true] at h
        exact key _ _ _ (fun b hb => by rw [E.same_eq _ _ h.1.1]; exact hb) h.1.2 h.2
      · cases h
  | .proj j x, p, h, e => by
    simp only [cov, Bool.or_eq_true] at h
    rcases h with (h | h) | h
    · exact same_some h e
    · exact triv_ok h
    · simp only [E.ev] at e; obtain ⟨q0, hq0, e0⟩ := Option.bind_eq_some_iff.1 e; exact cov_ok a x _ h hq0
  | .sub o n x, p, h, e => by
    simp only [cov, Bool.or_eq_true] at h
    rcases h with (h | h) | h
    · exact same_some h e
    · exact triv_ok h
    · simp only [E.ev] at e; obtain ⟨q0, hq0, e0⟩ := Option.bind_eq_some_iff.1 e; exact cov_ok a x _ h hq0
  | .agg xs, p, h, e => by
    simp only [cov, Bool.or_eq_true] at h
    rcases h with (h | h) | h
    · exact same_some h e
    · exact triv_ok h
    · simp only [E.ev] at e; obtain ⟨q0, hq0, e0⟩ := Option.map_eq_some_iff.1 e; exact covs_ok a xs _ h hq0
  | .fit n x, p, h, e => by
    simp only [cov, Bool.or_eq_true] at h
    rcases h with (h | h) | h
    · exact same_some h e
    · exact triv_ok h
    · simp only [E.ev] at e; obtain ⟨q0, hq0, e0⟩ := Option.bind_eq_some_iff.1 e; exact cov_ok a x _ h hq0
  | .scal x, p, h, e => by
    simp only [cov, Bool.or_eq_true] at h
    rcases h with (h | h) | h
    · exact same_some h e
    · exact triv_ok h
    · simp only [E.ev] at e; obtain ⟨q0, hq0, e0⟩ := Option.bind_eq_some_iff.1 e; exact cov_ok a x _ h hq0
  | .idx sz x i, p, h, e => by
    simp only [cov, Bool.or_eq_true] at h
    rcases h with ((h | h) | h) | h
    · exact same_some h e
    · exact triv_ok h
    · simp only [E.ev] at e; obtain ⟨q0, hq0, e0⟩ := Option.bind_eq_some_iff.1 e; exact cov_ok a x _ h hq0
    · simp only [E.ev] at e; obtain ⟨q0, hq0, e0⟩ := Option.bind_eq_some_iff.1 e; obtain ⟨q1, hq1, e1⟩ := Option.bind_eq_some_iff.1 e0; exact cov_ok a i _ h hq1
  | .len x, p, h, e => by
    simp only [cov, Bool.or_eq_true] at h
    rcases h with (h | h) | h
    · exact same_some h e
    · exact triv_ok h
    · simp only [E.ev] at e; obtain ⟨q0, hq0, e0⟩ := Option.bind_eq_some_iff.1 e; exact cov_ok a x _ h hq0
  | .slen x, p, h, e => by
    simp only [cov, Bool.or_eq_true] at h
    rcases h with (h | h) | h
    · exact same_some h e
    · exact triv_ok h
    · simp only [E.ev] at e; obtain ⟨q0, hq0, e0⟩ := Option.bind_eq_some_iff.1 e; exact cov_ok a x _ h hq0
  | .sidx x i, p, h, e => by
    simp only [cov, Bool.or_eq_true] at h
    rcases h with ((h | h) | h) | h
    · exact same_some h e
    · exact triv_ok h
    · simp only [E.ev] at e; obtain ⟨q0, hq0, e0⟩ := Option.bind_eq_some_iff.1 e; exact cov_ok a x _ h hq0
    · simp only [E.ev] at e; obtain ⟨q0, hq0, e0⟩ := Option.bind_eq_some_iff.1 e; obtain ⟨q1, hq1, e1⟩ := Option.bind_eq_some_iff.1 e0; exact cov_ok a i _ h hq1
  | .ssl x lo hi, p, h, e => by
    simp only [cov, Bool.or_eq_true] at h
    rcases h with (((h | h) | h) | h) | h
    · exact same_some h e
    · exact triv_ok h
    · simp only [E.ev] at e; obtain ⟨q0, hq0, e0⟩ := Option.bind_eq_some_iff.1 e; exact cov_ok a x _ h hq0
    · simp only [E.ev] at e; obtain ⟨q0, hq0, e0⟩ := Option.bind_eq_some_iff.1 e; obtain ⟨q1, hq1, e1⟩ := Option.bind_eq_some_iff.1 e0; exact cov_ok a lo _ h hq1
    · simp only [E.ev] at e; obtain ⟨q0, hq0, e0⟩ := Option.bind_eq_some_iff.1 e; obtain ⟨q1, hq1, e1⟩ := Option.bind_eq_some_iff.1 e0; obtain ⟨q2, hq2, e2⟩ := Option.bind_eq_some_iff.1 e1; exact cov_ok a hi _ h hq2
  | .lsl sz x lo hi, p, h, e => by
    simp only [cov, Bool.or_eq_true] at h
    rcases h with (((h | h) | h) | h) | h
    · exact same_some h e
    · exact triv_ok h
    · simp only [E.ev] at e; obtain ⟨q0, hq0, e0⟩ := Option.bind_eq_some_iff.1 e; exact cov_ok a x _ h hq0
    · simp only [E.ev] at e; obtain ⟨q0, hq0, e0⟩ := Option.bind_eq_some_iff.1 e; obtain ⟨q1, hq1, e1⟩ := Option.bind_eq_some_iff.1 e0; exact cov_ok a lo _ h hq1
    · simp only [E.ev] at e; obtain ⟨q0, hq0, e0⟩ := Option.bind_eq_some_iff.1 e; obtain ⟨q1, hq1, e1⟩ := Option.bind_eq_some_iff.1 e0; obtain ⟨q2, hq2, e2⟩ := Option.bind_eq_some_iff.1 e1; exact cov_ok a hi _ h hq2
  | .app sz x y, p, h, e => by
    simp only [cov, Bool.or_eq_true] at h
    rcases h with ((h | h) | h) | h
    · exact same_some h e
    · exact triv_ok h
    · simp only [E.ev] at e; obtain ⟨q0, hq0, e0⟩ := Option.bind_eq_some_iff.1 e; exact cov_ok a x _ h hq0
    · simp only [E.ev] at e; obtain ⟨q0, hq0, e0⟩ := Option.bind_eq_some_iff.1 e; obtain ⟨q1, hq1, e1⟩ := Option.bind_eq_some_iff.1 e0; exact cov_ok a y _ h hq1
  | .lit sz xs, p, h, e => by
    simp only [cov, Bool.or_eq_true] at h
    rcases h with (h | h) | h
    · exact same_some h e
    · exact triv_ok h
    · simp only [E.ev] at e; obtain ⟨q0, hq0, e0⟩ := Option.bind_eq_some_iff.1 e; exact covs_ok a xs _ h hq0
  | .rep sz n z, p, h, e => by
    simp only [cov, Bool.or_eq_true] at h
    rcases h with ((h | h) | h) | h
    · exact same_some h e
    · exact triv_ok h
    · simp only [E.ev] at e; obtain ⟨q0, hq0, e0⟩ := Option.bind_eq_some_iff.1 e; exact cov_ok a n _ h hq0
    · simp only [E.ev] at e; obtain ⟨q0, hq0, e0⟩ := Option.bind_eq_some_iff.1 e; obtain ⟨q1, hq1, e1⟩ := Option.bind_eq_some_iff.1 e0; exact cov_ok a z _ h hq1
  | .set sz x i off vs, p, h, e => by
    simp only [cov, Bool.or_eq_true] at h
    rcases h with (((h | h) | h) | h) | h
    · exact same_some h e
    · exact triv_ok h
    · simp only [E.ev] at e; obtain ⟨q0, hq0, e0⟩ := Option.bind_eq_some_iff.1 e; exact cov_ok a x _ h hq0
    · simp only [E.ev] at e; obtain ⟨q0, hq0, e0⟩ := Option.bind_eq_some_iff.1 e; obtain ⟨q1, hq1, e1⟩ := Option.bind_eq_some_iff.1 e0; exact cov_ok a i _ h hq1
    · simp only [E.ev] at e; obtain ⟨q0, hq0, e0⟩ := Option.bind_eq_some_iff.1 e; obtain ⟨q1, hq1, e1⟩ := Option.bind_eq_some_iff.1 e0; obtain ⟨q2, hq2, e2⟩ := Option.bind_eq_some_iff.1 e1; exact covs_ok a vs _ h hq2
  | .conv k x, p, h, e => by
    simp only [cov, Bool.or_eq_true] at h
    rcases h with (h | h) | h
    · exact same_some h e
    · exact triv_ok h
    · simp only [E.ev] at e; obtain ⟨q0, hq0, e0⟩ := Option.bind_eq_some_iff.1 e; exact cov_ok a x _ h hq0
  | .b2s x, p, h, e => by
    simp only [cov, Bool.or_eq_true] at h
    rcases h with (h | h) | h
    · exact same_some h e
    · exact triv_ok h
    · simp only [E.ev] at e; obtain ⟨q0, hq0, e0⟩ := Option.bind_eq_some_iff.1 e; exact cov_ok a x _ h hq0
  | .s2b x, p, h, e => by
    simp only [cov, Bool.or_eq_true] at h
    rcases h with (h | h) | h
    · exact same_some h e
    · exact triv_ok h
    · simp only [E.ev] at e; obtain ⟨q0, hq0, e0⟩ := Option.bind_eq_some_iff.1 e; exact cov_ok a x _ h hq0
  | .eqs n g ts x y, p, h, e => by
    simp only [cov, Bool.or_eq_true] at h
    rcases h with ((h | h) | h) | h
    · exact same_some h e
    · exact triv_ok h
    · simp only [E.ev] at e; obtain ⟨q0, hq0, e0⟩ := Option.bind_eq_some_iff.1 e; exact cov_ok a x _ h hq0
    · simp only [E.ev] at e; obtain ⟨q0, hq0, e0⟩ := Option.bind_eq_some_iff.1 e; obtain ⟨q1, hq1, e1⟩ := Option.bind_eq_some_iff.1 e0; exact cov_ok a y _ h hq1
  | .clo g caps, p, h, e => by
    simp only [cov, Bool.or_eq_true] at h
    rcases h with (h | h) | h
    · exact same_some h e
    · exact triv_ok h
    · simp only [E.ev] at e; obtain ⟨q0, hq0, e0⟩ := Option.map_eq_some_iff.1 e; exact covs_ok a caps _ h hq0
  | .mn x y, p, h, e => by
    simp only [cov, Bool.or_eq_true] at h
    rcases h with ((h | h) | h) | h
    · exact same_some h e
    · exact triv_ok h
    · simp only [E.ev] at e; obtain ⟨q0, hq0, e0⟩ := Option.bind_eq_some_iff.1 e; exact cov_ok a x _ h hq0
    · simp only [E.ev] at e; obtain ⟨q0, hq0, e0⟩ := Option.bind_eq_some_iff.1 e; obtain ⟨q1, hq1, e1⟩ := Option.bind_eq_some_iff.1 e0; exact cov_ok a y _ h hq1
  | .mx x y, p, h, e => by
    simp only [cov, Bool.or_eq_true] at h
    rcases h with ((h | h) | h) | h
    · exact same_some h e
    · exact triv_ok h
    · simp only [E.ev] at e; obtain ⟨q0, hq0, e0⟩ := Option.bind_eq_some_iff.1 e; exact cov_ok a x _ h hq0
    · simp only [E.ev] at e; obtain ⟨q0, hq0, e0⟩ := Option.bind_eq_some_iff.1 e; obtain ⟨q1, hq1, e1⟩ := Option.bind_eq_some_iff.1 e0; exact cov_ok a y _ h hq1
  | .mget x k z, p, h, e => by
    simp only [cov, Bool.or_eq_true] at h
    rcases h with (((h | h) | h) | h) | h
    · exact same_some h e
    · exact triv_ok h
    · simp only [E.ev] at e; obtain ⟨q0, hq0, e0⟩ := Option.bind_eq_some_iff.1 e; exact cov_ok a x _ h hq0
    · simp only [E.ev] at e; obtain ⟨q0, hq0, e0⟩ := Option.bind_eq_some_iff.1 e; obtain ⟨q1, hq1, e1⟩ := Option.bind_eq_some_iff.1 e0; exact cov_ok a k _ h hq1
    · simp only [E.ev] at e; obtain ⟨q0, hq0, e0⟩ := Option.bind_eq_some_iff.1 e; obtain ⟨q1, hq1, e1⟩ := Option.bind_eq_some_iff.1 e0; obtain ⟨q2, hq2, e2⟩ := Option.bind_eq_some_iff.1 e1; exact cov_ok a z _ h hq2
  | .mset x k v, p, h, e => by
    simp only [cov, Bool.or_eq_true] at h
    rcases h with (((h | h) | h) | h) | h
    · exact same_some h e
    · exact triv_ok h
    · simp only [E.ev] at e; obtain ⟨q0, hq0, e0⟩ := Option.bind_eq_some_iff.1 e; exact cov_ok a x _ h hq0
    · simp only [E.ev] at e; obtain ⟨q0, hq0, e0⟩ := Option.bind_eq_some_iff.1 e; obtain ⟨q1, hq1, e1⟩ := Option.bind_eq_some_iff.1 e0; exact cov_ok a k _ h hq1
    · simp only [E.ev] at e; obtain ⟨q0, hq0, e0⟩ := Option.bind_eq_some_iff.1 e; obtain ⟨q1, hq1, e1⟩ := Option.bind_eq_some_iff.1 e0; obtain ⟨q2, hq2, e2⟩ := Option.bind_eq_some_iff.1 e1; exact cov_ok a v _ h hq2
theorem covs_ok {η : List PV} (a : E) : ∀ (bs : List E) (ps : List PV), covs a bs = true → E.evs η bs = some ps → (a.ev η).isSome = true
  | [], ps, h, e => by simp [covs] at h
  | b :: bs, ps, h, e => by
    simp only [covs, Bool.or_eq_true] at h
    simp only [E.evs] at e
    obtain ⟨q, hq, e1⟩ := Option.bind_eq_some_iff.1 e
    obtain ⟨qs, hqs, e2⟩ := Option.map_eq_some_iff.1 e1
    rcases h with h | h
    · exact cov_ok a b _ h hq
    · exact covs_ok a bs _ h hqs
end

/-- whoever comes to t's end has a's value -/
def forces (a : E) : T → Bool
  | .w (.chk x) k => cov a x || forces a k
  | .w (.call none _ _ as _) _ => covs a as
  | .w (.call (some g) _ _ _ _) _ => cov a g
  | .w (.clo none _ c as _) _ => cov a c || covs a as
  | .w (.clo (some g) _ _ _ _) _ => cov a g
  | .ite c t e => cov a c || (forces a t && forces a e)
  | .ret es => covs a es
  | .yld _ es => covs a es
  | .blk _ body _ => forces a body
  | .loop _ init _ => covs a init
theorem forces_ok {fn : Fns} {N : Nat} {η : List PV} (a : E) : ∀ (t : T) (o : Out), forces a t = true → t.ev fn N η = some o → (a.ev η).isSome = true
  | .w (.chk x) k, o, h, e => by
    simp only [forces, Bool.or_eq_true] at h
    simp only [T.ev, W.ev] at e
    obtain ⟨η', h1, h2⟩ := Option.bind_eq_some_iff.1 e
    obtain ⟨p, hp, rfl⟩ := Option.map_eq_some_iff.1 h1
    rcases h with h | h
    · exact cov_ok a x _ h hp
    · exact forces_ok a k _ h h2
  | .w (.call none fl f as m) k, o, h, e => by
    simp only [forces] at h
    simp only [T.ev, W.ev, guarded] at e
    obtain ⟨η', h1, h2⟩ := Option.bind_eq_some_iff.1 e
    obtain ⟨p, hp, _⟩ := Option.bind_eq_some_iff.1 h1
    exact covs_ok a as _ h hp
  | .w (.call (some g) fl f as m) k, o, h, e => by
    simp only [forces] at h
    simp only [T.ev, W.ev, guarded] at e
    obtain ⟨η', h1, h2⟩ := Option.bind_eq_some_iff.1 e
    obtain ⟨p, hp, _⟩ := Option.bind_eq_some_iff.1 h1
    exact cov_ok a g _ h hp
  | .w (.clo none fl c as m) k, o, h, e => by
    simp only [forces, Bool.or_eq_true] at h
    simp only [T.ev, W.ev, guarded] at e
    obtain ⟨η', h1, h2⟩ := Option.bind_eq_some_iff.1 e
    obtain ⟨p, hp, h3⟩ := Option.bind_eq_some_iff.1 h1
    obtain ⟨q, hq, _⟩ := Option.bind_eq_some_iff.1 h3
    rcases h with h | h
    · exact cov_ok a c _ h hp
    · exact covs_ok a as _ h hq
  | .w (.clo (some g) fl c as m) k, o, h, e => by
    simp only [forces] at h
    simp only [T.ev, W.ev, guarded] at e
    obtain ⟨η', h1, h2⟩ := Option.bind_eq_some_iff.1 e
    obtain ⟨p, hp, _⟩ := Option.bind_eq_some_iff.1 h1
    exact cov_ok a g _ h hp
  | .ite c t f, o, h, e => by
    simp only [forces, Bool.or_eq_true, Bool.and_eq_true] at h
    simp only [T.ev] at e
    obtain ⟨r, h1, h2⟩ := Option.bind_eq_some_iff.1 e
    rcases h with h | h
    · exact cov_ok a c _ h h1
    · split at h2
      · exact forces_ok a t _ h.1 h2
      · exact forces_ok a f _ h.2 h2
      · cases h2
  | .ret es, o, h, e => by
    simp only [forces] at h
    simp only [T.ev] at e
    obtain ⟨ps, hp, _⟩ := Option.map_eq_some_iff.1 e
    exact covs_ok a es _ h hp
  | .yld id es, o, h, e => by
    simp only [forces] at h
    simp only [T.ev] at e
    obtain ⟨ps, hp, _⟩ := Option.map_eq_some_iff.1 e
    exact covs_ok a es _ h hp
  | .blk id body k, o, h, e => by
    simp only [forces] at h
    simp only [T.ev] at e
    obtain ⟨o1, h1, _⟩ := Option.bind_eq_some_iff.1 e
    exact forces_ok a body _ h h1
  | .loop id init body, o, h, e => by
    simp only [forces] at h
    simp only [T.ev] at e
    obtain ⟨ps, hp, _⟩ := Option.bind_eq_some_iff.1 e
    exact covs_ok a init _ h hp

def T.slim : T → T
  | .w (.chk x) k => if forces x k.slim then k.slim else .w (.chk x) k.slim
  | .w x k => .w x k.slim
  | .ite c t e => .ite c t.slim e.slim
  | .ret es => .ret es
  | .yld id es => .yld id es
  | .blk id body k => .blk id body.slim k.slim
  | .loop id init body => .loop id init body.slim
theorem slim_ev {fn : Fns} {N : Nat} : ∀ (t : T) (η : List PV), t.slim.ev fn N η = t.ev fn N η
  | .w (.chk x) k, η => by
    simp only [T.slim]
    split
    · rename_i h
      rw [slim_ev k η]
      simp only [T.ev, W.ev]
      cases hx : x.ev η with
      | some p => rfl
      | none =>
        cases hk : k.ev fn N η with
        | none => rfl
        | some o =>
          rw [← slim_ev k η] at hk
          have := forces_ok x k.slim o h hk
          rw [hx] at this; cases this
    · simp only [T.ev, W.ev]
      cases hx : x.ev η with
      | some p => exact slim_ev k η
      | none => rfl
  | .w (.call g fl f as m) k, η => by
    simp only [T.slim, T.ev]
    congr 1; funext η'; exact slim_ev k η'
  | .w (.clo g fl c as m) k, η => by
    simp only [T.slim, T.ev]
    congr 1; funext η'; exact slim_ev k η'
  | .ite c t e, η => by
    simp only [T.slim, T.ev, slim_ev t η, slim_ev e η]
  | .ret es, η => rfl
  | .yld id es, η => rfl
  | .blk id body k, η => by
    simp only [T.slim, T.ev, slim_ev body η]
    congr 1; funext o
    cases o with
    | ret vs => rfl
    | yld j vs => simp only [slim_ev k (η ++ vs)]
  | .loop id init body, η => by
    simp only [T.slim, T.ev]
    congr 1; funext st
    have : (fun vs => body.slim.ev fn N (η ++ vs)) = fun vs => body.ev fn N (η ++ vs) := by funext vs; exact slim_ev body (η ++ vs)
    rw [this]
end Go.X
/- Functions. -/
namespace Go.X
open Go Go.RowKit

section
variable {P : Program} {sig : Nat → Option Nat} {fn : Fns} {w0 : World} {Oe : Nat → Option Nat} {N : Nat}

theorem start_ok {func : Func} {args : List PV} {w : World} {O : Nat → Option Nat} {cargs : Array Value} (hg : Given w O func.params.size args cargs) (hl : args.length = func.params.size + func.nfree) (ht : func.params.size + func.nfree ≤ func.ntmps) :
    Rels w O args (start func) (cargs ++ Array.replicate (func.ntmps - cargs.size) undef) w := by
  refine ⟨fun _ => 0, fun _ => undef, O, Below.refl _ _, fun _ _ => rfl, hg.out, ?_, fun s b hs => by simp [start, mget] at hs, fun s s' b b' hs => by simp [start, mget] at hs⟩
  have hsz := hg.size
  refine RepSVs.mk (by simp [start]; omega) fun j x v hx hv => ?_
  simp only [start] at hx
  rw [List.append_assoc] at hx
  by_cases h1 : j < func.params.size
  · rw [List.getElem?_append_left (by simpa using h1)] at hx
    simp only [List.getElem?_map, Option.map_eq_some_iff] at hx
    obtain ⟨k, hk, rfl⟩ := hx
    rw [List.getElem?_range h1] at hk; injection hk with hk; subst hk
    simp only [RepSV, E.ev]
    have hp : args[j]? = some args[j] := List.getElem?_eq_getElem (by omega)
    refine ⟨args[j], hp, hg.val j _ v h1 hp ?_⟩
    rw [Array.getElem?_toList, Array.getElem?_append_left (by omega)] at hv
    exact hv
  · rw [List.getElem?_append_right (by simpa using Nat.le_of_not_lt h1)] at hx
    simp only [List.length_map, List.length_range] at hx
    by_cases h2 : j < func.params.size + func.nfree
    · rw [List.getElem?_append_left (by simp; omega)] at hx
      simp only [List.getElem?_map, Option.map_eq_some_iff] at hx
      obtain ⟨k, hk, rfl⟩ := hx
      rw [List.getElem?_range (by omega)] at hk; injection hk with hk; subst hk
      simp only [RepSV, E.ev, List.drop_zero]
      have hjj : func.params.size + (j - func.params.size) = j := by omega
      rw [hjj]
      have hp : args[j]? = some args[j] := List.getElem?_eq_getElem (by omega)
      refine ⟨args[j], hp, hg.cap j _ v (by omega) hp ?_⟩
      rw [Array.getElem?_toList, Array.getElem?_append_left (by omega)] at hv
      exact hv
    · rw [List.getElem?_append_right (by simp; omega), List.getElem?_replicate] at hx
      split at hx
      · injection hx with hx; subst hx; simp only [RepSV]
      · cases hx

theorem mapM_run {α : Type} {w : World} {g : α → Sem Value} : ∀ {l : List α} {us : List Value}, us.length = l.length → (∀ (j : Nat) (x : α) (u : Value), l[j]? = some x → us[j]? = some u → (g x).run P w = .ok u w) → (l.mapM g).run P w = .ok us w
  | [], us, hl, _ => by
    have : us = [] := List.eq_nil_of_length_eq_zero (by simpa using hl)
    subst this; simp
  | x :: l, [], hl, _ => by simp at hl
  | x :: l, u :: us, hl, h => by
    have h1 := h 0 x u rfl rfl
    have h2 := mapM_run (l := l) (us := us) (by simpa using hl) (fun j y v hy hv => h (j + 1) y v (by simpa using hy) (by simpa using hv))
    simp [List.mapM_cons, h1, h2]

/-- the machine's reading of one result -/
def gR (tm : Array Value) : ResultVar → Sem Value
  | .tmp t => pure (tm.getD t undef)
  | .cell a t => do loadVar t (← asAddr (tm.getD a undef))
theorem results_run {func : Func} {σ : St} {η : List PV} {tm : Array Value} {w : World} {β : Nat → Nat} {hv : Nat → Value} {O : Nat → Option Nat} {svs : List SV} (h : Rel w0 Oe η σ tm w β hv O) (hs : retSVs P σ func.results.toList = some svs) :
    ∃ us, RepSVs ⟨η, view w O, β, hv, σ.m⟩ svs us ∧ (Go.results func tm).run P w = .ok (if h : us.length = 1 then us[0] else .tuple us.toArray) w := by
  have go : ∀ {l : List ResultVar} {svs : List SV}, retSVs P σ l = some svs → ∃ us : List Value, RepSVs ⟨η, view w O, β, hv, σ.m⟩ svs us ∧ us.length = l.length ∧ ∀ (j : Nat) (x : ResultVar) (u : Value), l[j]? = some x → us[j]? = some u →
      (gR tm x).run P w = .ok u w := by
    intro l
    induction l with
    | nil =>
      intro svs h
      simp only [retSVs, Option.some.injEq] at h; subst h
      exact ⟨[], by simp only [RepSVs], rfl, fun j x u hx => by simp at hx⟩
    | cons r l ih =>
      intro svs hs
      simp only [retSVs] at hs
      split at hs
      · rename_i x xs hx hxs
        injection hs with hs; subst hs
        obtain ⟨us, u1, u2, u3⟩ := ih hxs
        have one : ∃ u, RepSV ⟨η, view w O, β, hv, σ.m⟩ x u ∧ (gR tm r).run P w = .ok u w := by
          cases r with
          | tmp t =>
            simp only [retSV] at hx
            obtain ⟨u, h1, h2⟩ := h.tmps.get t x hx
            refine ⟨u, h2, ?_⟩
            rw [Array.getElem?_toList] at h1
            simp [gR, Array.getD_eq_getD_getElem?, h1]
          | cell p t =>
            simp only [retSV] at hx
            split at hx
            · rename_i sv hsv
              split at hx
              · rename_i v hl
                injection hx with hx; subst hx
                obtain ⟨u0, h1, h2⟩ := h.tmps.get p sv hsv
                rw [Array.getElem?_toList] at h1
                obtain ⟨ad, u, g1, g2, g3⟩ := load_ok (G := none) h (fun g hg => by cases hg) h2 hl (fun x hx => by simp at hx)
                subst g1
                refine ⟨u, g3, ?_⟩
                simp [gR, Array.getD_eq_getD_getElem?, h1, asAddr, g2]
              · cases hx
            · cases hx
        obtain ⟨u, v1, v2⟩ := one
        refine ⟨u :: us, by simp only [RepSVs]; exact ⟨u, us, rfl, v1, u1⟩, by simp [u2], fun j y u' hy hu => ?_⟩
        cases j with
        | zero => simp at hy hu; subst hy; subst hu; exact v2
        | succ j => exact u3 j y u' (by simpa using hy) (by simpa using hu)
      · cases hs
  obtain ⟨us, u1, u2, u3⟩ := go hs
  refine ⟨us, u1, ?_⟩
  have hm := mapM_run (P := P) (w := w) (g := gR tm) u2 u3
  have e : Go.results func tm = (do let vs ← List.toArray <$> func.results.toList.mapM (gR tm); pure (if h : vs.size = 1 then vs[0] else .tuple vs)) := by
    unfold Go.results
    rw [Array.mapM_eq_mapM_toList]
    have he : ∀ x, (match x with | ResultVar.tmp t => pure (tm.getD t undef) | ResultVar.cell a t => do loadVar t (← asAddr (tm.getD a undef)) : Sem Value) = gR tm x := fun x => by cases x <;> rfl
    congr
  rw [e]
  simp only [Sem.run_bind, Sem.run_map]
  rw [hm]
  simp only [Result.andThen, Sem.run_pure]
  by_cases h1 : us.length = 1
  · rw [dif_pos h1]
    have : us.toArray.size = 1 := by simpa using h1
    simp only [this, dif_pos]; simp
  · rw [dif_neg h1]
    have : ¬ us.toArray.size = 1 := by simpa using h1
    rw [dif_neg this]

theorem xfun_ok (hC : Contract P sig fn) {f : Nat} {func : Func} {H : Hints} {t : T} {args rs : List PV} (hf : P.funcs[f]? = some func) (hx : xfun P sig f func H = some t) (hev : t.ev fn N args = some (.ret rs)) (hl : args.length = func.params.size + func.nfree) {w : World} {O : Nat → Option Nat} {cargs : Array Value} (hg : Given w O func.params.size args cargs) :
    Calls P f cargs w fun e w' => ∃ v, e = .returned v ∧ Back P (sig f) w O rs v w' := by
  unfold xfun at hx
  split at hx
  · rename_i c hb
    split at hx
    · rename_i ht
      refine calls_of_wp hf hb ?_
      refine sx_ok hC c 0 0 (start func) _ t args (.ret rs) _ w _ hx hev (by rw [hl]; rfl) (start_ok hg hl ht) ?_
      intro x σ' T' η' ζ a' w' h1 h2 h3 h4 h5 h6
      -- the function is left
      have main : ∀ svs, retSVs P σ' func.results.toList = some svs → (match sig f with
          | some e => match svs with
            | [.h s] => match mget σ'.m s with
              | some (.arr e' sz x false) => if e' = e ∧ sz = tSize P e then some (T.ret [x]) else none
              | _ => none
            | [.nil sz] => if sz = tSize P e ∧ 0 < sz then some (.ret [.c (.l sz [])]) else none
            | _ => none
          | none => (toEs σ'.m svs).map fun r => .ret r.1) = some T' → ∃ v, (Go.results func a'.tmps).run P w' = .ok v w' ∧ Back P (sig f) w O rs v w' := by
        intro svs hs hT
        obtain ⟨β, hv, O', rel⟩ := h5
        obtain ⟨us, u1, u2⟩ := results_run rel hs
        refine ⟨_, u2, rel.bel, ?_⟩
        cases hsig : sig f with
        | none =>
          rw [hsig] at hT
          simp only at hT
          obtain ⟨⟨es, ss⟩, he, rfl⟩ := Option.map_eq_some_iff.1 hT
          obtain ⟨O'', hrel, hM, hop, _⟩ := rel.frz ss (n := 0)
          obtain ⟨ps, q1, q2, q3⟩ := toEs_ok rel hM he u1 (fun s hs => hop s (by simpa using hs))
          simp only [T.ev, Option.map_eq_some_iff] at h2
          obtain ⟨vs, hvs, hret⟩ := h2
          injection hret with hret
          subst hret
          rw [q1] at hvs; injection hvs with hvs; subst hvs
          refine ⟨O'', hrel.ext, hrel.out, ?_⟩
          show ResRep (view w' O'') ps _
          match ps, us, q2, q3 with
          | [p], [u], _, q3 => exact q3 0 p u rfl rfl
          | [], [], _, _ => exact ⟨#[], by simp, rfl, fun j p u hp => by simp at hp⟩
          | p :: p' :: ps, u :: u' :: us, q2, q3 =>
            have : ¬ (u :: u' :: us).length = 1 := by simp
            rw [dif_neg this]
            exact ⟨_, rfl, by simpa using q2.symm, fun j p v hp hv => q3 j p v hp (by simpa using hv)⟩
          | [], _ :: _, q2, _ => simp at q2
          | _ :: _, [], q2, _ => simp at q2
          | [_], _ :: _ :: _, q2, _ => simp at q2
          | _ :: _ :: _, [_], q2, _ => simp at q2
        | some e =>
          rw [hsig] at hT
          simp only at hT
          refine ⟨O', rel.ext, rel.out, ?_⟩
          split at hT
          · rename_i s
            split at hT
            · rename_i e' sz x hb'
              split at hT
              · rename_i hcond
                obtain ⟨rfl, rfl⟩ := hcond
                injection hT with hT
                subst hT
                obtain ⟨q0, xs, cs, q1, q2, q3, q4⟩ := rel.mem s _ hb'
                have q1' : x.ev η' = some (.l (tSize P e') xs) := q1
                simp only [T.ev, E.evs, q1', Option.bind_some, Option.map_some, Option.some.injEq, Out.ret.injEq] at h2
                simp only [RepSVs, RepSV] at u1
                obtain ⟨v, r, rfl, hv1, rfl⟩ := u1
                refine ⟨q0, xs, cs, h2.symm, ?_, q3, fun g hg' => ?_⟩
                · show Own w' w.heap.size e' (tSize P e') v xs.length cs
                  rw [hv1]; exact q2
                · have hg2 : blkOf v = some g := hg'
                  rw [hv1] at hg2
                  obtain ⟨_, lim, h7, _, h8⟩ := q4 g hg2
                  rw [h7, h8 rfl]
              · cases hT
            · cases hT
          · rename_i sz
            split at hT
            · rename_i hcond
              obtain ⟨rfl, h0⟩ := hcond
              injection hT with hT
              subst hT
              simp only [T.ev, E.evs, E.ev, Option.bind_some, Option.map_some, Option.some.injEq, Out.ret.injEq] at h2
              simp only [RepSVs, RepSV] at u1
              obtain ⟨v, r, rfl, hv1, rfl⟩ := u1
              refine ⟨h0, [], [], h2.symm, ?_, fun i x hx => by simp at hx, fun g hg' => ?_⟩
              · show Own w' w.heap.size e (tSize P e) v 0 []
                rw [hv1]
                exact ⟨by simp, .inl ⟨none, rfl, rfl⟩⟩
              · have hg2 : blkOf v = some g := hg'
                rw [hv1] at hg2
                simp [blkOf] at hg2
            · cases hT
          · cases hT
      unfold leave at h1
      have fin : ∀ svs, retSVs P σ' func.results.toList = some svs → (match sig f with
          | some e => match svs with
            | [.h s] => match mget σ'.m s with
              | some (.arr e' sz x false) => if e' = e ∧ sz = tSize P e then some (T.ret [x]) else none
              | _ => none
            | [.nil sz] => if sz = tSize P e ∧ 0 < sz then some (.ret [.c (.l sz [])]) else none
            | _ => none
          | none => (toEs σ'.m svs).map fun r => .ret r.1) = some T' → a'.defers = [] ∧ ∃ v, (Go.results func a'.tmps).run P w' = .ok v w' ∧ ∃ v', Ending.returned v = .returned v' ∧ Back P (sig f) w O rs v' w' := by
        intro svs hs hT
        obtain ⟨v, k1, k2⟩ := main svs hs hT
        exact ⟨h6, v, k1, v, rfl, k2⟩
      cases x with
      | exit b => simp at h1
      | normal =>
        simp only at h1
        split at h1
        · rename_i svs hs
          exact fin svs hs h1
        · cases h1
      | ret =>
        simp only at h1
        split at h1
        · rename_i svs hs
          exact fin svs hs h1
        · cases h1
    · cases hx
  · cases hx

/-- a table of residual programs belongs to a program -/
def Tab (P : Program) (sig : Nat → Option Nat) (tab : Nat → Option FT) : Prop :=
  ∀ f ft, tab f = some ft → ∃ func H, P.funcs[f]? = some func ∧ (func.name == "runtime.NumGoroutine") = false ∧ func.params.size = ft.np ∧ func.nfree = ft.nf ∧ ∃ t, xfun P sig f func H = some t ∧ t.slim = ft.t

theorem xfun_body {f : Nat} {func : Func} {H : Hints} {t : T} (hx : xfun P sig f func H = some t) : func.body.isSome = true := by
  unfold xfun at hx
  split at hx
  · rename_i h; rw [h]; rfl
  · cases hx

theorem runF_ok {tab : Nat → Option FT} {ext : Fns → Fns} (hT : Tab P sig tab) (hE : ∀ fn, Contract P sig fn → Contract P sig (ext fn)) : ∀ k, Contract P sig (runF tab ext k)
  | 0 => fun f n vs rs h => by simp [runF] at h
  | k + 1 => fun f n vs rs h w O args hg => by
    have ih := runF_ok hT hE k
    simp only [runF] at h
    split at h
    · rename_i ft hft
      split at h
      · rename_i hc
        obtain ⟨o, ho, h⟩ := Option.bind_eq_some_iff.1 h
        split at h
        · rename_i vs' 
          injection h with h; subst h
          obtain ⟨func, H, hf, hn, hp, hnf, t0, hx, hs⟩ := hT f ft hft
          rw [← hs, slim_ev] at ho
          refine CallOk.of_calls hf hn (xfun_body hx) ?_
          exact xfun_ok ih hf hx ho (by rw [hp, hnf]; exact hc.2) (by rw [hp, hc.1]; exact hg)
        · cases h
      · cases h
    · exact hE _ ih f n vs rs h w O args hg
end
end Go.X
/- The functions of a table without fuel. -/
namespace Go.X
open Go

/-- fn' tells all that fn tells -/
def Fle (fn fn' : Fns) : Prop := ∀ f n vs rs, fn f n vs = some rs → fn' f n vs = some rs
theorem Fle.refl (fn : Fns) : Fle fn fn := fun _ _ _ _ h => h
theorem Fle.trans {a b c : Fns} (h : Fle a b) (h' : Fle b c) : Fle a c := fun f n vs rs e => h' f n vs rs (h f n vs rs e)

theorem results_le {flat : Bool} {m : Nat} {η η' : List PV} {r r' : Option (List PV)} (hr : ∀ rs, r = some rs → r' = some rs) (h : results flat m η r = some η') : results flat m η r' = some η' := by
  unfold results at h ⊢
  obtain ⟨rs, h1, h2⟩ := Option.bind_eq_some_iff.1 h
  rw [hr rs h1]; exact h2
theorem guarded_le {η η' : List PV} {m : Nat} {g : Option E} {r r' : Option (List PV)} (hr : ∀ x, r = some x → r' = some x) (h : guarded η m g r = some η') : guarded η m g r' = some η' := by
  unfold guarded at h ⊢
  split at h
  · exact hr _ h
  · obtain ⟨v, h1, h2⟩ := Option.bind_eq_some_iff.1 h
    rw [h1]
    simp only [Option.bind_some]
    split at h2
    · exact hr _ h2
    · exact h2
    · cases h2
theorem W.ev_le {fn fn' : Fns} (hf : Fle fn fn') {η η' : List PV} : ∀ {x : W}, x.ev fn η = some η' → x.ev fn' η = some η'
  | .chk x, h => h
  | .call g flat f as m, h => by
    simp only [W.ev] at h ⊢
    refine guarded_le (fun x hx => ?_) h
    obtain ⟨vs, h1, h2⟩ := Option.bind_eq_some_iff.1 hx
    rw [h1]
    exact results_le (fun rs hr => hf _ _ _ _ hr) h2
  | .clo g flat c as m, h => by
    simp only [W.ev] at h ⊢
    refine guarded_le (fun x hx => ?_) h
    obtain ⟨q, h0, hx⟩ := Option.bind_eq_some_iff.1 hx
    obtain ⟨vs, h1, h2⟩ := Option.bind_eq_some_iff.1 hx
    rw [h0]
    simp only [Option.bind_some]
    rw [h1]
    simp only [Option.bind_some]
    split at h2
    · exact results_le (fun rs hr => hf _ _ _ _ hr) h2
    · cases h2
theorem rounds_le {s s' : List PV → Option Out} (hs : ∀ vs o, s vs = some o → s' vs = some o) {id : Nat} : ∀ {n n' : Nat} {st : List PV} {o : Out}, n ≤ n' → rounds s id n st = some o → rounds s' id n' st = some o
  | 0, _, _, _, _, h => by simp [rounds] at h
  | n + 1, 0, _, _, hn, _ => by omega
  | n + 1, n' + 1, st, o, hn, h => by
    simp only [rounds] at h ⊢
    obtain ⟨o1, h1, h2⟩ := Option.bind_eq_some_iff.1 h
    rw [hs _ _ h1]
    simp only [Option.bind_some]
    split at h2
    · split at h2
      · rename_i hj
        rw [if_pos hj]
        exact rounds_le hs (by omega) h2
      · rename_i hj
        rw [if_neg hj]; exact h2
    · exact h2
theorem T.ev_le {fn fn' : Fns} (hf : Fle fn fn') {N N' : Nat} (hN : N ≤ N') : ∀ {t : T} {η : List PV} {o : Out}, t.ev fn N η = some o → t.ev fn' N' η = some o
  | .w x k, η, o, h => by
    simp only [T.ev] at h ⊢
    obtain ⟨η', h1, h2⟩ := Option.bind_eq_some_iff.1 h
    rw [W.ev_le hf h1]
    exact T.ev_le hf hN h2
  | .ite c t e, η, o, h => by
    simp only [T.ev] at h ⊢
    obtain ⟨r, h1, h2⟩ := Option.bind_eq_some_iff.1 h
    rw [h1]
    simp only [Option.bind_some]
    split at h2
    · exact T.ev_le hf hN h2
    · exact T.ev_le hf hN h2
    · cases h2
  | .ret es, η, o, h => h
  | .yld id es, η, o, h => h
  | .blk id body k, η, o, h => by
    simp only [T.ev] at h ⊢
    obtain ⟨o1, h1, h2⟩ := Option.bind_eq_some_iff.1 h
    rw [T.ev_le hf hN h1]
    simp only [Option.bind_some]
    split at h2
    · split at h2
      · rename_i hj; rw [if_pos hj]; exact T.ev_le hf hN h2
      · rename_i hj; rw [if_neg hj]; exact h2
    · exact h2
  | .loop id init body, η, o, h => by
    simp only [T.ev] at h ⊢
    obtain ⟨st, h1, h2⟩ := Option.bind_eq_some_iff.1 h
    rw [h1]
    exact rounds_le (fun vs o ho => T.ev_le hf hN ho) hN h2

/-- what is outside tells more, the more the inside tells -/
def ExtMono (ext : Fns → Fns) : Prop := ∀ fn fn', Fle fn fn' → Fle (ext fn) (ext fn')
theorem noExt_mono : ExtMono noExt := fun _ _ _ f n vs rs h => by simp [noExt] at h

section
variable {tab : Nat → Option FT} {ext : Fns → Fns}
theorem runF_succ (hE : ExtMono ext) : ∀ k, Fle (runF tab ext k) (runF tab ext (k + 1))
  | 0 => fun f n vs rs h => by simp [runF] at h
  | k + 1 => fun f n vs rs h => by
    have ih := runF_succ hE k
    rw [runF] at h ⊢
    cases ht : tab f with
    | none => simp only [ht] at h ⊢; exact hE _ _ ih _ _ _ _ h
    | some t =>
      simp only [ht] at h ⊢
      split at h
      · rename_i hc
        rw [if_pos hc]
        obtain ⟨o, h1, h2⟩ := Option.bind_eq_some_iff.1 h
        rw [T.ev_le ih (Nat.le_succ k) h1]
        exact h2
      · cases h
theorem runF_le (hE : ExtMono ext) {k k' : Nat} (h : k ≤ k') : Fle (runF tab ext k) (runF tab ext k') := by
  induction h with
  | refl => exact Fle.refl _
  | step _ ih => exact ih.trans (runF_succ hE _)

open Classical in
/-- what a function gives, however deep it goes -/
noncomputable def sem (tab : Nat → Option FT) (ext : Fns → Fns) : Fns := fun f n args =>
  if h : ∃ rs k, runF tab ext k f n args = some rs then some h.choose else none
theorem sem_iff (hE : ExtMono ext) {f n : Nat} {args rs : List PV} : sem tab ext f n args = some rs ↔ ∃ k, runF tab ext k f n args = some rs := by
  unfold sem
  constructor
  · intro h
    split at h
    · rename_i hex
      injection h with h
      subst h
      exact hex.choose_spec
    · cases h
  · rintro ⟨k, hk⟩
    have hex : ∃ rs k, runF tab ext k f n args = some rs := ⟨rs, k, hk⟩
    rw [dif_pos hex]
    obtain ⟨k', hk'⟩ := hex.choose_spec
    have h1 := runF_le hE (Nat.le_max_left k k') _ _ _ _ hk
    have h2 := runF_le hE (Nat.le_max_right k k') _ _ _ _ hk'
    rw [h1] at h2
    exact h2.symm
theorem runF_sem (hE : ExtMono ext) (k : Nat) : Fle (runF tab ext k) (sem tab ext) := fun f n vs rs h => (sem_iff hE).2 ⟨k, h⟩

theorem W.ev_cont (hE : ExtMono ext) {η η' : List PV} : ∀ {x : W}, x.ev (sem tab ext) η = some η' → ∃ k, x.ev (runF tab ext k) η = some η' := by
  have res : ∀ {flat : Bool} {m f n : Nat} {vs : List PV}, results flat m η (sem tab ext f n vs) = some η' → ∃ k, results flat m η (runF tab ext k f n vs) = some η' := by
    intro flat m f n vs h
    unfold results at h
    obtain ⟨rs, h1, h2⟩ := Option.bind_eq_some_iff.1 h
    obtain ⟨k, hk⟩ := (sem_iff hE).1 h1
    exact ⟨k, by unfold results; rw [hk]; exact h2⟩
  intro x h
  cases x with
  | chk x => exact ⟨0, h⟩
  | call g flat f as m =>
    simp only [W.ev] at h ⊢
    unfold guarded at h ⊢
    split at h
    · obtain ⟨vs, h1, h2⟩ := Option.bind_eq_some_iff.1 h
      obtain ⟨k, hk⟩ := res h2
      exact ⟨k, by rw [h1]; exact hk⟩
    · obtain ⟨v, h0, h⟩ := Option.bind_eq_some_iff.1 h
      split at h
      · obtain ⟨vs, h1, h2⟩ := Option.bind_eq_some_iff.1 h
        obtain ⟨k, hk⟩ := res h2
        exact ⟨k, by rw [h0]; simp only [Option.bind_some]; rw [h1]; exact hk⟩
      · exact ⟨0, by rw [h0]; exact h⟩
      · cases h
  | clo g flat c as m =>
    have body : ((c.ev η).bind fun q => (E.evs η as).bind fun vs => match q with | .f f caps => results flat m η (sem tab ext f vs.length (vs ++ caps)) | _ => none) = some η' → ∃ k, ((c.ev η).bind fun q => (E.evs η as).bind fun vs => match q with | .f f caps => results flat m η (runF tab ext k f vs.length (vs ++ caps)) | _ => none) = some η' := by
      intro hh
      obtain ⟨q, h0, hh⟩ := Option.bind_eq_some_iff.1 hh
      obtain ⟨vs, h1, hh⟩ := Option.bind_eq_some_iff.1 hh
      cases q with
      | f f caps =>
        obtain ⟨k, hk⟩ := res hh
        exact ⟨k, by rw [h0]; simp only [Option.bind_some]; rw [h1]; exact hk⟩
      | _ => simp at hh
    simp only [W.ev] at h ⊢
    unfold guarded at h ⊢
    split at h
    · exact body h
    · obtain ⟨v, h0, h⟩ := Option.bind_eq_some_iff.1 h
      split at h
      · obtain ⟨k, hk⟩ := body h
        exact ⟨k, by rw [h0]; exact hk⟩
      · exact ⟨0, by rw [h0]; exact h⟩
      · cases h

theorem T.ev_cont (hE : ExtMono ext) {N : Nat} : ∀ {t : T} {η : List PV} {o : Out}, t.ev (sem tab ext) N η = some o → ∃ k, t.ev (runF tab ext k) N η = some o
  | .w x t, η, o, h => by
    simp only [T.ev] at h ⊢
    obtain ⟨η', h1, h2⟩ := Option.bind_eq_some_iff.1 h
    obtain ⟨k1, g1⟩ := W.ev_cont hE h1
    obtain ⟨k2, g2⟩ := T.ev_cont hE h2
    refine ⟨max k1 k2, ?_⟩
    rw [W.ev_le (runF_le hE (Nat.le_max_left k1 k2)) g1]
    exact T.ev_le (runF_le hE (Nat.le_max_right k1 k2)) (Nat.le_refl _) g2
  | .ite c t e, η, o, h => by
    simp only [T.ev] at h ⊢
    obtain ⟨r, h1, h2⟩ := Option.bind_eq_some_iff.1 h
    split at h2
    · obtain ⟨k, g⟩ := T.ev_cont hE h2; exact ⟨k, by rw [h1]; exact g⟩
    · obtain ⟨k, g⟩ := T.ev_cont hE h2; exact ⟨k, by rw [h1]; exact g⟩
    · cases h2
  | .ret es, η, o, h => ⟨0, h⟩
  | .yld id es, η, o, h => ⟨0, h⟩
  | .blk id body t, η, o, h => by
    simp only [T.ev] at h ⊢
    obtain ⟨o1, h1, h2⟩ := Option.bind_eq_some_iff.1 h
    obtain ⟨k1, g1⟩ := T.ev_cont hE h1
    split at h2
    · split at h2
      · rename_i hj
        obtain ⟨k2, g2⟩ := T.ev_cont hE h2
        refine ⟨max k1 k2, ?_⟩
        rw [T.ev_le (runF_le hE (Nat.le_max_left k1 k2)) (Nat.le_refl _) g1]
        simp only [Option.bind_some]
        rw [if_pos hj]
        exact T.ev_le (runF_le hE (Nat.le_max_right k1 k2)) (Nat.le_refl _) g2
      · rename_i hj
        exact ⟨k1, by rw [g1]; simp only [Option.bind_some]; rw [if_neg hj]; exact h2⟩
    · exact ⟨k1, by rw [g1]; exact h2⟩
  | .loop id init body, η, o, h => by
    simp only [T.ev] at h ⊢
    obtain ⟨st, h1, h2⟩ := Option.bind_eq_some_iff.1 h
    have key : ∀ (n : Nat) (st : List PV), rounds (fun vs => body.ev (sem tab ext) N (η ++ vs)) id n st = some o → ∃ k, rounds (fun vs => body.ev (runF tab ext k) N (η ++ vs)) id n st = some o := by
      intro n
      induction n with
      | zero => intro st h; simp [rounds] at h
      | succ n ih =>
        intro st h
        simp only [rounds] at h ⊢
        obtain ⟨o1, h1, h2⟩ := Option.bind_eq_some_iff.1 h
        obtain ⟨k1, g1⟩ := T.ev_cont hE h1
        split at h2
        · split at h2
          · rename_i hj
            obtain ⟨k2, g2⟩ := ih _ h2
            refine ⟨max k1 k2, ?_⟩
            rw [T.ev_le (runF_le hE (Nat.le_max_left k1 k2)) (Nat.le_refl _) g1]
            simp only [Option.bind_some]
            rw [if_pos hj]
            exact rounds_le (fun vs o ho => T.ev_le (runF_le hE (Nat.le_max_right k1 k2)) (Nat.le_refl _) ho) (Nat.le_refl _) g2
          · rename_i hj
            exact ⟨k1, by rw [g1]; simp only [Option.bind_some]; rw [if_neg hj]; exact h2⟩
        · exact ⟨k1, by rw [g1]; exact h2⟩
    obtain ⟨k, g⟩ := key N st h2
    exact ⟨k, by rw [h1]; exact g⟩

/-- A function by its residual program. -/
theorem sem_fun (hE : ExtMono ext) {f n N : Nat} {ft : FT} {args rs : List PV} (ht : tab f = some ft) (hn : ft.np = n) (hl : args.length = ft.np + ft.nf) (h : ft.t.ev (sem tab ext) N args = some (.ret rs)) : sem tab ext f n args = some rs := by
  obtain ⟨k, hk⟩ := T.ev_cont hE h
  refine (sem_iff hE).2 ⟨max k N + 1, ?_⟩
  rw [runF]
  simp only [ht]
  rw [if_pos ⟨hn, hl⟩, T.ev_le (runF_le hE (Nat.le_max_left k N)) (Nat.le_max_right k N) hk]
  rfl

theorem sem_ok {P : Program} {sig : Nat → Option Nat} (hM : ExtMono ext) (hT : Tab P sig tab) (hE : ∀ fn, Contract P sig fn → Contract P sig (ext fn)) : Contract P sig (sem tab ext) := fun f n vs rs h => by
  obtain ⟨k, hk⟩ := (sem_iff hM).1 h
  exact runF_ok hT hE k f n vs rs hk
end
end Go.X
