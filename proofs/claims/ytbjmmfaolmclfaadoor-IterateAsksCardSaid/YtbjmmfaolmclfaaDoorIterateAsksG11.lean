/- Tasks: what stays so, whatever is done. -/
import Derived.Test.YtbjmmfaolmclfaaDoorIterateAsksG10

set_option maxHeartbeats 1000000
set_option linter.unusedVariables false
set_option linter.unusedSimpArgs false
namespace Go.X.G
open Go Go.X

theorem TOk.mono {t : Tk} {k k' : Nat} (h : TOk t k) (hk : k ≤ k') (hk' : k' ≤ 900000) : TOk t k' :=
  ⟨h.q, h.name, h.zone, h.hostsL, h.hosts, h.addrs, Nat.le_trans h.tried hk, h.more0, by have := h.more1; omega, h.asked, h.sent0, h.sent1, Nat.le_trans h.chain hk, hk'⟩
theorem settledT_state (t : Tk) : (settledT t).state = 0 ∨ (settledT t).state = 2 ∨ (settledT t).state = 4 := by
  unfold settledT
  split
  · exact .inl rfl
  · split
    · exact .inr (.inl rfl)
    · exact .inr (.inr rfl)
theorem settledT_same (t : Tk) : (settledT t).q = t.q ∧ (settledT t).name = t.name ∧ (settledT t).zone = t.zone ∧ (settledT t).sent = t.sent ∧ (settledT t).asked = t.asked := by
  unfold settledT
  split
  · exact ⟨rfl, rfl, rfl, rfl, rfl⟩
  · split <;> exact ⟨rfl, rfl, rfl, rfl, rfl⟩
theorem TOk.settled {t : Tk} {k : Nat} (h : TOk t k) : TOk (settledT t) k := by
  unfold settledT
  split
  · exact ⟨h.q, h.name, h.zone, h.hostsL, h.hosts, h.addrs, h.tried, h.more0, h.more1, h.asked, h.sent0, h.sent1, h.chain, h.small⟩
  · split <;> exact ⟨h.q, h.name, h.zone, h.hostsL, h.hosts, h.addrs, h.tried, h.more0, h.more1, h.asked, h.sent0, h.sent1, h.chain, h.small⟩
theorem TOk.useless {t : Tk} {k : Nat} (h : TOk t k) (hk : k + 1 ≤ 900000) : TOk (uselessT t) (k + 1) := by
  unfold uselessT
  refine TOk.settled ?_
  have h' := h.mono (Nat.le_succ k) hk
  exact ⟨h'.q, h'.name, h'.zone, h'.hostsL, h'.hosts, h'.addrs, by have := h.tried; simp; omega, h'.more0, h'.more1, h'.asked, h'.sent0, h'.sent1, h'.chain, h'.small⟩
theorem TOk.again {t : Tk} {k : Nat} (h : TOk t k) {m : Int} (h0 : 0 ≤ m) (h1 : m ≤ 10 + k) : TOk (againT t m) k :=
  ⟨h.q, h.name, h.zone, h.hostsL, h.hosts, h.addrs, by simp [againT], h0, h1, h.asked, h.sent0, h.sent1, h.chain, h.small⟩
theorem TOk.referred {t : Tk} {k : Nat} (h : TOk t k) {m : Msg} (hm : MOk m) : TOk (referredT t m) k := by
  unfold referredT
  refine TOk.settled ?_
  obtain ⟨c1, c2, c3⟩ := childN_ok (zone := t.zone) (hm.inside t.zone)
  exact ⟨h.q, h.name, c1, by simp; omega, fun x hx => c2 x (List.mem_of_mem_take hx), by simp; omega, by simp, by simp, by simp; omega, h.asked, h.sent0, h.sent1, h.chain, h.small⟩
theorem TOk.aliased {t : Tk} {k : Nat} (h : TOk t k) {m : Msg} (hm : MOk m) (hk : k + 8 ≤ 900000) : TOk (aliasedT t m) (k + 8) := by
  have h' := h.mono (Nat.le_add_right k 8) hk
  have hs : strr (folC (insideM m t.zone).ans t.q.typ 8 t.name t.chain).1 := folC_strr _ _ (fun r hr => (hm.inside t.zone).wf.ans.2 r hr) 8 _ _ h.name
  have hl := folC_len (insideM m t.zone).ans t.q.typ 8 t.name t.chain
  have hc := h.chain
  unfold aliasedT
  simp only
  generalize folC (insideM m t.zone).ans t.q.typ 8 t.name t.chain = p at *
  have hb : TOk { t with name := p.1, chain := p.2 } (k + 8) := ⟨h'.q, hs, h'.zone, h'.hostsL, h'.hosts, h'.addrs, h'.tried, h'.more0, h'.more1, h'.asked, h'.sent0, h'.sent1, by simp only; omega, h'.small⟩
  split
  · exact ⟨hb.q, hb.name, hb.zone, hb.hostsL, hb.hosts, hb.addrs, hb.tried, hb.more0, hb.more1, hb.asked, hb.sent0, hb.sent1, hb.chain, hb.small⟩
  · split
    · exact hb.again (by omega) (by omega)
    · exact ⟨hb.q, hb.name, hb.zone, hb.hostsL, hb.hosts, hb.addrs, hb.tried, hb.more0, hb.more1, hb.asked, hb.sent0, hb.sent1, hb.chain, hb.small⟩
theorem nextQ_wf {q : Ques} {zone : List UInt8} {more : Int} (hq : q.wf) : (nextQ q zone more).1.wf := by
  unfold nextQ
  split
  · exact hq
  · rename_i hc
    split
    · exact hq
    · have hB : belowN q.name zone = true := by
        rcases Bool.eq_false_or_eq_true (belowN q.name zone) with h | h
        · exact h
        · exact absurd (.inl h) hc
      have := vld_len (vld_drop (belowN_vld hB) ((lbl q.name).length - ((lbl zone).length + 1 + more.toNat))).1
      exact ⟨by simp only [strr]; omega, by simp [i64r]⟩
theorem TOk.send {t : Tk} {k : Nat} (h : TOk t k) (a : Adr) : TOk (sendT t a).1 k := by
  unfold sendT
  split
  · exact h
  · split
    · exact ⟨h.q, h.name, h.zone, h.hostsL, h.hosts, h.addrs, h.tried, h.more0, h.more1, h.asked, h.sent0, h.sent1, h.chain, h.small⟩
    · rename_i h64
      exact ⟨h.q, h.name, h.zone, h.hostsL, h.hosts, h.addrs, h.tried, h.more0, h.more1, nextQ_wf ⟨h.name, h.q.2⟩, by have := h.sent0; simp only; omega, by have := h.sent1; simp only; omega, h.chain, h.small⟩
theorem TOk.timeout {t : Tk} {k : Nat} (h : TOk t k) (hk : k + 8 ≤ 900000) : TOk (timeoutT t) (k + 8) := by
  unfold timeoutT
  split
  · exact (h.useless (by omega)).mono (by omega) hk
  · exact h.mono (by omega) hk
theorem TOk.receive {t : Tk} {k : Nat} (h : TOk t k) {m : Msg} (hm : MOk m) (src : Adr) (hk : k + 8 ≤ 900000) : TOk (receiveT t src m) (k + 8) := by
  have h' := h.mono (Nat.le_add_right k 8) hk
  have m0 := h.more0
  have m1 := h.more1
  unfold receiveT
  split
  · exact h'
  · split
    · exact h'.referred hm
    · split
      · exact (h.useless (by omega)).mono (by omega) hk
      · split
        · exact h'.again (by omega) (by omega)
        · split
          · exact h'.again (by omega) (by omega)
          · split
            · exact h.aliased hm hk
            · exact ⟨h'.q, h'.name, h'.zone, h'.hostsL, h'.hosts, h'.addrs, h'.tried, h'.more0, h'.more1, h'.asked, h'.sent0, h'.sent1, h'.chain, h'.small⟩
theorem TOk.supply {t : Tk} {k : Nat} (h : TOk t k) (host : List UInt8) (addrs : List Adr) : TOk (supplyT t host addrs) k := by
  unfold supplyT
  split
  · exact h
  · refine TOk.settled ?_
    exact ⟨h.q, h.name, h.zone, Nat.le_trans (List.length_filter_le _ _) h.hostsL, fun x hx => h.hosts x (List.mem_filter.1 hx).1, by simp; omega, h.tried, h.more0, h.more1, h.asked, h.sent0, h.sent1, h.chain, h.small⟩
theorem TOk.act {t : Tk} {k : Nat} (h : TOk t k) {a : Actn} (ha : AOk a) (hk : k + 8 ≤ 900000) : TOk (doT t a).1 (k + 8) := by
  unfold doT
  split
  · exact (h.send _).mono (by omega) hk
  · split
    · exact h.receive (ha.actM h.asked) _ hk
    · split
      · exact h.timeout hk
      · exact (h.supply _ _).mono (by omega) hk
theorem TOk.start {q : Ques} {zone : List UInt8} {hosts : List (List UInt8)} {addrs : List Adr} (hq : q.wf) (hz : strr zone) (hw : ∀ h ∈ hosts, strr h) : TOk (startT q zone hosts addrs).1 0 := by
  have e0 : strr [] := by simp [strr]
  have ei : i64r 0 := by simp [i64r]
  have z : TOk zTk 0 := ⟨⟨e0, ei⟩, e0, e0, by simp [zTk], by simp [zTk], by simp [zTk], by simp [zTk], by simp [zTk], by simp [zTk], ⟨e0, ei⟩, by simp [zTk], by simp [zTk], by simp [zTk], by simp⟩
  unfold startT
  split
  · exact z
  · split
    · exact z
    · refine TOk.settled ?_
      exact ⟨hq, hq.1, hz, by simp; omega, fun x hx => hw x (List.mem_of_mem_take hx), by simp; omega, by simp, by simp, by simp, ⟨e0, ei⟩, by simp, by simp, by simp, by simp⟩

/-! ### What is sent -/
theorem aliasedT_sent (t : Tk) (m : Msg) : (aliasedT t m).sent = t.sent := by
  unfold aliasedT
  simp only
  split
  · rfl
  · split <;> rfl
theorem receiveT_sent (t : Tk) (src : Adr) (m : Msg) : (receiveT t src m).sent = t.sent := by
  unfold receiveT
  split
  · rfl
  · split
    · unfold referredT; exact (settledT_same _).2.2.2.1
    · split
      · unfold uselessT; exact (settledT_same _).2.2.2.1
      · split
        · rfl
        · split
          · rfl
          · split
            · exact aliasedT_sent t m
            · rfl
theorem doT_sent {t : Tk} {a : Actn} {k : Nat} (h : TOk t k) : (doT t a).1.sent ≤ 64 ∧ ((doT t a).2.2 = true → (doT t a).1.sent = t.sent + 1) ∧ ((doT t a).2.2 = false → (doT t a).1.sent = t.sent) := by
  have h1 := h.sent1
  unfold doT
  split
  · unfold sendT
    split
    · exact ⟨h1, fun e => by simp at e, fun _ => rfl⟩
    · split
      · exact ⟨h1, fun e => by simp at e, fun _ => rfl⟩
      · exact ⟨by simp only; omega, fun _ => rfl, fun e => by simp at e⟩
  · split
    · exact ⟨by simp only [receiveT_sent]; exact h1, fun e => by simp at e, fun _ => receiveT_sent _ _ _⟩
    · split
      · have : (timeoutT t).sent = t.sent := by
          unfold timeoutT
          split
          · unfold uselessT; exact (settledT_same _).2.2.2.1
          · rfl
        exact ⟨by simp only [this]; exact h1, fun e => by simp at e, fun _ => this⟩
      · have : (supplyT t (hostA t.hosts a) a.addrs).sent = t.sent := by
          unfold supplyT
          split
          · rfl
          · exact (settledT_same _).2.2.2.1
        exact ⟨by simp only [this]; exact h1, fun e => by simp at e, fun _ => this⟩
/-- what has ended stays as it is -/
theorem doT_ended {t : Tk} {a : Actn} (h : t.state = 3 ∨ t.state = 4 ∨ t.state = 5) : (doT t a).1 = t ∧ (doT t a).2.2 = false := by
  have h0 : t.state ≠ 0 := by omega
  have h1 : t.state ≠ 1 := by omega
  have h2 : t.state ≠ 2 := by omega
  unfold doT
  split
  · unfold sendT; rw [if_pos (.inl h0)]; exact ⟨rfl, rfl⟩
  · split
    · unfold receiveT; rw [if_pos (.inl h1)]; exact ⟨rfl, rfl⟩
    · split
      · unfold timeoutT; rw [if_neg h1]; exact ⟨rfl, rfl⟩
      · unfold supplyT; rw [if_pos (.inl h2)]; exact ⟨rfl, rfl⟩

/-! ### What is asked -/
theorem under_trans {a b c : List UInt8} (h1 : under a b = true) (h2 : under b c = true) : under a c = true := by
  rw [under_iff] at *
  exact ⟨h1.1, h2.2.1, h2.2.2.trans h1.2.2⟩
theorem under_refl {a : List UInt8} (h : vld a = true) : under a a = true := under_iff.2 ⟨h, h, List.suffix_refl _⟩
/-- the name is under the zone, and under what was asked -/
structure AInv (t : Tk) (ty : Int) : Prop where
  typ : t.q.typ = ty
  z : t.state ≠ 4 → t.state ≠ 5 → under t.name t.zone = true
  a : t.state = 1 → under t.name t.asked.name = true
theorem nextQ_ok {q : Ques} {zone : List UInt8} {more : Int} (h : under q.name zone = true) : under (nextQ q zone more).1.name zone = true ∧ under q.name (nextQ q zone more).1.name = true ∧ ((nextQ q zone more).1.typ = 2 ∨ (nextQ q zone more).1.typ = q.typ) := by
  have hv := (under_iff.1 h).1
  unfold nextQ
  split
  · exact ⟨h, under_refl hv, .inr rfl⟩
  · split
    · exact ⟨h, under_refl hv, .inr rfl⟩
    · rename_i hlen
      obtain ⟨_, hz, hs⟩ := under_iff.1 h
      obtain ⟨v1, v2⟩ := vld_drop hv ((lbl q.name).length - ((lbl zone).length + 1 + more.toNat))
      refine ⟨under_iff.2 ⟨v1, hz, ?_⟩, under_iff.2 ⟨hv, v1, ?_⟩, .inl rfl⟩
      · simp only
        rw [v2]
        exact List.suffix_of_suffix_length_le hs (List.drop_suffix _ _) (by simp; omega)
      · simp only
        rw [v2]
        exact List.drop_suffix _ _
theorem AInv.settled {t : Tk} {ty : Int} (hty : t.q.typ = ty) (hu : under t.name t.zone = true) : AInv (settledT t) ty := by
  obtain ⟨e1, e2, e3, _, _⟩ := settledT_same t
  have hs := settledT_state t
  exact ⟨by rw [e1]; exact hty, fun _ _ => by rw [e2, e3]; exact hu, fun h => by omega⟩
theorem insideM_q (m : Msg) (z : List UInt8) : (insideM m z).q = m.q := rfl
theorem child_under {m : Msg} {zone n : List UInt8} (hk : kindM (insideM m zone) zone = 3) (hn : under n m.q.name = true) : under n (childN (insideM m zone) zone).1 = true := by
  obtain ⟨r, hr⟩ := kind3 hk
  unfold childN
  rw [if_pos hk, hr]
  simp only
  unfold refN at hr
  split at hr
  · cases hr
  · have hp := List.find?_some hr
    simp only [firB, Bool.and_eq_true] at hp
    exact under_trans hn hp.1.2
theorem AInv.act {t : Tk} {ty : Int} (h : AInv t ty) (a : Actn) : AInv (doT t a).1 ty ∧ ((doT t a).2.2 = true → under (doT t a).2.1.q.name (doT t a).1.zone = true ∧ under (doT t a).1.name (doT t a).2.1.q.name = true ∧ ((doT t a).2.1.q.typ = 2 ∨ (doT t a).2.1.q.typ = ty) ∧ (doT t a).2.1.q = (doT t a).1.asked ∧ (doT t a).1.state = 1) := by
  by_cases hend : t.state = 3 ∨ t.state = 4 ∨ t.state = 5
  · obtain ⟨e1, e2⟩ := doT_ended (a := a) hend
    rw [e1, e2]
    exact ⟨h, fun e => by simp at e⟩
  · have hu : under t.name t.zone = true := h.z (fun e => hend (.inr (.inl e))) (fun e => hend (.inr (.inr e)))
    unfold doT
    split
    · unfold sendT
      split
      · exact ⟨h, fun e => by simp at e⟩
      · split
        · exact ⟨⟨h.typ, fun e _ => absurd rfl e, fun e => by simp at e⟩, fun e => by simp at e⟩
        · obtain ⟨n1, n2, n3⟩ := nextQ_ok (q := ownT t) (zone := t.zone) (more := t.more) hu
          have hty : (ownT t).typ = ty := h.typ
          rw [hty] at n3
          exact ⟨⟨h.typ, fun _ _ => hu, fun _ => n2⟩, fun _ => ⟨n1, n2, n3, rfl, rfl⟩⟩
    · split
      · refine ⟨?_, fun e => by simp at e⟩
        show AInv (receiveT t (actS t a) (actM t a)) ty
        unfold receiveT
        split
        · exact h
        · rename_i hc
          simp only [not_or, Decidable.not_not] at hc
          obtain ⟨c1, c2, c3⟩ := hc
          split
          · rename_i hk
            unfold referredT
            exact AInv.settled h.typ (child_under hk (by rw [c3]; exact h.a c1))
          · split
            · unfold uselessT; exact AInv.settled h.typ hu
            · split
              · exact ⟨h.typ, fun _ _ => hu, fun e => by simp [againT] at e⟩
              · split
                · exact ⟨h.typ, fun _ _ => hu, fun e => by simp [againT] at e⟩
                · split
                  · unfold aliasedT
                    simp only
                    split
                    · exact ⟨h.typ, fun e _ => absurd rfl e, fun e => by simp at e⟩
                    · split
                      · rename_i hun
                        exact ⟨h.typ, fun _ _ => hun, fun e => by simp [againT] at e⟩
                      · exact ⟨h.typ, fun _ e => absurd rfl e, fun e => by simp at e⟩
                  · exact ⟨h.typ, fun _ _ => hu, fun e => by simp at e⟩
      · split
        · refine ⟨?_, fun e => by simp at e⟩
          show AInv (timeoutT t) ty
          unfold timeoutT
          split
          · unfold uselessT; exact AInv.settled h.typ hu
          · exact h
        · refine ⟨?_, fun e => by simp at e⟩
          show AInv (supplyT t (hostA t.hosts a) a.addrs) ty
          unfold supplyT
          split
          · exact h
          · exact AInv.settled h.typ hu
theorem AInv.start {q : Ques} {zone : List UInt8} {hosts : List (List UInt8)} {addrs : List Adr} (h : (startT q zone hosts addrs).2 = 0) : AInv (startT q zone hosts addrs).1 q.typ := by
  unfold startT at h ⊢
  split
  · rename_i c; rw [if_pos c] at h; simp at h
  · rename_i c
    rw [if_neg c] at h
    split
    · rename_i c2; rw [if_pos c2] at h; simp at h
    · exact AInv.settled rfl (by simpa using c)
end Go.X.G
/- The laws on tasks, without the reference: ends, and what is asked. -/
namespace Go.X.G
open Go Go.X

theorem tk_cells (t : Tk) : t.cells = [.s t.q.name, .i .i64 t.q.typ, .s t.name, .s t.zone, strsPV t.hosts, adrsPV t.addrs, adrsPV t.tried, .i .i64 t.state, .i .i64 t.more, .b t.dst.v6, .i .u64 t.dst.hi, .i .u64 t.dst.lo, .s t.asked.name, .i .i64 t.asked.typ, .i .i64 t.sent, recsPV t.chain, .i .i64 t.last.id, .i .i64 t.last.op, .i .i64 t.last.code, .b t.last.resp, .b t.last.aa, .b t.last.tc, .b t.last.rd, .b t.last.ra, .b t.last.ad, .b t.last.cd, .b t.last.dok, .i .i64 t.last.size, .s t.last.q.name, .i .i64 t.last.q.typ, recsPV t.last.ans, recsPV t.last.auth, recsPV t.last.ext, .i .i64 t.err] := rfl
def runT (t : Tk) : List Actn → Tk
  | [] => t
  | a :: r => runT (doT t a).1 r
theorem runT_ok : ∀ (l : List Actn) (t : Tk) (k : Nat), TOk t k → (∀ a ∈ l, AOk a) → k + 8 * l.length ≤ 900000 → TOk (runT t l) (k + 8 * l.length)
  | [], t, k, h, _, _ => by simpa [runT] using h
  | a :: r, t, k, h, hl, hk => by
    simp only [List.length_cons] at hk ⊢
    have := runT_ok r (doT t a).1 (k + 8) (h.act (hl a (.head _)) (by omega)) (fun x hx => hl x (.tail _ hx)) (by omega)
    have e : k + 8 * (r.length + 1) = k + 8 + 8 * r.length := by omega
    rw [e]; exact this
def iterT (l : List Actn) (t : Tk) : Nat → Tk
  | 0 => t
  | n + 1 => runT (iterT l t n) l
theorem iterT_ok {l : List Actn} {t : Tk} (h : TOk t 0) (hl : ∀ a ∈ l, AOk a) (h20 : l.length ≤ 20) : ∀ n, n ≤ 200 → TOk (iterT l t n) (160 * n)
  | 0, _ => h
  | n + 1, hn => by
    have ih := iterT_ok h hl h20 n (by omega)
    have := runT_ok l (iterT l t n) (160 * n) ih hl (by omega)
    exact this.mono (by omega) (by omega)
theorem Ends_l1 (b : Begin) (l : List Actn) (p2 p3 p4 p6 p7 : PV) (t1 t : Tk) (k : Nat) (h : TOk t k) (hl : ∀ a ∈ l, AOk a) (h20 : l.length ≤ 20) (hk : k + 160 ≤ 900000) :
    l1_ddilaw33_IterateEnds.ev S 300 ([b.pv, actsPV l, p2, p3, p4, t1.pv, p6, p7] ++ t.cells) = some (.yld 2 (runT t l).cells) := by
  refine loop_acc l (fun i (g : Tk) => .i .i64 (i : Int) :: g.cells) (fun i g r => .yld 2 (runT g r).cells) (fun i g => TOk g (k + 8 * i)) t ?_ h (by omega) (fun i g c r hd hi hc hg => ?_) (fun g hg => ?_)
  · simp (disch := omega) only [tk_cells, EVA, EVT, EVM, EVC, EVP, ↓reduceIte, EV, if_true, if_false, Nat.reduceAdd, Nat.reduceEqDiff, Int.reduceToNat, ne_eq, not_true, not_false_eq_true, Bool.true_eq_false, reduceCtorEq]
  · left
    have hD := do_ok g c hg (hl c (List.mem_of_getElem? hc))
    obtain ⟨s1, s2, s3⟩ := doT_sent (a := c) hg
    have s0 := hg.sent0
    have g1 := hg.sent1
    have hA := hg.act (hl c (List.mem_of_getElem? hc)) (by omega)
    refine ⟨(doT g c).1, ?_, by rw [show k + 8 * (i + 1) = k + 8 * i + 8 by omega]; exact hA, rfl⟩
    by_cases hend : g.state = 3 ∨ g.state = 4 ∨ g.state = 5
    · obtain ⟨e1, e2⟩ := doT_ended (a := c) hend
      rw [e1] at hD s1 ⊢
      rw [e2] at hD
      generalize (doT g c).2.1 = m at *
      have c1 : ¬ (64 < g.sent) := by omega
      clear s1 s2 s3 s0 g1 hA e1 e2 hg
      obtain ⟨gq, gn, gz, gh, ga, gt, gs, gm, gd, gk, gse, gc, gl, ge⟩ := g
      simp only at hend c1
      rcases hend with c2 | c2 | c2
      all_goals
        subst c2
        simp (disch := omega) only [x_ddilaw33_IterateEnds, hc, hD, c1, tk_cells, EVA, EVT, EVM, EVC, EVP, ↓reduceIte, EV, if_true, if_false, Nat.reduceAdd, Nat.reduceEqDiff, Int.reduceToNat, ne_eq, not_true, not_false_eq_true, Bool.true_eq_false, reduceCtorEq]
    · simp only [not_or] at hend
      obtain ⟨c2, c3, c4⟩ := hend
      generalize hu : (doT g c).1 = u at *
      generalize (doT g c).2.1 = m at *
      have c1 : ¬ (64 < u.sent) := by omega
      cases hok : (doT g c).2.2 with
      | true =>
        rw [hok] at hD
        have c5 := s2 hok
        simp (disch := omega) only [x_ddilaw33_IterateEnds, hc, hD, c1, c2, c3, c4, c5, tk_cells, EVA, EVT, EVM, EVC, EVP, ↓reduceIte, EV, if_true, if_false, Nat.reduceAdd, Nat.reduceEqDiff, Int.reduceToNat, ne_eq, not_true, not_false_eq_true, Bool.true_eq_false, reduceCtorEq]
      | false =>
        rw [hok] at hD
        have c5 := s3 hok
        simp (disch := omega) only [x_ddilaw33_IterateEnds, hc, hD, c1, c2, c3, c4, c5, tk_cells, EVA, EVT, EVM, EVC, EVP, ↓reduceIte, EV, if_true, if_false, Nat.reduceAdd, Nat.reduceEqDiff, Int.reduceToNat, ne_eq, not_true, not_false_eq_true, Bool.true_eq_false, reduceCtorEq]
  · refine ⟨?_, rfl⟩
    rw [show runT g [] = g from rfl]
    simp (disch := omega) only [x_ddilaw33_IterateEnds, tk_cells, EVA, EVT, EVM, EVC, EVP, ↓reduceIte, EV, if_true, if_false, Nat.reduceAdd, Nat.reduceEqDiff, Int.reduceToNat, ne_eq, not_true, not_false_eq_true, Bool.true_eq_false, reduceCtorEq]
theorem Ends_l0 (b : Begin) (l : List Actn) (n : Int) (p3 p4 p6 : PV) (t : Tk) (h : TOk t 0) (hn : u8r n) (hl : ∀ a ∈ l, AOk a) (h20 : l.length ≤ 20) :
    l0_ddilaw33_IterateEnds.ev S 300 [b.pv, actsPV l, .i .u8 n, p3, p4, t.pv, p6] = some (.yld 0 (iterT l t ((n % 100).toNat + 1)).cells) := by
  obtain ⟨n0, n1⟩ := hn
  have hrem : X.bin .rem (.i .u8 n) (.i .u8 100) = some (.i .u8 (n % 100)) := by
    simp [X.bin, binInt, Int.tmod_eq_emod_of_nonneg n0]
  have hm0 : 0 ≤ n % 100 := Int.emod_nonneg _ (by omega)
  have hm1 : n % 100 < 100 := Int.emod_lt_of_pos _ (by omega)
  generalize n % 100 = m at *
  refine loop_for (m.toNat + 1) (fun i => .i .i64 (i : Int) :: (iterT l t i).cells) (fun _ => .yld 0 (iterT l t (m.toNat + 1)).cells) ?_ (by omega) (fun i hi => ?_) ?_
  · rw [show iterT l t 0 = t from rfl]
    simp (disch := omega) only [tk_cells, EVA, EVT, EVM, EVC, EVP, ↓reduceIte, EV, if_true, if_false, Nat.reduceAdd, Nat.reduceEqDiff, Int.reduceToNat, ne_eq, not_true, not_false_eq_true, Bool.true_eq_false, reduceCtorEq]
  · left
    refine ⟨?_, rfl⟩
    have hi1 : (i : Int) ≤ m := by omega
    have hI := Ends_l1 b l (.i .u8 n) p3 p4 p6 (.i .i64 (i : Int)) t (iterT l t i) (160 * i) (iterT_ok h hl h20 i (by omega)) hl h20 (by omega)
    rw [show iterT l t (i + 1) = runT (iterT l t i) l from rfl]
    generalize iterT l t i = g at *
    generalize runT g l = g' at *
    simp only [tk_cells, q_cons_append, q_nil_append] at hI
    simp (disch := omega) only [x_ddilaw33_IterateEnds, hrem, hi1, hI, tk_cells, EVA, EVT, EVM, EVC, EVP, ↓reduceIte, EV, if_true, if_false, Nat.reduceAdd, Nat.reduceEqDiff, Int.reduceToNat, ne_eq, not_true, not_false_eq_true, Bool.true_eq_false, reduceCtorEq]
  · refine ⟨?_, rfl⟩
    have hi1 : ¬ (((m.toNat + 1 : Nat) : Int) ≤ m) := by omega
    generalize iterT l t (m.toNat + 1) = g
    simp (disch := omega) only [x_ddilaw33_IterateEnds, hrem, hi1, tk_cells, EVA, EVT, EVM, EVC, EVP, ↓reduceIte, EV, if_true, if_false, Nat.reduceAdd, Nat.reduceEqDiff, Int.reduceToNat, ne_eq, not_true, not_false_eq_true, Bool.true_eq_false, reduceCtorEq]
theorem law_IterateEnds (b : Begin) (l : List Actn) (n : Int) (hb : b.wf) (hl : actsr l) (hn : u8r n) : S n_ddilaw33_IterateEnds 3 [b.pv, actsPV l, .i .u8 n] = some [.b true] := by
  refine s_ddilaw33_IterateEnds (N := 300) rfl ?_
  have ha := awake33_ok
  obtain ⟨c, hc, hs⟩ := small_ok b l hb hl
  cases c with
  | false => simp (disch := omega) only [x_ddilaw33_IterateEnds, ha, hc, EVA, EVT, EVM, EVC, EVP, ↓reduceIte, EV, if_true, if_false, Nat.reduceAdd, Nat.reduceEqDiff, Int.reduceToNat, ne_eq, not_true, not_false_eq_true, Bool.true_eq_false, reduceCtorEq]
  | true =>
    obtain ⟨h1, h2, h3, h4⟩ := hs rfl
    have hst := start_ok b.q b.zone b.hosts b.addrs hb.q hb.zone (by omega) hb.hosts.2 (by omega)
    have hT := TOk.start (q := b.q) (zone := b.zone) (hosts := b.hosts) (addrs := b.addrs) hb.q hb.zone hb.hosts.2
    generalize startT b.q b.zone b.hosts b.addrs = p at *
    obtain ⟨t, e⟩ := p
    simp only at hst hT
    by_cases c1 : e = 0
    · subst c1
      have hI := Ends_l0 b l n (.b true) (.b true) (.i .i64 0) t hT hn h4 h1
      generalize iterT l t ((n % 100).toNat + 1) = g at *
      simp (disch := omega) only [x_ddilaw33_IterateEnds, ha, hc, hst, hI, EVA, EVT, EVM, EVC, EVP, ↓reduceIte, EV, if_true, if_false, Nat.reduceAdd, Nat.reduceEqDiff, Int.reduceToNat, ne_eq, not_true, not_false_eq_true, Bool.true_eq_false, reduceCtorEq]
    · simp (disch := omega) only [x_ddilaw33_IterateEnds, ha, hc, hst, c1, EVA, EVT, EVM, EVC, EVP, ↓reduceIte, EV, if_true, if_false, Nat.reduceAdd, Nat.reduceEqDiff, Int.reduceToNat, ne_eq, not_true, not_false_eq_true, Bool.true_eq_false, reduceCtorEq]
end Go.X.G
/- What is asked: the law. -/
namespace Go.X.G
open Go Go.X

theorem Asks_l0 (b : Begin) (l : List Actn) (p2 p3 p4 p5 : PV) (t : Tk) (h : TOk t 0) (hA : AInv t b.q.typ) (hl : ∀ a ∈ l, AOk a) (h20 : l.length ≤ 20) :
    l0_ddilaw33_IterateAsks.ev S 300 [b.pv, actsPV l, p2, p3, t.pv, p5] = some (.yld 0 (runT t l).cells) := by
  refine loop_acc l (fun i (g : Tk) => .i .i64 (i : Int) :: g.cells) (fun i g r => .yld 0 (runT g r).cells) (fun i g => TOk g (8 * i) ∧ AInv g b.q.typ) t ?_ ⟨h, hA⟩ (by omega) (fun i g c r hd hi hc hgI => ?_) (fun g hg => ?_)
  · simp (disch := omega) only [tk_cells, EVA, EVT, EVM, EVC, EVP, ↓reduceIte, EV, if_true, if_false, Nat.reduceAdd, Nat.reduceEqDiff, Int.reduceToNat, ne_eq, not_true, not_false_eq_true, Bool.true_eq_false, reduceCtorEq]
  · left
    obtain ⟨hg, hgA⟩ := hgI
    have hD := do_ok g c hg (hl c (List.mem_of_getElem? hc))
    have hT := hg.act (hl c (List.mem_of_getElem? hc)) (by omega)
    obtain ⟨hI, hok⟩ := hgA.act c
    refine ⟨(doT g c).1, ?_, ⟨by rw [show 8 * (i + 1) = 8 * i + 8 by omega]; exact hT, hI⟩, rfl⟩
    generalize hu : (doT g c).1 = u at *
    generalize (doT g c).2.1 = m at *
    have hu3 := UnderP_ok u.name u.zone hT.name hT.zone
    cases hk : (doT g c).2.2 with
    | true =>
      rw [hk] at hD
      obtain ⟨k1, k2, k3, k4, k5⟩ := hok hk
      rw [k4] at k1 k2 k3
      have hu1 := UnderP_ok u.asked.name u.zone hT.asked.1 hT.zone
      have hu2 := UnderP_ok u.name u.asked.name hT.name hT.asked.1
      rw [k1] at hu1
      rw [k2] at hu2
      rw [hI.z (by omega) (by omega)] at hu3
      clear hok hI hgA hg hT hu
      rcases k3 with k3 | k3
      · simp (disch := omega) only [x_ddilaw33_IterateAsks, hc, hD, k3, k4, k5, hu1, hu2, hu3, tk_cells, EVA, EVT, EVM, EVC, EVP, ↓reduceIte, EV, if_true, if_false, Nat.reduceAdd, Nat.reduceEqDiff, Int.reduceToNat, ne_eq, not_true, not_false_eq_true, Bool.true_eq_false, reduceCtorEq]
      · by_cases k6 : b.q.typ = 2
        · rw [k6] at k3
          simp (disch := omega) only [x_ddilaw33_IterateAsks, hc, hD, k3, k4, k5, hu1, hu2, hu3, tk_cells, EVA, EVT, EVM, EVC, EVP, ↓reduceIte, EV, if_true, if_false, Nat.reduceAdd, Nat.reduceEqDiff, Int.reduceToNat, ne_eq, not_true, not_false_eq_true, Bool.true_eq_false, reduceCtorEq]
        · simp (disch := omega) only [x_ddilaw33_IterateAsks, hc, hD, k3, k4, k5, k6, hu1, hu2, hu3, tk_cells, EVA, EVT, EVM, EVC, EVP, ↓reduceIte, EV, if_true, if_false, Nat.reduceAdd, Nat.reduceEqDiff, Int.reduceToNat, ne_eq, not_true, not_false_eq_true, Bool.true_eq_false, reduceCtorEq]
    | false =>
      rw [hk] at hD
      by_cases c1 : u.state = 5
      · clear hok hI hgA hg hT hu
        obtain ⟨gq, gn, gz, gh, ga, gt, gs, gm, gd, gk, gse, gc, gl, ge⟩ := u
        simp only at c1 hu3
        subst c1
        simp (disch := omega) only [x_ddilaw33_IterateAsks, hc, hD, tk_cells, EVA, EVT, EVM, EVC, EVP, ↓reduceIte, EV, if_true, if_false, Nat.reduceAdd, Nat.reduceEqDiff, Int.reduceToNat, ne_eq, not_true, not_false_eq_true, Bool.true_eq_false, reduceCtorEq]
      · by_cases c2 : u.state = 4
        · clear hok hI hgA hg hT hu
          obtain ⟨gq, gn, gz, gh, ga, gt, gs, gm, gd, gk, gse, gc, gl, ge⟩ := u
          simp only at c2 hu3
          subst c2
          simp (disch := omega) only [x_ddilaw33_IterateAsks, hc, hD, tk_cells, EVA, EVT, EVM, EVC, EVP, ↓reduceIte, EV, if_true, if_false, Nat.reduceAdd, Nat.reduceEqDiff, Int.reduceToNat, ne_eq, not_true, not_false_eq_true, Bool.true_eq_false, reduceCtorEq]
        · rw [hI.z c2 c1] at hu3
          simp (disch := omega) only [x_ddilaw33_IterateAsks, hc, hD, c1, c2, hu3, tk_cells, EVA, EVT, EVM, EVC, EVP, ↓reduceIte, EV, if_true, if_false, Nat.reduceAdd, Nat.reduceEqDiff, Int.reduceToNat, ne_eq, not_true, not_false_eq_true, Bool.true_eq_false, reduceCtorEq]
  · refine ⟨?_, rfl⟩
    rw [show runT g [] = g from rfl]
    simp (disch := omega) only [x_ddilaw33_IterateAsks, tk_cells, EVA, EVT, EVM, EVC, EVP, ↓reduceIte, EV, if_true, if_false, Nat.reduceAdd, Nat.reduceEqDiff, Int.reduceToNat, ne_eq, not_true, not_false_eq_true, Bool.true_eq_false, reduceCtorEq]
theorem law_IterateAsks (b : Begin) (l : List Actn) (hb : b.wf) (hl : actsr l) : S n_ddilaw33_IterateAsks 2 [b.pv, actsPV l] = some [.b true] := by
  refine s_ddilaw33_IterateAsks (N := 300) rfl ?_
  have ha := awake33_ok
  obtain ⟨c, hc, hs⟩ := small_ok b l hb hl
  cases c with
  | false => simp (disch := omega) only [x_ddilaw33_IterateAsks, ha, hc, EVA, EVT, EVM, EVC, EVP, ↓reduceIte, EV, if_true, if_false, Nat.reduceAdd, Nat.reduceEqDiff, Int.reduceToNat, ne_eq, not_true, not_false_eq_true, Bool.true_eq_false, reduceCtorEq]
  | true =>
    obtain ⟨h1, h2, h3, h4⟩ := hs rfl
    have hst := start_ok b.q b.zone b.hosts b.addrs hb.q hb.zone (by omega) hb.hosts.2 (by omega)
    have hT := TOk.start (q := b.q) (zone := b.zone) (hosts := b.hosts) (addrs := b.addrs) hb.q hb.zone hb.hosts.2
    have hA := fun e => AInv.start (q := b.q) (zone := b.zone) (hosts := b.hosts) (addrs := b.addrs) e
    generalize startT b.q b.zone b.hosts b.addrs = p at *
    obtain ⟨t, e⟩ := p
    simp only at hst hT hA
    by_cases c1 : e = 0
    · subst c1
      have hI := Asks_l0 b l (.b true) (.b true) t.pv (.i .i64 0) t hT (hA rfl) h4 h1
      generalize runT t l = g at *
      simp (disch := omega) only [x_ddilaw33_IterateAsks, ha, hc, hst, hI, EVA, EVT, EVM, EVC, EVP, ↓reduceIte, EV, if_true, if_false, Nat.reduceAdd, Nat.reduceEqDiff, Int.reduceToNat, ne_eq, not_true, not_false_eq_true, Bool.true_eq_false, reduceCtorEq]
    · simp (disch := omega) only [x_ddilaw33_IterateAsks, ha, hc, hst, c1, EVA, EVT, EVM, EVC, EVP, ↓reduceIte, EV, if_true, if_false, Nat.reduceAdd, Nat.reduceEqDiff, Int.reduceToNat, ne_eq, not_true, not_false_eq_true, Bool.true_eq_false, reduceCtorEq]
end Go.X.G
