/- Questions and messages. -/
import Derived.Test.YtbjmmfaolmclfaaDoorIterateAsksG9
import Derived.Test.YtbjmmfaolmclfaaDoorIterateAsksG8

set_option maxHeartbeats 1000000
set_option linter.unusedVariables false
set_option linter.unusedSimpArgs false
namespace Go.X
open Go
structure Ques where
  name : List UInt8
  typ : Int
  deriving DecidableEq
structure Msg where
  id : Int
  op : Int
  code : Int
  resp : Bool
  aa : Bool
  tc : Bool
  rd : Bool
  ra : Bool
  ad : Bool
  cd : Bool
  dok : Bool
  size : Int
  q : Ques
  ans : List Rec
  auth : List Rec
  ext : List Rec
  deriving DecidableEq
structure Ques.wf (x : Ques) : Prop where
  name : strr x.name
  typ : i64r x.typ
structure Msg.wf (m : Msg) : Prop where
  id : i64r m.id
  op : i64r m.op
  code : i64r m.code
  size : i64r m.size
  q : m.q.wf
  ans : recsr m.ans
  auth : recsr m.auth
  ext : recsr m.ext
def Ques.cells (x : Ques) : List PV := [.s x.name, .i .i64 x.typ]
def Ques.pv (x : Ques) : PV := .a x.cells
def Msg.cells (m : Msg) : List PV := .i .i64 m.id :: .i .i64 m.op :: .i .i64 m.code :: .b m.resp :: .b m.aa :: .b m.tc :: .b m.rd :: .b m.ra :: .b m.ad :: .b m.cd :: .b m.dok :: .i .i64 m.size :: .s m.q.name :: .i .i64 m.q.typ :: recsPV m.ans :: recsPV m.auth :: recsPV m.ext :: []
def Msg.pv (m : Msg) : PV := .a m.cells
def shQ : Sh := .st [.s, .i .i64]
def shMsg : Sh := .st [.i .i64, .i .i64, .i .i64, .b, .b, .b, .b, .b, .b, .b, .b, .i .i64, shQ, shRecs, shRecs, shRecs]
theorem ok_ques {cs : List PV} (h : shQ.okC cs) : ∃ q : Ques, q.wf ∧ cs = q.cells := by
  obtain ⟨a0, r0, rfl, h0, h⟩ := okCs_cons (okC_st h)
  obtain ⟨a1, r1, rfl, h1, h⟩ := okCs_cons h
  obtain rfl := okCs_nil h
  obtain ⟨x0, rfl, k0⟩ := okC_s h0
  obtain ⟨x1, rfl, k1⟩ := okC_i64 h1
  exact ⟨⟨x0, x1⟩, ⟨k0, k1⟩, rfl⟩
theorem okA_q {p : PV} (h : shQ.ok p) : ∃ q : Ques, q.wf ∧ p = q.pv := by
  obtain ⟨ds, rfl, h⟩ : ∃ ds, p = .a ds ∧ shQ.okC ds := h
  obtain ⟨r, hr, rfl⟩ := ok_ques h
  exact ⟨r, hr, rfl⟩
theorem okA_msg {p : PV} (h : shMsg.ok p) : ∃ m : Msg, m.wf ∧ p = m.pv := by
  obtain ⟨ds, rfl, h⟩ : ∃ ds, p = .a ds ∧ shMsg.okC ds := h
  obtain ⟨a0, r0, rfl, h0, h⟩ := okCs_cons (okC_st h)
  obtain ⟨a1, r1, rfl, h1, h⟩ := okCs_cons h
  obtain ⟨a2, r2, rfl, h2, h⟩ := okCs_cons h
  obtain ⟨a3, r3, rfl, h3, h⟩ := okCs_cons h
  obtain ⟨a4, r4, rfl, h4, h⟩ := okCs_cons h
  obtain ⟨a5, r5, rfl, h5, h⟩ := okCs_cons h
  obtain ⟨a6, r6, rfl, h6, h⟩ := okCs_cons h
  obtain ⟨a7, r7, rfl, h7, h⟩ := okCs_cons h
  obtain ⟨a8, r8, rfl, h8, h⟩ := okCs_cons h
  obtain ⟨a9, r9, rfl, h9, h⟩ := okCs_cons h
  obtain ⟨a10, r10, rfl, h10, h⟩ := okCs_cons h
  obtain ⟨a11, r11, rfl, h11, h⟩ := okCs_cons h
  obtain ⟨a12, r12, rfl, h12, h⟩ := okCs_cons h
  obtain ⟨a13, r13, rfl, h13, h⟩ := okCs_cons h
  obtain ⟨a14, r14, rfl, h14, h⟩ := okCs_cons h
  obtain ⟨a15, r15, rfl, h15, h⟩ := okCs_cons h
  obtain rfl := okCs_nil h
  obtain ⟨x0, rfl, k0⟩ := okC_i64 h0
  obtain ⟨x1, rfl, k1⟩ := okC_i64 h1
  obtain ⟨x2, rfl, k2⟩ := okC_i64 h2
  obtain ⟨x3, rfl⟩ := okC_b h3
  obtain ⟨x4, rfl⟩ := okC_b h4
  obtain ⟨x5, rfl⟩ := okC_b h5
  obtain ⟨x6, rfl⟩ := okC_b h6
  obtain ⟨x7, rfl⟩ := okC_b h7
  obtain ⟨x8, rfl⟩ := okC_b h8
  obtain ⟨x9, rfl⟩ := okC_b h9
  obtain ⟨x10, rfl⟩ := okC_b h10
  obtain ⟨x11, rfl, k11⟩ := okC_i64 h11
  obtain ⟨x12, k12, rfl⟩ := ok_ques h12
  obtain ⟨x13, k13, rfl⟩ := ok_recs h13
  obtain ⟨x14, k14, rfl⟩ := ok_recs h14
  obtain ⟨x15, k15, rfl⟩ := ok_recs h15
  exact ⟨⟨x0, x1, x2, x3, x4, x5, x6, x7, x8, x9, x10, x11, x12, x13, x14, x15⟩, ⟨k0, k1, k2, k11, k12, k13, k14, k15⟩, rfl⟩
theorem proj_msg0 (m : Msg) : projPV 0 m.pv = some (.i .i64 m.id) := rfl
theorem proj_msg1 (m : Msg) : projPV 1 m.pv = some (.i .i64 m.op) := rfl
theorem proj_msg2 (m : Msg) : projPV 2 m.pv = some (.i .i64 m.code) := rfl
theorem proj_msg3 (m : Msg) : projPV 3 m.pv = some (.b m.resp) := rfl
theorem proj_msg4 (m : Msg) : projPV 4 m.pv = some (.b m.aa) := rfl
theorem proj_msg5 (m : Msg) : projPV 5 m.pv = some (.b m.tc) := rfl
theorem proj_msg6 (m : Msg) : projPV 6 m.pv = some (.b m.rd) := rfl
theorem proj_msg7 (m : Msg) : projPV 7 m.pv = some (.b m.ra) := rfl
theorem proj_msg8 (m : Msg) : projPV 8 m.pv = some (.b m.ad) := rfl
theorem proj_msg9 (m : Msg) : projPV 9 m.pv = some (.b m.cd) := rfl
theorem proj_msg10 (m : Msg) : projPV 10 m.pv = some (.b m.dok) := rfl
theorem proj_msg11 (m : Msg) : projPV 11 m.pv = some (.i .i64 m.size) := rfl
theorem proj_msg12 (m : Msg) : projPV 12 m.pv = some (.s m.q.name) := rfl
theorem proj_msg13 (m : Msg) : projPV 13 m.pv = some (.i .i64 m.q.typ) := rfl
theorem proj_msg14 (m : Msg) : projPV 14 m.pv = some (recsPV m.ans) := rfl
theorem proj_msg15 (m : Msg) : projPV 15 m.pv = some (recsPV m.auth) := rfl
theorem proj_msg16 (m : Msg) : projPV 16 m.pv = some (recsPV m.ext) := rfl
theorem sub_msg (m : Msg) : subPV 0 17 m.pv = some m.pv := rfl
theorem fit_msg (m : Msg) : fitPV 17 m.pv = some m.pv := rfl
theorem sub_msg_q (m : Msg) : subPV 12 2 m.pv = some m.q.pv := rfl
theorem sub_q (x : Ques) : subPV 0 2 x.pv = some x.pv := rfl
theorem fit_q (x : Ques) : fitPV 2 x.pv = some x.pv := rfl
theorem proj_q0 (x : Ques) : projPV 0 x.pv = some (.s x.name) := rfl
theorem proj_q1 (x : Ques) : projPV 1 x.pv = some (.i .i64 x.typ) := rfl
theorem fold_q (n : List UInt8) (t : Int) : PV.a [.s n, .i .i64 t] = Ques.pv ⟨n, t⟩ := rfl
theorem eta_q (x : Ques) : (⟨x.name, x.typ⟩ : Ques) = x := rfl
theorem fold_msg (x0 x1 x2 : Int) (b0 b1 b2 b3 b4 b5 b6 b7 : Bool) (x3 : Int) (n : List UInt8) (t : Int) (l0 l1 l2 : List Rec) : PV.a [.i .i64 x0, .i .i64 x1, .i .i64 x2, .b b0, .b b1, .b b2, .b b3, .b b4, .b b5, .b b6, .b b7, .i .i64 x3, .s n, .i .i64 t, recsPV l0, recsPV l1, recsPV l2] = Msg.pv ⟨x0, x1, x2, b0, b1, b2, b3, b4, b5, b6, b7, x3, ⟨n, t⟩, l0, l1, l2⟩ := rfl
theorem eq_q (neg : Bool) (x y : Ques) : eqsPV neg true [.s, (.i .i64)] x.pv y.pv = some (.b (if neg then decide (x ≠ y) else decide (x = y))) := by
  have : eqScs [.s, (.i .i64)] x.cells y.cells = some (decide (x = y)) := by
    simp only [Ques.cells, eqScs, eqSc, if_true, Option.some.injEq]
    rw [Bool.eq_iff_iff]
    cases x; cases y; simp
  simp only [eqsPV, Ques.pv, this, Option.map_some]
  cases neg <;> simp
theorem EVM : type_of% ((And.intro @proj_msg0 (And.intro @proj_msg1 (And.intro @proj_msg2 (And.intro @proj_msg3 (And.intro @proj_msg4 (And.intro @proj_msg5 (And.intro @proj_msg6 (And.intro @proj_msg7 (And.intro @proj_msg8 (And.intro @proj_msg9 (And.intro @proj_msg10 (And.intro @proj_msg11 (And.intro @proj_msg12 (And.intro @proj_msg13 (And.intro @proj_msg14 (And.intro @proj_msg15 (And.intro @proj_msg16 (And.intro @sub_msg (And.intro @fit_msg (And.intro @sub_msg_q (And.intro @sub_q (And.intro @fit_q (And.intro @proj_q0 (And.intro @proj_q1 (And.intro @fold_q (And.intro @eta_q (And.intro @fold_msg @eq_q)))))))))))))))))))))))))))) := (And.intro @proj_msg0 (And.intro @proj_msg1 (And.intro @proj_msg2 (And.intro @proj_msg3 (And.intro @proj_msg4 (And.intro @proj_msg5 (And.intro @proj_msg6 (And.intro @proj_msg7 (And.intro @proj_msg8 (And.intro @proj_msg9 (And.intro @proj_msg10 (And.intro @proj_msg11 (And.intro @proj_msg12 (And.intro @proj_msg13 (And.intro @proj_msg14 (And.intro @proj_msg15 (And.intro @proj_msg16 (And.intro @sub_msg (And.intro @fit_msg (And.intro @sub_msg_q (And.intro @sub_q (And.intro @fit_q (And.intro @proj_q0 (And.intro @proj_q1 (And.intro @fold_q (And.intro @eta_q (And.intro @fold_msg @eq_q)))))))))))))))))))))))))))
end Go.X
/- Closures and sets of strings, evaluated. -/
namespace Go.X
open Go
def cloB (fn : Fns) (η : List PV) (fl : Bool) (ar : List E) (m : Nat) : PV → Option (List PV)
  | .f f caps => (E.evs η ar).bind fun vs => results fl m η (fn f vs.length (vs ++ caps))
  | _ => none
theorem wev_clo1 {fn : Fns} {η : List PV} (fl : Bool) (c : E) (ar : List E) (m : Nat) : W.ev fn η (.clo none fl c ar m) = (c.ev η).bind (cloB fn η fl ar m) := by
  rw [wev_clo]
  congr 1
  funext q
  cases q with
  | f f caps => rfl
  | _ => cases h : E.evs η ar <;> rfl
theorem cloB_f {fn : Fns} {η : List PV} (fl : Bool) (ar : List E) (m : Nat) (f : Nat) (caps : List PV) : cloB fn η fl ar m (.f f caps) = (E.evs η ar).bind fun vs => results fl m η (fn f vs.length (vs ++ caps)) := rfl
theorem proj_f (f : Nat) (caps : List PV) : projPV 0 (.f f caps) = some (.f f caps) := rfl
theorem scal_f (f : Nat) (caps : List PV) : scalPV (.f f caps) = some (.f f caps) := rfl
/-- a set of strings -/
def setPVs (ks : List (List UInt8)) : PV := .m (ks.map fun k => (.s k, .b true))
theorem set_nil : PV.m [] = setPVs [] := rfl
theorem proj_set (ks : List (List UInt8)) : projPV 0 (setPVs ks) = some (setPVs ks) := rfl
theorem scal_set (ks : List (List UInt8)) : scalPV (setPVs ks) = some (setPVs ks) := rfl
theorem mfind_set (k : List UInt8) : ∀ ks : List (List UInt8), mfind (.s k) (ks.map fun k => (.s k, .b true)) = some (if k ∈ ks then some (.b true) else none)
  | [] => by simp [mfind]
  | x :: ks => by
    simp only [List.map_cons, mfind, keyEq]
    by_cases h : k = x
    · subst h; simp
    · have h2 : (k == x) = false := by simpa using h
      rw [h2]
      simp only [mfind_set k ks, List.mem_cons, h, false_or]
theorem mput_set (k : List UInt8) : ∀ ks : List (List UInt8), mput (.s k) (.b true) (ks.map fun k => (.s k, .b true)) = some ((if k ∈ ks then ks else ks ++ [k]).map fun k => (.s k, .b true))
  | [] => by simp [mput]
  | x :: ks => by
    simp only [List.map_cons, mput, keyEq]
    by_cases h : k = x
    · subst h; simp
    · have h2 : (k == x) = false := by simpa using h
      rw [h2]
      simp only [mput_set k ks, List.mem_cons, h, false_or, Option.map_some]
      by_cases h3 : k ∈ ks <;> simp [h3]
theorem mget_set (k : List UInt8) (ks : List (List UInt8)) : mgetPV (setPVs ks) (.s k) (.b false) = some (.b (decide (k ∈ ks))) := by
  simp only [mgetPV, setPVs, keyOk, if_true, mfind_set, Option.map_some]
  by_cases h : k ∈ ks <;> simp [h]
theorem mset_set (k : List UInt8) (ks : List (List UInt8)) : msetPV (setPVs ks) (.s k) (.b true) = some (setPVs (if k ∈ ks then ks else ks ++ [k])) := by
  simp only [msetPV, setPVs, keyOk, if_true, mput_set, Option.map_some]
theorem lit_recs2 (a b : List Rec) : litPV 1 [recsPV a, recsPV b] = some (.l 1 ([a, b].map recsPV)) := rfl
theorem EVC : type_of% ((And.intro @wev_clo1 (And.intro @cloB_f (And.intro @proj_f (And.intro @scal_f (And.intro @set_nil (And.intro @proj_set (And.intro @scal_set (And.intro @mget_set (And.intro @mset_set @lit_recs2)))))))))) := (And.intro @wev_clo1 (And.intro @cloB_f (And.intro @proj_f (And.intro @scal_f (And.intro @set_nil (And.intro @proj_set (And.intro @scal_set (And.intro @mget_set (And.intro @mset_set @lit_recs2)))))))))
end Go.X
/- What is believed of a response: the plain side. -/
namespace Go.X.G
open Go Go.X

def inZ (zone : List UInt8) (r : Rec) : Bool := under r.name zone
def hostT (t : Int) : Bool := decide (t = 2) || decide (t = 15) || decide (t = 33)
def ment (l : List Rec) (h : List UInt8) : Bool := l.any fun r => hostT r.typ && decide (r.data.host = h)
def adrT (t : Int) : Bool := decide (t = 1) || decide (t = 28)
def extB (a b : List Rec) (zone : List UInt8) (r : Rec) : Bool := inZ zone r && (ment a r.name || ment b r.name) && adrT r.typ
def insideM (m : Msg) (zone : List UInt8) : Msg :=
  { m with ans := m.ans.filter (inZ zone), auth := m.auth.filter (inZ zone), ext := m.ext.filter (extB (m.ans.filter (inZ zone)) (m.auth.filter (inZ zone)) zone) }
def hasL (l : List Rec) (n : List UInt8) (t : Int) : Bool := l.any fun r => decide (r.name = n) && (decide (r.typ = t) || decide (t = 255))
def folL (l : List Rec) (t : Int) : Nat → List UInt8 → List (List UInt8) × List UInt8
  | 0, n => ([], n)
  | k + 1, n => if hasL l n t = true then ([], n) else match findR l n 5 with
    | [] => ([], n)
    | r :: _ => (n :: (folL l t k r.data.host).1, (folL l t k r.data.host).2)
def firB (m : Msg) (t : Int) (zone : List UInt8) (r : Rec) : Bool := decide (r.typ = t) && under m.q.name r.name && (decide (zone = []) || (decide (r.name ≠ zone) && under r.name zone))
def firstP (m : Msg) (t : Int) (zone : List UInt8) : Option Rec := m.auth.find? (firB m t zone)
def refN (m : Msg) (zone : List UInt8) : Option Rec := if zone = [] then none else firstP m 2 zone
def kindM (m : Msg) (zone : List UInt8) : Int :=
  if (m.resp && decide (m.op = 0) && (decide (m.code = 0) || decide (m.code = 3)) && !m.tc) = true then
    (let p := folL m.ans m.q.typ 8 m.q.name
     if hasL m.ans p.2 m.q.typ = true then 1 else if p.1 ≠ [] then 2 else
     if (firstP m 6 []).isSome = true then (if m.code = 3 then 5 else 4) else
     if (refN m zone).isSome = true ∧ m.code = 0 then 3 else 0)
  else 0
def dd (out : List (List UInt8)) : List Rec → List (List UInt8)
  | [] => out
  | r :: rs => if r.data.host ∈ out then dd out rs else dd (out ++ [r.data.host]) rs
def childN (m : Msg) (zone : List UInt8) : List UInt8 × List (List UInt8) × Bool :=
  if kindM m zone = 3 then (match refN m zone with
    | some r => (r.name, dd [] (findR m.auth r.name 2), true)
    | none => ([], [], true))
  else ([], [], false)
def negN (m : Msg) (zone : List UInt8) : Int × Bool :=
  if kindM m zone = 4 ∨ kindM m zone = 5 then (match firstP m 6 [] with
    | some r => (if r.data.e < r.ttl then r.data.e else r.ttl, true)
    | none => (0, true))
  else (0, false)

theorem ment_filter (l : List Rec) (zone h : List UInt8) : ment ((l.filter (inZ zone)).filter (inZ zone)) h = ment (l.filter (inZ zone)) h := by
  rw [List.filter_filter]; simp
theorem inside_twice (m : Msg) (zone : List UInt8) : insideM (insideM m zone) zone = insideM m zone := by
  unfold insideM
  simp only [List.filter_filter, Bool.and_self]
theorem under_nil (n : List UInt8) : under n [] = false := by
  unfold under
  have : vld [] = false := by decide
  rw [this]; simp
end Go.X.G
/- Inside: what the servers of a zone can know. -/
namespace Go.X.G
open Go Go.X

theorem kept_ok (l : List Rec) (g : Nat) (caps : List PV) (p : Rec → Bool) (hl : l.length ≤ 1000000) (h : ∀ r ∈ l, S g 1 (r.pv :: caps) = some [.b (p r)]) : S n_trust_kept 2 [recsPV l, .f g caps] = some [recsPV (l.filter p)] := by
  refine s_trust_kept (N := l.length + 1) rfl ?_
  have key : l0_trust_kept.ev S (l.length + 1) [recsPV l, .f g caps] = some (.yld 0 [recsPV ([] ++ l.filter p)]) := by
    refine loop_acc l (fun i (q : List Rec) => [recsPV q, .i .i64 (i : Int)]) (fun i q r => .yld 0 [recsPV (q ++ r.filter p)]) (fun i q => q.length ≤ i) [] rfl (Nat.zero_le _) (by omega) (fun i q c r hd hi hc hI => ?_) (fun q hI => ?_)
    · left
      have hp := h c (List.mem_of_getElem? hc)
      rcases Bool.eq_false_or_eq_true (p c) with h1 | h1
      · rw [h1] at hp
        refine ⟨q ++ [c], ?_, by simp; omega, by simp [h1]⟩
        simp (disch := omega) only [x_trust_kept, hc, hp, EVC, EVP, ↓reduceIte, EV, if_true, if_false, Nat.reduceAdd, Nat.reduceEqDiff, Int.reduceToNat, ne_eq, not_true, not_false_eq_true, Bool.true_eq_false, reduceCtorEq]
      · rw [h1] at hp
        refine ⟨q, ?_, by omega, by simp [h1]⟩
        simp (disch := omega) only [x_trust_kept, hc, hp, EVC, EVP, ↓reduceIte, EV, if_true, if_false, Nat.reduceAdd, Nat.reduceEqDiff, Int.reduceToNat, ne_eq, not_true, not_false_eq_true, Bool.true_eq_false, reduceCtorEq]
    · simp (disch := omega) only [x_trust_kept, EVP, ↓reduceIte, EV, if_true, if_false, Nat.reduceAdd, Nat.reduceEqDiff, Int.reduceToNat, ne_eq, not_true, not_false_eq_true, Bool.true_eq_false, reduceCtorEq]
      simp [Out.goes]
  simp (disch := omega) only [x_trust_kept, key, EVP, ↓reduceIte, EV, if_true, if_false, Nat.reduceAdd, Nat.reduceEqDiff, Int.reduceToNat, ne_eq, not_true, not_false_eq_true, Bool.true_eq_false, reduceCtorEq]
theorem Inside1_ok (r : Rec) (zone : List UInt8) (hr : r.wf) (hz : strr zone) : S n_trust_Inside_1 1 [r.pv, .s zone] = some [.b (inZ zone r)] := by
  refine s_trust_Inside_1 (N := 1) rfl ?_
  have g1 := hr.name
  unfold strr at g1 hz
  unfold inZ
  simp (disch := omega) only [x_trust_Inside_1, UnderP_ok, EVP, ↓reduceIte, EV, if_true, if_false, Nat.reduceAdd, Nat.reduceEqDiff, Int.reduceToNat, ne_eq, not_true, not_false_eq_true, Bool.true_eq_false, reduceCtorEq]
theorem Inside2_ok (r : Rec) (zone : List UInt8) (ks : List (List UInt8)) (hr : r.wf) (hz : strr zone) : S n_trust_Inside_2 1 [r.pv, .f n_trust_Inside_1 [.s zone], setPVs ks] = some [.b (inZ zone r && decide (r.name ∈ ks) && adrT r.typ)] := by
  refine s_trust_Inside_2 (N := 1) rfl ?_
  have h1 := Inside1_ok r zone hr hz
  unfold adrT
  rcases Bool.eq_false_or_eq_true (inZ zone r) with h2 | h2 <;> rw [h2] at h1 <;> by_cases h3 : r.name ∈ ks <;> by_cases h4 : r.typ = 1 <;> simp (disch := omega) only [x_trust_Inside_2, h1, h3, h4, EVC, EVP, ↓reduceIte, EV, if_true, if_false, Nat.reduceAdd, Nat.reduceEqDiff, Int.reduceToNat, ne_eq, not_true, not_false_eq_true, Bool.true_eq_false, reduceCtorEq] <;> simp [h2, h3, h4]
/-- the hosts of a list, joined to those that are known -/
def addH (ks : List (List UInt8)) : List Rec → List (List UInt8)
  | [] => ks
  | r :: rs => addH (if hostT r.typ = true then (if r.data.host ∈ ks then ks else ks ++ [r.data.host]) else ks) rs
theorem mem_addH (h : List UInt8) : ∀ (l : List Rec) (ks : List (List UInt8)), h ∈ addH ks l ↔ h ∈ ks ∨ ment l h = true
  | [], ks => by simp [addH, ment]
  | r :: rs, ks => by
    rw [addH, mem_addH h rs]
    have hm : ment (r :: rs) h = ((hostT r.typ && decide (r.data.host = h)) || ment rs h) := by simp [ment]
    rw [hm]
    rcases Bool.eq_false_or_eq_true (hostT r.typ) with h1 | h1
    · rw [h1]
      by_cases h2 : r.data.host ∈ ks
      · simp only [h2, if_true, Bool.true_and, Bool.or_eq_true, decide_eq_true_eq]
        constructor
        · rintro (h3 | h3)
          · exact .inl h3
          · exact .inr (.inr h3)
        · rintro (h3 | h3 | h3)
          · exact .inl h3
          · exact .inl (h3 ▸ h2)
          · exact .inr h3
      · simp only [h2, if_true, if_false, Bool.true_and, Bool.or_eq_true, decide_eq_true_eq, List.mem_append, List.mem_singleton]
        constructor
        · rintro ((h3 | h3) | h3)
          · exact .inl h3
          · exact .inr (.inl h3.symm)
          · exact .inr (.inr h3)
        · rintro (h3 | h3 | h3)
          · exact .inl (.inl h3)
          · exact .inl (.inr h3.symm)
          · exact .inr h3
    · rw [h1]; simp
theorem Inside_ok (m : Msg) (zone : List UInt8) (hm : m.wf) (hz : strr zone) (h1 : m.ans.length ≤ 1000) (h2 : m.auth.length ≤ 1000) (h3 : m.ext.length ≤ 1000) : S n_trust_Inside 2 [m.pv, .s zone] = some [(insideM m zone).pv] := by
  refine s_trust_Inside (N := 2000) rfl ?_
  have k1 := kept_ok m.ans n_trust_Inside_1 [.s zone] (inZ zone) (by omega) (fun r hr => Inside1_ok r zone (hm.ans.2 r hr) hz)
  have k2 := kept_ok m.auth n_trust_Inside_1 [.s zone] (inZ zone) (by omega) (fun r hr => Inside1_ok r zone (hm.auth.2 r hr) hz)
  have a1 : (m.ans.filter (inZ zone)).length ≤ 1000 := Nat.le_trans (List.length_filter_le _ _) h1
  have a2 : (m.auth.filter (inZ zone)).length ≤ 1000 := Nat.le_trans (List.length_filter_le _ _) h2
  unfold insideM
  generalize m.ans.filter (inZ zone) = A at *
  generalize m.auth.filter (inZ zone) = B at *
  have inner : ∀ (i : Nat) (c : List Rec) (ks : List (List UInt8)), [A, B][i]? = some c → c.length ≤ 1000 → l1_trust_Inside.ev S 2000 [m.pv, .s zone, recsPV A, recsPV B, .i .i64 (i : Int), setPVs ks] = some (.yld 2 [setPVs (addH ks c)]) := by
    intro i c ks hc hcl
    refine loop_acc c (fun j (g : List (List UInt8)) => [.i .i64 (j : Int), setPVs g]) (fun j g r => .yld 2 [setPVs (addH g r)]) (fun _ _ => True) ks rfl trivial (by omega) (fun j g r rs hd hj hr _ => ?_) (fun g _ => ?_)
    · left
      refine ⟨if hostT r.typ = true then (if r.data.host ∈ g then g else g ++ [r.data.host]) else g, ?_, trivial, rfl⟩
      unfold hostT
      by_cases t1 : r.typ = 2
      · simp (disch := omega) only [x_trust_Inside, hc, hr, t1, EVC, EVP, ↓reduceIte, EV, if_true, if_false, Nat.reduceAdd, Nat.reduceEqDiff, Int.reduceToNat, ne_eq, not_true, not_false_eq_true, Bool.true_eq_false, reduceCtorEq]
        simp
      · by_cases t2 : r.typ = 15
        · simp (disch := omega) only [x_trust_Inside, hc, hr, t2, EVC, EVP, ↓reduceIte, EV, if_true, if_false, Nat.reduceAdd, Nat.reduceEqDiff, Int.reduceToNat, ne_eq, not_true, not_false_eq_true, Bool.true_eq_false, reduceCtorEq]
          simp
        · by_cases t3 : r.typ = 33
          · simp (disch := omega) only [x_trust_Inside, hc, hr, t3, EVC, EVP, ↓reduceIte, EV, if_true, if_false, Nat.reduceAdd, Nat.reduceEqDiff, Int.reduceToNat, ne_eq, not_true, not_false_eq_true, Bool.true_eq_false, reduceCtorEq]
            simp
          · simp (disch := omega) only [x_trust_Inside, hc, hr, t1, t2, t3, EVC, EVP, ↓reduceIte, EV, if_true, if_false, Nat.reduceAdd, Nat.reduceEqDiff, Int.reduceToNat, ne_eq, not_true, not_false_eq_true, Bool.true_eq_false, reduceCtorEq]
            simp [t1, t2, t3]
    · simp (disch := omega) only [x_trust_Inside, hc, EVC, EVP, ↓reduceIte, EV, if_true, if_false, Nat.reduceAdd, Nat.reduceEqDiff, Int.reduceToNat, ne_eq, not_true, not_false_eq_true, Bool.true_eq_false, reduceCtorEq]
      simp [Out.goes, addH]
  have outer : l0_trust_Inside.ev S 2000 [m.pv, .s zone, recsPV A, recsPV B] = some (.yld 0 [setPVs (addH (addH [] A) B)]) := by
    refine loop_acc [A, B] (fun i (g : List (List UInt8)) => [.i .i64 (i : Int), setPVs g]) (fun i g r => .yld 0 [setPVs (r.foldl addH g)]) (fun _ _ => True) [] rfl trivial (by simp) (fun i g c r hd hi hc _ => ?_) (fun g _ => ?_)
    · left
      refine ⟨addH g c, ?_, trivial, rfl⟩
      have hcl : c.length ≤ 1000 := by
        have := List.mem_of_getElem? hc
        simp at this
        rcases this with rfl | rfl <;> omega
      have hi2 : i < 2 := hi
      have k := inner i c g hc hcl
      simp (disch := omega) only [x_trust_Inside, hc, k, EVC, EVP, ↓reduceIte, EV, if_true, if_false, Nat.reduceAdd, Nat.reduceEqDiff, Int.reduceToNat, ne_eq, not_true, not_false_eq_true, Bool.true_eq_false, reduceCtorEq]
    · simp (disch := omega) only [x_trust_Inside, EVC, EVP, ↓reduceIte, EV, if_true, if_false, Nat.reduceAdd, Nat.reduceEqDiff, Int.reduceToNat, ne_eq, not_true, not_false_eq_true, Bool.true_eq_false, reduceCtorEq]
      simp [Out.goes]
  have k3 := kept_ok m.ext n_trust_Inside_2 [.f n_trust_Inside_1 [.s zone], setPVs (addH (addH [] A) B)] (extB A B zone) (by omega) (fun r hr => by
    rw [Inside2_ok r zone _ (hm.ext.2 r hr) hz]
    unfold extB
    have : decide (r.name ∈ addH (addH [] A) B) = (ment A r.name || ment B r.name) := by
      rw [Bool.eq_iff_iff]; simp [mem_addH]
    rw [this])
  simp (disch := omega) only [x_trust_Inside, k1, k2, outer, k3, EVC, EVM, EVP, ↓reduceIte, EV, if_true, if_false, Nat.reduceAdd, Nat.reduceEqDiff, Int.reduceToNat, ne_eq, not_true, not_false_eq_true, Bool.true_eq_false, reduceCtorEq]
end Go.X.G
/- The kind of a response. -/
namespace Go.X.G
open Go Go.X

def ixF (p : Rec → Bool) (k : Nat) : List Rec → Int
  | [] => -1
  | r :: rs => if p r = true then (k : Int) else ixF p (k + 1) rs
theorem ixF_any (p : Rec → Bool) : ∀ (l : List Rec) (k : Nat), (0 ≤ ixF p k l ↔ l.any p = true) ∧ ixF p k l ≤ k + l.length ∧ -1 ≤ ixF p k l
  | [], k => by simp [ixF]
  | r :: rs, k => by
    have ih := ixF_any p rs (k + 1)
    rcases Bool.eq_false_or_eq_true (p r) with h | h
    · simp [ixF, h]; omega
    · simp only [ixF, h, List.any_cons, Bool.false_or, List.length_cons]
      refine ⟨by simpa using ih.1, ?_, by simpa using ih.2.2⟩
      have := ih.2.1
      simp only [Bool.false_eq_true, if_false] at this ⊢
      omega
theorem IndexFuncR_ok (l : List Rec) (g : Nat) (caps : List PV) (p : Rec → Bool) (hl : l.length ≤ 1000000) (h : ∀ r ∈ l, S g 1 (r.pv :: caps) = some [.b (p r)]) : S n_slices_IndexFunc_api_Record_api_Record 2 [recsPV l, .f g caps] = some [.i .i64 (ixF p 0 l)] := by
  refine s_slices_IndexFunc_api_Record_api_Record (N := l.length + 1) rfl ?_
  have key : l0_slices_IndexFunc_api_Record_api_Record.ev S (l.length + 1) [recsPV l, .f g caps] = some (if ixF p 0 l = -1 then .yld 0 [] else .ret [.i .i64 (ixF p 0 l)]) := by
    refine loop_list l (fun i => [.i .i64 (i : Int)]) (fun i r => if ixF p i r = -1 then .yld 0 [] else .ret [.i .i64 (ixF p i r)]) rfl (by omega) (fun i c r hd hi hc => ?_) ?_
    · have hp := h c (List.mem_of_getElem? hc)
      rcases Bool.eq_false_or_eq_true (p c) with h1 | h1
      · rw [h1] at hp
        right
        have h2 : ¬ ((i : Int) = -1) := by omega
        simp (disch := omega) only [x_slices_IndexFunc_api_Record_api_Record, hc, hp, EVC, EVP, ↓reduceIte, EV, if_true, if_false, Nat.reduceAdd, Nat.reduceEqDiff, Int.reduceToNat, ne_eq, not_true, not_false_eq_true, Bool.true_eq_false, reduceCtorEq]
        simp [ixF, h1, h2, Out.goes]
      · rw [h1] at hp
        left
        simp (disch := omega) only [x_slices_IndexFunc_api_Record_api_Record, hc, hp, EVC, EVP, ↓reduceIte, EV, if_true, if_false, Nat.reduceAdd, Nat.reduceEqDiff, Int.reduceToNat, ne_eq, not_true, not_false_eq_true, Bool.true_eq_false, reduceCtorEq]
        simp [ixF, h1]
    · simp (disch := omega) only [x_slices_IndexFunc_api_Record_api_Record, EVC, EVP, ↓reduceIte, EV, if_true, if_false, Nat.reduceAdd, Nat.reduceEqDiff, Int.reduceToNat, ne_eq, not_true, not_false_eq_true, Bool.true_eq_false, reduceCtorEq]
      simp [ixF, Out.goes]
  by_cases h1 : ixF p 0 l = -1
  · rw [if_pos h1] at key
    simp (disch := omega) only [x_slices_IndexFunc_api_Record_api_Record, key, h1, EVC, EVP, ↓reduceIte, EV, if_true, if_false, Nat.reduceAdd, Nat.reduceEqDiff, Int.reduceToNat, ne_eq, not_true, not_false_eq_true, Bool.true_eq_false, reduceCtorEq]
  · rw [if_neg h1] at key
    simp (disch := omega) only [x_slices_IndexFunc_api_Record_api_Record, key, EVC, EVP, ↓reduceIte, EV, if_true, if_false, Nat.reduceAdd, Nat.reduceEqDiff, Int.reduceToNat, ne_eq, not_true, not_false_eq_true, Bool.true_eq_false, reduceCtorEq]
theorem ContainsFuncR_ok (l : List Rec) (g : Nat) (caps : List PV) (p : Rec → Bool) (hl : l.length ≤ 1000000) (h : ∀ r ∈ l, S g 1 (r.pv :: caps) = some [.b (p r)]) : S n_slices_ContainsFunc_api_Record_api_Record 2 [recsPV l, .f g caps] = some [.b (l.any p)] := by
  refine s_slices_ContainsFunc_api_Record_api_Record (N := 1) rfl ?_
  simp (disch := omega) only [x_slices_ContainsFunc_api_Record_api_Record, IndexFuncR_ok l g caps p hl h, EVC, EVP, ↓reduceIte, EV, if_true, if_false, Nat.reduceAdd, Nat.reduceEqDiff, Int.reduceToNat, ne_eq, not_true, not_false_eq_true, Bool.true_eq_false, reduceCtorEq]
  have := (ixF_any p l 0).1
  rcases Bool.eq_false_or_eq_true (l.any p) with h1 | h1
  · rw [h1] at this ⊢; simp [this.2 rfl]
  · rw [h1] at this ⊢
    have h2 : ¬ (0 ≤ ixF p 0 l) := fun h => by simpa using this.1 h
    simp [h2]
theorem has1_ok (r : Rec) (q : Ques) : S n_trust_has_1 1 [r.pv, q.pv] = some [.b (decide (r.name = q.name) && (decide (r.typ = q.typ) || decide (q.typ = 255)))] := by
  refine s_trust_has_1 (N := 1) rfl ?_
  by_cases h1 : r.name = q.name <;> by_cases h2 : r.typ = q.typ <;> by_cases h3 : q.typ = 255 <;> simp (disch := omega) only [x_trust_has_1, h1, h2, h3, EVM, EVC, EVP, ↓reduceIte, EV, if_true, if_false, Nat.reduceAdd, Nat.reduceEqDiff, Int.reduceToNat, ne_eq, not_true, not_false_eq_true, Bool.true_eq_false, reduceCtorEq] <;> simp [h1, h2, h3]
theorem hasP_ok (l : List Rec) (q : Ques) (hl : l.length ≤ 1000000) : S n_trust_has 2 [recsPV l, q.pv] = some [.b (hasL l q.name q.typ)] := by
  refine s_trust_has (N := 1) rfl ?_
  have h1 := ContainsFuncR_ok l n_trust_has_1 [q.pv] _ hl (fun r _ => has1_ok r q)
  unfold hasL
  simp (disch := omega) only [x_trust_has, h1, EVM, EVC, EVP, ↓reduceIte, EV, if_true, if_false, Nat.reduceAdd, Nat.reduceEqDiff, Int.reduceToNat, ne_eq, not_true, not_false_eq_true, Bool.true_eq_false, reduceCtorEq]
theorem findR_len (l : List Rec) (n : List UInt8) (t : Int) : (findR l n t).length ≤ l.length := List.length_filter_le _ _
theorem folL_len (l : List Rec) (t : Int) : ∀ (k : Nat) (n : List UInt8), (folL l t k n).1.length ≤ k
  | 0, n => by simp [folL]
  | k + 1, n => by
    unfold folL
    split
    · simp
    · split
      · simp
      · simp; exact folL_len l t k _
theorem followP_ok (m : Msg) (hl : m.ans.length ≤ 1000000) : S n_trust_follow 1 [m.pv] = some [strsPV (folL m.ans m.q.typ 8 m.q.name).1, .s (folL m.ans m.q.typ 8 m.q.name).2] := by
  refine s_trust_follow (N := 100) rfl ?_
  have key : l0_trust_follow.ev S 100 [m.pv] = some (.yld 0 [strsPV ([] ++ (folL m.ans m.q.typ (8 - ([] : List (List UInt8)).length) m.q.name).1), .s (folL m.ans m.q.typ (8 - ([] : List (List UInt8)).length) m.q.name).2]) := by
    refine loop_rule (fun (a : List (List UInt8) × List UInt8) => [strsPV a.1, .s a.2]) (fun a => .yld 0 [strsPV (a.1 ++ (folL m.ans m.q.typ (8 - a.1.length) a.2).1), .s (folL m.ans m.q.typ (8 - a.1.length) a.2).2]) (fun a => a.1.length ≤ 8) (fun a => 8 - a.1.length) ([], m.q.name) rfl (by simp) (by simp) (fun a ha => ?_)
    obtain ⟨ns, n⟩ := a
    simp only at ha ⊢
    by_cases h8 : ns.length = 8
    · right
      have e : 8 - ns.length = 0 := by omega
      rw [e]
      simp (disch := omega) only [x_trust_follow, hasP_ok, FindP_ok, h8, EVM, EVC, EVP, ↓reduceIte, EV, if_true, if_false, Nat.reduceAdd, Nat.reduceEqDiff, Int.reduceToNat, ne_eq, not_true, not_false_eq_true, Bool.true_eq_false, reduceCtorEq]
      simp [folL, Out.goes]
    · obtain ⟨k, hk⟩ : ∃ k, 8 - ns.length = k + 1 := ⟨7 - ns.length, by omega⟩
      have hlt : ns.length < 8 := by omega
      rw [hk]
      rcases Bool.eq_false_or_eq_true (hasL m.ans n m.q.typ) with h1 | h1
      · right
        have e : folL m.ans m.q.typ (k + 1) n = ([], n) := by unfold folL; rw [if_pos h1]
        rw [e]
        simp (disch := omega) only [x_trust_follow, hasP_ok, h1, EVM, EVC, EVP, ↓reduceIte, EV, if_true, if_false, Nat.reduceAdd, Nat.reduceEqDiff, Int.reduceToNat, ne_eq, not_true, not_false_eq_true, Bool.true_eq_false, reduceCtorEq]
        simp [Out.goes]
      · cases hf : findR m.ans n 5 with
        | nil =>
          right
          have e : folL m.ans m.q.typ (k + 1) n = ([], n) := by unfold folL; rw [if_neg (by simp [h1]), hf]
          rw [e]
          simp (disch := first | omega | (simp; omega)) only [x_trust_follow, hasP_ok, FindP_ok, hf, h1, EVM, EVC, EVP, ↓reduceIte, EV, if_true, if_false, Nat.reduceAdd, Nat.reduceEqDiff, Int.reduceToNat, ne_eq, not_true, not_false_eq_true, Bool.true_eq_false, reduceCtorEq]
          simp [Out.goes]
        | cons r rs =>
          left
          have e : folL m.ans m.q.typ (k + 1) n = (n :: (folL m.ans m.q.typ k r.data.host).1, (folL m.ans m.q.typ k r.data.host).2) := by unfold folL; rw [if_neg (by simp [h1]), hf]; simp only; cases k <;> rfl
          have hne : ¬ (((rs.length + 1 : Nat) : Int) = 0) := by omega
          refine ⟨(ns ++ [n], r.data.host), ?_, by simp; omega, by simp; omega, ?_⟩
          · simp (disch := first | omega | (simp; omega)) only [x_trust_follow, hasP_ok, FindP_ok, hf, h1, EVM, EVC, EVP, ↓reduceIte, EV, if_true, if_false, Nat.reduceAdd, Nat.reduceEqDiff, Int.reduceToNat, ne_eq, not_true, not_false_eq_true, Bool.true_eq_false, reduceCtorEq]
          · have e2 : 8 - (ns ++ [n]).length = k := by simp; omega
            simp only [e2, e]
            simp
  simp only [List.nil_append, List.length_nil, Nat.sub_zero] at key
  simp (disch := omega) only [x_trust_follow, key, EVM, EVP, ↓reduceIte, EV, if_true, if_false, Nat.reduceAdd, Nat.reduceEqDiff, Int.reduceToNat, ne_eq, not_true, not_false_eq_true, Bool.true_eq_false, reduceCtorEq]
/-- whether following ends by itself -/
def folE (l : List Rec) (t : Int) : Nat → List UInt8 → Bool
  | 0, _ => false
  | k + 1, n => if hasL l n t = true then true else match findR l n 5 with
    | [] => true
    | r :: _ => folE l t k r.data.host
end Go.X.G
/- What a response says, by the program and by the reference. -/
namespace Go.X.G
open Go Go.X

def zrec : Rec := ⟨[], 0, 0, ⟨false, 0, 0, [], [], [], 0, 0, 0, 0, 0, 0, 0⟩⟩
def optR : Option Rec → List PV
  | some r => [r.pv, .b true]
  | none => [zrec.pv, .b false]
def zst (i : Nat) : List PV := .i .i64 (i : Int) :: zrec.cells
theorem zst_eq (i : Nat) : zst i = [.i .i64 (i : Int), .s [], .i .i64 0, .i .i64 0, .b false, .i .u64 0, .i .u64 0, .s [], .s [], .s [], .i .i64 0, .i .i64 0, .i .i64 0, .i .i64 0, .i .i64 0, .i .i64 0, .i .u64 0] := rfl
theorem zcells_eq : zrec.cells = [.s [], .i .i64 0, .i .i64 0, .b false, .i .u64 0, .i .u64 0, .s [], .s [], .s [], .i .i64 0, .i .i64 0, .i .i64 0, .i .i64 0, .i .i64 0, .i .i64 0, .i .u64 0] := rfl
def outR (id : Nat) : Option Rec → Out
  | some r => .ret [r.pv, .b true]
  | none => .yld id zrec.cells
theorem outR_some (id : Nat) (r : Rec) : outR id (some r) = .ret [r.pv, .b true] := rfl
theorem outR_none (id : Nat) : outR id none = .yld id zrec.cells := rfl
theorem first_ok (m : Msg) (t : Int) (zone : List UInt8) (hm : m.wf) (hz : strr zone) (hl : m.auth.length ≤ 1000000) : S n_trust_first 3 [m.pv, .i .i64 t, .s zone] = some (optR (firstP m t zone)) := by
  refine s_trust_first (N := m.auth.length + 1) rfl ?_
  have gq := hm.q.name
  unfold strr at hz gq
  have key : l0_trust_first.ev S (m.auth.length + 1) [m.pv, .i .i64 t, .s zone] = some (outR 0 (m.auth.find? (firB m t zone))) := by
    refine loop_list m.auth zst (fun i r => outR 0 (r.find? (firB m t zone))) rfl (by omega) (fun i c r hd hi hc => ?_) ?_
    · have hp := (hm.auth.2 c (List.mem_of_getElem? hc)).name
      unfold strr at hp
      have hb : firB m t zone c = (decide (c.typ = t) && under m.q.name c.name && (decide (zone = []) || (decide (c.name ≠ zone) && under c.name zone))) := rfl
      rcases Bool.eq_false_or_eq_true (firB m t zone c) with h | h
      · right
        have e : (c :: r).find? (firB m t zone) = some c := by simp [h]
        rw [e, outR_some]
        rw [hb] at h
        rw [zst_eq]
        by_cases t1 : c.typ = t
        · rcases Bool.eq_false_or_eq_true (under m.q.name c.name) with t2 | t2
          · by_cases t3 : zone = []
            · simp (disch := omega) only [x_trust_first, hc, UnderP_ok, t1, t2, t3, EVM, EVC, EVP, ↓reduceIte, EV, if_true, if_false, Nat.reduceAdd, Nat.reduceEqDiff, Int.reduceToNat, ne_eq, not_true, not_false_eq_true, Bool.true_eq_false, reduceCtorEq]
              simp [Out.goes]
            · by_cases t4 : c.name = zone
              · exfalso; simp [t3, t4] at h
              · rcases Bool.eq_false_or_eq_true (under c.name zone) with t5 | t5
                · simp (disch := omega) only [x_trust_first, hc, UnderP_ok, t1, t2, t3, t4, t5, EVM, EVC, EVP, ↓reduceIte, EV, if_true, if_false, Nat.reduceAdd, Nat.reduceEqDiff, Int.reduceToNat, ne_eq, not_true, not_false_eq_true, Bool.true_eq_false, reduceCtorEq]
                  simp [Out.goes]
                · exfalso; simp [t3, t4, t5] at h
          · exfalso; simp [t2] at h
        · exfalso; simp [t1] at h
      · left
        have e : (c :: r).find? (firB m t zone) = r.find? (firB m t zone) := by simp [h]
        rw [e]
        refine ⟨?_, rfl⟩
        rw [hb] at h
        rw [zst_eq, zst_eq]
        by_cases t1 : c.typ = t
        · rcases Bool.eq_false_or_eq_true (under m.q.name c.name) with t2 | t2
          · by_cases t3 : zone = []
            · exfalso; simp [t1, t2, t3] at h
            · by_cases t4 : c.name = zone
              · simp (disch := omega) only [x_trust_first, hc, UnderP_ok, t1, t2, t3, t4, EVM, EVC, EVP, ↓reduceIte, EV, if_true, if_false, Nat.reduceAdd, Nat.reduceEqDiff, Int.reduceToNat, ne_eq, not_true, not_false_eq_true, Bool.true_eq_false, reduceCtorEq]
                simp
              · rcases Bool.eq_false_or_eq_true (under c.name zone) with t5 | t5
                · exfalso; simp [t1, t2, t4, t5] at h
                · simp (disch := omega) only [x_trust_first, hc, UnderP_ok, t1, t2, t3, t4, t5, EVM, EVC, EVP, ↓reduceIte, EV, if_true, if_false, Nat.reduceAdd, Nat.reduceEqDiff, Int.reduceToNat, ne_eq, not_true, not_false_eq_true, Bool.true_eq_false, reduceCtorEq]
          · simp (disch := omega) only [x_trust_first, hc, UnderP_ok, t1, t2, EVM, EVC, EVP, ↓reduceIte, EV, if_true, if_false, Nat.reduceAdd, Nat.reduceEqDiff, Int.reduceToNat, ne_eq, not_true, not_false_eq_true, Bool.true_eq_false, reduceCtorEq]
        · simp (disch := omega) only [x_trust_first, hc, UnderP_ok, t1, EVM, EVC, EVP, ↓reduceIte, EV, if_true, if_false, Nat.reduceAdd, Nat.reduceEqDiff, Int.reduceToNat, ne_eq, not_true, not_false_eq_true, Bool.true_eq_false, reduceCtorEq]
    · rw [zst_eq]
      simp (disch := omega) only [x_trust_first, EVM, EVC, EVP, ↓reduceIte, EV, if_true, if_false, Nat.reduceAdd, Nat.reduceEqDiff, Int.reduceToNat, ne_eq, not_true, not_false_eq_true, Bool.true_eq_false, reduceCtorEq]
      simp [outR_none, zcells_eq, Out.goes]
  unfold firstP
  cases h : m.auth.find? (firB m t zone) with
  | none =>
    rw [h, outR_none, zcells_eq] at key
    simp (disch := omega) only [x_trust_first, key, EVM, EVC, EVP, ↓reduceIte, EV, if_true, if_false, Nat.reduceAdd, Nat.reduceEqDiff, Int.reduceToNat, ne_eq, not_true, not_false_eq_true, Bool.true_eq_false, reduceCtorEq]
    rfl
  | some r =>
    rw [h, outR_some] at key
    simp (disch := omega) only [x_trust_first, key, EVM, EVC, EVP, ↓reduceIte, EV, if_true, if_false, Nat.reduceAdd, Nat.reduceEqDiff, Int.reduceToNat, ne_eq, not_true, not_false_eq_true, Bool.true_eq_false, reduceCtorEq]
    rfl
theorem refersP_ok (m : Msg) (zone : List UInt8) (hm : m.wf) (hz : strr zone) (hl : m.auth.length ≤ 1000000) : S n_trust_refers 2 [m.pv, .s zone] = some (match refN m zone with | some r => [.s r.name, .b true] | none => [.s [], .b false]) := by
  refine s_trust_refers (N := 1) rfl ?_
  unfold refN
  by_cases h : zone = []
  · simp (disch := omega) only [x_trust_refers, h, EVM, EVC, EVP, ↓reduceIte, EV, if_true, if_false, Nat.reduceAdd, Nat.reduceEqDiff, Int.reduceToNat, ne_eq, not_true, not_false_eq_true, Bool.true_eq_false, reduceCtorEq]
  · have k := first_ok m 2 zone hm hz hl
    rw [if_neg h]
    cases h2 : firstP m 2 zone with
    | none =>
      rw [h2] at k
      unfold optR at k
      simp (disch := omega) only [x_trust_refers, h, k, EVM, EVC, EVP, ↓reduceIte, EV, if_true, if_false, Nat.reduceAdd, Nat.reduceEqDiff, Int.reduceToNat, ne_eq, not_true, not_false_eq_true, Bool.true_eq_false, reduceCtorEq]
      rfl
    | some r =>
      rw [h2] at k
      unfold optR at k
      simp (disch := omega) only [x_trust_refers, h, k, EVM, EVC, EVP, ↓reduceIte, EV, if_true, if_false, Nat.reduceAdd, Nat.reduceEqDiff, Int.reduceToNat, ne_eq, not_true, not_false_eq_true, Bool.true_eq_false, reduceCtorEq]
theorem refN_eq (m : Msg) (zone : List UInt8) : refN m zone = m.auth.find? fun r => decide (r.typ = 2) && decide (r.name ≠ zone) && under r.name zone && under m.q.name r.name := by
  unfold refN firstP
  by_cases h : zone = []
  · rw [if_pos h]
    subst h
    symm
    rw [List.find?_eq_none]
    intro r _
    simp [under_nil]
  · rw [if_neg h]
    congr 1
    funext r
    unfold firB
    simp only [h, decide_false, Bool.false_or]
    cases decide (r.typ = 2) <;> cases decide (r.name ≠ zone) <;> cases under r.name zone <;> cases under m.q.name r.name <;> rfl
end Go.X.G
/- Kinds, children and negative answers. -/
namespace Go.X.G
open Go Go.X

theorem kind_bad {m : Msg} {zone : List UInt8} (h : (m.resp && decide (m.op = 0) && (decide (m.code = 0) || decide (m.code = 3)) && !m.tc) = false) : kindM m zone = 0 := by
  unfold kindM; rw [if_neg (by simp [h])]
theorem kindP_ok (m : Msg) (zone : List UInt8) (hm : m.wf) (hz : strr zone) (h1 : m.ans.length ≤ 1000) (h2 : m.auth.length ≤ 1000) : S n_trust_kind 2 [m.pv, .s zone] = some [.i .i64 (kindM m zone)] := by
  refine s_trust_kind (N := 1) rfl ?_
  rcases Bool.eq_false_or_eq_true (m.resp && decide (m.op = 0) && (decide (m.code = 0) || decide (m.code = 3)) && !m.tc) with hg | hg
  · have k1 := followP_ok m (by omega)
    have k2 := first_ok m 6 [] hm (by unfold strr; simp) (by omega)
    have k3 := refersP_ok m zone hm hz (by omega)
    have k4 := hasP_ok m.ans ⟨(folL m.ans m.q.typ 8 m.q.name).2, m.q.typ⟩ (by omega)
    unfold kindM
    rw [if_pos hg]
    have g3 : strr (folL m.ans m.q.typ 8 m.q.name).2 := by
      have go : ∀ (k : Nat) (n : List UInt8), strr n → strr (folL m.ans m.q.typ k n).2 := by
        intro k
        induction k with
        | zero => intro n hn; exact hn
        | succ k ih =>
          intro n hn
          unfold folL
          split
          · exact hn
          · split
            · exact hn
            · rename_i r rs hf
              have : r ∈ findR m.ans n 5 := by rw [hf]; simp
              exact ih _ (hm.ans.2 r (List.mem_filter.1 this).1).data.host
      exact go 8 _ hm.q.name
    simp only at k4 ⊢
    generalize hp : folL m.ans m.q.typ 8 m.q.name = p at *
    obtain ⟨ns, last⟩ := p
    simp only at k1 k4 g3 ⊢
    simp only [Bool.and_eq_true, Bool.or_eq_true, decide_eq_true_eq, Bool.not_eq_true'] at hg
    obtain ⟨⟨⟨e1, e2⟩, e3⟩, e4⟩ := hg
    have hns : (ns = [] ∧ ns.length = 0) ∨ (ns ≠ [] ∧ ¬ ns.length = 0 ∧ (0 : Int) < (ns.length : Int)) := by
      cases ns with
      | nil => exact .inl ⟨rfl, rfl⟩
      | cons a b => exact .inr ⟨by simp, by simp, by simp⟩
    cases q2 : firstP m 6 [] with
    | none =>
      rw [q2] at k2
      unfold optR at k2
      cases q3 : refN m zone with
      | none =>
        rw [q3] at k3
        simp only at k3
        rcases Bool.eq_false_or_eq_true (hasL m.ans last m.q.typ) with e5 | e5 <;> rcases hns with ⟨n1, n2⟩ | ⟨n1, n2, n3⟩ <;> rcases e3 with e3 | e3 <;> simp (disch := omega) only [x_trust_kind, k1, k2, k3, k4, e1, e2, e3, e4, e5, n2, EVM, EVC, EVP, ↓reduceIte, EV, if_true, if_false, Nat.reduceAdd, Nat.reduceEqDiff, Int.reduceToNat, ne_eq, not_true, not_false_eq_true, Bool.true_eq_false, reduceCtorEq] <;> simp [n1]
      | some r3 =>
        rw [q3] at k3
        simp only at k3
        rcases Bool.eq_false_or_eq_true (hasL m.ans last m.q.typ) with e5 | e5 <;> rcases hns with ⟨n1, n2⟩ | ⟨n1, n2, n3⟩ <;> rcases e3 with e3 | e3 <;> simp (disch := omega) only [x_trust_kind, k1, k2, k3, k4, e1, e2, e3, e4, e5, n2, EVM, EVC, EVP, ↓reduceIte, EV, if_true, if_false, Nat.reduceAdd, Nat.reduceEqDiff, Int.reduceToNat, ne_eq, not_true, not_false_eq_true, Bool.true_eq_false, reduceCtorEq] <;> simp [n1]
    | some r2 =>
      rw [q2] at k2
      unfold optR at k2
      cases q3 : refN m zone with
      | none =>
        rw [q3] at k3
        simp only at k3
        rcases Bool.eq_false_or_eq_true (hasL m.ans last m.q.typ) with e5 | e5 <;> rcases hns with ⟨n1, n2⟩ | ⟨n1, n2, n3⟩ <;> rcases e3 with e3 | e3 <;> simp (disch := omega) only [x_trust_kind, k1, k2, k3, k4, e1, e2, e3, e4, e5, n2, EVM, EVC, EVP, ↓reduceIte, EV, if_true, if_false, Nat.reduceAdd, Nat.reduceEqDiff, Int.reduceToNat, ne_eq, not_true, not_false_eq_true, Bool.true_eq_false, reduceCtorEq] <;> simp [n1]
      | some r3 =>
        rw [q3] at k3
        simp only at k3
        rcases Bool.eq_false_or_eq_true (hasL m.ans last m.q.typ) with e5 | e5 <;> rcases hns with ⟨n1, n2⟩ | ⟨n1, n2, n3⟩ <;> rcases e3 with e3 | e3 <;> simp (disch := omega) only [x_trust_kind, k1, k2, k3, k4, e1, e2, e3, e4, e5, n2, EVM, EVC, EVP, ↓reduceIte, EV, if_true, if_false, Nat.reduceAdd, Nat.reduceEqDiff, Int.reduceToNat, ne_eq, not_true, not_false_eq_true, Bool.true_eq_false, reduceCtorEq] <;> simp [n1]
  · rw [kind_bad hg]
    rcases Bool.eq_false_or_eq_true m.resp with e1 | e1
    · by_cases e2 : m.op = 0
      · by_cases e3 : m.code = 0
        · have e4 : m.tc = true := by simpa [e1, e2, e3] using hg
          simp (disch := omega) only [x_trust_kind, e1, e2, e3, e4, EVM, EVC, EVP, ↓reduceIte, EV, if_true, if_false, Nat.reduceAdd, Nat.reduceEqDiff, Int.reduceToNat, ne_eq, not_true, not_false_eq_true, Bool.true_eq_false, reduceCtorEq]
        · by_cases e5 : m.code = 3
          · have e4 : m.tc = true := by simpa [e1, e2, e5] using hg
            simp (disch := omega) only [x_trust_kind, e1, e2, e5, e4, EVM, EVC, EVP, ↓reduceIte, EV, if_true, if_false, Nat.reduceAdd, Nat.reduceEqDiff, Int.reduceToNat, ne_eq, not_true, not_false_eq_true, Bool.true_eq_false, reduceCtorEq]
          · simp (disch := omega) only [x_trust_kind, e1, e2, e3, e5, EVM, EVC, EVP, ↓reduceIte, EV, if_true, if_false, Nat.reduceAdd, Nat.reduceEqDiff, Int.reduceToNat, ne_eq, not_true, not_false_eq_true, Bool.true_eq_false, reduceCtorEq]
      · simp (disch := omega) only [x_trust_kind, e1, e2, EVM, EVC, EVP, ↓reduceIte, EV, if_true, if_false, Nat.reduceAdd, Nat.reduceEqDiff, Int.reduceToNat, ne_eq, not_true, not_false_eq_true, Bool.true_eq_false, reduceCtorEq]
    · simp (disch := omega) only [x_trust_kind, e1, EVM, EVC, EVP, ↓reduceIte, EV, if_true, if_false, Nat.reduceAdd, Nat.reduceEqDiff, Int.reduceToNat, ne_eq, not_true, not_false_eq_true, Bool.true_eq_false, reduceCtorEq]
/-- what is asked of a message: its sections are short, its cells are in range -/
structure MOk (m : Msg) : Prop where
  wf : m.wf
  ans : m.ans.length ≤ 1000
  auth : m.auth.length ≤ 1000
  ext : m.ext.length ≤ 1000
theorem recsr_filter {l : List Rec} (p : Rec → Bool) (h : recsr l) : recsr (l.filter p) := ⟨Nat.le_trans (List.length_filter_le _ _) h.1, fun r hr => h.2 r (List.mem_filter.1 hr).1⟩
theorem MOk.inside {m : Msg} (h : MOk m) (zone : List UInt8) : MOk (insideM m zone) :=
  ⟨⟨h.wf.id, h.wf.op, h.wf.code, h.wf.size, h.wf.q, recsr_filter _ h.wf.ans, recsr_filter _ h.wf.auth, recsr_filter _ h.wf.ext⟩,
   Nat.le_trans (List.length_filter_le _ _) h.ans, Nat.le_trans (List.length_filter_le _ _) h.auth, Nat.le_trans (List.length_filter_le _ _) h.ext⟩
theorem ClassifyP_ok (m : Msg) (zone : List UInt8) (hm : MOk m) (hz : strr zone) : S n_trust_Classify 2 [m.pv, .s zone] = some [.i .i64 (kindM (insideM m zone) zone)] := by
  refine s_trust_Classify (N := 1) rfl ?_
  have k1 := Inside_ok m zone hm.wf hz hm.ans hm.auth hm.ext
  have hi := hm.inside zone
  have k2 := kindP_ok (insideM m zone) zone hi.wf hz hi.ans hi.auth
  simp (disch := omega) only [x_trust_Classify, k1, k2, EVM, EVC, EVP, ↓reduceIte, EV, if_true, if_false, Nat.reduceAdd, Nat.reduceEqDiff, Int.reduceToNat, ne_eq, not_true, not_false_eq_true, Bool.true_eq_false, reduceCtorEq]
/-! ### Child -/
theorem IndexS_ok (l : List (List UInt8)) (x : List UInt8) (hl : l.length ≤ 1000000) : ∃ k : Int, (0 ≤ k ↔ x ∈ l) ∧ S n_slices_Index_string_string 2 [strsPV l, .s x] = some [.i .i64 k] := by
  have go : ∀ (i : Nat) (l : List (List UInt8)), ∃ k : Int, k = (match l.findIdx? (· = x) with | some j => ((i + j : Nat) : Int) | none => -1) ∧ (0 ≤ k ↔ x ∈ l) := by
    intro i l
    refine ⟨_, rfl, ?_⟩
    cases h : l.findIdx? (· = x) with
    | none =>
      rw [List.findIdx?_eq_none_iff] at h
      simp only
      constructor
      · intro h2; omega
      · intro h2; have := h x h2; simp at this
    | some j =>
      simp only
      constructor
      · intro _
        rw [List.findIdx?_eq_some_iff_getElem] at h
        obtain ⟨h1, h2, _⟩ := h
        simp at h2
        rw [← h2]; exact List.getElem_mem _
      · intro _; omega
  obtain ⟨k, hk, hk2⟩ := go 0 l
  refine ⟨k, hk2, ?_⟩
  refine s_slices_Index_string_string (N := l.length + 1) rfl ?_
  have key : l0_slices_Index_string_string.ev S (l.length + 1) [strsPV l, .s x] = some (match l.findIdx? (· = x) with | some j => .ret [.i .i64 ((0 + j : Nat) : Int)] | none => .yld 0 []) := by
    refine loop_list l (fun i => [.i .i64 (i : Int)]) (fun i r => match r.findIdx? (· = x) with | some j => .ret [.i .i64 ((i + j : Nat) : Int)] | none => .yld 0 []) rfl (by omega) (fun i c r hd hi hc => ?_) ?_
    · by_cases h : x = c
      · right
        simp (disch := omega) only [x_slices_Index_string_string, hc, h, EVM, EVC, EVP, ↓reduceIte, EV, if_true, if_false, Nat.reduceAdd, Nat.reduceEqDiff, Int.reduceToNat, ne_eq, not_true, not_false_eq_true, Bool.true_eq_false, reduceCtorEq]
        simp [List.findIdx?_cons, Out.goes]
      · left
        have h' : ¬ c = x := fun e => h e.symm
        simp (disch := omega) only [x_slices_Index_string_string, hc, h, EVM, EVC, EVP, ↓reduceIte, EV, if_true, if_false, Nat.reduceAdd, Nat.reduceEqDiff, Int.reduceToNat, ne_eq, not_true, not_false_eq_true, Bool.true_eq_false, reduceCtorEq]
        refine ⟨trivial, ?_⟩
        simp only [List.findIdx?_cons, h', decide_false, Bool.false_eq_true, if_false]
        cases r.findIdx? (· = x) with
        | none => rfl
        | some j => simp; omega
    · simp (disch := omega) only [x_slices_Index_string_string, EVM, EVC, EVP, ↓reduceIte, EV, if_true, if_false, Nat.reduceAdd, Nat.reduceEqDiff, Int.reduceToNat, ne_eq, not_true, not_false_eq_true, Bool.true_eq_false, reduceCtorEq]
      simp [Out.goes]
  rw [hk]
  cases h : l.findIdx? (· = x) with
  | none =>
    rw [h] at key
    simp (disch := omega) only [x_slices_Index_string_string, key, EVM, EVC, EVP, ↓reduceIte, EV, if_true, if_false, Nat.reduceAdd, Nat.reduceEqDiff, Int.reduceToNat, ne_eq, not_true, not_false_eq_true, Bool.true_eq_false, reduceCtorEq]
  | some j =>
    rw [h] at key
    simp (disch := omega) only [x_slices_Index_string_string, key, EVM, EVC, EVP, ↓reduceIte, EV, if_true, if_false, Nat.reduceAdd, Nat.reduceEqDiff, Int.reduceToNat, ne_eq, not_true, not_false_eq_true, Bool.true_eq_false, reduceCtorEq]
theorem ContainsS_ok (l : List (List UInt8)) (x : List UInt8) (hl : l.length ≤ 1000000) : S n_slices_Contains_string_string 2 [strsPV l, .s x] = some [.b (decide (x ∈ l))] := by
  refine s_slices_Contains_string_string (N := 1) rfl ?_
  obtain ⟨k, h1, h2⟩ := IndexS_ok l x hl
  simp (disch := omega) only [x_slices_Contains_string_string, h2, EVM, EVC, EVP, ↓reduceIte, EV, if_true, if_false, Nat.reduceAdd, Nat.reduceEqDiff, Int.reduceToNat, ne_eq, not_true, not_false_eq_true, Bool.true_eq_false, reduceCtorEq]
  simp [h1]
theorem dd_len : ∀ (l : List Rec) (out : List (List UInt8)), (dd out l).length ≤ out.length + l.length
  | [], out => by simp [dd]
  | r :: rs, out => by
    unfold dd
    split
    · have := dd_len rs out; simp; omega
    · have := dd_len rs (out ++ [r.data.host]); simp at this ⊢; omega
/-- what a response refers to, as cells -/
def childPV (c : List UInt8 × List (List UInt8) × Bool) : List PV := [.s c.1, strsPV c.2.1, .b c.2.2]
/-- where it refers, there is a record that does -/
theorem kind3 {m : Msg} {zone : List UInt8} (h : kindM m zone = 3) : ∃ r, refN m zone = some r := by
  cases hr : refN m zone with
  | some r => exact ⟨r, rfl⟩
  | none =>
    exfalso
    unfold kindM at h
    simp only [hr, Option.isSome_none, Bool.false_eq_true, false_and, if_false] at h
    split at h
    · split at h
      · cases h
      · split at h
        · cases h
        · split at h
          · split at h <;> cases h
          · cases h
    · cases h
theorem ChildP_ok (m : Msg) (zone : List UInt8) (hm : MOk m) (hz : strr zone) : S n_trust_Child 2 [m.pv, .s zone] = some (childPV (childN (insideM m zone) zone)) := by
  refine s_trust_Child (N := 2000) rfl ?_
  have k1 := Inside_ok m zone hm.wf hz hm.ans hm.auth hm.ext
  have hi := hm.inside zone
  generalize insideM m zone = x at *
  have k2 := kindP_ok x zone hi.wf hz hi.ans hi.auth
  have k3 := refersP_ok x zone hi.wf hz (by have := hi.auth; omega)
  have ha := hi.auth
  unfold childN
  by_cases e : kindM x zone = 3
  · rw [if_pos e]
    obtain ⟨r, hr⟩ := kind3 e
    rw [hr] at k3
    simp only [hr] at k3 ⊢
    have hfl := findR_len x.auth r.name 2
    have key : l0_trust_Child.ev S 2000 [m.pv, .s zone, x.pv, .i .i64 3, .s r.name, .b true, recsPV (findR x.auth r.name 2)] = some (.yld 0 [strsPV (dd [] (findR x.auth r.name 2))]) := by
      generalize findR x.auth r.name 2 = F at *
      refine loop_acc F (fun i (g : List (List UInt8)) => [strsPV g, .i .i64 (i : Int)]) (fun i g r => .yld 0 [strsPV (dd g r)]) (fun i g => g.length ≤ i) [] rfl (Nat.zero_le _) (by omega) (fun i g c r hd hi hc hI => ?_) (fun g _ => ?_)
      · left
        by_cases hin : c.data.host ∈ g
        · refine ⟨g, ?_, by omega, by rw [dd, if_pos hin]⟩
          simp (disch := omega) only [x_trust_Child, hc, ContainsS_ok, hin, EVM, EVC, EVP, ↓reduceIte, EV, if_true, if_false, Nat.reduceAdd, Nat.reduceEqDiff, Int.reduceToNat, ne_eq, not_true, not_false_eq_true, Bool.true_eq_false, reduceCtorEq]
        · refine ⟨g ++ [c.data.host], ?_, by simp; omega, by rw [dd, if_neg hin]⟩
          simp (disch := omega) only [x_trust_Child, hc, ContainsS_ok, hin, EVM, EVC, EVP, ↓reduceIte, EV, if_true, if_false, Nat.reduceAdd, Nat.reduceEqDiff, Int.reduceToNat, ne_eq, not_true, not_false_eq_true, Bool.true_eq_false, reduceCtorEq]
      · simp (disch := omega) only [x_trust_Child, EVM, EVC, EVP, ↓reduceIte, EV, if_true, if_false, Nat.reduceAdd, Nat.reduceEqDiff, Int.reduceToNat, ne_eq, not_true, not_false_eq_true, Bool.true_eq_false, reduceCtorEq]
        simp [Out.goes, dd]
    rw [e] at k2
    simp (disch := omega) only [x_trust_Child, k1, k2, k3, FindP_ok, key, EVM, EVC, EVP, ↓reduceIte, EV, if_true, if_false, Nat.reduceAdd, Nat.reduceEqDiff, Int.reduceToNat, ne_eq, not_true, not_false_eq_true, Bool.true_eq_false, reduceCtorEq]
    rfl
  · rw [if_neg e]
    simp (disch := omega) only [x_trust_Child, k1, k2, e, EVM, EVC, EVP, ↓reduceIte, EV, if_true, if_false, Nat.reduceAdd, Nat.reduceEqDiff, Int.reduceToNat, ne_eq, not_true, not_false_eq_true, Bool.true_eq_false, reduceCtorEq]
    rfl
end Go.X.G
/- Addresses and tasks. -/
namespace Go.X

structure Adr where
  v6 : Bool
  hi : Int
  lo : Int
  deriving DecidableEq
structure Tk where
  q : Ques
  name : List UInt8
  zone : List UInt8
  hosts : List (List UInt8)
  addrs : List Adr
  tried : List Adr
  state : Int
  more : Int
  dst : Adr
  asked : Ques
  sent : Int
  chain : List Rec
  last : Msg
  err : Int
def Adr.pv (x : Adr) : PV := .a [.b x.v6, .i .u64 x.hi, .i .u64 x.lo]
def adrsPV (l : List Adr) : PV := .l 3 (l.map Adr.pv)
def Dat.adr (d : Dat) : Adr := ⟨d.v6, d.hi, d.lo⟩
def Tk.cells (t : Tk) : List PV := [.s t.q.name, .i .i64 t.q.typ, .s t.name, .s t.zone, strsPV t.hosts, adrsPV t.addrs, adrsPV t.tried, .i .i64 t.state, .i .i64 t.more, .b t.dst.v6, .i .u64 t.dst.hi, .i .u64 t.dst.lo, .s t.asked.name, .i .i64 t.asked.typ, .i .i64 t.sent, recsPV t.chain, .i .i64 t.last.id, .i .i64 t.last.op, .i .i64 t.last.code, .b t.last.resp, .b t.last.aa, .b t.last.tc, .b t.last.rd, .b t.last.ra, .b t.last.ad, .b t.last.cd, .b t.last.dok, .i .i64 t.last.size, .s t.last.q.name, .i .i64 t.last.q.typ, recsPV t.last.ans, recsPV t.last.auth, recsPV t.last.ext, .i .i64 t.err]
def Tk.pv (t : Tk) : PV := .a t.cells
theorem proj_tk0 (t : Tk) : projPV 0 t.pv = some (.s t.q.name) := rfl
theorem proj_tk1 (t : Tk) : projPV 1 t.pv = some (.i .i64 t.q.typ) := rfl
theorem proj_tk2 (t : Tk) : projPV 2 t.pv = some (.s t.name) := rfl
theorem proj_tk3 (t : Tk) : projPV 3 t.pv = some (.s t.zone) := rfl
theorem proj_tk4 (t : Tk) : projPV 4 t.pv = some (strsPV t.hosts) := rfl
theorem proj_tk5 (t : Tk) : projPV 5 t.pv = some (adrsPV t.addrs) := rfl
theorem proj_tk6 (t : Tk) : projPV 6 t.pv = some (adrsPV t.tried) := rfl
theorem proj_tk7 (t : Tk) : projPV 7 t.pv = some (.i .i64 t.state) := rfl
theorem proj_tk8 (t : Tk) : projPV 8 t.pv = some (.i .i64 t.more) := rfl
theorem proj_tk9 (t : Tk) : projPV 9 t.pv = some (.b t.dst.v6) := rfl
theorem proj_tk10 (t : Tk) : projPV 10 t.pv = some (.i .u64 t.dst.hi) := rfl
theorem proj_tk11 (t : Tk) : projPV 11 t.pv = some (.i .u64 t.dst.lo) := rfl
theorem proj_tk12 (t : Tk) : projPV 12 t.pv = some (.s t.asked.name) := rfl
theorem proj_tk13 (t : Tk) : projPV 13 t.pv = some (.i .i64 t.asked.typ) := rfl
theorem proj_tk14 (t : Tk) : projPV 14 t.pv = some (.i .i64 t.sent) := rfl
theorem proj_tk15 (t : Tk) : projPV 15 t.pv = some (recsPV t.chain) := rfl
theorem proj_tk16 (t : Tk) : projPV 16 t.pv = some (.i .i64 t.last.id) := rfl
theorem proj_tk17 (t : Tk) : projPV 17 t.pv = some (.i .i64 t.last.op) := rfl
theorem proj_tk18 (t : Tk) : projPV 18 t.pv = some (.i .i64 t.last.code) := rfl
theorem proj_tk19 (t : Tk) : projPV 19 t.pv = some (.b t.last.resp) := rfl
theorem proj_tk20 (t : Tk) : projPV 20 t.pv = some (.b t.last.aa) := rfl
theorem proj_tk21 (t : Tk) : projPV 21 t.pv = some (.b t.last.tc) := rfl
theorem proj_tk22 (t : Tk) : projPV 22 t.pv = some (.b t.last.rd) := rfl
theorem proj_tk23 (t : Tk) : projPV 23 t.pv = some (.b t.last.ra) := rfl
theorem proj_tk24 (t : Tk) : projPV 24 t.pv = some (.b t.last.ad) := rfl
theorem proj_tk25 (t : Tk) : projPV 25 t.pv = some (.b t.last.cd) := rfl
theorem proj_tk26 (t : Tk) : projPV 26 t.pv = some (.b t.last.dok) := rfl
theorem proj_tk27 (t : Tk) : projPV 27 t.pv = some (.i .i64 t.last.size) := rfl
theorem proj_tk28 (t : Tk) : projPV 28 t.pv = some (.s t.last.q.name) := rfl
theorem proj_tk29 (t : Tk) : projPV 29 t.pv = some (.i .i64 t.last.q.typ) := rfl
theorem proj_tk30 (t : Tk) : projPV 30 t.pv = some (recsPV t.last.ans) := rfl
theorem proj_tk31 (t : Tk) : projPV 31 t.pv = some (recsPV t.last.auth) := rfl
theorem proj_tk32 (t : Tk) : projPV 32 t.pv = some (recsPV t.last.ext) := rfl
theorem proj_tk33 (t : Tk) : projPV 33 t.pv = some (.i .i64 t.err) := rfl
theorem sub_tk (t : Tk) : subPV 0 34 t.pv = some t.pv := rfl
theorem fit_tk (t : Tk) : fitPV 34 t.pv = some t.pv := rfl
theorem sub_tk_adr (t : Tk) : subPV 9 3 t.pv = some t.dst.pv := rfl
theorem sub_tk_asked (t : Tk) : subPV 12 2 t.pv = some t.asked.pv := rfl
theorem sub_tk_q (t : Tk) : subPV 0 2 t.pv = some t.q.pv := rfl
theorem sub_tk_last (t : Tk) : subPV 16 17 t.pv = some t.last.pv := rfl
theorem fold_tk (x0 : List UInt8) (x1 : Int) (x2 : List UInt8) (x3 : List UInt8) (x4 : List (List UInt8)) (x5 : List Adr) (x6 : List Adr) (x7 : Int) (x8 : Int) (x9 : Bool) (x10 : Int) (x11 : Int) (x12 : List UInt8) (x13 : Int) (x14 : Int) (x15 : List Rec) (x16 : Int) (x17 : Int) (x18 : Int) (x19 : Bool) (x20 : Bool) (x21 : Bool) (x22 : Bool) (x23 : Bool) (x24 : Bool) (x25 : Bool) (x26 : Bool) (x27 : Int) (x28 : List UInt8) (x29 : Int) (x30 : List Rec) (x31 : List Rec) (x32 : List Rec) (x33 : Int) : PV.a [.s x0, .i .i64 x1, .s x2, .s x3, strsPV x4, adrsPV x5, adrsPV x6, .i .i64 x7, .i .i64 x8, .b x9, .i .u64 x10, .i .u64 x11, .s x12, .i .i64 x13, .i .i64 x14, recsPV x15, .i .i64 x16, .i .i64 x17, .i .i64 x18, .b x19, .b x20, .b x21, .b x22, .b x23, .b x24, .b x25, .b x26, .i .i64 x27, .s x28, .i .i64 x29, recsPV x30, recsPV x31, recsPV x32, .i .i64 x33] = Tk.pv ⟨⟨x0, x1⟩, x2, x3, x4, x5, x6, x7, x8, ⟨x9, x10, x11⟩, ⟨x12, x13⟩, x14, x15, ⟨x16, x17, x18, x19, x20, x21, x22, x23, x24, x25, x26, x27, ⟨x28, x29⟩, x30, x31, x32⟩, x33⟩ := rfl
theorem eta_tk (t : Tk) : (⟨t.q, t.name, t.zone, t.hosts, t.addrs, t.tried, t.state, t.more, t.dst, t.asked, t.sent, t.chain, t.last, t.err⟩ : Tk) = t := rfl
theorem eta_msg (m : Msg) : (⟨m.id, m.op, m.code, m.resp, m.aa, m.tc, m.rd, m.ra, m.ad, m.cd, m.dok, m.size, m.q, m.ans, m.auth, m.ext⟩ : Msg) = m := rfl
theorem eta_adr (x : Adr) : (⟨x.v6, x.hi, x.lo⟩ : Adr) = x := rfl
theorem adr_of (d : Dat) : addrPV d = d.adr.pv := rfl
theorem fold_adr (v : Bool) (h l : Int) : PV.a [.b v, .i .u64 h, .i .u64 l] = Adr.pv ⟨v, h, l⟩ := rfl
theorem adr_dat (d : Dat) : (⟨d.v6, d.hi, d.lo⟩ : Adr) = d.adr := rfl
theorem sub_adr (x : Adr) : subPV 0 3 x.pv = some x.pv := rfl
theorem fit_adr (x : Adr) : fitPV 3 x.pv = some x.pv := rfl
theorem proj_adr0 (x : Adr) : projPV 0 x.pv = some (.b x.v6) := rfl
theorem proj_adr1 (x : Adr) : projPV 1 x.pv = some (.i .u64 x.hi) := rfl
theorem proj_adr2 (x : Adr) : projPV 2 x.pv = some (.i .u64 x.lo) := rfl
theorem flat_adr (x : Adr) : PV.flat x.pv = true := rfl
theorem adrs_nil : PV.l 3 [] = adrsPV [] := rfl
theorem lit_adr (x : Adr) : litPV 3 [x.pv] = some (adrsPV [x]) := rfl
theorem scal_adrs (l : List Adr) : scalPV (adrsPV l) = some (adrsPV l) := rfl
theorem proj_adrs (l : List Adr) : projPV 0 (adrsPV l) = some (adrsPV l) := rfl
theorem flat_q (x : Ques) : PV.flat x.pv = true := rfl
theorem scal_u (n : Int) : scalPV (.i .u64 n) = some (.i .u64 n) := rfl
theorem proj_u (n : Int) : projPV 0 (.i .u64 n) = some (.i .u64 n) := rfl
theorem len_adrs (l : List Adr) : lenPV (adrsPV l) = some (.i .i64 (l.length : Int)) := by simp [adrsPV, lenPV]
theorem idx_adrs (l : List Adr) (k : IntKind) (z : Int) (h : 0 ≤ z) : idxPV 3 (adrsPV l) (.i k z) = (l[z.toNat]?).map Adr.pv := by simp [adrsPV, idx_l _ _ _ _ h]
theorem app_adrs1 (l : List Adr) (x : Adr) (h : l.length + 1 ≤ 1073741824) : appPV 3 (adrsPV l) (adrsPV [x]) = some (adrsPV (l ++ [x])) := by
  have := app_l 3 (l.map Adr.pv) ([x].map Adr.pv) (by simpa using h)
  simpa [adrsPV] using this
theorem app_adrs (l m : List Adr) (h : l.length + m.length ≤ 1073741824) : appPV 3 (adrsPV l) (adrsPV m) = some (adrsPV (l ++ m)) := by
  have := app_l 3 (l.map Adr.pv) (m.map Adr.pv) (by simpa using h)
  simpa [adrsPV] using this
theorem lsl_adrs (l : List Adr) (k k' : IntKind) (a b : Int) (h1 : 0 ≤ a) (h2 : a ≤ b) (h3 : b ≤ (l.length : Int)) : lslPV 3 (adrsPV l) (.i k a) (.i k' b) = some (adrsPV ((l.take b.toNat).drop a.toNat)) := by
  have := lsl_l 3 (l.map Adr.pv) k k' a b h1 h2 (by simpa using h3)
  simpa [adrsPV, List.map_take, List.map_drop] using this
theorem eq_adr (neg : Bool) (x y : Adr) : eqsPV neg true [.b, (.i .u64), (.i .u64)] x.pv y.pv = some (.b (if neg then decide (x ≠ y) else decide (x = y))) := by
  have : eqScs [.b, (.i .u64), (.i .u64)] [.b x.v6, .i .u64 x.hi, .i .u64 x.lo] [.b y.v6, .i .u64 y.hi, .i .u64 y.lo] = some (decide (x = y)) := by
    simp only [eqScs, eqSc, if_true, Option.some.injEq]
    rw [Bool.eq_iff_iff]
    cases x; cases y; simp
  simp only [eqsPV, Adr.pv, this, Option.map_some]
  cases neg <;> simp
theorem EVT : type_of% ((And.intro @proj_tk0 (And.intro @proj_tk1 (And.intro @proj_tk2 (And.intro @proj_tk3 (And.intro @proj_tk4 (And.intro @proj_tk5 (And.intro @proj_tk6 (And.intro @proj_tk7 (And.intro @proj_tk8 (And.intro @proj_tk9 (And.intro @proj_tk10 (And.intro @proj_tk11 (And.intro @proj_tk12 (And.intro @proj_tk13 (And.intro @proj_tk14 (And.intro @proj_tk15 (And.intro @proj_tk16 (And.intro @proj_tk17 (And.intro @proj_tk18 (And.intro @proj_tk19 (And.intro @proj_tk20 (And.intro @proj_tk21 (And.intro @proj_tk22 (And.intro @proj_tk23 (And.intro @proj_tk24 (And.intro @proj_tk25 (And.intro @proj_tk26 (And.intro @proj_tk27 (And.intro @proj_tk28 (And.intro @proj_tk29 (And.intro @proj_tk30 (And.intro @proj_tk31 (And.intro @proj_tk32 (And.intro @proj_tk33 (And.intro @sub_tk (And.intro @fit_tk (And.intro @sub_tk_adr (And.intro @sub_tk_asked (And.intro @sub_tk_q (And.intro @sub_tk_last (And.intro @fold_tk (And.intro @eta_tk (And.intro @eta_msg (And.intro @eta_adr (And.intro @adr_of (And.intro @fold_adr (And.intro @adr_dat (And.intro @sub_adr (And.intro @fit_adr (And.intro @proj_adr0 (And.intro @proj_adr1 (And.intro @proj_adr2 (And.intro @flat_adr (And.intro @adrs_nil (And.intro @lit_adr (And.intro @scal_adrs (And.intro @proj_adrs (And.intro @flat_q (And.intro @scal_u (And.intro @proj_u (And.intro @len_adrs (And.intro @idx_adrs (And.intro @app_adrs1 (And.intro @app_adrs (And.intro @lsl_adrs @eq_adr)))))))))))))))))))))))))))))))))))))))))))))))))))))))))))))))))) := (And.intro @proj_tk0 (And.intro @proj_tk1 (And.intro @proj_tk2 (And.intro @proj_tk3 (And.intro @proj_tk4 (And.intro @proj_tk5 (And.intro @proj_tk6 (And.intro @proj_tk7 (And.intro @proj_tk8 (And.intro @proj_tk9 (And.intro @proj_tk10 (And.intro @proj_tk11 (And.intro @proj_tk12 (And.intro @proj_tk13 (And.intro @proj_tk14 (And.intro @proj_tk15 (And.intro @proj_tk16 (And.intro @proj_tk17 (And.intro @proj_tk18 (And.intro @proj_tk19 (And.intro @proj_tk20 (And.intro @proj_tk21 (And.intro @proj_tk22 (And.intro @proj_tk23 (And.intro @proj_tk24 (And.intro @proj_tk25 (And.intro @proj_tk26 (And.intro @proj_tk27 (And.intro @proj_tk28 (And.intro @proj_tk29 (And.intro @proj_tk30 (And.intro @proj_tk31 (And.intro @proj_tk32 (And.intro @proj_tk33 (And.intro @sub_tk (And.intro @fit_tk (And.intro @sub_tk_adr (And.intro @sub_tk_asked (And.intro @sub_tk_q (And.intro @sub_tk_last (And.intro @fold_tk (And.intro @eta_tk (And.intro @eta_msg (And.intro @eta_adr (And.intro @adr_of (And.intro @fold_adr (And.intro @adr_dat (And.intro @sub_adr (And.intro @fit_adr (And.intro @proj_adr0 (And.intro @proj_adr1 (And.intro @proj_adr2 (And.intro @flat_adr (And.intro @adrs_nil (And.intro @lit_adr (And.intro @scal_adrs (And.intro @proj_adrs (And.intro @flat_q (And.intro @scal_u (And.intro @proj_u (And.intro @len_adrs (And.intro @idx_adrs (And.intro @app_adrs1 (And.intro @app_adrs (And.intro @lsl_adrs @eq_adr)))))))))))))))))))))))))))))))))))))))))))))))))))))))))))))))))
end Go.X
/- Lists of addresses and of names: what the library's functions give. -/
namespace Go.X.G
open Go Go.X

theorem IndexA_ok (l : List Adr) (x : Adr) (hl : l.length ≤ 1000000) : ∃ k : Int, (0 ≤ k ↔ x ∈ l) ∧ S n_slices_Index_api_Addr_api_Addr 2 [adrsPV l, x.pv] = some [.i .i64 k] := by
  have go : ∀ (i : Nat) (l : List Adr), ∃ k : Int, k = (match l.findIdx? (· = x) with | some j => ((i + j : Nat) : Int) | none => -1) ∧ (0 ≤ k ↔ x ∈ l) := by
    intro i l
    refine ⟨_, rfl, ?_⟩
    cases h : l.findIdx? (· = x) with
    | none =>
      rw [List.findIdx?_eq_none_iff] at h
      simp only
      constructor
      · intro h2; omega
      · intro h2; have := h x h2; simp at this
    | some j =>
      simp only
      constructor
      · intro _
        rw [List.findIdx?_eq_some_iff_getElem] at h
        obtain ⟨h1, h2, _⟩ := h
        simp at h2
        rw [← h2]; exact List.getElem_mem _
      · intro _; omega
  obtain ⟨k, hk, hk2⟩ := go 0 l
  refine ⟨k, hk2, ?_⟩
  refine s_slices_Index_api_Addr_api_Addr (N := l.length + 1) rfl ?_
  have key : l0_slices_Index_api_Addr_api_Addr.ev S (l.length + 1) [adrsPV l, x.pv] = some (match l.findIdx? (· = x) with | some j => .ret [.i .i64 ((0 + j : Nat) : Int)] | none => .yld 0 []) := by
    refine loop_list l (fun i => [.i .i64 (i : Int)]) (fun i r => match r.findIdx? (· = x) with | some j => .ret [.i .i64 ((i + j : Nat) : Int)] | none => .yld 0 []) rfl (by omega) (fun i c r hd hi hc => ?_) ?_
    · by_cases h : x = c
      · right
        subst h
        simp (disch := omega) only [x_slices_Index_api_Addr_api_Addr, hc, EVT, EVM, EVC, EVP, ↓reduceIte, EV, if_true, if_false, Nat.reduceAdd, Nat.reduceEqDiff, Int.reduceToNat, ne_eq, not_true, not_false_eq_true, Bool.true_eq_false, reduceCtorEq]
        simp [List.findIdx?_cons, Out.goes]
      · left
        have h' : ¬ c = x := fun e => h e.symm
        simp (disch := omega) only [x_slices_Index_api_Addr_api_Addr, hc, h, EVT, EVM, EVC, EVP, ↓reduceIte, EV, if_true, if_false, Nat.reduceAdd, Nat.reduceEqDiff, Int.reduceToNat, ne_eq, not_true, not_false_eq_true, Bool.true_eq_false, reduceCtorEq]
        refine ⟨trivial, ?_⟩
        simp only [List.findIdx?_cons, h', decide_false, Bool.false_eq_true, if_false]
        cases r.findIdx? (· = x) with
        | none => rfl
        | some j => simp; omega
    · simp (disch := omega) only [x_slices_Index_api_Addr_api_Addr, EVT, EVM, EVC, EVP, ↓reduceIte, EV, if_true, if_false, Nat.reduceAdd, Nat.reduceEqDiff, Int.reduceToNat, ne_eq, not_true, not_false_eq_true, Bool.true_eq_false, reduceCtorEq]
      simp [Out.goes]
  rw [hk]
  cases h : l.findIdx? (· = x) with
  | none =>
    rw [h] at key
    simp (disch := omega) only [x_slices_Index_api_Addr_api_Addr, key, EVT, EVM, EVC, EVP, ↓reduceIte, EV, if_true, if_false, Nat.reduceAdd, Nat.reduceEqDiff, Int.reduceToNat, ne_eq, not_true, not_false_eq_true, Bool.true_eq_false, reduceCtorEq]
  | some j =>
    rw [h] at key
    simp (disch := omega) only [x_slices_Index_api_Addr_api_Addr, key, EVT, EVM, EVC, EVP, ↓reduceIte, EV, if_true, if_false, Nat.reduceAdd, Nat.reduceEqDiff, Int.reduceToNat, ne_eq, not_true, not_false_eq_true, Bool.true_eq_false, reduceCtorEq]
theorem ContainsA_ok (l : List Adr) (x : Adr) (hl : l.length ≤ 1000000) : S n_slices_Contains_api_Addr_api_Addr 2 [adrsPV l, x.pv] = some [.b (decide (x ∈ l))] := by
  refine s_slices_Contains_api_Addr_api_Addr (N := 1) rfl ?_
  obtain ⟨k, h1, h2⟩ := IndexA_ok l x hl
  simp (disch := omega) only [x_slices_Contains_api_Addr_api_Addr, h2, EVT, EVM, EVC, EVP, ↓reduceIte, EV, if_true, if_false, Nat.reduceAdd, Nat.reduceEqDiff, Int.reduceToNat, ne_eq, not_true, not_false_eq_true, Bool.true_eq_false, reduceCtorEq]
  simp [h1]
/-- the first place where something is so, or -1 -/
def ixG {α : Type} (p : α → Bool) (k : Nat) : List α → Int
  | [] => -1
  | r :: rs => if p r = true then (k : Int) else ixG p (k + 1) rs
theorem ixG_any {α : Type} (p : α → Bool) : ∀ (l : List α) (k : Nat), (0 ≤ ixG p k l ↔ l.any p = true) ∧ ixG p k l ≤ k + l.length ∧ -1 ≤ ixG p k l
  | [], k => by simp [ixG]
  | r :: rs, k => by
    have ih := ixG_any p rs (k + 1)
    rcases Bool.eq_false_or_eq_true (p r) with h | h
    · simp [ixG, h]; omega
    · simp only [ixG, h, List.any_cons, Bool.false_or, List.length_cons]
      refine ⟨by simpa using ih.1, ?_, by simpa using ih.2.2⟩
      have := ih.2.1
      simp only [Bool.false_eq_true, if_false] at this ⊢
      omega
theorem IndexFuncA_ok (l : List Adr) (g : Nat) (caps : List PV) (p : Adr → Bool) (hl : l.length ≤ 1000000) (h : ∀ r ∈ l, S g 1 (r.pv :: caps) = some [.b (p r)]) : S n_slices_IndexFunc_api_Addr_api_Addr 2 [adrsPV l, .f g caps] = some [.i .i64 (ixG p 0 l)] := by
  refine s_slices_IndexFunc_api_Addr_api_Addr (N := l.length + 1) rfl ?_
  have key : l0_slices_IndexFunc_api_Addr_api_Addr.ev S (l.length + 1) [adrsPV l, .f g caps] = some (if ixG p 0 l = -1 then .yld 0 [] else .ret [.i .i64 (ixG p 0 l)]) := by
    refine loop_list l (fun i => [.i .i64 (i : Int)]) (fun i r => if ixG p i r = -1 then .yld 0 [] else .ret [.i .i64 (ixG p i r)]) rfl (by omega) (fun i c r hd hi hc => ?_) ?_
    · have hp := h c (List.mem_of_getElem? hc)
      rcases Bool.eq_false_or_eq_true (p c) with h1 | h1
      · rw [h1] at hp
        right
        have h2 : ¬ ((i : Int) = -1) := by omega
        simp (disch := omega) only [x_slices_IndexFunc_api_Addr_api_Addr, hc, hp, EVT, EVC, EVP, ↓reduceIte, EV, if_true, if_false, Nat.reduceAdd, Nat.reduceEqDiff, Int.reduceToNat, ne_eq, not_true, not_false_eq_true, Bool.true_eq_false, reduceCtorEq]
        simp [ixG, h1, h2, Out.goes]
      · rw [h1] at hp
        left
        simp (disch := omega) only [x_slices_IndexFunc_api_Addr_api_Addr, hc, hp, EVT, EVC, EVP, ↓reduceIte, EV, if_true, if_false, Nat.reduceAdd, Nat.reduceEqDiff, Int.reduceToNat, ne_eq, not_true, not_false_eq_true, Bool.true_eq_false, reduceCtorEq]
        simp [ixG, h1]
    · simp (disch := omega) only [x_slices_IndexFunc_api_Addr_api_Addr, EVT, EVC, EVP, ↓reduceIte, EV, if_true, if_false, Nat.reduceAdd, Nat.reduceEqDiff, Int.reduceToNat, ne_eq, not_true, not_false_eq_true, Bool.true_eq_false, reduceCtorEq]
      simp [ixG, Out.goes]
  by_cases h1 : ixG p 0 l = -1
  · rw [if_pos h1] at key
    simp (disch := omega) only [x_slices_IndexFunc_api_Addr_api_Addr, key, h1, EVT, EVC, EVP, ↓reduceIte, EV, if_true, if_false, Nat.reduceAdd, Nat.reduceEqDiff, Int.reduceToNat, ne_eq, not_true, not_false_eq_true, Bool.true_eq_false, reduceCtorEq]
  · rw [if_neg h1] at key
    simp (disch := omega) only [x_slices_IndexFunc_api_Addr_api_Addr, key, EVT, EVC, EVP, ↓reduceIte, EV, if_true, if_false, Nat.reduceAdd, Nat.reduceEqDiff, Int.reduceToNat, ne_eq, not_true, not_false_eq_true, Bool.true_eq_false, reduceCtorEq]
theorem ContainsFuncA_ok (l : List Adr) (g : Nat) (caps : List PV) (p : Adr → Bool) (hl : l.length ≤ 1000000) (h : ∀ r ∈ l, S g 1 (r.pv :: caps) = some [.b (p r)]) : S n_slices_ContainsFunc_api_Addr_api_Addr 2 [adrsPV l, .f g caps] = some [.b (l.any p)] := by
  refine s_slices_ContainsFunc_api_Addr_api_Addr (N := 1) rfl ?_
  simp (disch := omega) only [x_slices_ContainsFunc_api_Addr_api_Addr, IndexFuncA_ok l g caps p hl h, EVC, EVP, ↓reduceIte, EV, if_true, if_false, Nat.reduceAdd, Nat.reduceEqDiff, Int.reduceToNat, ne_eq, not_true, not_false_eq_true, Bool.true_eq_false, reduceCtorEq]
  have := (ixG_any p l 0).1
  rcases Bool.eq_false_or_eq_true (l.any p) with h1 | h1
  · rw [h1] at this ⊢; simp [this.2 rfl]
  · rw [h1] at this ⊢
    have h2 : ¬ (0 ≤ ixG p 0 l) := fun h => by simpa using this.1 h
    simp [h2]
theorem IndexFuncS_ok (l : List (List UInt8)) (g : Nat) (caps : List PV) (p : List UInt8 → Bool) (hl : l.length ≤ 1000000) (h : ∀ r ∈ l, S g 1 (.s r :: caps) = some [.b (p r)]) : S n_slices_IndexFunc_string_string 2 [strsPV l, .f g caps] = some [.i .i64 (ixG p 0 l)] := by
  refine s_slices_IndexFunc_string_string (N := l.length + 1) rfl ?_
  have key : l0_slices_IndexFunc_string_string.ev S (l.length + 1) [strsPV l, .f g caps] = some (if ixG p 0 l = -1 then .yld 0 [] else .ret [.i .i64 (ixG p 0 l)]) := by
    refine loop_list l (fun i => [.i .i64 (i : Int)]) (fun i r => if ixG p i r = -1 then .yld 0 [] else .ret [.i .i64 (ixG p i r)]) rfl (by omega) (fun i c r hd hi hc => ?_) ?_
    · have hp := h c (List.mem_of_getElem? hc)
      rcases Bool.eq_false_or_eq_true (p c) with h1 | h1
      · rw [h1] at hp
        right
        have h2 : ¬ ((i : Int) = -1) := by omega
        simp (disch := omega) only [x_slices_IndexFunc_string_string, hc, hp, EVT, EVC, EVP, ↓reduceIte, EV, if_true, if_false, Nat.reduceAdd, Nat.reduceEqDiff, Int.reduceToNat, ne_eq, not_true, not_false_eq_true, Bool.true_eq_false, reduceCtorEq]
        simp [ixG, h1, h2, Out.goes]
      · rw [h1] at hp
        left
        simp (disch := omega) only [x_slices_IndexFunc_string_string, hc, hp, EVT, EVC, EVP, ↓reduceIte, EV, if_true, if_false, Nat.reduceAdd, Nat.reduceEqDiff, Int.reduceToNat, ne_eq, not_true, not_false_eq_true, Bool.true_eq_false, reduceCtorEq]
        simp [ixG, h1]
    · simp (disch := omega) only [x_slices_IndexFunc_string_string, EVT, EVC, EVP, ↓reduceIte, EV, if_true, if_false, Nat.reduceAdd, Nat.reduceEqDiff, Int.reduceToNat, ne_eq, not_true, not_false_eq_true, Bool.true_eq_false, reduceCtorEq]
      simp [ixG, Out.goes]
  by_cases h1 : ixG p 0 l = -1
  · rw [if_pos h1] at key
    simp (disch := omega) only [x_slices_IndexFunc_string_string, key, h1, EVT, EVC, EVP, ↓reduceIte, EV, if_true, if_false, Nat.reduceAdd, Nat.reduceEqDiff, Int.reduceToNat, ne_eq, not_true, not_false_eq_true, Bool.true_eq_false, reduceCtorEq]
  · rw [if_neg h1] at key
    simp (disch := omega) only [x_slices_IndexFunc_string_string, key, EVT, EVC, EVP, ↓reduceIte, EV, if_true, if_false, Nat.reduceAdd, Nat.reduceEqDiff, Int.reduceToNat, ne_eq, not_true, not_false_eq_true, Bool.true_eq_false, reduceCtorEq]
theorem ContainsFuncS_ok (l : List (List UInt8)) (g : Nat) (caps : List PV) (p : List UInt8 → Bool) (hl : l.length ≤ 1000000) (h : ∀ r ∈ l, S g 1 (.s r :: caps) = some [.b (p r)]) : S n_slices_ContainsFunc_string_string 2 [strsPV l, .f g caps] = some [.b (l.any p)] := by
  refine s_slices_ContainsFunc_string_string (N := 1) rfl ?_
  simp (disch := omega) only [x_slices_ContainsFunc_string_string, IndexFuncS_ok l g caps p hl h, EVC, EVP, ↓reduceIte, EV, if_true, if_false, Nat.reduceAdd, Nat.reduceEqDiff, Int.reduceToNat, ne_eq, not_true, not_false_eq_true, Bool.true_eq_false, reduceCtorEq]
  have := (ixG_any p l 0).1
  rcases Bool.eq_false_or_eq_true (l.any p) with h1 | h1
  · rw [h1] at this ⊢; simp [this.2 rfl]
  · rw [h1] at this ⊢
    have h2 : ¬ (0 ≤ ixG p 0 l) := fun h => by simpa using this.1 h
    simp [h2]
theorem CloneS_ok (l : List (List UInt8)) (hl : l.length ≤ 1000000) : S n_slices_Clone_string_string 1 [strsPV l] = some [strsPV l] := by
  refine s_slices_Clone_string_string (N := 1) rfl ?_
  have h0 : appPV 1 (strsPV []) (strsPV l) = some (strsPV l) := by simpa using app_strs [] l (by simp; omega)
  simp (disch := omega) only [x_slices_Clone_string_string, h0, EVT, EVC, EVP, ↓reduceIte, EV, if_true, if_false, Nat.reduceAdd, Nat.reduceEqDiff, Int.reduceToNat, ne_eq, not_true, not_false_eq_true, Bool.true_eq_false, reduceCtorEq]
theorem CloneA_ok (l : List Adr) (hl : l.length ≤ 1000000) : S n_slices_Clone_api_Addr_api_Addr 1 [adrsPV l] = some [adrsPV l] := by
  refine s_slices_Clone_api_Addr_api_Addr (N := 1) rfl ?_
  have h0 : appPV 3 (adrsPV []) (adrsPV l) = some (adrsPV l) := by simpa using app_adrs [] l (by simp; omega)
  simp (disch := omega) only [x_slices_Clone_api_Addr_api_Addr, h0, EVT, EVC, EVP, ↓reduceIte, EV, if_true, if_false, Nat.reduceAdd, Nat.reduceEqDiff, Int.reduceToNat, ne_eq, not_true, not_false_eq_true, Bool.true_eq_false, reduceCtorEq]
theorem CloneR_ok (l : List Rec) (hl : l.length ≤ 1000000) : S n_slices_Clone_api_Record_api_Record 1 [recsPV l] = some [recsPV l] := by
  refine s_slices_Clone_api_Record_api_Record (N := 1) rfl ?_
  have h0 : appPV 16 (recsPV []) (recsPV l) = some (recsPV l) := by simpa using app_recs [] l (by simp; omega)
  simp (disch := omega) only [x_slices_Clone_api_Record_api_Record, h0, EVT, EVC, EVP, ↓reduceIte, EV, if_true, if_false, Nat.reduceAdd, Nat.reduceEqDiff, Int.reduceToNat, ne_eq, not_true, not_false_eq_true, Bool.true_eq_false, reduceCtorEq]
theorem fewS_ok (l : List (List UInt8)) (hl : l.length ≤ 1000000) : S n_iterate_few_string 1 [strsPV l] = some [strsPV (l.take 16)] := by
  refine s_iterate_few_string (N := 1) rfl ?_
  have hlen : (l.take 16).length ≤ 1000000 := by simp; omega
  by_cases h : l.length ≤ 16
  · have e : l.take 16 = l := List.take_of_length_le h
    have e3 : (List.drop 0 (List.take l.length l)) = l := by simp
    simp (disch := omega) only [x_iterate_few_string, lsl_strs, CloneS_ok, e3, e, EVT, EVC, EVP, ↓reduceIte, EV, if_true, if_false, Nat.reduceAdd, Nat.reduceEqDiff, Int.reduceToNat, ne_eq, not_true, not_false_eq_true, Bool.true_eq_false, reduceCtorEq]
  · have e3 : (List.drop 0 (List.take 16 l)) = l.take 16 := by simp
    simp (disch := omega) only [x_iterate_few_string, lsl_strs, CloneS_ok (l.take 16) hlen, e3, EVT, EVC, EVP, ↓reduceIte, EV, if_true, if_false, Nat.reduceAdd, Nat.reduceEqDiff, Int.reduceToNat, ne_eq, not_true, not_false_eq_true, Bool.true_eq_false, reduceCtorEq]
theorem fewA_ok (l : List Adr) (hl : l.length ≤ 1000000) : S n_iterate_few_api_Addr 1 [adrsPV l] = some [adrsPV (l.take 16)] := by
  refine s_iterate_few_api_Addr (N := 1) rfl ?_
  have hlen : (l.take 16).length ≤ 1000000 := by simp; omega
  by_cases h : l.length ≤ 16
  · have e : l.take 16 = l := List.take_of_length_le h
    have e3 : (List.drop 0 (List.take l.length l)) = l := by simp
    simp (disch := omega) only [x_iterate_few_api_Addr, lsl_adrs, CloneA_ok, e3, e, EVT, EVC, EVP, ↓reduceIte, EV, if_true, if_false, Nat.reduceAdd, Nat.reduceEqDiff, Int.reduceToNat, ne_eq, not_true, not_false_eq_true, Bool.true_eq_false, reduceCtorEq]
  · have e3 : (List.drop 0 (List.take 16 l)) = l.take 16 := by simp
    simp (disch := omega) only [x_iterate_few_api_Addr, lsl_adrs, CloneA_ok (l.take 16) hlen, e3, EVT, EVC, EVP, ↓reduceIte, EV, if_true, if_false, Nat.reduceAdd, Nat.reduceEqDiff, Int.reduceToNat, ne_eq, not_true, not_false_eq_true, Bool.true_eq_false, reduceCtorEq]
end Go.X.G
/- Names that tell little: what minimize gives. -/
namespace Go.X.G
open Go Go.X

theorem flat_take (l : List (List UInt8)) (i : Nat) (c : List UInt8) (h : l[i]? = some c) : flat (l.take (i + 1)) = flat (l.take i) ++ c ++ [46] := by
  rw [List.take_add_one, h]
  simp [flat]
theorem flat_le (l : List (List UInt8)) (i : Nat) : (flat (l.take i)).length ≤ (flat l).length := by
  have : flat l = flat (l.take i) ++ flat (l.drop i) := by
    rw [← flat_app, List.take_append_drop]
  rw [this]; simp
theorem Join_l0 (l : List (List UInt8)) (hl : l.length ≤ 255) (hw : ∀ x ∈ l, isLab x = true) (hf : (flat l).length ≤ 254) (N : Nat) (hN : l.length < N) :
    l0_dname_Join.ev S N [strsPV l] = some (.yld 0 [.l 1 (bytesPV (flat l))]) := by
  refine loop_list l (fun i => [.i .i64 (i : Int), .l 1 (bytesPV (flat (l.take i)))]) (fun i r => .yld 0 [.l 1 (bytesPV (flat l))]) rfl hN (fun i c r hd hi hc => ?_) ?_
  · left
    refine ⟨?_, rfl⟩
    have hlab := hw c (List.mem_of_getElem? hc)
    have hc63 := isLab_len' hlab
    have hfl := flat_le l i
    have hfl2 := flat_le l (i + 1)
    have e1 := flat_take l i c hc
    have g1 : (bytesPV (flat (l.take i))).length ≤ 254 := by rw [bytes_len]; omega
    have g2 : (bytesPV c).length ≤ 63 := by rw [bytes_len]; omega
    have g3 : (bytesPV (flat (l.take i)) ++ bytesPV c).length ≤ 400 := by rw [List.length_append]; omega
    have hord := ordinary_ok c (by omega)
    have e2 : bytesPV (flat (l.take i)) ++ bytesPV c ++ [.i .u8 46] = bytesPV (flat (l.take (i + 1))) := by rw [e1]; simp [bytesPV]
    have hb : b2sPV (.l 1 [.i .u8 46]) = some (.s [46]) := b2s_bytes [46]
    rw [isLab_ord] at hlab
    by_cases h42 : c = [42]
    · subst h42
      simp (disch := omega) only [x_dname_Join, hc, hord, ord_star, hb, e2, EVT, EVM, EVC, EVP, ↓reduceIte, EV, if_true, if_false, Nat.reduceAdd, Nat.reduceEqDiff, Int.reduceToNat, ne_eq, not_true, not_false_eq_true, Bool.true_eq_false, reduceCtorEq]
    · have h1 : ord c = true := by simpa [h42] using hlab
      rw [h1] at hord
      simp (disch := omega) only [x_dname_Join, hc, hord, hb, e2, EVT, EVM, EVC, EVP, ↓reduceIte, EV, if_true, if_false, Nat.reduceAdd, Nat.reduceEqDiff, Int.reduceToNat, ne_eq, not_true, not_false_eq_true, Bool.true_eq_false, reduceCtorEq]
  · have e : l.take l.length = l := List.take_length
    simp (disch := omega) only [x_dname_Join, e, EVT, EVM, EVC, EVP, ↓reduceIte, EV, if_true, if_false, Nat.reduceAdd, Nat.reduceEqDiff, Int.reduceToNat, ne_eq, not_true, not_false_eq_true, Bool.true_eq_false, reduceCtorEq]
    simp [Out.goes]
theorem Join_ok {n : List UInt8} (hn : vld n = true) (k : Nat) (hk : k < (lbl n).length) : S n_dname_Join 1 [strsPV ((lbl n).drop k)] = some [.s (jn ((lbl n).drop k)), .i .i64 0] := by
  refine s_dname_Join (N := 300) rfl ?_
  have hlen := lbl_len n
  have hne : (lbl n).drop k ≠ [] := by simp; omega
  have hd1 : ((lbl n).drop k).length ≤ 254 := by simp; omega
  have hd0 : 0 < ((lbl n).drop k).length := List.length_pos_iff.2 hne
  have hj : jn ((lbl n).drop k) = flat ((lbl n).drop k) := by unfold jn; rw [if_neg hne]
  have hv := (vld_drop hn k).1
  rw [hj] at hv ⊢
  have hfl := vld_len hv
  have key := Join_l0 ((lbl n).drop k) (by omega) (fun x hx => lbl_each' n x (List.mem_of_mem_drop hx)) hfl 300 (by omega)
  have hval := ValidP_ok (flat ((lbl n).drop k)) (by omega)
  rw [hv] at hval
  have hp := vld_pos' hv
  obtain ⟨c, hc⟩ : ∃ c, (flat ((lbl n).drop k))[0]? = some c := ⟨_, List.getElem?_eq_getElem hp⟩
  generalize (lbl n).drop k = l at *
  have e0 : ¬ ((l.length : Int) = 0) := by omega
  have e1 : ¬ (255 < (l.length : Int)) := by omega
  simp (disch := omega) only [x_dname_Join, key, hval, hc, e0, e1, EVT, EVM, EVC, EVP, ↓reduceIte, EV, if_true, if_false, Nat.reduceAdd, Nat.reduceEqDiff, Int.reduceToNat, ne_eq, not_true, not_false_eq_true, Bool.true_eq_false, reduceCtorEq]
def belowN (n z : List UInt8) : Bool := !decide (n = z) && under n z
theorem below_ok (n z : List UInt8) (hn : strr n) (hz : strr z) : S n_minimize_below 2 [.s n, .s z] = some [.b (belowN n z)] := by
  refine s_minimize_below (N := 1) rfl ?_
  have hu := UnderP_ok n z hn hz
  unfold belowN
  by_cases h : n = z
  · simp (disch := omega) only [x_minimize_below, h, EVT, EVM, EVC, EVP, ↓reduceIte, EV, if_true, if_false, Nat.reduceAdd, Nat.reduceEqDiff, Int.reduceToNat, ne_eq, not_true, not_false_eq_true, Bool.true_eq_false, reduceCtorEq]
    simp
  · simp (disch := omega) only [x_minimize_below, h, hu, EVT, EVM, EVC, EVP, ↓reduceIte, EV, if_true, if_false, Nat.reduceAdd, Nat.reduceEqDiff, Int.reduceToNat, ne_eq, not_true, not_false_eq_true, Bool.true_eq_false, reduceCtorEq]
    simp
/-- what is asked, and whether it is the whole question -/
def nextQ (q : Ques) (zone : List UInt8) (more : Int) : Ques × Bool :=
  if belowN q.name zone = false ∨ more < 0 ∨ 10 ≤ more then (q, true)
  else if (lbl q.name).length ≤ (lbl zone).length + 1 + more.toNat then (q, true)
  else (⟨jn ((lbl q.name).drop ((lbl q.name).length - ((lbl zone).length + 1 + more.toNat))), 2⟩, false)
theorem belowN_vld {n z : List UInt8} (h : belowN n z = true) : vld n = true := by
  simp only [belowN, Bool.and_eq_true] at h
  exact (under_iff.1 h.2).1
theorem Next_ok (q : Ques) (zone : List UInt8) (more : Int) (hq : q.wf) (hz : strr zone) (hm : i64r more) : S n_minimize_Next 3 [q.pv, .s zone, .i .i64 more] = some [(nextQ q zone more).1.pv, .b (nextQ q zone more).2] := by
  refine s_minimize_Next (N := 1) rfl ?_
  have hb := below_ok q.name zone hq.1 hz
  have h1 := LabelsP_ok q.name hq.1
  have h2 := LabelsP_ok zone hz
  have hl1 := lbl_len q.name
  have hl2 := lbl_len zone
  obtain ⟨m1, m2⟩ := hm
  unfold nextQ
  rcases Bool.eq_false_or_eq_true (belowN q.name zone) with hB | hB
  · rw [hB] at hb
    by_cases c1 : more < 0
    · simp (disch := omega) only [x_minimize_Next, hb, c1, EVT, EVM, EVC, EVP, ↓reduceIte, EV, if_true, if_false, Nat.reduceAdd, Nat.reduceEqDiff, Int.reduceToNat, ne_eq, not_true, not_false_eq_true, Bool.true_eq_false, reduceCtorEq]
      simp
    · by_cases c2 : 10 ≤ more
      · have c2' : more ≥ 10 := c2
        simp (disch := omega) only [x_minimize_Next, hb, c1, c2', EVT, EVM, EVC, EVP, ↓reduceIte, EV, if_true, if_false, Nat.reduceAdd, Nat.reduceEqDiff, Int.reduceToNat, ne_eq, not_true, not_false_eq_true, Bool.true_eq_false, reduceCtorEq]
        simp [c2]
      · obtain ⟨k, rfl⟩ : ∃ k : Nat, more = k := ⟨more.toNat, by omega⟩
        have c2' : ¬ ((k : Int) ≥ 10) := c2
        by_cases c3 : (lbl q.name).length ≤ (lbl zone).length + 1 + k
        · have c3' : ((lbl q.name).length : Int) ≤ ((lbl zone).length : Int) + 1 + k := by omega
          simp (disch := omega) only [x_minimize_Next, hb, h1, h2, c1, c2', c3', EVT, EVM, EVC, EVP, ↓reduceIte, EV, if_true, if_false, Nat.reduceAdd, Nat.reduceEqDiff, Int.reduceToNat, ne_eq, not_true, not_false_eq_true, Bool.true_eq_false, reduceCtorEq]
          simp [hB, c2, c3, c1]
        · have c3' : ¬ ((lbl q.name).length : Int) ≤ ((lbl zone).length : Int) + 1 + k := by omega
          have hk : (lbl q.name).length - ((lbl zone).length + 1 + k) < (lbl q.name).length := by omega
          have hj := Join_ok (belowN_vld hB) _ hk
          have hsl : lslPV 1 (strsPV (lbl q.name)) (.i .i64 (((lbl q.name).length : Int) - (((lbl zone).length : Int) + 1 + k))) (.i .i64 ((lbl q.name).length : Int)) = some (strsPV ((lbl q.name).drop ((lbl q.name).length - ((lbl zone).length + 1 + k)))) := by
            rw [lsl_strs _ _ _ _ _ (by omega) (by omega) (by omega)]
            have e1 : (((lbl q.name).length : Int)).toNat = (lbl q.name).length := by omega
            have e2 : (((lbl q.name).length : Int) - (((lbl zone).length : Int) + 1 + k)).toNat = (lbl q.name).length - ((lbl zone).length + 1 + k) := by omega
            rw [e1, e2, List.take_length]
          simp (disch := omega) only [x_minimize_Next, hb, h1, h2, c1, c2', c3', hsl, hj, EVT, EVM, EVC, EVP, ↓reduceIte, EV, if_true, if_false, Nat.reduceAdd, Nat.reduceEqDiff, Int.reduceToNat, ne_eq, not_true, not_false_eq_true, Bool.true_eq_false, reduceCtorEq]
          simp [hB, c2, c3, c1]
  · rw [hB] at hb
    simp (disch := omega) only [x_minimize_Next, hb, EVT, EVM, EVC, EVP, ↓reduceIte, EV, if_true, if_false, Nat.reduceAdd, Nat.reduceEqDiff, Int.reduceToNat, ne_eq, not_true, not_false_eq_true, Bool.true_eq_false, reduceCtorEq]
    simp [hB]
end Go.X.G
/- Tasks: what the program's small functions give. -/
namespace Go.X.G
open Go Go.X

/-! ### Types that are known -/
structure Kd where
  num : Int
  mne : List UInt8
  fls : List UInt8
def Kd.pv (k : Kd) : PV := .a [.i .i64 k.num, .s k.mne, .s k.fls]
def kdsPV (l : List Kd) : PV := .l 3 (l.map Kd.pv)
def kds : List Kd := [⟨1, [65], [52]⟩, ⟨2, [78, 83], [104]⟩, ⟨5, [67, 78, 65, 77, 69], [104]⟩, ⟨6, [83, 79, 65], [104, 109, 118, 119, 120, 121, 122]⟩, ⟨12, [80, 84, 82], [104]⟩, ⟨15, [77, 88], [65, 104]⟩, ⟨16, [84, 88, 84], [116]⟩, ⟨28, [65, 65, 65, 65], [54]⟩, ⟨33, [83, 82, 86], [65, 66, 67, 104]⟩, ⟨39, [68, 78, 65, 77, 69], [104]⟩, ⟨43, [68, 83], [65, 98, 99, 114]⟩, ⟨46, [82, 82, 83, 73, 71], [65, 115, 98, 120, 121, 122, 70, 104, 114]⟩, ⟨47, [78, 83, 69, 67], [104, 110]⟩, ⟨48, [68, 78, 83, 75, 69, 89], [65, 98, 99, 114]⟩]
theorem proj_kd0 (k : Kd) : projPV 0 k.pv = some (.i .i64 k.num) := rfl
theorem proj_kd1 (k : Kd) : projPV 1 k.pv = some (.s k.mne) := rfl
theorem proj_kd2 (k : Kd) : projPV 2 k.pv = some (.s k.fls) := rfl
theorem sub_kd (k : Kd) : subPV 0 3 k.pv = some k.pv := rfl
theorem fit_kd (k : Kd) : fitPV 3 k.pv = some k.pv := rfl
theorem len_kds (l : List Kd) : lenPV (kdsPV l) = some (.i .i64 (l.length : Int)) := by simp [kdsPV, lenPV]
theorem idx_kds (l : List Kd) (k : IntKind) (z : Int) (h : 0 ≤ z) : idxPV 3 (kdsPV l) (.i k z) = (l[z.toNat]?).map Kd.pv := by simp [kdsPV, idx_l _ _ _ _ h]
theorem kinds_ok : S n_rdata_kinds 0 [] = some [kdsPV kds] := s_rdata_kinds (N := 1) rfl (by kernel_rfl)
theorem flat_kd (k : Kd) : PV.flat k.pv = true := rfl
theorem find_ok (t : Int) : S n_rdata_find 1 [.i .i64 t] = some (match kds.find? (fun k => decide (k.num = t)) with | some k => [k.pv, .b true] | none => [Kd.pv ⟨0, [], []⟩, .b false]) := by
  refine s_rdata_find (N := 20) rfl ?_
  have key : ∀ l : List Kd, l.length ≤ 15 → l0_rdata_find.ev S 20 [.i .i64 t, kdsPV l] = some (match l.find? (fun k => decide (k.num = t)) with | some k => .ret [k.pv, .b true] | none => .yld 0 [.i .i64 0, .s [], .s []]) := by
    intro l hl
    refine loop_list l (fun i => [.i .i64 (i : Int), .i .i64 0, .s [], .s []]) (fun i r => match r.find? (fun k => decide (k.num = t)) with | some k => .ret [k.pv, .b true] | none => .yld 0 [.i .i64 0, .s [], .s []]) rfl (by omega) (fun i c r hd hi hc => ?_) ?_
    · by_cases h : c.num = t
      · right
        simp (disch := omega) only [x_rdata_find, hc, h, proj_kd0, proj_kd1, proj_kd2, sub_kd, fit_kd, len_kds, idx_kds, EVP, ↓reduceIte, EV, if_true, if_false, Nat.reduceAdd, Nat.reduceEqDiff, Int.reduceToNat, ne_eq, not_true, not_false_eq_true, Bool.true_eq_false, reduceCtorEq]
        simp [h, Out.goes]
      · left
        simp (disch := omega) only [x_rdata_find, hc, h, proj_kd0, proj_kd1, proj_kd2, sub_kd, fit_kd, len_kds, idx_kds, EVP, ↓reduceIte, EV, if_true, if_false, Nat.reduceAdd, Nat.reduceEqDiff, Int.reduceToNat, ne_eq, not_true, not_false_eq_true, Bool.true_eq_false, reduceCtorEq]
        simp [h]
    · simp (disch := omega) only [x_rdata_find, proj_kd0, proj_kd1, proj_kd2, sub_kd, fit_kd, len_kds, idx_kds, EVP, ↓reduceIte, EV, if_true, if_false, Nat.reduceAdd, Nat.reduceEqDiff, Int.reduceToNat, ne_eq, not_true, not_false_eq_true, Bool.true_eq_false, reduceCtorEq]
      simp [Out.goes]
  have hk := key kds (by decide)
  have hkd := kinds_ok
  cases h : kds.find? (fun k => decide (k.num = t)) with
  | some k =>
    rw [h] at hk
    simp (disch := omega) only [x_rdata_find, hkd, hk, len_kds, EVP, ↓reduceIte, EV, if_true, if_false, Nat.reduceAdd, Nat.reduceEqDiff, Int.reduceToNat, ne_eq, not_true, not_false_eq_true, Bool.true_eq_false, reduceCtorEq]
  | none =>
    rw [h] at hk
    simp (disch := omega) only [x_rdata_find, hkd, hk, len_kds, EVP, ↓reduceIte, EV, if_true, if_false, Nat.reduceAdd, Nat.reduceEqDiff, Int.reduceToNat, ne_eq, not_true, not_false_eq_true, Bool.true_eq_false, reduceCtorEq]
    rfl
theorem find_knw (t : Int) : (kds.find? (fun k => decide (k.num = t))).isSome = knw t := by
  rw [Bool.eq_iff_iff, List.find?_isSome]
  simp [kds, knw]
  grind
theorem KnownP_ok (t : Int) : S n_rdata_Known 1 [.i .i64 t] = some [.b (knw t)] := by
  refine s_rdata_Known (N := 1) rfl ?_
  have h := find_ok t
  have h2 := find_knw t
  cases hk : kds.find? (fun k => decide (k.num = t)) with
  | some k =>
    rw [hk] at h h2
    simp only [Option.isSome_some] at h2
    simp (disch := omega) only [x_rdata_Known, h, flat_kd, fit_kd, EVP, ↓reduceIte, EV, if_true, if_false, Nat.reduceAdd, Nat.reduceEqDiff, Int.reduceToNat, ne_eq, not_true, not_false_eq_true, Bool.true_eq_false, reduceCtorEq]
    rw [← h2]
  | none =>
    rw [hk] at h h2
    simp only [Option.isSome_none] at h2
    simp (disch := omega) only [x_rdata_Known, h, flat_kd, fit_kd, EVP, ↓reduceIte, EV, if_true, if_false, Nat.reduceAdd, Nat.reduceEqDiff, Int.reduceToNat, ne_eq, not_true, not_false_eq_true, Bool.true_eq_false, reduceCtorEq]
    rw [← h2]

/-! ### Tasks -/
/-- what is asked of a task: so many were tried, so long is the chain -/
structure TOk (t : Tk) (k : Nat) : Prop where
  q : t.q.wf
  name : strr t.name
  zone : strr t.zone
  hostsL : t.hosts.length ≤ 16
  hosts : ∀ h ∈ t.hosts, strr h
  addrs : t.addrs.length ≤ 16
  tried : t.tried.length ≤ k
  more0 : 0 ≤ t.more
  more1 : t.more ≤ 10 + k
  asked : t.asked.wf
  sent0 : 0 ≤ t.sent
  sent1 : t.sent ≤ 64
  chain : t.chain.length ≤ k
  small : k ≤ 900000
def ownT (t : Tk) : Ques := ⟨t.name, t.q.typ⟩
theorem own_ok (t : Tk) : S n_iterate_Task_own 1 [t.pv] = some [(ownT t).pv] := by
  refine s_iterate_Task_own (N := 1) rfl ?_
  simp (disch := omega) only [x_iterate_Task_own, EVT, EVM, EVC, EVP, ↓reduceIte, EV, if_true, if_false, Nat.reduceAdd, Nat.reduceEqDiff, Int.reduceToNat, ne_eq, not_true, not_false_eq_true, Bool.true_eq_false, reduceCtorEq]
  rfl
def settledT (t : Tk) : Tk :=
  if t.addrs.any (fun a => !decide (a ∈ t.tried)) = true then { t with state := 0 }
  else if t.hosts.any (fun h => !under h t.zone) = true then { t with state := 2 }
  else { t with state := 4, err := 29 }
theorem settled1_ok (t : Tk) (a : Adr) (h : t.tried.length ≤ 1000000) : S n_iterate_Task_settled_1 1 [a.pv, t.pv] = some [.b (!decide (a ∈ t.tried))] := by
  refine s_iterate_Task_settled_1 (N := 1) rfl ?_
  have h1 := ContainsA_ok t.tried a h
  simp (disch := omega) only [x_iterate_Task_settled_1, h1, EVT, EVM, EVC, EVP, ↓reduceIte, EV, if_true, if_false, Nat.reduceAdd, Nat.reduceEqDiff, Int.reduceToNat, ne_eq, not_true, not_false_eq_true, Bool.true_eq_false, reduceCtorEq]
theorem settled2_ok (t : Tk) (x : List UInt8) (h : strr x) (hz : strr t.zone) : S n_iterate_Task_settled_2 1 [.s x, t.pv] = some [.b (!under x t.zone)] := by
  refine s_iterate_Task_settled_2 (N := 1) rfl ?_
  have h1 := UnderP_ok x t.zone h hz
  simp (disch := omega) only [x_iterate_Task_settled_2, h1, EVT, EVM, EVC, EVP, ↓reduceIte, EV, if_true, if_false, Nat.reduceAdd, Nat.reduceEqDiff, Int.reduceToNat, ne_eq, not_true, not_false_eq_true, Bool.true_eq_false, reduceCtorEq]
theorem settled_ok (t : Tk) (h1 : t.addrs.length ≤ 1000000) (h2 : t.tried.length ≤ 1000000) (h3 : t.hosts.length ≤ 1000000) (h4 : ∀ h ∈ t.hosts, strr h) (hz : strr t.zone) : S n_iterate_Task_settled 1 [t.pv] = some [(settledT t).pv] := by
  refine s_iterate_Task_settled (N := 1) rfl ?_
  have k1 := ContainsFuncA_ok t.addrs n_iterate_Task_settled_1 [t.pv] _ h1 (fun a _ => settled1_ok t a h2)
  have k2 := ContainsFuncS_ok t.hosts n_iterate_Task_settled_2 [t.pv] _ h3 (fun a ha => settled2_ok t a (h4 a ha) hz)
  rcases Bool.eq_false_or_eq_true (t.addrs.any (fun a => !decide (a ∈ t.tried))) with c1 | c1
  · rw [c1] at k1
    rw [show settledT t = { t with state := 0 } by unfold settledT; rw [if_pos c1]]
    simp (disch := omega) only [x_iterate_Task_settled, k1, EVT, EVM, EVC, EVP, ↓reduceIte, EV, if_true, if_false, Nat.reduceAdd, Nat.reduceEqDiff, Int.reduceToNat, ne_eq, not_true, not_false_eq_true, Bool.true_eq_false, reduceCtorEq]
  · rw [c1] at k1
    rcases Bool.eq_false_or_eq_true (t.hosts.any (fun h => !under h t.zone)) with c2 | c2
    · rw [c2] at k2
      rw [show settledT t = { t with state := 2 } by unfold settledT; rw [if_neg (by rw [c1]; simp), if_pos c2]]
      simp (disch := omega) only [x_iterate_Task_settled, k1, k2, EVT, EVM, EVC, EVP, ↓reduceIte, EV, if_true, if_false, Nat.reduceAdd, Nat.reduceEqDiff, Int.reduceToNat, ne_eq, not_true, not_false_eq_true, Bool.true_eq_false, reduceCtorEq]
    · rw [c2] at k2
      rw [show settledT t = { t with state := 4, err := 29 } by unfold settledT; rw [if_neg (by rw [c1]; simp), if_neg (by rw [c2]; simp)]]
      simp (disch := omega) only [x_iterate_Task_settled, k1, k2, EVT, EVM, EVC, EVP, ↓reduceIte, EV, if_true, if_false, Nat.reduceAdd, Nat.reduceEqDiff, Int.reduceToNat, ne_eq, not_true, not_false_eq_true, Bool.true_eq_false, reduceCtorEq]
def uselessT (t : Tk) : Tk := settledT { t with tried := t.tried ++ [t.dst] }
theorem useless_ok (t : Tk) {k : Nat} (h : TOk t k) : S n_iterate_Task_useless 1 [t.pv] = some [(uselessT t).pv] := by
  refine s_iterate_Task_useless (N := 1) rfl ?_
  have hs := h.small
  have ht := h.tried
  have hh := h.hostsL
  have ha := h.addrs
  have h1 := CloneA_ok t.tried (by omega)
  have h2 := settled_ok { t with tried := t.tried ++ [t.dst] } (by simp only; omega) (by simp; omega) (by simp only; omega) h.hosts h.zone
  have h3 := app_adrs1 t.tried t.dst (by omega)
  simp (disch := omega) only [x_iterate_Task_useless, h1, h2, h3, EVT, EVM, EVC, EVP, ↓reduceIte, EV, if_true, if_false, Nat.reduceAdd, Nat.reduceEqDiff, Int.reduceToNat, ne_eq, not_true, not_false_eq_true, Bool.true_eq_false, reduceCtorEq]
  rfl
def againT (t : Tk) (more : Int) : Tk := { t with state := 0, more := more, tried := [] }
theorem again_ok (t : Tk) (m : Int) : S n_iterate_Task_again 2 [t.pv, .i .i64 m] = some [(againT t m).pv] := by
  refine s_iterate_Task_again (N := 1) rfl ?_
  simp (disch := omega) only [x_iterate_Task_again, EVT, EVM, EVC, EVP, ↓reduceIte, EV, if_true, if_false, Nat.reduceAdd, Nat.reduceEqDiff, Int.reduceToNat, ne_eq, not_true, not_false_eq_true, Bool.true_eq_false, reduceCtorEq]
  rfl
def timeoutT (t : Tk) : Tk := if t.state = 1 then uselessT t else t
theorem timeout_ok (t : Tk) {k : Nat} (h : TOk t k) : S n_iterate_Timeout 1 [t.pv] = some [(timeoutT t).pv] := by
  refine s_iterate_Timeout (N := 1) rfl ?_
  have h1 := useless_ok t h
  unfold timeoutT
  by_cases c : t.state = 1
  · simp (disch := omega) only [x_iterate_Timeout, h1, c, EVT, EVM, EVC, EVP, ↓reduceIte, EV, if_true, if_false, Nat.reduceAdd, Nat.reduceEqDiff, Int.reduceToNat, ne_eq, not_true, not_false_eq_true, Bool.true_eq_false, reduceCtorEq]
  · simp (disch := omega) only [x_iterate_Timeout, h1, c, EVT, EVM, EVC, EVP, ↓reduceIte, EV, if_true, if_false, Nat.reduceAdd, Nat.reduceEqDiff, Int.reduceToNat, ne_eq, not_true, not_false_eq_true, Bool.true_eq_false, reduceCtorEq]
def zMsg : Msg := ⟨0, 0, 0, false, false, false, false, false, false, false, false, 0, ⟨[], 0⟩, [], [], []⟩
def sendT (t : Tk) (a : Adr) : Tk × Msg × Bool :=
  if t.state ≠ 0 ∨ a ∉ t.addrs ∨ a ∈ t.tried then (t, zMsg, false)
  else if 64 ≤ t.sent then ({ t with state := 4, err := 9 }, zMsg, false)
  else ({ t with dst := a, asked := (nextQ (ownT t) t.zone t.more).1, state := 1, sent := t.sent + 1 }, { zMsg with dok := true, size := 1232, q := (nextQ (ownT t) t.zone t.more).1 }, true)
theorem send_ok (t : Tk) (a : Adr) {k : Nat} (h : TOk t k) : S n_iterate_Send 2 [t.pv, a.pv] = some [(sendT t a).1.pv, (sendT t a).2.1.pv, .b (sendT t a).2.2] := by
  refine s_iterate_Send (N := 1) rfl ?_
  have hs := h.small
  have ht := h.tried
  have ha := h.addrs
  have m0 := h.more0
  have m1 := h.more1
  have s0 := h.sent0
  have s1 := h.sent1
  have h1 := ContainsA_ok t.addrs a (by omega)
  have h2 := ContainsA_ok t.tried a (by omega)
  have h4 := Next_ok ⟨t.name, t.q.typ⟩ t.zone t.more ⟨h.name, h.q.2⟩ h.zone ⟨by omega, by omega⟩
  unfold sendT
  by_cases c0 : t.state = 0
  · by_cases c1 : a ∈ t.addrs
    · by_cases c2 : a ∈ t.tried
      · simp (disch := omega) only [x_iterate_Send, h1, h2, c0, c1, c2, EVT, EVM, EVC, EVP, ↓reduceIte, EV, if_true, if_false, Nat.reduceAdd, Nat.reduceEqDiff, Int.reduceToNat, ne_eq, not_true, not_false_eq_true, Bool.true_eq_false, reduceCtorEq]
        rfl
      · by_cases c3 : 64 ≤ t.sent
        · have c3' : t.sent ≥ 64 := c3
          simp (disch := omega) only [x_iterate_Send, h1, h2, c0, c1, c2, c3', EVT, EVM, EVC, EVP, ↓reduceIte, EV, if_true, if_false, Nat.reduceAdd, Nat.reduceEqDiff, Int.reduceToNat, ne_eq, not_true, not_false_eq_true, Bool.true_eq_false, reduceCtorEq]
          simp [c0, c1, c2, c3]
          rfl
        · have c3' : ¬ t.sent ≥ 64 := c3
          simp (disch := omega) only [x_iterate_Send, h1, h2, own_ok, ownT, h4, c0, c1, c2, c3', EVT, EVM, EVC, EVP, ↓reduceIte, EV, if_true, if_false, Nat.reduceAdd, Nat.reduceEqDiff, Int.reduceToNat, ne_eq, not_true, not_false_eq_true, Bool.true_eq_false, reduceCtorEq]
          simp [c0, c1, c2, c3]
          rfl
    · simp (disch := omega) only [x_iterate_Send, h1, h2, c0, c1, EVT, EVM, EVC, EVP, ↓reduceIte, EV, if_true, if_false, Nat.reduceAdd, Nat.reduceEqDiff, Int.reduceToNat, ne_eq, not_true, not_false_eq_true, Bool.true_eq_false, reduceCtorEq]
      rfl
  · simp (disch := omega) only [x_iterate_Send, h1, h2, c0, EVT, EVM, EVC, EVP, ↓reduceIte, EV, if_true, if_false, Nat.reduceAdd, Nat.reduceEqDiff, Int.reduceToNat, ne_eq, not_true, not_false_eq_true, Bool.true_eq_false, reduceCtorEq]
    rfl
end Go.X.G
/- Tasks begun; records found; glue. -/
namespace Go.X.G
open Go Go.X

def zTk : Tk := ⟨⟨[], 0⟩, [], [], [], [], [], 0, 0, ⟨false, 0, 0⟩, ⟨[], 0⟩, 0, [], zMsg, 0⟩
def startT (q : Ques) (zone : List UInt8) (hosts : List (List UInt8)) (addrs : List Adr) : Tk × Int :=
  if under q.name zone = false then (zTk, 2)
  else if knw q.typ = false ∧ q.typ ≠ 255 then (zTk, 4)
  else (settledT ⟨q, q.name, zone, hosts.take 16, addrs.take 16, [], 0, 0, ⟨false, 0, 0⟩, ⟨[], 0⟩, 0, [], zMsg, 0⟩, 0)
theorem start_ok (q : Ques) (zone : List UInt8) (hosts : List (List UInt8)) (addrs : List Adr) (hq : q.wf) (hz : strr zone) (hh : hosts.length ≤ 1000000) (hw : ∀ h ∈ hosts, strr h) (ha : addrs.length ≤ 1000000) :
    S n_iterate_Start 4 [q.pv, .s zone, strsPV hosts, adrsPV addrs] = some [(startT q zone hosts addrs).1.pv, .i .i64 (startT q zone hosts addrs).2] := by
  refine s_iterate_Start (N := 1) rfl ?_
  have h1 := UnderP_ok q.name zone hq.1 hz
  have h2 := KnownP_ok q.typ
  have h3 := fewS_ok hosts hh
  have h4 := fewA_ok addrs ha
  have h5 := settled_ok ⟨q, q.name, zone, hosts.take 16, addrs.take 16, [], 0, 0, ⟨false, 0, 0⟩, ⟨[], 0⟩, 0, [], zMsg, 0⟩ (by simp; omega) (by simp) (by simp; omega) (fun h hm => hw h (List.mem_of_mem_take hm)) hz
  have ez : zMsg = ⟨0, 0, 0, false, false, false, false, false, false, false, false, 0, ⟨[], 0⟩, [], [], []⟩ := rfl
  rw [ez] at h5
  rcases Bool.eq_false_or_eq_true (under q.name zone) with c1 | c1
  · rw [c1] at h1
    by_cases c2 : knw q.typ = false ∧ q.typ ≠ 255
    · obtain ⟨c2, c3⟩ := c2
      rw [c2] at h2
      rw [show startT q zone hosts addrs = (zTk, 4) by unfold startT; rw [if_neg (by rw [c1]; simp), if_pos ⟨c2, c3⟩]]
      simp (disch := omega) only [x_iterate_Start, h1, h2, c3, EVT, EVM, EVC, EVP, ↓reduceIte, EV, if_true, if_false, Nat.reduceAdd, Nat.reduceEqDiff, Int.reduceToNat, ne_eq, not_true, not_false_eq_true, Bool.true_eq_false, reduceCtorEq]
      rfl
    · rw [show startT q zone hosts addrs = (settledT ⟨q, q.name, zone, hosts.take 16, addrs.take 16, [], 0, 0, ⟨false, 0, 0⟩, ⟨[], 0⟩, 0, [], zMsg, 0⟩, 0) by unfold startT; rw [if_neg (by rw [c1]; simp), if_neg c2]]
      rw [ez]
      rcases Bool.eq_false_or_eq_true (knw q.typ) with c3 | c3
      · rw [c3] at h2
        simp (disch := omega) only [x_iterate_Start, h1, h2, h3, h4, h5, EVT, EVM, EVC, EVP, ↓reduceIte, EV, if_true, if_false, Nat.reduceAdd, Nat.reduceEqDiff, Int.reduceToNat, ne_eq, not_true, not_false_eq_true, Bool.true_eq_false, reduceCtorEq]
      · rw [c3] at h2
        have c4 : q.typ = 255 := Classical.byContradiction fun h => c2 ⟨c3, h⟩
        rw [c4] at h2
        obtain ⟨n, ty⟩ := q
        simp only at c4
        subst c4
        simp (disch := omega) only [x_iterate_Start, h1, h2, h3, h4, h5, EVT, EVM, EVC, EVP, ↓reduceIte, EV, if_true, if_false, Nat.reduceAdd, Nat.reduceEqDiff, Int.reduceToNat, ne_eq, not_true, not_false_eq_true, Bool.true_eq_false, reduceCtorEq]
  · rw [c1] at h1
    rw [show startT q zone hosts addrs = (zTk, 2) by unfold startT; rw [if_pos c1]]
    simp (disch := omega) only [x_iterate_Start, h1, EVT, EVM, EVC, EVP, ↓reduceIte, EV, if_true, if_false, Nat.reduceAdd, Nat.reduceEqDiff, Int.reduceToNat, ne_eq, not_true, not_false_eq_true, Bool.true_eq_false, reduceCtorEq]
    rfl
/-! ### Glue -/
def gluB (m : Msg) (h : List UInt8) (r : Rec) : Bool := ((decide (r.typ = 2) && decide (r.data.host = h)) && under m.q.name r.name) && under h r.name
def adrL (l : List Rec) : List Adr := l.map fun r => r.data.adr
def glueL (m : Msg) (h : List UInt8) : List Adr := if m.auth.any (gluB m h) = true then adrL (findR m.ext h 1) ++ adrL (findR m.ext h 28) else []
theorem Glue1_ok (m : Msg) (h : List UInt8) (r : Rec) (hm : m.wf) (hh : strr h) (hr : r.wf) : S n_trust_Glue_1 1 [r.pv, .s h, m.pv] = some [.b (gluB m h r)] := by
  refine s_trust_Glue_1 (N := 1) rfl ?_
  have h1 := UnderP_ok m.q.name r.name hm.q.1 hr.name
  have h2 := UnderP_ok h r.name hh hr.name
  unfold gluB
  by_cases c1 : r.typ = 2
  · by_cases c2 : r.data.host = h
    · rcases Bool.eq_false_or_eq_true (under m.q.name r.name) with c3 | c3
      · rw [c3] at h1 ⊢
        simp (disch := omega) only [x_trust_Glue_1, c1, c2, h1, h2, EVT, EVM, EVC, EVP, ↓reduceIte, EV, if_true, if_false, Nat.reduceAdd, Nat.reduceEqDiff, Int.reduceToNat, ne_eq, not_true, not_false_eq_true, Bool.true_eq_false, reduceCtorEq]
        simp
      · rw [c3] at h1 ⊢
        simp (disch := omega) only [x_trust_Glue_1, c1, c2, h1, EVT, EVM, EVC, EVP, ↓reduceIte, EV, if_true, if_false, Nat.reduceAdd, Nat.reduceEqDiff, Int.reduceToNat, ne_eq, not_true, not_false_eq_true, Bool.true_eq_false, reduceCtorEq]
        simp
    · simp (disch := omega) only [x_trust_Glue_1, c1, c2, EVT, EVM, EVC, EVP, ↓reduceIte, EV, if_true, if_false, Nat.reduceAdd, Nat.reduceEqDiff, Int.reduceToNat, ne_eq, not_true, not_false_eq_true, Bool.true_eq_false, reduceCtorEq]
      simp
  · simp (disch := omega) only [x_trust_Glue_1, c1, EVT, EVM, EVC, EVP, ↓reduceIte, EV, if_true, if_false, Nat.reduceAdd, Nat.reduceEqDiff, Int.reduceToNat, ne_eq, not_true, not_false_eq_true, Bool.true_eq_false, reduceCtorEq]
    simp
theorem Glue_l1 (fl : List Rec) (g0 : List Adr) (p0 p1 p2 p4 : PV) (hl : fl.length ≤ 1000000) (hg0 : g0.length ≤ 1000000) (N : Nat) (hN : fl.length < N) :
    l1_trust_Glue.ev S N [p0, p1, p2, adrsPV g0, p4, recsPV fl] = some (.yld 2 [adrsPV (g0 ++ adrL fl)]) := by
  refine loop_acc fl (fun i g => [adrsPV g, .i .i64 (i : Int)]) (fun i g r => .yld 2 [adrsPV (g ++ adrL r)]) (fun i g => g.length ≤ 1000000 + i) g0 rfl (by omega) hN (fun i g c r hd hi hc hg => ?_) (fun g hg => ?_)
  · left
    refine ⟨g ++ [c.data.adr], ?_, by simp; omega, by simp [adrL]⟩
    simp (disch := omega) only [x_trust_Glue, hc, EVT, EVM, EVC, EVP, ↓reduceIte, EV, if_true, if_false, Nat.reduceAdd, Nat.reduceEqDiff, Int.reduceToNat, ne_eq, not_true, not_false_eq_true, Bool.true_eq_false, reduceCtorEq]
  · simp (disch := omega) only [x_trust_Glue, EVT, EVM, EVC, EVP, ↓reduceIte, EV, if_true, if_false, Nat.reduceAdd, Nat.reduceEqDiff, Int.reduceToNat, ne_eq, not_true, not_false_eq_true, Bool.true_eq_false, reduceCtorEq]
    simp [Out.goes, adrL]
theorem Glue_ok (m : Msg) (h : List UInt8) (hm : MOk m) (hh : strr h) : S n_trust_Glue 2 [m.pv, .s h] = some [adrsPV (glueL m h)] := by
  refine s_trust_Glue (N := 2000) rfl ?_
  have ha := hm.auth
  have he := hm.ext
  have k1 := ContainsFuncR_ok m.auth n_trust_Glue_1 [.s h, m.pv] _ (by omega) (fun r hr => Glue1_ok m h r hm.wf hh (hm.wf.auth.2 r hr))
  have hlit : litPV 1 [.i .i64 1, .i .i64 28] = some (.l 1 ([(1 : Int), 28].map (.i .i64))) := rfl
  unfold glueL
  rcases Bool.eq_false_or_eq_true (m.auth.any (gluB m h)) with c | c
  · rw [c] at k1 ⊢
    have key : l0_trust_Glue.ev S 2000 [m.pv, .s h, .b true] = some (.yld 0 [adrsPV ([] ++ [(1 : Int), 28].flatMap fun t => adrL (findR m.ext h t))]) := by
      refine loop_acc [(1 : Int), 28] (fun i g => [adrsPV g, .i .i64 (i : Int)]) (fun i g r => .yld 0 [adrsPV (g ++ r.flatMap fun t => adrL (findR m.ext h t))]) (fun i g => g.length ≤ 1000 * i) [] rfl (by simp) (by simp) (fun i g c r hd hi hc hg => ?_) (fun g hg => ?_)
      · left
        have hi2 : i < 2 := hi
        have hf := findR_len m.ext h c
        have hF := FindP_ok m.ext h c (by omega)
        have hI := Glue_l1 (findR m.ext h c) g m.pv (.s h) (.b true) (.i .i64 (i : Int)) (by omega) (by omega) 2000 (by omega)
        have hix : idxPV 1 (.l 1 ([(1 : Int), 28].map (.i .i64))) (.i .i64 (i : Int)) = some (.i .i64 c) := by
          rw [idx_l _ _ _ _ (by omega), tn_nat, List.getElem?_map, hc]; rfl
        refine ⟨g ++ adrL (findR m.ext h c), ?_, by simp [adrL]; omega, by simp⟩
        simp (disch := omega) only [x_trust_Glue, hlit, hix, hF, hI, List.length_map, List.length_cons, List.length_nil, EVT, EVM, EVC, EVP, ↓reduceIte, EV, if_true, if_false, Nat.reduceAdd, Nat.reduceEqDiff, Int.reduceToNat, ne_eq, not_true, not_false_eq_true, Bool.true_eq_false, reduceCtorEq]
      · have hl2 : ([(1 : Int), 28]).length = 2 := rfl
        rw [hl2] at hg ⊢
        simp (disch := omega) only [x_trust_Glue, hlit, List.length_map, List.length_cons, List.length_nil, EVT, EVM, EVC, EVP, ↓reduceIte, EV, if_true, if_false, Nat.reduceAdd, Nat.reduceEqDiff, Int.reduceToNat, ne_eq, not_true, not_false_eq_true, Bool.true_eq_false, reduceCtorEq]
        simp [Out.goes]
    simp only [List.nil_append, List.flatMap_cons, List.flatMap_nil, List.append_nil] at key
    simp (disch := omega) only [x_trust_Glue, k1, key, hlit, List.length_map, List.length_cons, List.length_nil, EVT, EVM, EVC, EVP, ↓reduceIte, EV, if_true, if_false, Nat.reduceAdd, Nat.reduceEqDiff, Int.reduceToNat, ne_eq, not_true, not_false_eq_true, Bool.true_eq_false, reduceCtorEq]
  · rw [c] at k1 ⊢
    simp (disch := omega) only [x_trust_Glue, k1, EVT, EVM, EVC, EVP, ↓reduceIte, EV, if_true, if_false, Nat.reduceAdd, Nat.reduceEqDiff, Int.reduceToNat, ne_eq, not_true, not_false_eq_true, Bool.true_eq_false, reduceCtorEq]
theorem glueL_len (m : Msg) (h : List UInt8) : (glueL m h).length ≤ 2 * m.ext.length := by
  unfold glueL
  split
  · have h1 := findR_len m.ext h 1
    have h2 := findR_len m.ext h 28
    simp [adrL]; omega
  · simp
end Go.X.G
/- Tasks that are referred, and that follow aliases. -/
namespace Go.X.G
open Go Go.X

/-! ### Referred -/
/-- addresses that are not there yet -/
def addU (acc : List Adr) : List Adr → List Adr
  | [] => acc
  | a :: r => if a ∈ acc then addU acc r else addU (acc ++ [a]) r
theorem addU_len : ∀ (l acc : List Adr), (addU acc l).length ≤ acc.length + l.length
  | [], acc => by simp [addU]
  | a :: r, acc => by
    unfold addU
    split
    · have := addU_len r acc; simp; omega
    · have := addU_len r (acc ++ [a]); simp at this ⊢; omega
def glues (m : Msg) (acc : List Adr) : List (List UInt8) → List Adr
  | [] => acc
  | h :: r => glues m (addU acc (glueL m h)) r
def referredT (t : Tk) (m : Msg) : Tk :=
  settledT { t with zone := (childN (insideM m t.zone) t.zone).1, hosts := (childN (insideM m t.zone) t.zone).2.1.take 16, addrs := (glues (insideM m t.zone) [] ((childN (insideM m t.zone) t.zone).2.1.take 16)).take 16, tried := [], more := 0 }
theorem referred_l1 (l : List Adr) (g0 : List Adr) (p0 p1 p2 p3 p4 p5 p6 p7 p8 : PV) (hp8 : p8 = adrsPV g0) (hl : l.length ≤ 100000) (hg0 : g0.length ≤ 100000) (N : Nat) (hN : l.length < N) :
    l1_iterate_Task_referred.ev S N [p0, p1, p2, p3, p4, p5, p6, p7, p8, adrsPV l] = some (.yld 2 [adrsPV (addU g0 l)]) := by
  subst hp8
  refine loop_acc l (fun i g => [.i .i64 (i : Int), adrsPV g]) (fun i g r => .yld 2 [adrsPV (addU g r)]) (fun i g => g.length ≤ 100000 + i) g0 rfl (by omega) hN (fun i g c r hd hi hc hg => ?_) (fun g hg => ?_)
  · left
    have hC := ContainsA_ok g c (by omega)
    by_cases h1 : c ∈ g
    · refine ⟨g, ?_, by omega, by simp [addU, h1]⟩
      simp (disch := omega) only [x_iterate_Task_referred, hc, hC, h1, EVT, EVM, EVC, EVP, ↓reduceIte, EV, if_true, if_false, Nat.reduceAdd, Nat.reduceEqDiff, Int.reduceToNat, ne_eq, not_true, not_false_eq_true, Bool.true_eq_false, reduceCtorEq]
    · refine ⟨g ++ [c], ?_, by simp; omega, by simp [addU, h1]⟩
      simp (disch := omega) only [x_iterate_Task_referred, hc, hC, h1, EVT, EVM, EVC, EVP, ↓reduceIte, EV, if_true, if_false, Nat.reduceAdd, Nat.reduceEqDiff, Int.reduceToNat, ne_eq, not_true, not_false_eq_true, Bool.true_eq_false, reduceCtorEq]
  · simp (disch := omega) only [x_iterate_Task_referred, EVT, EVM, EVC, EVP, ↓reduceIte, EV, if_true, if_false, Nat.reduceAdd, Nat.reduceEqDiff, Int.reduceToNat, ne_eq, not_true, not_false_eq_true, Bool.true_eq_false, reduceCtorEq]
    simp [Out.goes, addU]
theorem MOk.inside' {m : Msg} (h : MOk m) (z : List UInt8) : MOk (insideM m z) := h.inside z
theorem referred_l0 (m : Msg) (hs : List (List UInt8)) (p0 p1 p3 p4 p5 : PV) (hm : MOk m) (hl : hs.length ≤ 16) (hw : ∀ h ∈ hs, strr h) :
    l0_iterate_Task_referred.ev S 5000 [p0, p1, m.pv, p3, p4, p5, strsPV hs] = some (.yld 0 [adrsPV (glues m [] hs)]) := by
  have he := hm.ext
  refine loop_acc hs (fun i g => [.i .i64 (i : Int), adrsPV g]) (fun i g r => .yld 0 [adrsPV (glues m g r)]) (fun i g => g.length ≤ 2000 * i) [] rfl (by simp) (by omega) (fun i g c r hd hi hc hg => ?_) (fun g hg => ?_)
  · left
    have hG := Glue_ok m c hm (hw c (List.mem_of_getElem? hc))
    have hgl := glueL_len m c
    have hI := referred_l1 (glueL m c) g p0 p1 m.pv p3 p4 p5 (strsPV hs) (.i .i64 (i : Int)) (adrsPV g) rfl (by omega) (by omega) 5000 (by omega)
    have ha := addU_len (glueL m c) g
    refine ⟨addU g (glueL m c), ?_, by omega, by simp [glues]⟩
    simp (disch := omega) only [x_iterate_Task_referred, hc, hG, hI, EVT, EVM, EVC, EVP, ↓reduceIte, EV, if_true, if_false, Nat.reduceAdd, Nat.reduceEqDiff, Int.reduceToNat, ne_eq, not_true, not_false_eq_true, Bool.true_eq_false, reduceCtorEq]
  · simp (disch := omega) only [x_iterate_Task_referred, EVT, EVM, EVC, EVP, ↓reduceIte, EV, if_true, if_false, Nat.reduceAdd, Nat.reduceEqDiff, Int.reduceToNat, ne_eq, not_true, not_false_eq_true, Bool.true_eq_false, reduceCtorEq]
    simp [Out.goes, glues]
theorem glues_len (m : Msg) : ∀ (hs : List (List UInt8)) (acc : List Adr), (glues m acc hs).length ≤ acc.length + 2 * m.ext.length * hs.length
  | [], acc => by simp [glues]
  | h :: r, acc => by
    unfold glues
    have h1 := glues_len m r (addU acc (glueL m h))
    have h2 := addU_len (glueL m h) acc
    have h3 := glueL_len m h
    simp only [List.length_cons, Nat.mul_add, Nat.mul_one]
    omega
theorem dd_strr : ∀ (l : List Rec) (out : List (List UInt8)), (∀ r ∈ l, r.wf) → (∀ h ∈ out, strr h) → ∀ h ∈ dd out l, strr h
  | [], out, _, ho, h, hh => ho h (by simpa [dd] using hh)
  | r :: rs, out, hl, ho, h, hh => by
    unfold dd at hh
    split at hh
    · exact dd_strr rs out (fun x hx => hl x (.tail _ hx)) ho h hh
    · refine dd_strr rs _ (fun x hx => hl x (.tail _ hx)) (fun x hx => ?_) h hh
      rcases List.mem_append.1 hx with hx | hx
      · exact ho x hx
      · simp at hx; subst hx; exact (hl r (.head _)).data.host
theorem find_mem' {l : List Rec} {n : List UInt8} {t : Int} {r : Rec} (h : r ∈ findR l n t) : r ∈ l := (List.mem_filter.1 h).1
theorem refN_mem {m : Msg} {zone : List UInt8} {r : Rec} (h : refN m zone = some r) : r ∈ m.auth := by
  unfold refN at h
  split at h
  · cases h
  · exact List.mem_of_find?_eq_some h
theorem childN_ok {m : Msg} {zone : List UInt8} (hm : MOk m) : strr (childN m zone).1 ∧ (∀ h ∈ (childN m zone).2.1, strr h) ∧ (childN m zone).2.1.length ≤ 1000 := by
  have e0 : strr [] := by simp [strr]
  unfold childN
  split
  · split
    · rename_i r hr
      refine ⟨(hm.wf.auth.2 r (refN_mem hr)).name, ?_, ?_⟩
      · exact dd_strr _ _ (fun x hx => hm.wf.auth.2 x (find_mem' hx)) (by simp)
      · have h1 := dd_len (findR m.auth r.name 2) []
        have h2 := findR_len m.auth r.name 2
        have h3 := hm.auth
        simp only [List.length_nil] at h1
        show (dd [] (findR m.auth r.name 2)).length ≤ 1000
        omega
    · exact ⟨e0, by simp, by simp⟩
  · exact ⟨e0, by simp, by simp⟩
theorem referred_ok (t : Tk) (m : Msg) {k : Nat} (h : TOk t k) (hm : MOk m) : S n_iterate_Task_referred 2 [t.pv, m.pv] = some [(referredT t m).pv] := by
  refine s_iterate_Task_referred (N := 5000) rfl ?_
  have h1 := Inside_ok m t.zone hm.wf h.zone hm.ans hm.auth hm.ext
  have h2 := ChildP_ok m t.zone hm h.zone
  unfold referredT
  have hi := hm.inside t.zone
  generalize insideM m t.zone = x at *
  obtain ⟨c1, c2, c3⟩ := childN_ok (zone := t.zone) hi
  generalize childN x t.zone = c at *
  obtain ⟨cz, ch, cb⟩ := c
  simp only at c1 c2 c3
  simp only [childPV] at h2
  have h3 := fewS_ok ch (by omega)
  have h4 : (ch.take 16).length ≤ 16 := by simp; omega
  have h5 := fun p0 p1 p3 p4 p5 => referred_l0 x (ch.take 16) p0 p1 p3 p4 p5 hi h4 (fun h hm => c2 h (List.mem_of_mem_take hm))
  have h6 := glues_len x (ch.take 16) []
  have h6' : 2 * x.ext.length * (ch.take 16).length ≤ 2000 * 16 := Nat.mul_le_mul (by have := hi.ext; omega) h4
  have h7 := fewA_ok (glues x [] (ch.take 16)) (by rw [List.length_nil] at h6; omega)
  have h8 := settled_ok { t with zone := cz, hosts := ch.take 16, addrs := (glues x [] (ch.take 16)).take 16, tried := [], more := 0 } (by simp; omega) (by simp) (by simp only; omega) (fun h hm => c2 h (List.mem_of_mem_take hm)) c1
  simp only
  simp (disch := omega) only [x_iterate_Task_referred, h1, h2, h3, h5, h7, h8, EVT, EVM, EVC, EVP, ↓reduceIte, EV, if_true, if_false, Nat.reduceAdd, Nat.reduceEqDiff, Int.reduceToNat, ne_eq, not_true, not_false_eq_true, Bool.true_eq_false, reduceCtorEq]

/-! ### Aliases -/
def cloGB (fn : Fns) (η : List PV) (fl : Bool) (c : E) (ar : List E) (m : Nat) : PV → Option (List PV)
  | .b true => (c.ev η).bind (cloB fn η fl ar m)
  | .b false => some (η ++ List.replicate m .u)
  | _ => none
theorem wev_clog {fn : Fns} {η : List PV} (g : E) (fl : Bool) (c : E) (ar : List E) (m : Nat) : W.ev fn η (.clo (some g) fl c ar m) = (g.ev η).bind (cloGB fn η fl c ar m) := by
  simp only [W.ev, guarded]
  congr 1; funext p
  cases p with
  | b v =>
    cases v with
    | false => rfl
    | true =>
      simp only [cloGB]
      congr 1; funext q
      cases q <;> simp only [cloB] <;> cases h : E.evs η ar <;> rfl
  | _ => rfl
theorem cloGB_t {fn : Fns} {η : List PV} (fl : Bool) (c : E) (ar : List E) (m : Nat) : cloGB fn η fl c ar m (.b true) = (c.ev η).bind (cloB fn η fl ar m) := rfl
theorem cloGB_f {fn : Fns} {η : List PV} (fl : Bool) (c : E) (ar : List E) (m : Nat) : cloGB fn η fl c ar m (.b false) = some (η ++ List.replicate m .u) := rfl
theorem aliased11_ok (r : Rec) (t : Tk) : S n_iterate_Task_aliased_1_1 1 [r.pv, t.pv] = some [.b (decide (r.name = t.name) && (decide (r.typ = t.q.typ) || decide (t.q.typ = 255)))] := by
  refine s_iterate_Task_aliased_1_1 (N := 1) rfl ?_
  by_cases h1 : r.name = t.name <;> by_cases h2 : r.typ = t.q.typ <;> by_cases h3 : t.q.typ = 255 <;> simp (disch := omega) only [x_iterate_Task_aliased_1_1, h1, h2, h3, EVT, EVM, EVC, EVP, ↓reduceIte, EV, if_true, if_false, Nat.reduceAdd, Nat.reduceEqDiff, Int.reduceToNat, ne_eq, not_true, not_false_eq_true, Bool.true_eq_false, reduceCtorEq] <;> simp [h1, h2, h3]
theorem aliased1_ok (m : Msg) (t : Tk) (hl : m.ans.length ≤ 1000000) : S n_iterate_Task_aliased_1 0 [m.pv, t.pv] = some [.b (hasL m.ans t.name t.q.typ)] := by
  refine s_iterate_Task_aliased_1 (N := 1) rfl ?_
  have h1 := ContainsFuncR_ok m.ans n_iterate_Task_aliased_1_1 [t.pv] _ hl (fun r _ => aliased11_ok r t)
  unfold hasL
  simp (disch := omega) only [x_iterate_Task_aliased_1, h1, EVT, EVM, EVC, EVP, ↓reduceIte, EV, if_true, if_false, Nat.reduceAdd, Nat.reduceEqDiff, Int.reduceToNat, ne_eq, not_true, not_false_eq_true, Bool.true_eq_false, reduceCtorEq]
theorem aliased2_ok (r : Rec) (t : Tk) : S n_iterate_Task_aliased_2 1 [r.pv, t.pv] = some [.b (decide (r.name = t.name))] := by
  refine s_iterate_Task_aliased_2 (N := 1) rfl ?_
  simp (disch := omega) only [x_iterate_Task_aliased_2, EVT, EVM, EVC, EVP, ↓reduceIte, EV, if_true, if_false, Nat.reduceAdd, Nat.reduceEqDiff, Int.reduceToNat, ne_eq, not_true, not_false_eq_true, Bool.true_eq_false, reduceCtorEq]
/-- along aliases: the name, the chain -/
def folC (l : List Rec) (ty : Int) : Nat → List UInt8 → List Rec → List UInt8 × List Rec
  | 0, n, c => (n, c)
  | k + 1, n, c => if hasL l n ty = true then (n, c) else match findR l n 5 with
    | [] => (n, c)
    | r :: _ => folC l ty k r.data.host (c ++ [r])
def aliasedT (t : Tk) (m : Msg) : Tk :=
  let p := folC (insideM m t.zone).ans t.q.typ 8 t.name t.chain
  if p.1 = t.q.name ∨ p.2.any (fun r => decide (r.name = p.1)) = true ∨ 8 < p.2.length then { t with name := p.1, chain := p.2, state := 4, err := 28 }
  else if under p.1 t.zone = true then againT { t with name := p.1, chain := p.2 } 0
  else { t with name := p.1, chain := p.2, state := 5 }
theorem folC_len (l : List Rec) (ty : Int) : ∀ (k : Nat) (n : List UInt8) (c : List Rec), (folC l ty k n c).2.length ≤ c.length + k
  | 0, n, c => by simp [folC]
  | k + 1, n, c => by
    unfold folC
    split
    · simp
    · split
      · simp
      · rename_i r _ _
        have := folC_len l ty k r.data.host (c ++ [r])
        simp at this ⊢; omega
theorem folC_strr (l : List Rec) (ty : Int) (hl : ∀ r ∈ l, r.wf) : ∀ (k : Nat) (n : List UInt8) (c : List Rec), strr n → strr (folC l ty k n c).1
  | 0, n, c, h => by simpa [folC] using h
  | k + 1, n, c, h => by
    unfold folC
    split
    · exact h
    · split
      · exact h
      · rename_i r rest hf
        exact folC_strr l ty hl k _ _ (hl r (find_mem' (by rw [hf]; exact .head _))).data.host
theorem aliased_l0 (t : Tk) (m : Msg) (c0 : List Rec) (p1 : PV) (hm : MOk m) (hc : c0.length ≤ 1000000) :
    l0_iterate_Task_aliased.ev S 20 [t.pv, p1, m.pv, recsPV c0] = some (.yld 0 [.s (folC m.ans t.q.typ 8 t.name c0).1, recsPV (folC m.ans t.q.typ 8 t.name c0).2]) := by
  have hans := hm.ans
  refine loop_rule (α := Nat × List UInt8 × List Rec) (fun a => [.i .i64 (a.1 : Int), .s a.2.1, recsPV a.2.2]) (fun a => .yld 0 [.s (folC m.ans t.q.typ (8 - a.1) a.2.1 a.2.2).1, recsPV (folC m.ans t.q.typ (8 - a.1) a.2.1 a.2.2).2]) (fun a => a.1 ≤ 8 ∧ a.2.2.length ≤ 1000000 + a.1) (fun a => 8 - a.1) (0, t.name, c0) ?_ ⟨by simp, by simpa using hc⟩ (by simp) ?_
  · simp (disch := omega) only [EVT, EVM, EVC, EVP, ↓reduceIte, EV, if_true, if_false, Nat.reduceAdd, Nat.reduceEqDiff, Int.reduceToNat, ne_eq, not_true, not_false_eq_true, Bool.true_eq_false, reduceCtorEq]
  · rintro ⟨j, n, c⟩ ⟨hj, hcl⟩
    simp only at hj hcl ⊢
    by_cases h8 : j = 8
    · subst h8
      right
      have e0 : ¬ (((8 : Nat) : Int) < 8) := by omega
      simp (disch := omega) only [x_iterate_Task_aliased, e0, wev_clog, cloGB_t, cloGB_f, EVT, EVM, EVC, EVP, ↓reduceIte, EV, if_true, if_false, Nat.reduceAdd, Nat.reduceEqDiff, Int.reduceToNat, ne_eq, not_true, not_false_eq_true, Bool.true_eq_false, reduceCtorEq]
      simp [folC, Out.goes]
    · have e0 : ((j : Int) < 8) := by omega
      obtain ⟨d, hd⟩ : ∃ d, 8 - j = d + 1 := ⟨7 - j, by omega⟩
      rw [hd]
      have hans1 := aliased1_ok m { t with name := n, chain := c } (by omega)
      simp only at hans1
      rcases Bool.eq_false_or_eq_true (hasL m.ans n t.q.typ) with h1 | h1
      · right
        rw [h1] at hans1
        simp (disch := omega) only [x_iterate_Task_aliased, e0, hans1, wev_clog, cloGB_t, cloGB_f, EVT, EVM, EVC, EVP, ↓reduceIte, EV, if_true, if_false, Nat.reduceAdd, Nat.reduceEqDiff, Int.reduceToNat, ne_eq, not_true, not_false_eq_true, Bool.true_eq_false, reduceCtorEq]
        simp [folC, h1, Out.goes]
      · rw [h1] at hans1
        have hF := FindP_ok m.ans n 5 (by omega)
        cases hf : findR m.ans n 5 with
        | nil =>
          rw [hf] at hF
          right
          simp (disch := omega) only [x_iterate_Task_aliased, e0, hans1, hF, wev_clog, cloGB_t, cloGB_f, EVT, EVM, EVC, EVP, ↓reduceIte, EV, if_true, if_false, Nat.reduceAdd, Nat.reduceEqDiff, Int.reduceToNat, ne_eq, not_true, not_false_eq_true, Bool.true_eq_false, reduceCtorEq]
          simp [folC, h1, hf, Out.goes]
        | cons r rest =>
          rw [hf] at hF
          left
          have hne : ¬ (((r :: rest).length : Int) = 0) := by simp; omega
          have hix : idxPV 16 (recsPV (r :: rest)) (.i .i64 0) = some r.pv := rfl
          refine ⟨(j + 1, r.data.host, c ++ [r]), ?_, ⟨by simp only; omega, by simp; omega⟩, by simp only; omega, ?_⟩
          · simp (disch := omega) only [x_iterate_Task_aliased, e0, hans1, hF, hne, hix, wev_clog, cloGB_t, cloGB_f, EVT, EVM, EVC, EVP, ↓reduceIte, EV, if_true, if_false, Nat.reduceAdd, Nat.reduceEqDiff, Int.reduceToNat, ne_eq, not_true, not_false_eq_true, Bool.true_eq_false, reduceCtorEq]
          · have e8 : 8 - (j + 1) = d := by omega
            simp [folC, h1, hf, e8]
theorem aliased_ok (t : Tk) (m : Msg) {k : Nat} (h : TOk t k) (hm : MOk m) (hn : ∀ r ∈ m.ans, r.wf) : S n_iterate_Task_aliased 2 [t.pv, m.pv] = some [(aliasedT t m).pv] := by
  refine s_iterate_Task_aliased (N := 20) rfl ?_
  have hs := h.small
  have hch := h.chain
  have h1 := Inside_ok m t.zone hm.wf h.zone hm.ans hm.auth hm.ext
  have hi := hm.inside t.zone
  have hstr : strr (folC (insideM m t.zone).ans t.q.typ 8 t.name t.chain).1 := folC_strr _ _ (fun r hr => hi.wf.ans.2 r hr) 8 _ _ h.name
  unfold aliasedT
  generalize insideM m t.zone = x at *
  have h2 := CloneR_ok t.chain (by omega)
  have h3 := fun p1 => aliased_l0 t x t.chain p1 hi (by omega)
  have h4 := folC_len x.ans t.q.typ 8 t.name t.chain
  generalize folC x.ans t.q.typ 8 t.name t.chain = p at *
  obtain ⟨pn, pc⟩ := p
  simp only at hstr h3 h4 ⊢
  have h5 := ContainsFuncR_ok pc n_iterate_Task_aliased_2 [Tk.pv { t with name := pn, chain := pc }] _ (by omega) (fun r _ => aliased2_ok r { t with name := pn, chain := pc })
  simp only at h5
  have h6 := UnderP_ok pn t.zone hstr h.zone
  by_cases c1 : pn = t.q.name
  · rw [if_pos (.inl c1)]
    simp (disch := omega) only [x_iterate_Task_aliased, h1, h2, h3, c1, EVT, EVM, EVC, EVP, ↓reduceIte, EV, if_true, if_false, Nat.reduceAdd, Nat.reduceEqDiff, Int.reduceToNat, ne_eq, not_true, not_false_eq_true, Bool.true_eq_false, reduceCtorEq]
  · rcases Bool.eq_false_or_eq_true (pc.any fun r => decide (r.name = pn)) with c2 | c2
    · rw [c2] at h5
      rw [if_pos (.inr (.inl c2))]
      simp (disch := omega) only [x_iterate_Task_aliased, h1, h2, h3, h5, c1, EVT, EVM, EVC, EVP, ↓reduceIte, EV, if_true, if_false, Nat.reduceAdd, Nat.reduceEqDiff, Int.reduceToNat, ne_eq, not_true, not_false_eq_true, Bool.true_eq_false, reduceCtorEq]
    · rw [c2] at h5
      by_cases c3 : 8 < pc.length
      · rw [if_pos (.inr (.inr c3))]
        have c3' : (pc.length : Int) > 8 := by omega
        simp (disch := omega) only [x_iterate_Task_aliased, h1, h2, h3, h5, c1, c3', EVT, EVM, EVC, EVP, ↓reduceIte, EV, if_true, if_false, Nat.reduceAdd, Nat.reduceEqDiff, Int.reduceToNat, ne_eq, not_true, not_false_eq_true, Bool.true_eq_false, reduceCtorEq]
      · rw [if_neg (by rintro (h | h | h); exact c1 h; rw [c2] at h; cases h; exact c3 h)]
        have c3' : ¬ (pc.length : Int) > 8 := by omega
        rcases Bool.eq_false_or_eq_true (under pn t.zone) with c4 | c4
        · rw [c4] at h6
          rw [if_pos c4]
          simp (disch := omega) only [x_iterate_Task_aliased, h1, h2, h3, h5, h6, c1, c3', again_ok, EVT, EVM, EVC, EVP, ↓reduceIte, EV, if_true, if_false, Nat.reduceAdd, Nat.reduceEqDiff, Int.reduceToNat, ne_eq, not_true, not_false_eq_true, Bool.true_eq_false, reduceCtorEq]
        · rw [c4] at h6
          rw [if_neg (by rw [c4]; simp)]
          simp (disch := omega) only [x_iterate_Task_aliased, h1, h2, h3, h5, h6, c1, c3', EVT, EVM, EVC, EVP, ↓reduceIte, EV, if_true, if_false, Nat.reduceAdd, Nat.reduceEqDiff, Int.reduceToNat, ne_eq, not_true, not_false_eq_true, Bool.true_eq_false, reduceCtorEq]
end Go.X.G
/- Tasks that receive, and that are supplied. -/
namespace Go.X.G
open Go Go.X

theorem ixG_first {α : Type} (p : α → Bool) : ∀ (l : List α) (k : Nat), 0 ≤ ixG p k l → ∃ j, ixG p k l = ((k + j : Nat) : Int) ∧ j < l.length ∧ (∀ x ∈ l.take j, p x = false) ∧ ∃ x, l[j]? = some x ∧ p x = true
  | [], k, h => by simp [ixG] at h
  | r :: rs, k, h => by
    rcases Bool.eq_false_or_eq_true (p r) with h1 | h1
    · exact ⟨0, by simp [ixG, h1], by simp, by simp, r, rfl, h1⟩
    · have e : ixG p k (r :: rs) = ixG p (k + 1) rs := by simp [ixG, h1]
      rw [e] at h ⊢
      obtain ⟨j, g1, g2, g3, x, g4, g5⟩ := ixG_first p rs (k + 1) h
      refine ⟨j + 1, by rw [g1]; congr 1; omega, by simp; omega, fun y hy => ?_, x, by simpa using g4, g5⟩
      simp only [List.take_succ_cons, List.mem_cons] at hy
      rcases hy with rfl | hy
      · exact h1
      · exact g3 y hy
theorem filter_take_false {α : Type} (p : α → Bool) {l : List α} (h : ∀ x ∈ l, p x = false) : l.filter (fun x => !p x) = l := by
  rw [List.filter_eq_self]
  intro x hx
  simp [h x hx]
theorem DeleteS_ok (l : List (List UInt8)) (g : Nat) (caps : List PV) (p : List UInt8 → Bool) (hl : l.length ≤ 1000000) (h : ∀ r ∈ l, S g 1 (.s r :: caps) = some [.b (p r)]) : S n_slices_DeleteFunc_string_string 1048578 [strsPV l, .f g caps] = some [strsPV (l.filter fun x => !p x)] := by
  refine s_slices_DeleteFunc_string_string (N := l.length + 1) rfl ?_
  have h0 := IndexFuncS_ok l g caps p hl h
  have hany := (ixG_any p l 0)
  by_cases hneg : ixG p 0 l = -1
  · have hf : l.any p = false := by
      rcases Bool.eq_false_or_eq_true (l.any p) with h1 | h1
      · have := hany.1.2 h1; omega
      · exact h1
    have e : l.filter (fun x => !p x) = l := filter_take_false p (fun x hx => by
      rw [List.any_eq_false] at hf
      simpa using hf x hx)
    rw [hneg] at h0
    rw [e]
    simp (disch := omega) only [x_slices_DeleteFunc_string_string, h0, EVT, EVM, EVC, EVP, ↓reduceIte, EV, if_true, if_false, Nat.reduceAdd, Nat.reduceEqDiff, Int.reduceToNat, ne_eq, not_true, not_false_eq_true, Bool.true_eq_false, reduceCtorEq]
  · obtain ⟨j0, g1, g2, g3, x0, g4, g5⟩ := ixG_first p l 0 (by have := hany.2.2; omega)
    rw [g1] at h0
    simp only [Nat.zero_add] at h0
    -- the rounds
    have key : ∃ s : List (List UInt8), s.length = l.length ∧ s.take (l.filter fun x => !p x).length = l.filter (fun x => !p x) ∧ l0_slices_DeleteFunc_string_string.ev S (l.length + 1) [strsPV l, .f g caps, .i .i64 (j0 : Int)] = some (.yld 0 [.i .i64 (((l.filter fun x => !p x).length : Nat) : Int), strsPV s]) := by
      -- a function for the list as it stands after so many
      let nx : Nat × Nat × List (List UInt8) → Nat × Nat × List (List UInt8) := fun a => match l[a.2.1]? with
        | some c => if p c = true then (a.1, a.2.1 + 1, a.2.2) else (a.1 + 1, a.2.1 + 1, a.2.2.set a.1 c)
        | none => a
      let fin : Nat → Nat × Nat × List (List UInt8) → Nat × Nat × List (List UInt8) := fun n a => Nat.rec a (fun _ b => nx b) n
      have fin_s : ∀ n a, fin (n + 1) a = nx (fin n a) := fun _ _ => rfl
      have fin_c : ∀ n a, fin (n + 1) a = fin n (nx a) := by
        intro n
        induction n with
        | zero => intro a; rfl
        | succ n ih => intro a; exact congrArg nx (ih a)
      let I : Nat × Nat × List (List UInt8) → Prop := fun a => a.1 < a.2.1 ∧ a.2.1 ≤ l.length ∧ a.2.2.length = l.length ∧ a.2.2.take a.1 = (l.take a.2.1).filter (fun x => !p x) ∧ a.2.2.drop a.2.1 = l.drop a.2.1
      have I_nx : ∀ a, I a → a.2.1 < l.length → I (nx a) ∧ (nx a).2.1 = a.2.1 + 1 := by
        rintro ⟨i, j, s⟩ ⟨i1, i2, i3, i4, i5⟩ hj
        simp only at i1 i2 i3 i4 i5 hj
        have hc : l[j]? = some l[j] := List.getElem?_eq_getElem hj
        have ht : l.take (j + 1) = l.take j ++ [l[j]] := by rw [List.take_add_one, hc]; rfl
        have hdrop : s.drop (j + 1) = l.drop (j + 1) := by
          rw [← List.drop_drop (i := 1) (j := j), i5, List.drop_drop]
        have hlen : i = ((l.take j).filter fun x => !p x).length := by
          rw [← i4, List.length_take]; omega
        simp only [nx, hc]
        rcases Bool.eq_false_or_eq_true (p l[j]) with h1 | h1
        · simp only [h1, if_true]
          refine ⟨⟨by simp only; omega, by simp only; omega, i3, ?_, hdrop⟩, trivial⟩
          simp only
          rw [ht, List.filter_append, i4]
          simp [h1]
        · simp only [h1, Bool.false_eq_true, if_false]
          refine ⟨⟨by simp only; omega, by simp only; omega, by simpa using i3, ?_, ?_⟩, trivial⟩
          · simp only
            rw [ht, List.filter_append, ← i4, List.take_add_one, List.getElem?_set_self (by omega), List.take_set_of_le (by omega)]
            simp [h1]
          · simp only
            rw [List.drop_set_of_lt (by omega), hdrop]
      have I_fin : ∀ n a, I a → a.2.1 + n ≤ l.length → I (fin n a) ∧ (fin n a).2.1 = a.2.1 + n := by
        intro n
        induction n with
        | zero => intro a ha _; exact ⟨ha, rfl⟩
        | succ n ih =>
          intro a ha hn
          obtain ⟨q1, q2⟩ := ih a ha (by omega)
          obtain ⟨q3, q4⟩ := I_nx _ q1 (by omega)
          rw [fin_s]
          exact ⟨q3, by rw [q4, q2]; omega⟩
      have I0 : I (j0, j0 + 1, l) := by
        refine ⟨by simp only; omega, by simp only; omega, rfl, ?_, rfl⟩
        simp only
        rw [List.take_add_one, g4, List.filter_append, filter_take_false p g3]
        simp [g5]
      obtain ⟨z1, z2⟩ := I_fin (l.length - (j0 + 1)) (j0, j0 + 1, l) I0 (by simp only; omega)
      simp only at z2
      refine ⟨(fin (l.length - (j0 + 1)) (j0, j0 + 1, l)).2.2, z1.2.2.1, ?_, ?_⟩
      · have q := z1.2.2.2.1
        have e1 : (fin (l.length - (j0 + 1)) (j0, j0 + 1, l)).2.1 = l.length := by rw [z2]; omega
        rw [e1, List.take_length] at q
        rw [← q, List.length_take, z1.2.2.1]
        have := z1.1
        rw [Nat.min_eq_left (by omega)]
      · have hlen : (fin (l.length - (j0 + 1)) (j0, j0 + 1, l)).1 = (l.filter fun x => !p x).length := by
          have q := z1.2.2.2.1
          have e1 : (fin (l.length - (j0 + 1)) (j0, j0 + 1, l)).2.1 = l.length := by rw [z2]; omega
          rw [e1, List.take_length] at q
          have q2 := congrArg List.length q
          have := z1.1
          rw [List.length_take, z1.2.2.1, Nat.min_eq_left (by omega)] at q2
          exact q2
        refine Eq.trans (loop_rule (α := Nat × Nat × List (List UInt8)) (fun a => [.i .i64 (a.1 : Int), .i .i64 (a.2.1 : Int), strsPV a.2.2]) (fun a => .yld 0 [.i .i64 ((fin (l.length - a.2.1) a).1 : Int), strsPV (fin (l.length - a.2.1) a).2.2]) I (fun a => l.length - a.2.1) (j0, j0 + 1, l) ?_ I0 (by simp only; omega) ?_) ?_
        · simp (disch := omega) only [EVT, EVM, EVC, EVP, ↓reduceIte, EV, if_true, if_false, Nat.reduceAdd, Nat.reduceEqDiff, Int.reduceToNat, ne_eq, not_true, not_false_eq_true, Bool.true_eq_false, reduceCtorEq]
        · rintro ⟨i, j, s⟩ hI
          obtain ⟨i1, i2, i3, i4, i5⟩ := hI
          simp only at i1 i2 i3 i4 i5
          by_cases hj : j < l.length
          · left
            have hc : l[j]? = some l[j] := List.getElem?_eq_getElem hj
            have hsc : s[j]? = some l[j] := by
              have := congrArg (fun q => q[0]?) i5
              simpa [List.getElem?_drop, hc] using this
            have hsi : ∃ y, s[i]? = some y := ⟨_, List.getElem?_eq_getElem (by omega)⟩
            obtain ⟨y, hsi⟩ := hsi
            obtain ⟨q3, q4⟩ := I_nx (i, j, s) ⟨i1, i2, i3, i4, i5⟩ hj
            have hp := h l[j] (List.getElem_mem hj)
            refine ⟨nx (i, j, s), ?_, q3, by rw [q4]; simp only; omega, ?_⟩
            · have hjs : (j : Int) < (s.length : Int) := by omega
              rcases Bool.eq_false_or_eq_true (p l[j]) with h1 | h1
              · rw [h1] at hp
                simp only [nx, hc, h1, if_true]
                simp (disch := omega) only [x_slices_DeleteFunc_string_string, hjs, hsc, hp, EVT, EVM, EVC, EVP, ↓reduceIte, EV, if_true, if_false, Nat.reduceAdd, Nat.reduceEqDiff, Int.reduceToNat, ne_eq, not_true, not_false_eq_true, Bool.true_eq_false, reduceCtorEq]
              · rw [h1] at hp
                simp only [nx, hc, h1, Bool.false_eq_true, if_false]
                simp (disch := omega) only [x_slices_DeleteFunc_string_string, hjs, hsc, hsi, hp, EVT, EVM, EVC, EVP, ↓reduceIte, EV, if_true, if_false, Nat.reduceAdd, Nat.reduceEqDiff, Int.reduceToNat, ne_eq, not_true, not_false_eq_true, Bool.true_eq_false, reduceCtorEq]
            · have e1 : l.length - j = (l.length - (j + 1)) + 1 := by omega
              rw [q4]
              simp only
              rw [e1, fin_c]
          · right
            have hjs : ¬ (j : Int) < (s.length : Int) := by omega
            have e1 : l.length - j = 0 := by omega
            simp only [e1]
            simp (disch := omega) only [x_slices_DeleteFunc_string_string, hjs, EVT, EVM, EVC, EVP, ↓reduceIte, EV, if_true, if_false, Nat.reduceAdd, Nat.reduceEqDiff, Int.reduceToNat, ne_eq, not_true, not_false_eq_true, Bool.true_eq_false, reduceCtorEq]
            exact ⟨rfl, rfl⟩
        · simp only
          rw [hlen]
    obtain ⟨s, hs1, hs2, key⟩ := key
    have hle : (l.filter fun x => !p x).length ≤ l.length := List.length_filter_le _ _
    have e0 : ¬ ((j0 : Int) = -1) := by omega
    generalize (l.filter fun x => !p x) = fl at *
    have hsl1 : lslPV 1 (strsPV s) (.i .i64 ((fl.length : Nat) : Int)) (.i .i64 (s.length : Int)) = some (strsPV (s.drop fl.length)) := by
      rw [lsl_strs _ _ _ _ _ (by omega) (by omega) (by omega)]
      simp
    have hsl2 : lslPV 1 (strsPV s) (.i .i64 0) (.i .i64 ((fl.length : Nat) : Int)) = some (strsPV fl) := by
      rw [lsl_strs _ _ _ _ _ (by omega) (by omega) (by omega)]
      simp [hs2]
    have hrep : repPV 1 (.i .i64 ((s.length : Int) - (fl.length : Int))) (.s []) = some (strsPV (List.replicate (s.length - fl.length) [])) := by
      rw [rep_strs _ (by omega) (by omega)]
      congr 3; omega
    have happ : appPV 1 (strsPV fl) (strsPV (List.replicate (s.length - fl.length) [])) = some (strsPV (fl ++ List.replicate (s.length - fl.length) [])) := app_strs _ _ (by simp; omega)
    have hsl3 : lslPV 1 (strsPV (fl ++ List.replicate (s.length - fl.length) [])) (.i .i64 0) (.i .i64 ((fl.length : Nat) : Int)) = some (strsPV fl) := by
      rw [lsl_strs _ _ _ _ _ (by omega) (by omega) (by simp; omega)]
      simp
    simp (disch := omega) only [x_slices_DeleteFunc_string_string, h0, e0, key, hsl1, hsl2, hrep, happ, hsl3, EVT, EVM, EVC, EVP, ↓reduceIte, EV, if_true, if_false, Nat.reduceAdd, Nat.reduceEqDiff, Int.reduceToNat, ne_eq, not_true, not_false_eq_true, Bool.true_eq_false, reduceCtorEq]
end Go.X.G
/- Tasks that receive, and that are supplied, ctd. -/
namespace Go.X.G
open Go Go.X

def supA (tried acc : List Adr) : List Adr → List Adr
  | [] => acc
  | a :: r => if a ∈ tried ∨ a ∈ acc then supA tried acc r else supA tried (acc ++ [a]) r
theorem supA_len (tried : List Adr) : ∀ (l acc : List Adr), (supA tried acc l).length ≤ acc.length + l.length
  | [], acc => by simp [supA]
  | a :: r, acc => by
    unfold supA
    split
    · have := supA_len tried r acc; simp; omega
    · have := supA_len tried r (acc ++ [a]); simp at this ⊢; omega
def supplyT (t : Tk) (host : List UInt8) (addrs : List Adr) : Tk :=
  if t.state ≠ 2 ∨ host ∉ t.hosts then t else settledT { t with hosts := t.hosts.filter (fun x => !decide (x = host)), addrs := (supA t.tried [] addrs).take 16 }
theorem Supply1_ok (x host : List UInt8) : S n_iterate_Supply_1 1 [.s x, .s host] = some [.b (decide (x = host))] := by
  refine s_iterate_Supply_1 (N := 1) rfl ?_
  simp (disch := omega) only [x_iterate_Supply_1, EVT, EVM, EVC, EVP, ↓reduceIte, EV, if_true, if_false, Nat.reduceAdd, Nat.reduceEqDiff, Int.reduceToNat, ne_eq, not_true, not_false_eq_true, Bool.true_eq_false, reduceCtorEq]
theorem supply_l0 (t : Tk) (addrs : List Adr) (p1 p3 p4 p5 : PV) (ht : t.tried.length ≤ 1000000) (hl : addrs.length ≤ 100000) (N : Nat) (hN : addrs.length < N) :
    l0_iterate_Supply.ev S N [t.pv, p1, adrsPV addrs, p3, p4, p5] = some (.yld 0 [adrsPV (supA t.tried [] addrs)]) := by
  refine loop_acc addrs (fun i g => [.i .i64 (i : Int), adrsPV g]) (fun i g r => .yld 0 [adrsPV (supA t.tried g r)]) (fun i g => g.length ≤ i) [] rfl (by simp) hN (fun i g c r hd hi hc hg => ?_) (fun g hg => ?_)
  · left
    have h1 := ContainsA_ok t.tried c ht
    have h2 := ContainsA_ok g c (by omega)
    by_cases c1 : c ∈ t.tried
    · refine ⟨g, ?_, by omega, by simp [supA, c1]⟩
      simp (disch := omega) only [x_iterate_Supply, hc, h1, c1, EVT, EVM, EVC, EVP, ↓reduceIte, EV, if_true, if_false, Nat.reduceAdd, Nat.reduceEqDiff, Int.reduceToNat, ne_eq, not_true, not_false_eq_true, Bool.true_eq_false, reduceCtorEq]
    · by_cases c2 : c ∈ g
      · refine ⟨g, ?_, by omega, by simp [supA, c2]⟩
        simp (disch := omega) only [x_iterate_Supply, hc, h1, h2, c1, c2, EVT, EVM, EVC, EVP, ↓reduceIte, EV, if_true, if_false, Nat.reduceAdd, Nat.reduceEqDiff, Int.reduceToNat, ne_eq, not_true, not_false_eq_true, Bool.true_eq_false, reduceCtorEq]
      · refine ⟨g ++ [c], ?_, by simp; omega, by simp [supA, c1, c2]⟩
        simp (disch := omega) only [x_iterate_Supply, hc, h1, h2, c1, c2, EVT, EVM, EVC, EVP, ↓reduceIte, EV, if_true, if_false, Nat.reduceAdd, Nat.reduceEqDiff, Int.reduceToNat, ne_eq, not_true, not_false_eq_true, Bool.true_eq_false, reduceCtorEq]
  · simp (disch := omega) only [x_iterate_Supply, EVT, EVM, EVC, EVP, ↓reduceIte, EV, if_true, if_false, Nat.reduceAdd, Nat.reduceEqDiff, Int.reduceToNat, ne_eq, not_true, not_false_eq_true, Bool.true_eq_false, reduceCtorEq]
    simp [Out.goes, supA]
theorem supply_ok (t : Tk) (host : List UInt8) (addrs : List Adr) {k : Nat} (h : TOk t k) (ha : addrs.length ≤ 1000) : S n_iterate_Supply 3 [t.pv, .s host, adrsPV addrs] = some [(supplyT t host addrs).pv] := by
  refine s_iterate_Supply (N := 2000) rfl ?_
  have hs := h.small
  have hh := h.hostsL
  have ht := h.tried
  have h1 := ContainsS_ok t.hosts host (by omega)
  have h2 := CloneS_ok t.hosts (by omega)
  have h3 := DeleteS_ok t.hosts n_iterate_Supply_1 [.s host] _ (by omega) (fun r _ => Supply1_ok r host)
  have h4 := fun p1 p3 p4 p5 => supply_l0 t addrs p1 p3 p4 p5 (by omega) (by omega) 2000 (by omega)
  have h5 := supA_len t.tried addrs []
  have h6 := fewA_ok (supA t.tried [] addrs) (by rw [List.length_nil] at h5; omega)
  have hf : (t.hosts.filter fun x => !decide (x = host)).length ≤ t.hosts.length := List.length_filter_le _ _
  have h7 := settled_ok { t with hosts := t.hosts.filter (fun x => !decide (x = host)), addrs := (supA t.tried [] addrs).take 16 } (by simp; omega) (by simp only; omega) (by simp only; omega) (fun x hx => h.hosts x (List.mem_filter.1 hx).1) h.zone
  by_cases c0 : t.state = 2
  · by_cases c1 : host ∈ t.hosts
    · rw [show supplyT t host addrs = settledT { t with hosts := t.hosts.filter (fun x => !decide (x = host)), addrs := (supA t.tried [] addrs).take 16 } by unfold supplyT; rw [if_neg (by simp [c0, c1])]]
      generalize (t.hosts.filter fun x => !decide (x = host)) = fl at *
      have e0 : t = { t with state := 2 } := by rw [← c0]
      simp (disch := omega) only [x_iterate_Supply, h1, h2, h3, h4, h6, h7, c1, tev_mcall, tag_n, EVT, EVM, EVC, EVP, ↓reduceIte, EV, if_true, if_false, Nat.reduceAdd, Nat.reduceEqDiff, Int.reduceToNat, ne_eq, not_true, not_false_eq_true, Bool.true_eq_false, reduceCtorEq]
    · rw [show supplyT t host addrs = t by unfold supplyT; rw [if_pos (.inr c1)]]
      simp (disch := omega) only [x_iterate_Supply, h1, c0, c1, EVT, EVM, EVC, EVP, ↓reduceIte, EV, if_true, if_false, Nat.reduceAdd, Nat.reduceEqDiff, Int.reduceToNat, ne_eq, not_true, not_false_eq_true, Bool.true_eq_false, reduceCtorEq]
  · rw [show supplyT t host addrs = t by unfold supplyT; rw [if_pos (.inl c0)]]
    simp (disch := omega) only [x_iterate_Supply, h1, c0, EVT, EVM, EVC, EVP, ↓reduceIte, EV, if_true, if_false, Nat.reduceAdd, Nat.reduceEqDiff, Int.reduceToNat, ne_eq, not_true, not_false_eq_true, Bool.true_eq_false, reduceCtorEq]
def receiveT (t : Tk) (src : Adr) (m : Msg) : Tk :=
  if t.state ≠ 1 ∨ src ≠ t.dst ∨ m.q ≠ t.asked then t
  else if kindM (insideM m t.zone) t.zone = 3 then referredT t m
  else if kindM (insideM m t.zone) t.zone = 0 then uselessT t
  else if t.asked ≠ ownT t ∧ kindM (insideM m t.zone) t.zone = 5 then againT t 10
  else if t.asked ≠ ownT t then againT t (t.more + 1)
  else if kindM (insideM m t.zone) t.zone = 2 then aliasedT t m
  else { t with state := 3, last := insideM m t.zone }
theorem receive_ok (t : Tk) (src : Adr) (m : Msg) {k : Nat} (h : TOk t k) (hm : MOk m) : S n_iterate_Receive 3 [t.pv, src.pv, m.pv] = some [(receiveT t src m).pv] := by
  refine s_iterate_Receive (N := 1) rfl ?_
  have hs := h.small
  have m0 := h.more0
  have m1 := h.more1
  have h1 := ClassifyP_ok m t.zone hm h.zone
  have h2 := own_ok t
  have h3 := referred_ok t m h hm
  have h4 := useless_ok t h
  have h5 := again_ok t 10
  have h6 := again_ok t (t.more + 1)
  have h7 := aliased_ok t m h hm (fun r hr => hm.wf.ans.2 r hr)
  have h8 := Inside_ok m t.zone hm.wf h.zone hm.ans hm.auth hm.ext
  unfold receiveT
  by_cases c0 : t.state = 1
  · by_cases c1 : src = t.dst
    · by_cases c2 : m.q = t.asked
      · generalize kindM (insideM m t.zone) t.zone = kd at *
        rw [if_neg (by simp [c0, c1, c2])]
        by_cases d1 : kd = 3
        · simp (disch := omega) only [x_iterate_Receive, h1, h2, h3, c0, c1, c2, d1, EVT, EVM, EVC, EVP, ↓reduceIte, EV, if_true, if_false, Nat.reduceAdd, Nat.reduceEqDiff, Int.reduceToNat, ne_eq, not_true, not_false_eq_true, Bool.true_eq_false, reduceCtorEq]
        · by_cases d2 : kd = 0
          · subst d2
            simp (disch := omega) only [x_iterate_Receive, h1, h2, h4, c0, c1, c2, EVT, EVM, EVC, EVP, ↓reduceIte, EV, if_true, if_false, Nat.reduceAdd, Nat.reduceEqDiff, Int.reduceToNat, ne_eq, not_true, not_false_eq_true, Bool.true_eq_false, reduceCtorEq]
            rfl
          · by_cases d3 : t.asked = ownT t
            · by_cases d4 : kd = 2
              · subst d4
                simp (disch := omega) only [x_iterate_Receive, h1, h2, h7, c0, c1, c2, d3, EVT, EVM, EVC, EVP, ↓reduceIte, EV, if_true, if_false, Nat.reduceAdd, Nat.reduceEqDiff, Int.reduceToNat, ne_eq, not_true, not_false_eq_true, Bool.true_eq_false, reduceCtorEq]
                simp
              · simp (disch := omega) only [x_iterate_Receive, h1, h2, h8, c0, c1, c2, d1, d2, d3, d4, EVT, EVM, EVC, EVP, ↓reduceIte, EV, if_true, if_false, Nat.reduceAdd, Nat.reduceEqDiff, Int.reduceToNat, ne_eq, not_true, not_false_eq_true, Bool.true_eq_false, reduceCtorEq]
                simp
            · by_cases d4 : kd = 5
              · subst d4
                simp (disch := omega) only [x_iterate_Receive, h1, h2, h5, c0, c1, c2, d3, EVT, EVM, EVC, EVP, ↓reduceIte, EV, if_true, if_false, Nat.reduceAdd, Nat.reduceEqDiff, Int.reduceToNat, ne_eq, not_true, not_false_eq_true, Bool.true_eq_false, reduceCtorEq]
                simp
              · simp (disch := omega) only [x_iterate_Receive, h1, h2, h6, c0, c1, c2, d1, d2, d3, d4, EVT, EVM, EVC, EVP, ↓reduceIte, EV, if_true, if_false, Nat.reduceAdd, Nat.reduceEqDiff, Int.reduceToNat, ne_eq, not_true, not_false_eq_true, Bool.true_eq_false, reduceCtorEq]
                simp
      · simp (disch := omega) only [x_iterate_Receive, c0, c1, c2, EVT, EVM, EVC, EVP, ↓reduceIte, EV, if_true, if_false, Nat.reduceAdd, Nat.reduceEqDiff, Int.reduceToNat, ne_eq, not_true, not_false_eq_true, Bool.true_eq_false, reduceCtorEq]
        simp [c2]
    · simp (disch := omega) only [x_iterate_Receive, c0, c1, EVT, EVM, EVC, EVP, ↓reduceIte, EV, if_true, if_false, Nat.reduceAdd, Nat.reduceEqDiff, Int.reduceToNat, ne_eq, not_true, not_false_eq_true, Bool.true_eq_false, reduceCtorEq]
      simp [c1]
  · simp (disch := omega) only [x_iterate_Receive, c0, EVT, EVM, EVC, EVP, ↓reduceIte, EV, if_true, if_false, Nat.reduceAdd, Nat.reduceEqDiff, Int.reduceToNat, ne_eq, not_true, not_false_eq_true, Bool.true_eq_false, reduceCtorEq]
    simp [c0]
end Go.X.G
/- What the laws on tasks are called with. -/
namespace Go.X

structure Begin where
  q : Ques
  zone : List UInt8
  hosts : List (List UInt8)
  addrs : List Adr
structure Actn where
  kind : Int
  n : Int
  odd : Bool
  m : Msg
  host : List UInt8
  addrs : List Adr
def u8r (x : Int) : Prop := 0 ≤ x ∧ x ≤ 255
structure Begin.wf (b : Begin) : Prop where
  q : b.q.wf
  zone : strr b.zone
  hosts : b.hosts.length ≤ 9223372036854775807 ∧ ∀ h ∈ b.hosts, strr h
  addrs : b.addrs.length ≤ 9223372036854775807
structure Actn.wf (a : Actn) : Prop where
  kind : u8r a.kind
  n : u8r a.n
  m : a.m.wf
  host : strr a.host
  addrs : a.addrs.length ≤ 9223372036854775807
def actsr (l : List Actn) : Prop := l.length ≤ 9223372036854775807 ∧ ∀ a ∈ l, a.wf
def Begin.cells (b : Begin) : List PV := [.s b.q.name, .i .i64 b.q.typ, .s b.zone, strsPV b.hosts, adrsPV b.addrs]
def Begin.pv (b : Begin) : PV := .a b.cells
def Actn.cells (a : Actn) : List PV := [.i .u8 a.kind, .i .u8 a.n, .b a.odd, .i .i64 a.m.id, .i .i64 a.m.op, .i .i64 a.m.code, .b a.m.resp, .b a.m.aa, .b a.m.tc, .b a.m.rd, .b a.m.ra, .b a.m.ad, .b a.m.cd, .b a.m.dok, .i .i64 a.m.size, .s a.m.q.name, .i .i64 a.m.q.typ, recsPV a.m.ans, recsPV a.m.auth, recsPV a.m.ext, .s a.host, adrsPV a.addrs]
def Actn.pv (a : Actn) : PV := .a a.cells
def actsPV (l : List Actn) : PV := .l 22 (l.map Actn.pv)
theorem proj_act0 (a : Actn) : projPV 0 a.pv = some (.i .u8 a.kind) := rfl
theorem proj_act1 (a : Actn) : projPV 1 a.pv = some (.i .u8 a.n) := rfl
theorem proj_act2 (a : Actn) : projPV 2 a.pv = some (.b a.odd) := rfl
theorem proj_act3 (a : Actn) : projPV 3 a.pv = some (.i .i64 a.m.id) := rfl
theorem proj_act4 (a : Actn) : projPV 4 a.pv = some (.i .i64 a.m.op) := rfl
theorem proj_act5 (a : Actn) : projPV 5 a.pv = some (.i .i64 a.m.code) := rfl
theorem proj_act6 (a : Actn) : projPV 6 a.pv = some (.b a.m.resp) := rfl
theorem proj_act7 (a : Actn) : projPV 7 a.pv = some (.b a.m.aa) := rfl
theorem proj_act8 (a : Actn) : projPV 8 a.pv = some (.b a.m.tc) := rfl
theorem proj_act9 (a : Actn) : projPV 9 a.pv = some (.b a.m.rd) := rfl
theorem proj_act10 (a : Actn) : projPV 10 a.pv = some (.b a.m.ra) := rfl
theorem proj_act11 (a : Actn) : projPV 11 a.pv = some (.b a.m.ad) := rfl
theorem proj_act12 (a : Actn) : projPV 12 a.pv = some (.b a.m.cd) := rfl
theorem proj_act13 (a : Actn) : projPV 13 a.pv = some (.b a.m.dok) := rfl
theorem proj_act14 (a : Actn) : projPV 14 a.pv = some (.i .i64 a.m.size) := rfl
theorem proj_act15 (a : Actn) : projPV 15 a.pv = some (.s a.m.q.name) := rfl
theorem proj_act16 (a : Actn) : projPV 16 a.pv = some (.i .i64 a.m.q.typ) := rfl
theorem proj_act17 (a : Actn) : projPV 17 a.pv = some (recsPV a.m.ans) := rfl
theorem proj_act18 (a : Actn) : projPV 18 a.pv = some (recsPV a.m.auth) := rfl
theorem proj_act19 (a : Actn) : projPV 19 a.pv = some (recsPV a.m.ext) := rfl
theorem proj_act20 (a : Actn) : projPV 20 a.pv = some (.s a.host) := rfl
theorem proj_act21 (a : Actn) : projPV 21 a.pv = some (adrsPV a.addrs) := rfl
theorem proj_beg0 (b : Begin) : projPV 0 b.pv = some (.s b.q.name) := rfl
theorem proj_beg1 (b : Begin) : projPV 1 b.pv = some (.i .i64 b.q.typ) := rfl
theorem proj_beg2 (b : Begin) : projPV 2 b.pv = some (.s b.zone) := rfl
theorem proj_beg3 (b : Begin) : projPV 3 b.pv = some (strsPV b.hosts) := rfl
theorem proj_beg4 (b : Begin) : projPV 4 b.pv = some (adrsPV b.addrs) := rfl
theorem sub_beg (b : Begin) : subPV 0 5 b.pv = some b.pv := rfl
theorem fit_beg (b : Begin) : fitPV 5 b.pv = some b.pv := rfl
theorem sub_beg_q (b : Begin) : subPV 0 2 b.pv = some b.q.pv := rfl
theorem sub_act (a : Actn) : subPV 0 22 a.pv = some a.pv := rfl
theorem fit_act (a : Actn) : fitPV 22 a.pv = some a.pv := rfl
theorem sub_act_m (a : Actn) : subPV 3 17 a.pv = some a.m.pv := rfl
theorem len_acts (l : List Actn) : lenPV (actsPV l) = some (.i .i64 (l.length : Int)) := by simp [actsPV, lenPV]
theorem idx_acts (l : List Actn) (k : IntKind) (z : Int) (h : 0 ≤ z) : idxPV 22 (actsPV l) (.i k z) = (l[z.toNat]?).map Actn.pv := by simp [actsPV, idx_l _ _ _ _ h]
theorem EVA : type_of% ((And.intro @proj_act0 (And.intro @proj_act1 (And.intro @proj_act2 (And.intro @proj_act3 (And.intro @proj_act4 (And.intro @proj_act5 (And.intro @proj_act6 (And.intro @proj_act7 (And.intro @proj_act8 (And.intro @proj_act9 (And.intro @proj_act10 (And.intro @proj_act11 (And.intro @proj_act12 (And.intro @proj_act13 (And.intro @proj_act14 (And.intro @proj_act15 (And.intro @proj_act16 (And.intro @proj_act17 (And.intro @proj_act18 (And.intro @proj_act19 (And.intro @proj_act20 (And.intro @proj_act21 (And.intro @proj_beg0 (And.intro @proj_beg1 (And.intro @proj_beg2 (And.intro @proj_beg3 (And.intro @proj_beg4 (And.intro @sub_beg (And.intro @fit_beg (And.intro @sub_beg_q (And.intro @sub_act (And.intro @fit_act (And.intro @sub_act_m (And.intro @len_acts @idx_acts))))))))))))))))))))))))))))))))))) := (And.intro @proj_act0 (And.intro @proj_act1 (And.intro @proj_act2 (And.intro @proj_act3 (And.intro @proj_act4 (And.intro @proj_act5 (And.intro @proj_act6 (And.intro @proj_act7 (And.intro @proj_act8 (And.intro @proj_act9 (And.intro @proj_act10 (And.intro @proj_act11 (And.intro @proj_act12 (And.intro @proj_act13 (And.intro @proj_act14 (And.intro @proj_act15 (And.intro @proj_act16 (And.intro @proj_act17 (And.intro @proj_act18 (And.intro @proj_act19 (And.intro @proj_act20 (And.intro @proj_act21 (And.intro @proj_beg0 (And.intro @proj_beg1 (And.intro @proj_beg2 (And.intro @proj_beg3 (And.intro @proj_beg4 (And.intro @sub_beg (And.intro @fit_beg (And.intro @sub_beg_q (And.intro @sub_act (And.intro @fit_act (And.intro @sub_act_m (And.intro @len_acts @idx_acts))))))))))))))))))))))))))))))))))

def shAdr : Sh := .st [.b, .i .u64, .i .u64]
def shBegin : Sh := .st [shQ, .s, .l .s, .l shAdr]
def shAct : Sh := .st [.i .u8, .i .u8, .b, shMsg, .s, .l shAdr]
def shActs : Sh := .l shAct
theorem ok_list {e : Sh} {α : Type} (W : α → Prop) (pv : α → PV) (hag : e.agg = true) (h1 : ∀ ds, e.okC ds → ∃ x, W x ∧ PV.a ds = pv x) {cs : List PV} (h : (Sh.l e).okC cs) : ∃ l : List α, l.length ≤ 9223372036854775807 ∧ (∀ x ∈ l, W x) ∧ cs = [.l e.size (l.map pv)] := by
  simp only [Sh.okC, hag, if_true] at h
  obtain ⟨xs, rfl, hl, hx⟩ := h
  have go : ∀ xs : List PV, (∀ x, x ∈ xs → ∃ ds, x = .a ds ∧ e.okC ds) → ∃ l : List α, (∀ r ∈ l, W r) ∧ xs = l.map pv := by
    intro xs
    induction xs with
    | nil => exact fun _ => ⟨[], fun r h => (by cases h), rfl⟩
    | cons x xs ih =>
      intro hx
      obtain ⟨l, g1, rfl⟩ := ih (fun y hy => hx y (List.mem_cons_of_mem _ hy))
      obtain ⟨ds, rfl, hd⟩ := hx x (List.mem_cons_self ..)
      obtain ⟨r, hr, hpv⟩ := h1 ds hd
      refine ⟨r :: l, fun y hy => ?_, by rw [hpv]; rfl⟩
      rcases List.mem_cons.1 hy with rfl | hy
      · exact hr
      · exact g1 y hy
  obtain ⟨l, g1, rfl⟩ := go xs hx
  exact ⟨l, by simpa [maxLen] using hl, g1, rfl⟩
theorem ok_list1 {e : Sh} {α : Type} (W : α → Prop) (pv : α → PV) (hag : e.agg = false) (h1 : ∀ p, e.okC [p] → ∃ x, W x ∧ p = pv x) {cs : List PV} (h : (Sh.l e).okC cs) : ∃ l : List α, l.length ≤ 9223372036854775807 ∧ (∀ x ∈ l, W x) ∧ cs = [.l e.size (l.map pv)] := by
  simp only [Sh.okC, hag, Bool.false_eq_true, if_false] at h
  obtain ⟨xs, rfl, hl, hx⟩ := h
  have go : ∀ xs : List PV, (∀ x, x ∈ xs → x.scal = true ∧ e.okC [x]) → ∃ l : List α, (∀ r ∈ l, W r) ∧ xs = l.map pv := by
    intro xs
    induction xs with
    | nil => exact fun _ => ⟨[], fun r h => (by cases h), rfl⟩
    | cons x xs ih =>
      intro hx
      obtain ⟨l, g1, rfl⟩ := ih (fun y hy => hx y (List.mem_cons_of_mem _ hy))
      obtain ⟨r, hr, rfl⟩ := h1 x (hx x (List.mem_cons_self ..)).2
      refine ⟨r :: l, fun y hy => ?_, rfl⟩
      rcases List.mem_cons.1 hy with rfl | hy
      · exact hr
      · exact g1 y hy
  obtain ⟨l, g1, rfl⟩ := go xs hx
  exact ⟨l, by simpa [maxLen] using hl, g1, rfl⟩
theorem okC_u8 {cs : List PV} (h : (Sh.i .u8).okC cs) : ∃ x, cs = [.i .u8 x] ∧ u8r x := by
  simp only [Sh.okC] at h
  obtain ⟨n, rfl, h1, h2⟩ := h
  exact ⟨n, rfl, h1, h2⟩
theorem okA_u8 {p : PV} (h : (Sh.i .u8).ok p) : ∃ x, u8r x ∧ p = .i .u8 x := by
  have h' : p.scal = true ∧ (Sh.i .u8).okC [p] := h
  obtain ⟨x, hx, hs⟩ := okC_u8 h'.2
  injection hx with hx
  exact ⟨x, hs, hx⟩
theorem ok_adr {ds : List PV} (h : shAdr.okC ds) : ∃ x : Adr, True ∧ PV.a ds = x.pv := by
  obtain ⟨a0, r0, rfl, h0, h⟩ := okCs_cons (okC_st h)
  obtain ⟨a1, r1, rfl, h1, h⟩ := okCs_cons h
  obtain ⟨a2, r2, rfl, h2, h⟩ := okCs_cons h
  obtain rfl := okCs_nil h
  obtain ⟨x0, rfl⟩ := okC_b h0
  obtain ⟨x1, rfl, _⟩ := okC_u64 h1
  obtain ⟨x2, rfl, _⟩ := okC_u64 h2
  exact ⟨⟨x0, x1, x2⟩, trivial, rfl⟩
theorem ok_adrs {cs : List PV} (h : (Sh.l shAdr).okC cs) : ∃ l : List Adr, l.length ≤ 9223372036854775807 ∧ cs = [adrsPV l] := by
  obtain ⟨l, h1, _, rfl⟩ := ok_list (fun _ => True) Adr.pv rfl (fun ds hd => ok_adr hd) h
  exact ⟨l, h1, rfl⟩
theorem ok_strs {cs : List PV} (h : (Sh.l .s).okC cs) : ∃ l : List (List UInt8), (l.length ≤ 9223372036854775807 ∧ ∀ x ∈ l, strr x) ∧ cs = [strsPV l] := by
  obtain ⟨l, h1, h2, rfl⟩ := ok_list1 (fun x => strr x) PV.s rfl (fun p hp => by
    obtain ⟨x, hx, hs⟩ := okC_s hp
    injection hx with hx
    exact ⟨x, hs, hx⟩) h
  exact ⟨l, ⟨h1, h2⟩, rfl⟩
theorem ok_msg {cs : List PV} (h : shMsg.okC cs) : ∃ m : Msg, m.wf ∧ cs = m.cells := by
  obtain ⟨m, h1, h2⟩ := okA_msg (p := .a cs) ⟨cs, rfl, h⟩
  exact ⟨m, h1, by injection h2⟩
theorem okA_begin {p : PV} (h : shBegin.ok p) : ∃ b : Begin, b.wf ∧ p = b.pv := by
  obtain ⟨ds, rfl, h⟩ : ∃ ds, p = .a ds ∧ shBegin.okC ds := h
  obtain ⟨a0, r0, rfl, h0, h⟩ := okCs_cons (okC_st h)
  obtain ⟨a1, r1, rfl, h1, h⟩ := okCs_cons h
  obtain ⟨a2, r2, rfl, h2, h⟩ := okCs_cons h
  obtain ⟨a3, r3, rfl, h3, h⟩ := okCs_cons h
  obtain rfl := okCs_nil h
  obtain ⟨q, k0, rfl⟩ := ok_ques h0
  obtain ⟨x1, rfl, k1⟩ := okC_s h1
  obtain ⟨x2, k2, rfl⟩ := ok_strs h2
  obtain ⟨x3, k3, rfl⟩ := ok_adrs h3
  exact ⟨⟨q, x1, x2, x3⟩, ⟨k0, k1, k2, k3⟩, rfl⟩
theorem ok_act {ds : List PV} (h : shAct.okC ds) : ∃ a : Actn, a.wf ∧ PV.a ds = a.pv := by
  obtain ⟨a0, r0, rfl, h0, h⟩ := okCs_cons (okC_st h)
  obtain ⟨a1, r1, rfl, h1, h⟩ := okCs_cons h
  obtain ⟨a2, r2, rfl, h2, h⟩ := okCs_cons h
  obtain ⟨a3, r3, rfl, h3, h⟩ := okCs_cons h
  obtain ⟨a4, r4, rfl, h4, h⟩ := okCs_cons h
  obtain ⟨a5, r5, rfl, h5, h⟩ := okCs_cons h
  obtain rfl := okCs_nil h
  obtain ⟨x0, rfl, k0⟩ := okC_u8 h0
  obtain ⟨x1, rfl, k1⟩ := okC_u8 h1
  obtain ⟨x2, rfl⟩ := okC_b h2
  obtain ⟨m, k3, rfl⟩ := ok_msg h3
  obtain ⟨x4, rfl, k4⟩ := okC_s h4
  obtain ⟨x5, k5, rfl⟩ := ok_adrs h5
  exact ⟨⟨x0, x1, x2, m, x4, x5⟩, ⟨k0, k1, k3, k4, k5⟩, rfl⟩
theorem okA_acts {p : PV} (h : shActs.ok p) : ∃ l : List Actn, actsr l ∧ p = actsPV l := by
  have h' : p.scal = true ∧ shActs.okC [p] := h
  obtain ⟨l, h1, h2, h3⟩ := ok_list (fun a : Actn => a.wf) Actn.pv rfl (fun ds hd => ok_act hd) h'.2
  injection h3 with h3
  exact ⟨l, ⟨h1, h2⟩, h3⟩
end Go.X
/- The laws on tasks: their small functions. -/
namespace Go.X.G
open Go Go.X

def targetA (l : List Adr) (n : Int) : Adr := (l[n.toNat % l.length]?).getD ⟨false, 0, 0⟩
theorem target_ok (l : List Adr) (n : Int) (hn : u8r n) (hl : l.length ≤ 1000000) : S n_ddilaw33_target 2 [adrsPV l, .i .u8 n] = some [(targetA l n).pv] := by
  refine s_ddilaw33_target (N := 1) rfl ?_
  obtain ⟨n0, n1⟩ := hn
  unfold targetA
  cases l with
  | nil =>
    have e : ((([] : List Adr).length : Int) = 0) := rfl
    simp (disch := omega) only [x_ddilaw33_target, e, EVT, EVM, EVC, EVP, ↓reduceIte, EV, if_true, if_false, Nat.reduceAdd, Nat.reduceEqDiff, Int.reduceToNat, ne_eq, not_true, not_false_eq_true, Bool.true_eq_false, reduceCtorEq]
    rfl
  | cons a r =>
    have hpos : 0 < (a :: r).length := by simp
    generalize (a :: r) = l at *
    have e : ¬ ((l.length : Int) = 0) := by omega
    have hlt : n.toNat % l.length < l.length := Nat.mod_lt _ hpos
    have hm : X.bin .rem (.i .i64 n) (.i .i64 (l.length : Int)) = some (.i .i64 ((n.toNat % l.length : Nat) : Int)) := by
      have e2 : ¬ ((l.length : Int) = 0) := e
      have e3 : n.tmod (l.length : Int) = ((n.toNat % l.length : Nat) : Int) := by
        obtain ⟨k, rfl⟩ : ∃ k : Nat, n = k := ⟨n.toNat, by omega⟩
        rw [Int.toNat_natCast, Int.tmod_eq_emod_of_nonneg (by omega)]
        exact (Int.natCast_emod k l.length).symm
      simp [X.bin, binInt, e3]
      exact List.length_pos_iff.1 hpos
    have hget : l[n.toNat % l.length]? = some l[n.toNat % l.length] := List.getElem?_eq_getElem hlt
    rw [hget]
    simp (disch := omega) only [x_ddilaw33_target, e, hm, hget, EVT, EVM, EVC, EVP, ↓reduceIte, EV, if_true, if_false, Nat.reduceAdd, Nat.reduceEqDiff, Int.reduceToNat, ne_eq, not_true, not_false_eq_true, Bool.true_eq_false, reduceCtorEq]
    rfl
def hostA (l : List (List UInt8)) (a : Actn) : List UInt8 := if a.odd = true then a.host else (l[a.n.toNat % l.length]?).getD a.host
theorem host_ok (l : List (List UInt8)) (a : Actn) (hn : a.wf) (hl : l.length ≤ 1000000) : S n_ddilaw33_host 2 [strsPV l, a.pv] = some [.s (hostA l a)] := by
  refine s_ddilaw33_host (N := 1) rfl ?_
  obtain ⟨n0, n1⟩ := hn.n
  unfold hostA
  rcases Bool.eq_false_or_eq_true a.odd with ho | ho
  · simp (disch := omega) only [x_ddilaw33_host, ho, EVA, EVT, EVM, EVC, EVP, ↓reduceIte, EV, if_true, if_false, Nat.reduceAdd, Nat.reduceEqDiff, Int.reduceToNat, ne_eq, not_true, not_false_eq_true, Bool.true_eq_false, reduceCtorEq]
  · cases l with
    | nil =>
      have e : ((([] : List (List UInt8)).length : Int) = 0) := rfl
      simp (disch := omega) only [x_ddilaw33_host, ho, e, EVA, EVT, EVM, EVC, EVP, ↓reduceIte, EV, if_true, if_false, Nat.reduceAdd, Nat.reduceEqDiff, Int.reduceToNat, ne_eq, not_true, not_false_eq_true, Bool.true_eq_false, reduceCtorEq]
      rfl
    | cons x r =>
      have hpos : 0 < (x :: r).length := by simp
      generalize (x :: r) = l at *
      have e : ¬ ((l.length : Int) = 0) := by omega
      have hlt : a.n.toNat % l.length < l.length := Nat.mod_lt _ hpos
      have hm : X.bin .rem (.i .i64 a.n) (.i .i64 (l.length : Int)) = some (.i .i64 ((a.n.toNat % l.length : Nat) : Int)) := by
        have e3 : a.n.tmod (l.length : Int) = ((a.n.toNat % l.length : Nat) : Int) := by
          generalize a.n = n at *
          obtain ⟨k, rfl⟩ : ∃ k : Nat, n = k := ⟨n.toNat, by omega⟩
          rw [Int.toNat_natCast, Int.tmod_eq_emod_of_nonneg (by omega)]
          exact (Int.natCast_emod k l.length).symm
        simp [X.bin, binInt, e3]
        exact List.length_pos_iff.1 hpos
      have hget : l[a.n.toNat % l.length]? = some l[a.n.toNat % l.length] := List.getElem?_eq_getElem hlt
      rw [hget]
      simp (disch := omega) only [x_ddilaw33_host, ho, e, hm, hget, EVA, EVT, EVM, EVC, EVP, ↓reduceIte, EV, if_true, if_false, Nat.reduceAdd, Nat.reduceEqDiff, Int.reduceToNat, ne_eq, not_true, not_false_eq_true, Bool.true_eq_false, reduceCtorEq]
      rfl
def actM (t : Tk) (a : Actn) : Msg := if a.odd = true then a.m else { a.m with q := t.asked }
def actS (t : Tk) (a : Actn) : Adr := if a.odd = true ∧ a.n % 2 = 1 then ⟨false, 0, 99⟩ else t.dst
def doT (t : Tk) (a : Actn) : Tk × Msg × Bool :=
  if a.kind % 4 = 0 then sendT t (targetA t.addrs a.n)
  else if a.kind % 4 = 1 then (receiveT t (actS t a) (actM t a), zMsg, false)
  else if a.kind % 4 = 2 then (timeoutT t, zMsg, false)
  else (supplyT t (hostA t.hosts a) a.addrs, zMsg, false)
/-- what is asked of an act -/
structure AOk (a : Actn) : Prop where
  wf : a.wf
  m : MOk a.m
  addrs : a.addrs.length ≤ 1000
theorem AOk.actM {a : Actn} (h : AOk a) {t : Tk} (ht : t.asked.wf) : MOk (actM t a) := by
  unfold G.actM
  split
  · exact h.m
  · exact ⟨⟨h.m.wf.id, h.m.wf.op, h.m.wf.code, h.m.wf.size, ht, h.m.wf.ans, h.m.wf.auth, h.m.wf.ext⟩, h.m.ans, h.m.auth, h.m.ext⟩
theorem do_ok (t : Tk) (a : Actn) {k : Nat} (h : TOk t k) (ha : AOk a) : S n_ddilaw33_do 2 [t.pv, a.pv] = some [(doT t a).1.pv, (doT t a).2.1.pv, .b (doT t a).2.2] := by
  refine s_ddilaw33_do (N := 1) rfl ?_
  have hs := h.small
  have hhl := h.hostsL
  have hal := h.addrs
  obtain ⟨k0, k1⟩ := ha.wf.kind
  obtain ⟨n0, n1⟩ := ha.wf.n
  have h1 := target_ok t.addrs a.n ha.wf.n (by omega)
  have h2 := send_ok t (targetA t.addrs a.n) h
  have h3 := receive_ok t (actS t a) (actM t a) h (ha.actM h.asked)
  have h4 := timeout_ok t h
  have h5 := host_ok t.hosts a ha.wf (by omega)
  have h6 := supply_ok t (hostA t.hosts a) a.addrs h ha.addrs
  have hm4 : X.bin .rem (.i .u8 a.kind) (.i .u8 4) = some (.i .u8 (a.kind % 4)) := by
    simp [X.bin, binInt, Int.tmod_eq_emod_of_nonneg k0]
  have hm2 : X.bin .rem (.i .u8 a.n) (.i .u8 2) = some (.i .u8 (a.n % 2)) := by
    simp [X.bin, binInt, Int.tmod_eq_emod_of_nonneg n0]
  unfold doT
  by_cases c0 : a.kind % 4 = 0
  · rw [if_pos c0]
    simp (disch := omega) only [x_ddilaw33_do, hm4, c0, h1, h2, EVA, EVT, EVM, EVC, EVP, ↓reduceIte, EV, if_true, if_false, Nat.reduceAdd, Nat.reduceEqDiff, Int.reduceToNat, ne_eq, not_true, not_false_eq_true, Bool.true_eq_false, reduceCtorEq]
  · rw [if_neg c0]
    by_cases c1 : a.kind % 4 = 1
    · rw [if_pos c1]
      have ez : (zMsg.pv : PV) = Msg.pv ⟨0, 0, 0, false, false, false, false, false, false, false, false, 0, ⟨[], 0⟩, [], [], []⟩ := rfl
      rw [ez]
      rcases Bool.eq_false_or_eq_true a.odd with ho | ho
      · have em : actM t a = a.m := by unfold actM; rw [if_pos ho]
        rw [em] at h3 ⊢
        by_cases c2 : a.n % 2 = 1
        · have es : actS t a = ⟨false, 0, 99⟩ := by unfold actS; rw [if_pos ⟨ho, c2⟩]
          rw [es] at h3 ⊢
          simp (disch := omega) only [x_ddilaw33_do, hm4, hm2, c1, c2, ho, h3, EVA, EVT, EVM, EVC, EVP, ↓reduceIte, EV, if_true, if_false, Nat.reduceAdd, Nat.reduceEqDiff, Int.reduceToNat, ne_eq, not_true, not_false_eq_true, Bool.true_eq_false, reduceCtorEq]
        · have es : actS t a = t.dst := by unfold actS; rw [if_neg (fun e => c2 e.2)]
          rw [es] at h3 ⊢
          simp (disch := omega) only [x_ddilaw33_do, hm4, hm2, c1, c2, ho, h3, EVA, EVT, EVM, EVC, EVP, ↓reduceIte, EV, if_true, if_false, Nat.reduceAdd, Nat.reduceEqDiff, Int.reduceToNat, ne_eq, not_true, not_false_eq_true, Bool.true_eq_false, reduceCtorEq]
      · have em : actM t a = { a.m with q := t.asked } := by unfold actM; rw [if_neg (by rw [ho]; simp)]
        have es : actS t a = t.dst := by unfold actS; rw [if_neg (fun e => by rw [ho] at e; cases e.1)]
        rw [em, es] at h3 ⊢
        simp (disch := omega) only [x_ddilaw33_do, hm4, c1, ho, h3, EVA, EVT, EVM, EVC, EVP, ↓reduceIte, EV, if_true, if_false, Nat.reduceAdd, Nat.reduceEqDiff, Int.reduceToNat, ne_eq, not_true, not_false_eq_true, Bool.true_eq_false, reduceCtorEq]
    · rw [if_neg c1]
      have ez : (zMsg.pv : PV) = Msg.pv ⟨0, 0, 0, false, false, false, false, false, false, false, false, 0, ⟨[], 0⟩, [], [], []⟩ := rfl
      by_cases c2 : a.kind % 4 = 2
      · rw [if_pos c2]
        simp only [ez]
        simp (disch := omega) only [x_ddilaw33_do, hm4, c2, h4, EVA, EVT, EVM, EVC, EVP, ↓reduceIte, EV, if_true, if_false, Nat.reduceAdd, Nat.reduceEqDiff, Int.reduceToNat, ne_eq, not_true, not_false_eq_true, Bool.true_eq_false, reduceCtorEq]
      · rw [if_neg c2]
        simp only [ez]
        simp (disch := omega) only [x_ddilaw33_do, hm4, c0, c1, c2, h5, h6, EVA, EVT, EVM, EVC, EVP, ↓reduceIte, EV, if_true, if_false, Nat.reduceAdd, Nat.reduceEqDiff, Int.reduceToNat, ne_eq, not_true, not_false_eq_true, Bool.true_eq_false, reduceCtorEq]
end Go.X.G
/- The laws on tasks: small arguments, the first check. -/
namespace Go.X.G
open Go Go.X

theorem short_ok (l : List Rec) (hl : l.length ≤ 9223372036854775807) : ∃ b, S n_ddilaw33_short 1 [recsPV l] = some [.b b] ∧ (b = true → l.length ≤ 20) := by
  by_cases h20 : (20 : Int) < (l.length : Int)
  · refine ⟨false, s_ddilaw33_short (N := 1) rfl ?_, by simp⟩
    simp (disch := omega) only [x_ddilaw33_short, h20, EVT, EVM, EVC, EVP, ↓reduceIte, EV, if_true, if_false, Nat.reduceAdd, Nat.reduceEqDiff, Int.reduceToNat, ne_eq, not_true, not_false_eq_true, Bool.true_eq_false, reduceCtorEq]
  · let okR : Rec → Bool := fun r => !(decide ((300 : Int) < (r.name.length : Int)) || decide ((300 : Int) < (r.data.host.length : Int)) || decide ((300 : Int) < (r.data.mail.length : Int)) || decide ((300 : Int) < (r.data.text.length : Int)))
    refine ⟨l.all okR, s_ddilaw33_short (N := 30) rfl ?_, fun _ => by omega⟩
    have key : l0_ddilaw33_short.ev S 30 [recsPV l] = some (if l.all okR = true then .yld 0 [] else .ret [.b false]) := by
      refine loop_list l (fun i => [.i .i64 (i : Int)]) (fun i r => if r.all okR = true then .yld 0 [] else .ret [.b false]) rfl (by omega) (fun i c r hd hi hc => ?_) ?_
      · by_cases c1 : (300 : Int) < (c.name.length : Int)
        · right
          simp (disch := omega) only [x_ddilaw33_short, hc, c1, EVT, EVM, EVC, EVP, ↓reduceIte, EV, if_true, if_false, Nat.reduceAdd, Nat.reduceEqDiff, Int.reduceToNat, ne_eq, not_true, not_false_eq_true, Bool.true_eq_false, reduceCtorEq]
          simp [okR, c1, Out.goes]
        · by_cases c2 : (300 : Int) < (c.data.host.length : Int)
          · right
            simp (disch := omega) only [x_ddilaw33_short, hc, c1, c2, EVT, EVM, EVC, EVP, ↓reduceIte, EV, if_true, if_false, Nat.reduceAdd, Nat.reduceEqDiff, Int.reduceToNat, ne_eq, not_true, not_false_eq_true, Bool.true_eq_false, reduceCtorEq]
            simp [okR, c2, Out.goes]
          · by_cases c3 : (300 : Int) < (c.data.mail.length : Int)
            · right
              simp (disch := omega) only [x_ddilaw33_short, hc, c1, c2, c3, EVT, EVM, EVC, EVP, ↓reduceIte, EV, if_true, if_false, Nat.reduceAdd, Nat.reduceEqDiff, Int.reduceToNat, ne_eq, not_true, not_false_eq_true, Bool.true_eq_false, reduceCtorEq]
              simp [okR, c3, Out.goes]
            · by_cases c4 : (300 : Int) < (c.data.text.length : Int)
              · right
                simp (disch := omega) only [x_ddilaw33_short, hc, c1, c2, c3, c4, EVT, EVM, EVC, EVP, ↓reduceIte, EV, if_true, if_false, Nat.reduceAdd, Nat.reduceEqDiff, Int.reduceToNat, ne_eq, not_true, not_false_eq_true, Bool.true_eq_false, reduceCtorEq]
                simp [okR, c4, Out.goes]
              · left
                simp (disch := omega) only [x_ddilaw33_short, hc, c1, c2, c3, c4, EVT, EVM, EVC, EVP, ↓reduceIte, EV, if_true, if_false, Nat.reduceAdd, Nat.reduceEqDiff, Int.reduceToNat, ne_eq, not_true, not_false_eq_true, Bool.true_eq_false, reduceCtorEq]
                simp [okR, c1, c2, c3, c4]
      · simp (disch := omega) only [x_ddilaw33_short, EVT, EVM, EVC, EVP, ↓reduceIte, EV, if_true, if_false, Nat.reduceAdd, Nat.reduceEqDiff, Int.reduceToNat, ne_eq, not_true, not_false_eq_true, Bool.true_eq_false, reduceCtorEq]
        simp [Out.goes]
    rcases Bool.eq_false_or_eq_true (l.all okR) with hb | hb
    · rw [hb] at key ⊢
      simp only [if_true] at key
      simp (disch := omega) only [x_ddilaw33_short, h20, key, EVT, EVM, EVC, EVP, ↓reduceIte, EV, if_true, if_false, Nat.reduceAdd, Nat.reduceEqDiff, Int.reduceToNat, ne_eq, not_true, not_false_eq_true, Bool.true_eq_false, reduceCtorEq]
    · rw [hb] at key ⊢
      simp only [Bool.false_eq_true, if_false] at key
      simp (disch := omega) only [x_ddilaw33_short, h20, key, EVT, EVM, EVC, EVP, ↓reduceIte, EV, if_true, if_false, Nat.reduceAdd, Nat.reduceEqDiff, Int.reduceToNat, ne_eq, not_true, not_false_eq_true, Bool.true_eq_false, reduceCtorEq]
/-- an act is small: by the law's own look at it -/
theorem small_act (a : Actn) (h : a.wf) : ∃ b : Bool, (b = true → AOk a) ∧ ∃ b1 b2 b3, S n_ddilaw33_short 1 [recsPV a.m.ans] = some [.b b1] ∧ S n_ddilaw33_short 1 [recsPV a.m.auth] = some [.b b2] ∧ S n_ddilaw33_short 1 [recsPV a.m.ext] = some [.b b3] ∧ b = (!decide ((20 : Int) < (a.addrs.length : Int)) && b1 && b2 && b3) := by
  obtain ⟨b1, g1, e1⟩ := short_ok a.m.ans h.m.ans.1
  obtain ⟨b2, g2, e2⟩ := short_ok a.m.auth h.m.auth.1
  obtain ⟨b3, g3, e3⟩ := short_ok a.m.ext h.m.ext.1
  refine ⟨_, fun hb => ?_, b1, b2, b3, g1, g2, g3, rfl⟩
  simp only [Bool.and_eq_true, Bool.not_eq_true', decide_eq_false_iff_not] at hb
  obtain ⟨⟨⟨h0, h1⟩, h2⟩, h3⟩ := hb
  have := e1 h1
  have := e2 h2
  have := e3 h3
  exact ⟨h, ⟨h.m, by omega, by omega, by omega⟩, by omega⟩
theorem small_l1 (p0 : PV) (l : List Actn) (hl : l.length ≤ 20) (hw : ∀ a ∈ l, a.wf) : ∃ b : Bool, (b = true → ∀ a ∈ l, AOk a) ∧ l1_ddilaw33_small.ev S 30 [p0, actsPV l] = some (if b = true then .yld 0 [] else .ret [.b false]) := by
  have hch : ∃ f : Actn → Bool, ∀ a ∈ l, (f a = true → AOk a) ∧ ∃ b1 b2 b3, S n_ddilaw33_short 1 [recsPV a.m.ans] = some [.b b1] ∧ S n_ddilaw33_short 1 [recsPV a.m.auth] = some [.b b2] ∧ S n_ddilaw33_short 1 [recsPV a.m.ext] = some [.b b3] ∧ f a = (!decide ((20 : Int) < (a.addrs.length : Int)) && b1 && b2 && b3) := by
    have : ∀ a, ∃ b : Bool, a ∈ l → (b = true → AOk a) ∧ ∃ b1 b2 b3, S n_ddilaw33_short 1 [recsPV a.m.ans] = some [.b b1] ∧ S n_ddilaw33_short 1 [recsPV a.m.auth] = some [.b b2] ∧ S n_ddilaw33_short 1 [recsPV a.m.ext] = some [.b b3] ∧ b = (!decide ((20 : Int) < (a.addrs.length : Int)) && b1 && b2 && b3) := by
      intro a
      by_cases ha : a ∈ l
      · obtain ⟨b, h⟩ := small_act a (hw a ha)
        exact ⟨b, fun _ => h⟩
      · exact ⟨false, fun h => absurd h ha⟩
    exact ⟨fun a => Classical.choose (this a), fun a ha => Classical.choose_spec (this a) ha⟩
  obtain ⟨f, hf⟩ := hch
  refine ⟨l.all f, fun h a ha => (hf a ha).1 (List.all_eq_true.1 h a ha), ?_⟩
  refine loop_list l (fun i => [.i .i64 (i : Int)]) (fun i r => if r.all f = true then .yld 0 [] else .ret [.b false]) rfl (by omega) (fun i c r hd hi hc => ?_) ?_
  · obtain ⟨_, b1, b2, b3, g1, g2, g3, e⟩ := hf c (List.mem_of_getElem? hc)
    by_cases c1 : (20 : Int) < (c.addrs.length : Int)
    · right
      have ef : f c = false := by rw [e]; simp [c1]
      simp (disch := omega) only [x_ddilaw33_small, hc, c1, EVA, EVT, EVM, EVC, EVP, ↓reduceIte, EV, if_true, if_false, Nat.reduceAdd, Nat.reduceEqDiff, Int.reduceToNat, ne_eq, not_true, not_false_eq_true, Bool.true_eq_false, reduceCtorEq]
      simp [ef, Out.goes]
    · cases b1 with
      | false =>
        right
        have ef : f c = false := by rw [e]; simp
        simp (disch := omega) only [x_ddilaw33_small, hc, c1, g1, EVA, EVT, EVM, EVC, EVP, ↓reduceIte, EV, if_true, if_false, Nat.reduceAdd, Nat.reduceEqDiff, Int.reduceToNat, ne_eq, not_true, not_false_eq_true, Bool.true_eq_false, reduceCtorEq]
        simp [ef, Out.goes]
      | true =>
        cases b2 with
        | false =>
          right
          have ef : f c = false := by rw [e]; simp
          simp (disch := omega) only [x_ddilaw33_small, hc, c1, g1, g2, EVA, EVT, EVM, EVC, EVP, ↓reduceIte, EV, if_true, if_false, Nat.reduceAdd, Nat.reduceEqDiff, Int.reduceToNat, ne_eq, not_true, not_false_eq_true, Bool.true_eq_false, reduceCtorEq]
          simp [ef, Out.goes]
        | true =>
          cases b3 with
          | false =>
            right
            have ef : f c = false := by rw [e]; simp
            simp (disch := omega) only [x_ddilaw33_small, hc, c1, g1, g2, g3, EVA, EVT, EVM, EVC, EVP, ↓reduceIte, EV, if_true, if_false, Nat.reduceAdd, Nat.reduceEqDiff, Int.reduceToNat, ne_eq, not_true, not_false_eq_true, Bool.true_eq_false, reduceCtorEq]
            simp [ef, Out.goes]
          | true =>
            left
            have ef : f c = true := by rw [e]; simp [c1]
            simp (disch := omega) only [x_ddilaw33_small, hc, c1, g1, g2, g3, EVA, EVT, EVM, EVC, EVP, ↓reduceIte, EV, if_true, if_false, Nat.reduceAdd, Nat.reduceEqDiff, Int.reduceToNat, ne_eq, not_true, not_false_eq_true, Bool.true_eq_false, reduceCtorEq]
            simp [ef]
  · simp (disch := omega) only [x_ddilaw33_small, EVA, EVT, EVM, EVC, EVP, ↓reduceIte, EV, if_true, if_false, Nat.reduceAdd, Nat.reduceEqDiff, Int.reduceToNat, ne_eq, not_true, not_false_eq_true, Bool.true_eq_false, reduceCtorEq]
    simp [Out.goes]
theorem small_l0 (b : Begin) (p1 : PV) (hl : b.hosts.length ≤ 20) (hw : ∀ h ∈ b.hosts, strr h) : ∃ c : Bool, l0_ddilaw33_small.ev S 30 [b.pv, p1] = some (if c = true then .yld 0 [] else .ret [.b false]) := by
  obtain ⟨f, hf⟩ : ∃ f : List UInt8 → Bool, ∀ h, f h = !decide ((300 : Int) < (h.length : Int)) := ⟨_, fun _ => rfl⟩
  refine ⟨b.hosts.all f, ?_⟩
  refine loop_list b.hosts (fun i => [.i .i64 (i : Int)]) (fun i r => if r.all f = true then .yld 0 [] else .ret [.b false]) rfl (by omega) (fun i c r hd hi hc => ?_) ?_
  · have ef := hf c
    by_cases c1 : (300 : Int) < (c.length : Int)
    · right
      rw [dec_t c1] at ef
      simp (disch := omega) only [x_ddilaw33_small, hc, c1, EVA, EVT, EVM, EVC, EVP, ↓reduceIte, EV, if_true, if_false, Nat.reduceAdd, Nat.reduceEqDiff, Int.reduceToNat, ne_eq, not_true, not_false_eq_true, Bool.true_eq_false, reduceCtorEq]
      simp [ef, Out.goes]
    · left
      rw [dec_f c1] at ef
      simp (disch := omega) only [x_ddilaw33_small, hc, c1, EVA, EVT, EVM, EVC, EVP, ↓reduceIte, EV, if_true, if_false, Nat.reduceAdd, Nat.reduceEqDiff, Int.reduceToNat, ne_eq, not_true, not_false_eq_true, Bool.true_eq_false, reduceCtorEq]
      simp [ef]
  · simp (disch := omega) only [x_ddilaw33_small, EVA, EVT, EVM, EVC, EVP, ↓reduceIte, EV, if_true, if_false, Nat.reduceAdd, Nat.reduceEqDiff, Int.reduceToNat, ne_eq, not_true, not_false_eq_true, Bool.true_eq_false, reduceCtorEq]
    simp [Out.goes]
theorem small_ok (b : Begin) (l : List Actn) (hb : b.wf) (hl : actsr l) : ∃ c, S n_ddilaw33_small 2 [b.pv, actsPV l] = some [.b c] ∧ (c = true → l.length ≤ 20 ∧ b.hosts.length ≤ 20 ∧ b.addrs.length ≤ 20 ∧ ∀ a ∈ l, AOk a) := by
  by_cases c1 : (20 : Int) < (l.length : Int)
  · refine ⟨false, s_ddilaw33_small (N := 1) rfl ?_, by simp⟩
    simp (disch := omega) only [x_ddilaw33_small, c1, EVA, EVT, EVM, EVC, EVP, ↓reduceIte, EV, if_true, if_false, Nat.reduceAdd, Nat.reduceEqDiff, Int.reduceToNat, ne_eq, not_true, not_false_eq_true, Bool.true_eq_false, reduceCtorEq]
  · by_cases c2 : (20 : Int) < (b.hosts.length : Int)
    · refine ⟨false, s_ddilaw33_small (N := 1) rfl ?_, by simp⟩
      simp (disch := omega) only [x_ddilaw33_small, c1, c2, EVA, EVT, EVM, EVC, EVP, ↓reduceIte, EV, if_true, if_false, Nat.reduceAdd, Nat.reduceEqDiff, Int.reduceToNat, ne_eq, not_true, not_false_eq_true, Bool.true_eq_false, reduceCtorEq]
    · by_cases c3 : (20 : Int) < (b.addrs.length : Int)
      · refine ⟨false, s_ddilaw33_small (N := 1) rfl ?_, by simp⟩
        simp (disch := omega) only [x_ddilaw33_small, c1, c2, c3, EVA, EVT, EVM, EVC, EVP, ↓reduceIte, EV, if_true, if_false, Nat.reduceAdd, Nat.reduceEqDiff, Int.reduceToNat, ne_eq, not_true, not_false_eq_true, Bool.true_eq_false, reduceCtorEq]
      · by_cases c4 : (300 : Int) < (b.q.name.length : Int)
        · refine ⟨false, s_ddilaw33_small (N := 1) rfl ?_, by simp⟩
          simp (disch := omega) only [x_ddilaw33_small, c1, c2, c3, c4, EVA, EVT, EVM, EVC, EVP, ↓reduceIte, EV, if_true, if_false, Nat.reduceAdd, Nat.reduceEqDiff, Int.reduceToNat, ne_eq, not_true, not_false_eq_true, Bool.true_eq_false, reduceCtorEq]
        · by_cases c5 : (300 : Int) < (b.zone.length : Int)
          · refine ⟨false, s_ddilaw33_small (N := 1) rfl ?_, by simp⟩
            simp (disch := omega) only [x_ddilaw33_small, c1, c2, c3, c4, c5, EVA, EVT, EVM, EVC, EVP, ↓reduceIte, EV, if_true, if_false, Nat.reduceAdd, Nat.reduceEqDiff, Int.reduceToNat, ne_eq, not_true, not_false_eq_true, Bool.true_eq_false, reduceCtorEq]
          · obtain ⟨x, hx⟩ := small_l0 b (actsPV l) (by omega) hb.hosts.2
            obtain ⟨y, hy1, hy⟩ := small_l1 b.pv l (by omega) hl.2
            cases x with
            | false =>
              refine ⟨false, s_ddilaw33_small (N := 30) rfl ?_, by simp⟩
              simp only [Bool.false_eq_true, if_false] at hx
              simp (disch := omega) only [x_ddilaw33_small, c1, c2, c3, c4, c5, hx, EVA, EVT, EVM, EVC, EVP, ↓reduceIte, EV, if_true, if_false, Nat.reduceAdd, Nat.reduceEqDiff, Int.reduceToNat, ne_eq, not_true, not_false_eq_true, Bool.true_eq_false, reduceCtorEq]
            | true =>
              simp only [if_true] at hx
              cases y with
              | false =>
                refine ⟨false, s_ddilaw33_small (N := 30) rfl ?_, by simp⟩
                simp only [Bool.false_eq_true, if_false] at hy
                simp (disch := omega) only [x_ddilaw33_small, c1, c2, c3, c4, c5, hx, hy, EVA, EVT, EVM, EVC, EVP, ↓reduceIte, EV, if_true, if_false, Nat.reduceAdd, Nat.reduceEqDiff, Int.reduceToNat, ne_eq, not_true, not_false_eq_true, Bool.true_eq_false, reduceCtorEq]
              | true =>
                refine ⟨true, s_ddilaw33_small (N := 30) rfl ?_, fun _ => ⟨by omega, by omega, by omega, hy1 rfl⟩⟩
                simp only [if_true] at hy
                simp (disch := omega) only [x_ddilaw33_small, c1, c2, c3, c4, c5, hx, hy, EVA, EVT, EVM, EVC, EVP, ↓reduceIte, EV, if_true, if_false, Nat.reduceAdd, Nat.reduceEqDiff, Int.reduceToNat, ne_eq, not_true, not_false_eq_true, Bool.true_eq_false, reduceCtorEq]
/-! ### The first check -/
def tk0 : Tk := ⟨⟨[97, 46, 100, 46, 120, 46], 1⟩, [97, 46, 100, 46, 120, 46], [120, 46], [], [⟨false, 0, 7⟩], [], 0, 0, ⟨false, 0, 0⟩, ⟨[], 0⟩, 0, [], zMsg, 0⟩
theorem tk0_start : startT ⟨[97, 46, 100, 46, 120, 46], 1⟩ [120, 46] [] [⟨false, 0, 7⟩] = (tk0, 0) := by kernel_rfl
theorem tk0_ok : TOk tk0 0 := ⟨⟨by simp [tk0, strr], by simp [tk0, i64r]⟩, by simp [tk0, strr], by simp [tk0, strr], by simp [tk0], by simp [tk0], by simp [tk0], by simp [tk0], by simp [tk0], by simp [tk0], ⟨by simp [tk0, strr], by simp [tk0, i64r]⟩, by simp [tk0], by simp [tk0], by simp [tk0], by simp⟩
theorem start33_ok : S n_ddilaw33_start 0 [] = some [tk0.pv] := by
  refine s_ddilaw33_start (N := 1) rfl ?_
  have h := start_ok ⟨[97, 46, 100, 46, 120, 46], 1⟩ [120, 46] [] [⟨false, 0, 7⟩] ⟨by simp [strr], by simp [i64r]⟩ (by simp [strr]) (by simp) (by simp) (by simp)
  rw [tk0_start] at h
  simp only at h
  have hs : strsPV [] = PV.l 1 [] := rfl
  simp (disch := omega) only [x_ddilaw33_start, h, EVA, EVT, EVM, EVC, EVP, ↓reduceIte, EV, if_true, if_false, Nat.reduceAdd, Nat.reduceEqDiff, Int.reduceToNat, ne_eq, not_true, not_false_eq_true, Bool.true_eq_false, reduceCtorEq]
theorem tk0_send : sendT tk0 ⟨false, 0, 7⟩ = ({ tk0 with dst := ⟨false, 0, 7⟩, asked := ⟨[100, 46, 120, 46], 2⟩, state := 1, sent := 1 }, { zMsg with dok := true, size := 1232, q := ⟨[100, 46, 120, 46], 2⟩ }, true) := by kernel_rfl
theorem awake33_ok : S n_ddilaw33_awake 0 [] = some [.b true] := by
  refine s_ddilaw33_awake (N := 1) rfl ?_
  have h := send_ok tk0 ⟨false, 0, 7⟩ tk0_ok
  rw [tk0_send] at h
  simp only at h
  have h0 := start33_ok
  generalize tk0 = t at *
  simp (disch := omega) only [x_ddilaw33_awake, h0, h, EVA, EVT, EVM, EVC, EVP, ↓reduceIte, EV, if_true, if_false, Nat.reduceAdd, Nat.reduceEqDiff, Int.reduceToNat, ne_eq, not_true, not_false_eq_true, Bool.true_eq_false, reduceCtorEq]
end Go.X.G
