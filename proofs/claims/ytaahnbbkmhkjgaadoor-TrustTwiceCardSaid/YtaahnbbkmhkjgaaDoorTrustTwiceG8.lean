/- Questions and messages. -/
import Derived.Test.YtaahnbbkmhkjgaaDoorTrustTwiceG7
import Derived.Test.YtaahnbbkmhkjgaaDoorTrustTwiceG6

set_option linter.unusedVariables false
set_option linter.unusedSimpArgs false
namespace Go.X
open Go
structure Ques where
  name : List UInt8
  typ : Int
  deriving DecidableEq
structure Msg where
  id : Int
  op : Int
  code : Int
  resp : Bool
  aa : Bool
  tc : Bool
  rd : Bool
  ra : Bool
  ad : Bool
  cd : Bool
  dok : Bool
  size : Int
  q : Ques
  ans : List Rec
  auth : List Rec
  ext : List Rec
  deriving DecidableEq
structure Ques.wf (x : Ques) : Prop where
  name : strr x.name
  typ : i64r x.typ
structure Msg.wf (m : Msg) : Prop where
  id : i64r m.id
  op : i64r m.op
  code : i64r m.code
  size : i64r m.size
  q : m.q.wf
  ans : recsr m.ans
  auth : recsr m.auth
  ext : recsr m.ext
def Ques.cells (x : Ques) : List PV := [.s x.name, .i .i64 x.typ]
def Ques.pv (x : Ques) : PV := .a x.cells
def Msg.cells (m : Msg) : List PV := .i .i64 m.id :: .i .i64 m.op :: .i .i64 m.code :: .b m.resp :: .b m.aa :: .b m.tc :: .b m.rd :: .b m.ra :: .b m.ad :: .b m.cd :: .b m.dok :: .i .i64 m.size :: .s m.q.name :: .i .i64 m.q.typ :: recsPV m.ans :: recsPV m.auth :: recsPV m.ext :: []
def Msg.pv (m : Msg) : PV := .a m.cells
def shQ : Sh := .st [.s, .i .i64]
def shMsg : Sh := .st [.i .i64, .i .i64, .i .i64, .b, .b, .b, .b, .b, .b, .b, .b, .i .i64, shQ, shRecs, shRecs, shRecs]
theorem ok_ques {cs : List PV} (h : shQ.okC cs) : ∃ q : Ques, q.wf ∧ cs = q.cells := by
  obtain ⟨a0, r0, rfl, h0, h⟩ := okCs_cons (okC_st h)
  obtain ⟨a1, r1, rfl, h1, h⟩ := okCs_cons h
  obtain rfl := okCs_nil h
  obtain ⟨x0, rfl, k0⟩ := okC_s h0
  obtain ⟨x1, rfl, k1⟩ := okC_i64 h1
  exact ⟨⟨x0, x1⟩, ⟨k0, k1⟩, rfl⟩
theorem okA_q {p : PV} (h : shQ.ok p) : ∃ q : Ques, q.wf ∧ p = q.pv := by
  obtain ⟨ds, rfl, h⟩ : ∃ ds, p = .a ds ∧ shQ.okC ds := h
  obtain ⟨r, hr, rfl⟩ := ok_ques h
  exact ⟨r, hr, rfl⟩
theorem okA_msg {p : PV} (h : shMsg.ok p) : ∃ m : Msg, m.wf ∧ p = m.pv := by
  obtain ⟨ds, rfl, h⟩ : ∃ ds, p = .a ds ∧ shMsg.okC ds := h
  obtain ⟨a0, r0, rfl, h0, h⟩ := okCs_cons (okC_st h)
  obtain ⟨a1, r1, rfl, h1, h⟩ := okCs_cons h
  obtain ⟨a2, r2, rfl, h2, h⟩ := okCs_cons h
  obtain ⟨a3, r3, rfl, h3, h⟩ := okCs_cons h
  obtain ⟨a4, r4, rfl, h4, h⟩ := okCs_cons h
  obtain ⟨a5, r5, rfl, h5, h⟩ := okCs_cons h
  obtain ⟨a6, r6, rfl, h6, h⟩ := okCs_cons h
  obtain ⟨a7, r7, rfl, h7, h⟩ := okCs_cons h
  obtain ⟨a8, r8, rfl, h8, h⟩ := okCs_cons h
  obtain ⟨a9, r9, rfl, h9, h⟩ := okCs_cons h
  obtain ⟨a10, r10, rfl, h10, h⟩ := okCs_cons h
  obtain ⟨a11, r11, rfl, h11, h⟩ := okCs_cons h
  obtain ⟨a12, r12, rfl, h12, h⟩ := okCs_cons h
  obtain ⟨a13, r13, rfl, h13, h⟩ := okCs_cons h
  obtain ⟨a14, r14, rfl, h14, h⟩ := okCs_cons h
  obtain ⟨a15, r15, rfl, h15, h⟩ := okCs_cons h
  obtain rfl := okCs_nil h
  obtain ⟨x0, rfl, k0⟩ := okC_i64 h0
  obtain ⟨x1, rfl, k1⟩ := okC_i64 h1
  obtain ⟨x2, rfl, k2⟩ := okC_i64 h2
  obtain ⟨x3, rfl⟩ := okC_b h3
  obtain ⟨x4, rfl⟩ := okC_b h4
  obtain ⟨x5, rfl⟩ := okC_b h5
  obtain ⟨x6, rfl⟩ := okC_b h6
  obtain ⟨x7, rfl⟩ := okC_b h7
  obtain ⟨x8, rfl⟩ := okC_b h8
  obtain ⟨x9, rfl⟩ := okC_b h9
  obtain ⟨x10, rfl⟩ := okC_b h10
  obtain ⟨x11, rfl, k11⟩ := okC_i64 h11
  obtain ⟨x12, k12, rfl⟩ := ok_ques h12
  obtain ⟨x13, k13, rfl⟩ := ok_recs h13
  obtain ⟨x14, k14, rfl⟩ := ok_recs h14
  obtain ⟨x15, k15, rfl⟩ := ok_recs h15
  exact ⟨⟨x0, x1, x2, x3, x4, x5, x6, x7, x8, x9, x10, x11, x12, x13, x14, x15⟩, ⟨k0, k1, k2, k11, k12, k13, k14, k15⟩, rfl⟩
theorem proj_msg0 (m : Msg) : projPV 0 m.pv = some (.i .i64 m.id) := rfl
theorem proj_msg1 (m : Msg) : projPV 1 m.pv = some (.i .i64 m.op) := rfl
theorem proj_msg2 (m : Msg) : projPV 2 m.pv = some (.i .i64 m.code) := rfl
theorem proj_msg3 (m : Msg) : projPV 3 m.pv = some (.b m.resp) := rfl
theorem proj_msg4 (m : Msg) : projPV 4 m.pv = some (.b m.aa) := rfl
theorem proj_msg5 (m : Msg) : projPV 5 m.pv = some (.b m.tc) := rfl
theorem proj_msg6 (m : Msg) : projPV 6 m.pv = some (.b m.rd) := rfl
theorem proj_msg7 (m : Msg) : projPV 7 m.pv = some (.b m.ra) := rfl
theorem proj_msg8 (m : Msg) : projPV 8 m.pv = some (.b m.ad) := rfl
theorem proj_msg9 (m : Msg) : projPV 9 m.pv = some (.b m.cd) := rfl
theorem proj_msg10 (m : Msg) : projPV 10 m.pv = some (.b m.dok) := rfl
theorem proj_msg11 (m : Msg) : projPV 11 m.pv = some (.i .i64 m.size) := rfl
theorem proj_msg12 (m : Msg) : projPV 12 m.pv = some (.s m.q.name) := rfl
theorem proj_msg13 (m : Msg) : projPV 13 m.pv = some (.i .i64 m.q.typ) := rfl
theorem proj_msg14 (m : Msg) : projPV 14 m.pv = some (recsPV m.ans) := rfl
theorem proj_msg15 (m : Msg) : projPV 15 m.pv = some (recsPV m.auth) := rfl
theorem proj_msg16 (m : Msg) : projPV 16 m.pv = some (recsPV m.ext) := rfl
theorem sub_msg (m : Msg) : subPV 0 17 m.pv = some m.pv := rfl
theorem fit_msg (m : Msg) : fitPV 17 m.pv = some m.pv := rfl
theorem sub_msg_q (m : Msg) : subPV 12 2 m.pv = some m.q.pv := rfl
theorem sub_q (x : Ques) : subPV 0 2 x.pv = some x.pv := rfl
theorem fit_q (x : Ques) : fitPV 2 x.pv = some x.pv := rfl
theorem proj_q0 (x : Ques) : projPV 0 x.pv = some (.s x.name) := rfl
theorem proj_q1 (x : Ques) : projPV 1 x.pv = some (.i .i64 x.typ) := rfl
theorem fold_q (n : List UInt8) (t : Int) : PV.a [.s n, .i .i64 t] = Ques.pv ⟨n, t⟩ := rfl
theorem eta_q (x : Ques) : (⟨x.name, x.typ⟩ : Ques) = x := rfl
theorem fold_msg (x0 x1 x2 : Int) (b0 b1 b2 b3 b4 b5 b6 b7 : Bool) (x3 : Int) (n : List UInt8) (t : Int) (l0 l1 l2 : List Rec) : PV.a [.i .i64 x0, .i .i64 x1, .i .i64 x2, .b b0, .b b1, .b b2, .b b3, .b b4, .b b5, .b b6, .b b7, .i .i64 x3, .s n, .i .i64 t, recsPV l0, recsPV l1, recsPV l2] = Msg.pv ⟨x0, x1, x2, b0, b1, b2, b3, b4, b5, b6, b7, x3, ⟨n, t⟩, l0, l1, l2⟩ := rfl
theorem eq_q (neg : Bool) (x y : Ques) : eqsPV neg true [.s, (.i .i64)] x.pv y.pv = some (.b (if neg then decide (x ≠ y) else decide (x = y))) := by
  have : eqScs [.s, (.i .i64)] x.cells y.cells = some (decide (x = y)) := by
    simp only [Ques.cells, eqScs, eqSc, if_true, Option.some.injEq]
    rw [Bool.eq_iff_iff]
    cases x; cases y; simp
  simp only [eqsPV, Ques.pv, this, Option.map_some]
  cases neg <;> simp
theorem EVM : type_of% ((And.intro @proj_msg0 (And.intro @proj_msg1 (And.intro @proj_msg2 (And.intro @proj_msg3 (And.intro @proj_msg4 (And.intro @proj_msg5 (And.intro @proj_msg6 (And.intro @proj_msg7 (And.intro @proj_msg8 (And.intro @proj_msg9 (And.intro @proj_msg10 (And.intro @proj_msg11 (And.intro @proj_msg12 (And.intro @proj_msg13 (And.intro @proj_msg14 (And.intro @proj_msg15 (And.intro @proj_msg16 (And.intro @sub_msg (And.intro @fit_msg (And.intro @sub_msg_q (And.intro @sub_q (And.intro @fit_q (And.intro @proj_q0 (And.intro @proj_q1 (And.intro @fold_q (And.intro @eta_q (And.intro @fold_msg @eq_q)))))))))))))))))))))))))))) := (And.intro @proj_msg0 (And.intro @proj_msg1 (And.intro @proj_msg2 (And.intro @proj_msg3 (And.intro @proj_msg4 (And.intro @proj_msg5 (And.intro @proj_msg6 (And.intro @proj_msg7 (And.intro @proj_msg8 (And.intro @proj_msg9 (And.intro @proj_msg10 (And.intro @proj_msg11 (And.intro @proj_msg12 (And.intro @proj_msg13 (And.intro @proj_msg14 (And.intro @proj_msg15 (And.intro @proj_msg16 (And.intro @sub_msg (And.intro @fit_msg (And.intro @sub_msg_q (And.intro @sub_q (And.intro @fit_q (And.intro @proj_q0 (And.intro @proj_q1 (And.intro @fold_q (And.intro @eta_q (And.intro @fold_msg @eq_q)))))))))))))))))))))))))))
end Go.X
/- Closures and sets of strings, evaluated. -/
namespace Go.X
open Go
def cloB (fn : Fns) (η : List PV) (fl : Bool) (ar : List E) (m : Nat) : PV → Option (List PV)
  | .f f caps => (E.evs η ar).bind fun vs => results fl m η (fn f vs.length (vs ++ caps))
  | _ => none
theorem wev_clo1 {fn : Fns} {η : List PV} (fl : Bool) (c : E) (ar : List E) (m : Nat) : W.ev fn η (.clo none fl c ar m) = (c.ev η).bind (cloB fn η fl ar m) := by
  rw [wev_clo]
  congr 1
  funext q
  cases q with
  | f f caps => rfl
  | _ => cases h : E.evs η ar <;> rfl
theorem cloB_f {fn : Fns} {η : List PV} (fl : Bool) (ar : List E) (m : Nat) (f : Nat) (caps : List PV) : cloB fn η fl ar m (.f f caps) = (E.evs η ar).bind fun vs => results fl m η (fn f vs.length (vs ++ caps)) := rfl
theorem proj_f (f : Nat) (caps : List PV) : projPV 0 (.f f caps) = some (.f f caps) := rfl
theorem scal_f (f : Nat) (caps : List PV) : scalPV (.f f caps) = some (.f f caps) := rfl
/-- a set of strings -/
def setPVs (ks : List (List UInt8)) : PV := .m (ks.map fun k => (.s k, .b true))
theorem set_nil : PV.m [] = setPVs [] := rfl
theorem proj_set (ks : List (List UInt8)) : projPV 0 (setPVs ks) = some (setPVs ks) := rfl
theorem scal_set (ks : List (List UInt8)) : scalPV (setPVs ks) = some (setPVs ks) := rfl
theorem mfind_set (k : List UInt8) : ∀ ks : List (List UInt8), mfind (.s k) (ks.map fun k => (.s k, .b true)) = some (if k ∈ ks then some (.b true) else none)
  | [] => by simp [mfind]
  | x :: ks => by
    simp only [List.map_cons, mfind, keyEq]
    by_cases h : k = x
    · subst h; simp
    · have h2 : (k == x) = false := by simpa using h
      rw [h2]
      simp only [mfind_set k ks, List.mem_cons, h, false_or]
theorem mput_set (k : List UInt8) : ∀ ks : List (List UInt8), mput (.s k) (.b true) (ks.map fun k => (.s k, .b true)) = some ((if k ∈ ks then ks else ks ++ [k]).map fun k => (.s k, .b true))
  | [] => by simp [mput]
  | x :: ks => by
    simp only [List.map_cons, mput, keyEq]
    by_cases h : k = x
    · subst h; simp
    · have h2 : (k == x) = false := by simpa using h
      rw [h2]
      simp only [mput_set k ks, List.mem_cons, h, false_or, Option.map_some]
      by_cases h3 : k ∈ ks <;> simp [h3]
theorem mget_set (k : List UInt8) (ks : List (List UInt8)) : mgetPV (setPVs ks) (.s k) (.b false) = some (.b (decide (k ∈ ks))) := by
  simp only [mgetPV, setPVs, keyOk, if_true, mfind_set, Option.map_some]
  by_cases h : k ∈ ks <;> simp [h]
theorem mset_set (k : List UInt8) (ks : List (List UInt8)) : msetPV (setPVs ks) (.s k) (.b true) = some (setPVs (if k ∈ ks then ks else ks ++ [k])) := by
  simp only [msetPV, setPVs, keyOk, if_true, mput_set, Option.map_some]
theorem lit_recs2 (a b : List Rec) : litPV 1 [recsPV a, recsPV b] = some (.l 1 ([a, b].map recsPV)) := rfl
theorem EVC : type_of% ((And.intro @wev_clo1 (And.intro @cloB_f (And.intro @proj_f (And.intro @scal_f (And.intro @set_nil (And.intro @proj_set (And.intro @scal_set (And.intro @mget_set (And.intro @mset_set @lit_recs2)))))))))) := (And.intro @wev_clo1 (And.intro @cloB_f (And.intro @proj_f (And.intro @scal_f (And.intro @set_nil (And.intro @proj_set (And.intro @scal_set (And.intro @mget_set (And.intro @mset_set @lit_recs2)))))))))
end Go.X
/- What is believed of a response: the plain side. -/
namespace Go.X.G
open Go Go.X

def inZ (zone : List UInt8) (r : Rec) : Bool := under r.name zone
def hostT (t : Int) : Bool := decide (t = 2) || decide (t = 15) || decide (t = 33)
def ment (l : List Rec) (h : List UInt8) : Bool := l.any fun r => hostT r.typ && decide (r.data.host = h)
def adrT (t : Int) : Bool := decide (t = 1) || decide (t = 28)
def extB (a b : List Rec) (zone : List UInt8) (r : Rec) : Bool := inZ zone r && (ment a r.name || ment b r.name) && adrT r.typ
def insideM (m : Msg) (zone : List UInt8) : Msg :=
  { m with ans := m.ans.filter (inZ zone), auth := m.auth.filter (inZ zone), ext := m.ext.filter (extB (m.ans.filter (inZ zone)) (m.auth.filter (inZ zone)) zone) }
def hasL (l : List Rec) (n : List UInt8) (t : Int) : Bool := l.any fun r => decide (r.name = n) && (decide (r.typ = t) || decide (t = 255))
def folL (l : List Rec) (t : Int) : Nat → List UInt8 → List (List UInt8) × List UInt8
  | 0, n => ([], n)
  | k + 1, n => if hasL l n t = true then ([], n) else match findR l n 5 with
    | [] => ([], n)
    | r :: _ => (n :: (folL l t k r.data.host).1, (folL l t k r.data.host).2)
def firB (m : Msg) (t : Int) (zone : List UInt8) (r : Rec) : Bool := decide (r.typ = t) && under m.q.name r.name && (decide (zone = []) || (decide (r.name ≠ zone) && under r.name zone))
def firstP (m : Msg) (t : Int) (zone : List UInt8) : Option Rec := m.auth.find? (firB m t zone)
def refN (m : Msg) (zone : List UInt8) : Option Rec := if zone = [] then none else firstP m 2 zone
def kindM (m : Msg) (zone : List UInt8) : Int :=
  if (m.resp && decide (m.op = 0) && (decide (m.code = 0) || decide (m.code = 3)) && !m.tc) = true then
    (let p := folL m.ans m.q.typ 8 m.q.name
     if hasL m.ans p.2 m.q.typ = true then 1 else if p.1 ≠ [] then 2 else
     if (firstP m 6 []).isSome = true then (if m.code = 3 then 5 else 4) else
     if (refN m zone).isSome = true ∧ m.code = 0 then 3 else 0)
  else 0
def dd (out : List (List UInt8)) : List Rec → List (List UInt8)
  | [] => out
  | r :: rs => if r.data.host ∈ out then dd out rs else dd (out ++ [r.data.host]) rs
def childN (m : Msg) (zone : List UInt8) : List UInt8 × List (List UInt8) × Bool :=
  if kindM m zone = 3 then (match refN m zone with
    | some r => (r.name, dd [] (findR m.auth r.name 2), true)
    | none => ([], [], true))
  else ([], [], false)
def negN (m : Msg) (zone : List UInt8) : Int × Bool :=
  if kindM m zone = 4 ∨ kindM m zone = 5 then (match firstP m 6 [] with
    | some r => (if r.data.e < r.ttl then r.data.e else r.ttl, true)
    | none => (0, true))
  else (0, false)

theorem ment_filter (l : List Rec) (zone h : List UInt8) : ment ((l.filter (inZ zone)).filter (inZ zone)) h = ment (l.filter (inZ zone)) h := by
  rw [List.filter_filter]; simp
theorem inside_twice (m : Msg) (zone : List UInt8) : insideM (insideM m zone) zone = insideM m zone := by
  unfold insideM
  simp only [List.filter_filter, Bool.and_self]
theorem under_nil (n : List UInt8) : under n [] = false := by
  unfold under
  have : vld [] = false := by decide
  rw [this]; simp
end Go.X.G
/- Inside: what the servers of a zone can know. -/
namespace Go.X.G
open Go Go.X

theorem kept_ok (l : List Rec) (g : Nat) (caps : List PV) (p : Rec → Bool) (hl : l.length ≤ 1000000) (h : ∀ r ∈ l, S g 1 (r.pv :: caps) = some [.b (p r)]) : S n_trust_kept 2 [recsPV l, .f g caps] = some [recsPV (l.filter p)] := by
  refine s_trust_kept (N := l.length + 1) rfl ?_
  have key : l0_trust_kept.ev S (l.length + 1) [recsPV l, .f g caps] = some (.yld 0 [recsPV ([] ++ l.filter p)]) := by
    refine loop_acc l (fun i (q : List Rec) => [recsPV q, .i .i64 (i : Int)]) (fun i q r => .yld 0 [recsPV (q ++ r.filter p)]) (fun i q => q.length ≤ i) [] rfl (Nat.zero_le _) (by omega) (fun i q c r hd hi hc hI => ?_) (fun q hI => ?_)
    · left
      have hp := h c (List.mem_of_getElem? hc)
      rcases Bool.eq_false_or_eq_true (p c) with h1 | h1
      · rw [h1] at hp
        refine ⟨q ++ [c], ?_, by simp; omega, by simp [h1]⟩
        simp (disch := omega) only [x_trust_kept, hc, hp, EVC, EVP, ↓reduceIte, EV, if_true, if_false, Nat.reduceAdd, Nat.reduceEqDiff, Int.reduceToNat, ne_eq, not_true, not_false_eq_true, Bool.true_eq_false, reduceCtorEq]
      · rw [h1] at hp
        refine ⟨q, ?_, by omega, by simp [h1]⟩
        simp (disch := omega) only [x_trust_kept, hc, hp, EVC, EVP, ↓reduceIte, EV, if_true, if_false, Nat.reduceAdd, Nat.reduceEqDiff, Int.reduceToNat, ne_eq, not_true, not_false_eq_true, Bool.true_eq_false, reduceCtorEq]
    · simp (disch := omega) only [x_trust_kept, EVP, ↓reduceIte, EV, if_true, if_false, Nat.reduceAdd, Nat.reduceEqDiff, Int.reduceToNat, ne_eq, not_true, not_false_eq_true, Bool.true_eq_false, reduceCtorEq]
      simp [Out.goes]
  simp (disch := omega) only [x_trust_kept, key, EVP, ↓reduceIte, EV, if_true, if_false, Nat.reduceAdd, Nat.reduceEqDiff, Int.reduceToNat, ne_eq, not_true, not_false_eq_true, Bool.true_eq_false, reduceCtorEq]
theorem Inside1_ok (r : Rec) (zone : List UInt8) (hr : r.wf) (hz : strr zone) : S n_trust_Inside_1 1 [r.pv, .s zone] = some [.b (inZ zone r)] := by
  refine s_trust_Inside_1 (N := 1) rfl ?_
  have g1 := hr.name
  unfold strr at g1 hz
  unfold inZ
  simp (disch := omega) only [x_trust_Inside_1, UnderP_ok, EVP, ↓reduceIte, EV, if_true, if_false, Nat.reduceAdd, Nat.reduceEqDiff, Int.reduceToNat, ne_eq, not_true, not_false_eq_true, Bool.true_eq_false, reduceCtorEq]
theorem Inside2_ok (r : Rec) (zone : List UInt8) (ks : List (List UInt8)) (hr : r.wf) (hz : strr zone) : S n_trust_Inside_2 1 [r.pv, .f n_trust_Inside_1 [.s zone], setPVs ks] = some [.b (inZ zone r && decide (r.name ∈ ks) && adrT r.typ)] := by
  refine s_trust_Inside_2 (N := 1) rfl ?_
  have h1 := Inside1_ok r zone hr hz
  unfold adrT
  rcases Bool.eq_false_or_eq_true (inZ zone r) with h2 | h2 <;> rw [h2] at h1 <;> by_cases h3 : r.name ∈ ks <;> by_cases h4 : r.typ = 1 <;> simp (disch := omega) only [x_trust_Inside_2, h1, h3, h4, EVC, EVP, ↓reduceIte, EV, if_true, if_false, Nat.reduceAdd, Nat.reduceEqDiff, Int.reduceToNat, ne_eq, not_true, not_false_eq_true, Bool.true_eq_false, reduceCtorEq] <;> simp [h2, h3, h4]
/-- the hosts of a list, joined to those that are known -/
def addH (ks : List (List UInt8)) : List Rec → List (List UInt8)
  | [] => ks
  | r :: rs => addH (if hostT r.typ = true then (if r.data.host ∈ ks then ks else ks ++ [r.data.host]) else ks) rs
theorem mem_addH (h : List UInt8) : ∀ (l : List Rec) (ks : List (List UInt8)), h ∈ addH ks l ↔ h ∈ ks ∨ ment l h = true
  | [], ks => by simp [addH, ment]
  | r :: rs, ks => by
    rw [addH, mem_addH h rs]
    have hm : ment (r :: rs) h = ((hostT r.typ && decide (r.data.host = h)) || ment rs h) := by simp [ment]
    rw [hm]
    rcases Bool.eq_false_or_eq_true (hostT r.typ) with h1 | h1
    · rw [h1]
      by_cases h2 : r.data.host ∈ ks
      · simp only [h2, if_true, Bool.true_and, Bool.or_eq_true, decide_eq_true_eq]
        constructor
        · rintro (h3 | h3)
          · exact .inl h3
          · exact .inr (.inr h3)
        · rintro (h3 | h3 | h3)
          · exact .inl h3
          · exact .inl (h3 ▸ h2)
          · exact .inr h3
      · simp only [h2, if_true, if_false, Bool.true_and, Bool.or_eq_true, decide_eq_true_eq, List.mem_append, List.mem_singleton]
        constructor
        · rintro ((h3 | h3) | h3)
          · exact .inl h3
          · exact .inr (.inl h3.symm)
          · exact .inr (.inr h3)
        · rintro (h3 | h3 | h3)
          · exact .inl (.inl h3)
          · exact .inl (.inr h3.symm)
          · exact .inr h3
    · rw [h1]; simp
theorem Inside_ok (m : Msg) (zone : List UInt8) (hm : m.wf) (hz : strr zone) (h1 : m.ans.length ≤ 1000) (h2 : m.auth.length ≤ 1000) (h3 : m.ext.length ≤ 1000) : S n_trust_Inside 2 [m.pv, .s zone] = some [(insideM m zone).pv] := by
  refine s_trust_Inside (N := 2000) rfl ?_
  have k1 := kept_ok m.ans n_trust_Inside_1 [.s zone] (inZ zone) (by omega) (fun r hr => Inside1_ok r zone (hm.ans.2 r hr) hz)
  have k2 := kept_ok m.auth n_trust_Inside_1 [.s zone] (inZ zone) (by omega) (fun r hr => Inside1_ok r zone (hm.auth.2 r hr) hz)
  have a1 : (m.ans.filter (inZ zone)).length ≤ 1000 := Nat.le_trans (List.length_filter_le _ _) h1
  have a2 : (m.auth.filter (inZ zone)).length ≤ 1000 := Nat.le_trans (List.length_filter_le _ _) h2
  unfold insideM
  generalize m.ans.filter (inZ zone) = A at *
  generalize m.auth.filter (inZ zone) = B at *
  have inner : ∀ (i : Nat) (c : List Rec) (ks : List (List UInt8)), [A, B][i]? = some c → c.length ≤ 1000 → l1_trust_Inside.ev S 2000 [m.pv, .s zone, recsPV A, recsPV B, .i .i64 (i : Int), setPVs ks] = some (.yld 2 [setPVs (addH ks c)]) := by
    intro i c ks hc hcl
    refine loop_acc c (fun j (g : List (List UInt8)) => [.i .i64 (j : Int), setPVs g]) (fun j g r => .yld 2 [setPVs (addH g r)]) (fun _ _ => True) ks rfl trivial (by omega) (fun j g r rs hd hj hr _ => ?_) (fun g _ => ?_)
    · left
      refine ⟨if hostT r.typ = true then (if r.data.host ∈ g then g else g ++ [r.data.host]) else g, ?_, trivial, rfl⟩
      unfold hostT
      by_cases t1 : r.typ = 2
      · simp (disch := omega) only [x_trust_Inside, hc, hr, t1, EVC, EVP, ↓reduceIte, EV, if_true, if_false, Nat.reduceAdd, Nat.reduceEqDiff, Int.reduceToNat, ne_eq, not_true, not_false_eq_true, Bool.true_eq_false, reduceCtorEq]
        simp
      · by_cases t2 : r.typ = 15
        · simp (disch := omega) only [x_trust_Inside, hc, hr, t2, EVC, EVP, ↓reduceIte, EV, if_true, if_false, Nat.reduceAdd, Nat.reduceEqDiff, Int.reduceToNat, ne_eq, not_true, not_false_eq_true, Bool.true_eq_false, reduceCtorEq]
          simp
        · by_cases t3 : r.typ = 33
          · simp (disch := omega) only [x_trust_Inside, hc, hr, t3, EVC, EVP, ↓reduceIte, EV, if_true, if_false, Nat.reduceAdd, Nat.reduceEqDiff, Int.reduceToNat, ne_eq, not_true, not_false_eq_true, Bool.true_eq_false, reduceCtorEq]
            simp
          · simp (disch := omega) only [x_trust_Inside, hc, hr, t1, t2, t3, EVC, EVP, ↓reduceIte, EV, if_true, if_false, Nat.reduceAdd, Nat.reduceEqDiff, Int.reduceToNat, ne_eq, not_true, not_false_eq_true, Bool.true_eq_false, reduceCtorEq]
            simp [t1, t2, t3]
    · simp (disch := omega) only [x_trust_Inside, hc, EVC, EVP, ↓reduceIte, EV, if_true, if_false, Nat.reduceAdd, Nat.reduceEqDiff, Int.reduceToNat, ne_eq, not_true, not_false_eq_true, Bool.true_eq_false, reduceCtorEq]
      simp [Out.goes, addH]
  have outer : l0_trust_Inside.ev S 2000 [m.pv, .s zone, recsPV A, recsPV B] = some (.yld 0 [setPVs (addH (addH [] A) B)]) := by
    refine loop_acc [A, B] (fun i (g : List (List UInt8)) => [.i .i64 (i : Int), setPVs g]) (fun i g r => .yld 0 [setPVs (r.foldl addH g)]) (fun _ _ => True) [] rfl trivial (by simp) (fun i g c r hd hi hc _ => ?_) (fun g _ => ?_)
    · left
      refine ⟨addH g c, ?_, trivial, rfl⟩
      have hcl : c.length ≤ 1000 := by
        have := List.mem_of_getElem? hc
        simp at this
        rcases this with rfl | rfl <;> omega
      have hi2 : i < 2 := hi
      have k := inner i c g hc hcl
      simp (disch := omega) only [x_trust_Inside, hc, k, EVC, EVP, ↓reduceIte, EV, if_true, if_false, Nat.reduceAdd, Nat.reduceEqDiff, Int.reduceToNat, ne_eq, not_true, not_false_eq_true, Bool.true_eq_false, reduceCtorEq]
    · simp (disch := omega) only [x_trust_Inside, EVC, EVP, ↓reduceIte, EV, if_true, if_false, Nat.reduceAdd, Nat.reduceEqDiff, Int.reduceToNat, ne_eq, not_true, not_false_eq_true, Bool.true_eq_false, reduceCtorEq]
      simp [Out.goes]
  have k3 := kept_ok m.ext n_trust_Inside_2 [.f n_trust_Inside_1 [.s zone], setPVs (addH (addH [] A) B)] (extB A B zone) (by omega) (fun r hr => by
    rw [Inside2_ok r zone _ (hm.ext.2 r hr) hz]
    unfold extB
    have : decide (r.name ∈ addH (addH [] A) B) = (ment A r.name || ment B r.name) := by
      rw [Bool.eq_iff_iff]; simp [mem_addH]
    rw [this])
  simp (disch := omega) only [x_trust_Inside, k1, k2, outer, k3, EVC, EVM, EVP, ↓reduceIte, EV, if_true, if_false, Nat.reduceAdd, Nat.reduceEqDiff, Int.reduceToNat, ne_eq, not_true, not_false_eq_true, Bool.true_eq_false, reduceCtorEq]
theorem under30_ok (l : List Rec) (zone : List UInt8) (hl : l.length ≤ 1000000) (hw : ∀ r ∈ l, r.wf) (hz : strr zone) : S n_ddiref30_under 2 [recsPV l, .s zone] = some [recsPV (l.filter (inZ zone))] := by
  refine s_ddiref30_under (N := l.length + 1) rfl ?_
  unfold strr at hz
  have key : l0_ddiref30_under.ev S (l.length + 1) [recsPV l, .s zone] = some (.yld 0 [recsPV ([] ++ l.filter (inZ zone))]) := by
    refine loop_acc l (fun i (q : List Rec) => [recsPV q, .i .i64 (i : Int)]) (fun i q r => .yld 0 [recsPV (q ++ r.filter (inZ zone))]) (fun i q => q.length ≤ i) [] rfl (Nat.zero_le _) (by omega) (fun i q c r hd hi hc hI => ?_) (fun q hI => ?_)
    · left
      have hp := (hw c (List.mem_of_getElem? hc)).name
      unfold strr at hp
      rcases Bool.eq_false_or_eq_true (inZ zone c) with h1 | h1
      · refine ⟨q ++ [c], ?_, by simp; omega, by simp [h1]⟩
        unfold inZ at h1
        simp (disch := omega) only [x_ddiref30_under, hc, Under1_ok, h1, EVP, ↓reduceIte, EV, if_true, if_false, Nat.reduceAdd, Nat.reduceEqDiff, Int.reduceToNat, ne_eq, not_true, not_false_eq_true, Bool.true_eq_false, reduceCtorEq]
      · refine ⟨q, ?_, by omega, by simp [h1]⟩
        unfold inZ at h1
        simp (disch := omega) only [x_ddiref30_under, hc, Under1_ok, h1, EVP, ↓reduceIte, EV, if_true, if_false, Nat.reduceAdd, Nat.reduceEqDiff, Int.reduceToNat, ne_eq, not_true, not_false_eq_true, Bool.true_eq_false, reduceCtorEq]
    · simp (disch := omega) only [x_ddiref30_under, EVP, ↓reduceIte, EV, if_true, if_false, Nat.reduceAdd, Nat.reduceEqDiff, Int.reduceToNat, ne_eq, not_true, not_false_eq_true, Bool.true_eq_false, reduceCtorEq]
      simp [Out.goes]
  simp (disch := omega) only [x_ddiref30_under, key, EVP, ↓reduceIte, EV, if_true, if_false, Nat.reduceAdd, Nat.reduceEqDiff, Int.reduceToNat, ne_eq, not_true, not_false_eq_true, Bool.true_eq_false, reduceCtorEq]
theorem mentions30_ok (l : List Rec) (h : List UInt8) (hl : l.length ≤ 1000000) : S n_ddiref30_mentions 2 [recsPV l, .s h] = some [.b (ment l h)] := by
  refine s_ddiref30_mentions (N := l.length + 1) rfl ?_
  have key : l0_ddiref30_mentions.ev S (l.length + 1) [recsPV l, .s h] = some (if ment l h = true then .ret [.b true] else .yld 0 []) := by
    refine loop_list l (fun i => [.i .i64 (i : Int)]) (fun i r => if ment r h = true then .ret [.b true] else .yld 0 []) rfl (by omega) (fun i c r hd hi hc => ?_) ?_
    · have hcons : ment (c :: r) h = ((hostT c.typ && decide (c.data.host = h)) || ment r h) := by simp [ment]
      rw [hcons]
      unfold hostT
      by_cases t1 : c.typ = 2 <;> by_cases t2 : c.typ = 15 <;> by_cases t3 : c.typ = 33 <;> by_cases t4 : c.data.host = h <;> first
        | (left; simp (disch := omega) only [x_ddiref30_mentions, hc, t1, t2, t3, t4, EVP, ↓reduceIte, EV, if_true, if_false, Nat.reduceAdd, Nat.reduceEqDiff, Int.reduceToNat, ne_eq, not_true, not_false_eq_true, Bool.true_eq_false, reduceCtorEq]; simp [t1, t2, t3, t4]; done)
        | (right; simp (disch := omega) only [x_ddiref30_mentions, hc, t1, t2, t3, t4, EVP, ↓reduceIte, EV, if_true, if_false, Nat.reduceAdd, Nat.reduceEqDiff, Int.reduceToNat, ne_eq, not_true, not_false_eq_true, Bool.true_eq_false, reduceCtorEq]; simp [t1, t2, t3, t4, Out.goes]; done)
    · simp (disch := omega) only [x_ddiref30_mentions, EVP, ↓reduceIte, EV, if_true, if_false, Nat.reduceAdd, Nat.reduceEqDiff, Int.reduceToNat, ne_eq, not_true, not_false_eq_true, Bool.true_eq_false, reduceCtorEq]
      simp [ment, Out.goes]
  rcases Bool.eq_false_or_eq_true (ment l h) with h1 | h1 <;> simp (disch := omega) only [x_ddiref30_mentions, key, h1, EVP, ↓reduceIte, EV, if_true, if_false, Nat.reduceAdd, Nat.reduceEqDiff, Int.reduceToNat, ne_eq, not_true, not_false_eq_true, Bool.true_eq_false, reduceCtorEq]
theorem Inside30_ok (m : Msg) (zone : List UInt8) (hm : m.wf) (hz : strr zone) (h1 : m.ans.length ≤ 1000) (h2 : m.auth.length ≤ 1000) (h3 : m.ext.length ≤ 1000) : S n_ddiref30_Inside 2 [m.pv, .s zone] = some [(insideM m zone).pv] := by
  refine s_ddiref30_Inside (N := 2000) rfl ?_
  have k1 := under30_ok m.ans zone (by omega) hm.ans.2 hz
  have k2 := under30_ok m.auth zone (by omega) hm.auth.2 hz
  have k3 := under30_ok m.ext zone (by omega) hm.ext.2 hz
  have a1 : (m.ans.filter (inZ zone)).length ≤ 1000 := Nat.le_trans (List.length_filter_le _ _) h1
  have a2 : (m.auth.filter (inZ zone)).length ≤ 1000 := Nat.le_trans (List.length_filter_le _ _) h2
  have a3 : (m.ext.filter (inZ zone)).length ≤ 1000 := Nat.le_trans (List.length_filter_le _ _) h3
  have hx : m.ext.filter (extB (m.ans.filter (inZ zone)) (m.auth.filter (inZ zone)) zone) = (m.ext.filter (inZ zone)).filter fun r => (ment (m.ans.filter (inZ zone)) r.name || ment (m.auth.filter (inZ zone)) r.name) && adrT r.typ := by
    rw [List.filter_filter]
    congr 1
    funext r
    unfold extB
    cases inZ zone r <;> simp
  unfold insideM
  rw [hx]
  generalize m.ans.filter (inZ zone) = A at *
  generalize m.auth.filter (inZ zone) = B at *
  generalize m.ext.filter (inZ zone) = X at *
  have b1 := fun h => mentions30_ok A h (by omega)
  have b2 := fun h => mentions30_ok B h (by omega)
  have key : l0_ddiref30_Inside.ev S 2000 [m.pv, .s zone, recsPV A, recsPV B, recsPV X] = some (.yld 0 [recsPV ([] ++ X.filter fun r => (ment A r.name || ment B r.name) && adrT r.typ)]) := by
    refine loop_acc X (fun i (q : List Rec) => [.i .i64 (i : Int), recsPV q]) (fun i q r => .yld 0 [recsPV (q ++ r.filter fun r => (ment A r.name || ment B r.name) && adrT r.typ)]) (fun i q => q.length ≤ i) [] rfl (Nat.zero_le _) (by omega) (fun i q c r hd hi hc hI => ?_) (fun q hI => ?_)
    · left
      have hcase : (((ment A c.name || ment B c.name) && adrT c.typ) = true) ∨ (((ment A c.name || ment B c.name) && adrT c.typ) = false) := by cases ((ment A c.name || ment B c.name) && adrT c.typ) <;> simp
      rcases hcase with h | h
      · refine ⟨q ++ [c], ?_, by simp; omega, by simp only [List.filter_cons, h]; simp⟩
        unfold adrT at h
        by_cases t1 : c.typ = 1 <;> by_cases t2 : c.typ = 28 <;> rcases Bool.eq_false_or_eq_true (ment A c.name) with e1 | e1 <;> rcases Bool.eq_false_or_eq_true (ment B c.name) with e2 | e2 <;> first
          | (exfalso; simp [t1, t2, e1, e2] at h; done)
          | (simp (disch := omega) only [x_ddiref30_Inside, hc, b1, b2, t1, t2, e1, e2, EVP, ↓reduceIte, EV, if_true, if_false, Nat.reduceAdd, Nat.reduceEqDiff, Int.reduceToNat, ne_eq, not_true, not_false_eq_true, Bool.true_eq_false, reduceCtorEq]; done)
      · refine ⟨q, ?_, by omega, by simp only [List.filter_cons, h]; simp⟩
        unfold adrT at h
        by_cases t1 : c.typ = 1 <;> by_cases t2 : c.typ = 28 <;> rcases Bool.eq_false_or_eq_true (ment A c.name) with e1 | e1 <;> rcases Bool.eq_false_or_eq_true (ment B c.name) with e2 | e2 <;> first
          | (exfalso; simp [t1, t2, e1, e2] at h; done)
          | (simp (disch := omega) only [x_ddiref30_Inside, hc, b1, b2, t1, t2, e1, e2, EVP, ↓reduceIte, EV, if_true, if_false, Nat.reduceAdd, Nat.reduceEqDiff, Int.reduceToNat, ne_eq, not_true, not_false_eq_true, Bool.true_eq_false, reduceCtorEq]; done)
    · simp (disch := omega) only [x_ddiref30_Inside, EVP, ↓reduceIte, EV, if_true, if_false, Nat.reduceAdd, Nat.reduceEqDiff, Int.reduceToNat, ne_eq, not_true, not_false_eq_true, Bool.true_eq_false, reduceCtorEq]
      simp [Out.goes]
  simp (disch := omega) only [x_ddiref30_Inside, k1, k2, k3, key, EVM, EVP, ↓reduceIte, EV, if_true, if_false, Nat.reduceAdd, Nat.reduceEqDiff, Int.reduceToNat, ne_eq, not_true, not_false_eq_true, Bool.true_eq_false, reduceCtorEq]
end Go.X.G
/- The kind of a response. -/
namespace Go.X.G
open Go Go.X

def ixF (p : Rec → Bool) (k : Nat) : List Rec → Int
  | [] => -1
  | r :: rs => if p r = true then (k : Int) else ixF p (k + 1) rs
theorem ixF_any (p : Rec → Bool) : ∀ (l : List Rec) (k : Nat), (0 ≤ ixF p k l ↔ l.any p = true) ∧ ixF p k l ≤ k + l.length ∧ -1 ≤ ixF p k l
  | [], k => by simp [ixF]
  | r :: rs, k => by
    have ih := ixF_any p rs (k + 1)
    rcases Bool.eq_false_or_eq_true (p r) with h | h
    · simp [ixF, h]; omega
    · simp only [ixF, h, List.any_cons, Bool.false_or, List.length_cons]
      refine ⟨by simpa using ih.1, ?_, by simpa using ih.2.2⟩
      have := ih.2.1
      simp only [Bool.false_eq_true, if_false] at this ⊢
      omega
theorem IndexFuncR_ok (l : List Rec) (g : Nat) (caps : List PV) (p : Rec → Bool) (hl : l.length ≤ 1000000) (h : ∀ r ∈ l, S g 1 (r.pv :: caps) = some [.b (p r)]) : S n_slices_IndexFunc_api_Record_api_Record 2 [recsPV l, .f g caps] = some [.i .i64 (ixF p 0 l)] := by
  refine s_slices_IndexFunc_api_Record_api_Record (N := l.length + 1) rfl ?_
  have key : l0_slices_IndexFunc_api_Record_api_Record.ev S (l.length + 1) [recsPV l, .f g caps] = some (if ixF p 0 l = -1 then .yld 0 [] else .ret [.i .i64 (ixF p 0 l)]) := by
    refine loop_list l (fun i => [.i .i64 (i : Int)]) (fun i r => if ixF p i r = -1 then .yld 0 [] else .ret [.i .i64 (ixF p i r)]) rfl (by omega) (fun i c r hd hi hc => ?_) ?_
    · have hp := h c (List.mem_of_getElem? hc)
      rcases Bool.eq_false_or_eq_true (p c) with h1 | h1
      · rw [h1] at hp
        right
        have h2 : ¬ ((i : Int) = -1) := by omega
        simp (disch := omega) only [x_slices_IndexFunc_api_Record_api_Record, hc, hp, EVC, EVP, ↓reduceIte, EV, if_true, if_false, Nat.reduceAdd, Nat.reduceEqDiff, Int.reduceToNat, ne_eq, not_true, not_false_eq_true, Bool.true_eq_false, reduceCtorEq]
        simp [ixF, h1, h2, Out.goes]
      · rw [h1] at hp
        left
        simp (disch := omega) only [x_slices_IndexFunc_api_Record_api_Record, hc, hp, EVC, EVP, ↓reduceIte, EV, if_true, if_false, Nat.reduceAdd, Nat.reduceEqDiff, Int.reduceToNat, ne_eq, not_true, not_false_eq_true, Bool.true_eq_false, reduceCtorEq]
        simp [ixF, h1]
    · simp (disch := omega) only [x_slices_IndexFunc_api_Record_api_Record, EVC, EVP, ↓reduceIte, EV, if_true, if_false, Nat.reduceAdd, Nat.reduceEqDiff, Int.reduceToNat, ne_eq, not_true, not_false_eq_true, Bool.true_eq_false, reduceCtorEq]
      simp [ixF, Out.goes]
  by_cases h1 : ixF p 0 l = -1
  · rw [if_pos h1] at key
    simp (disch := omega) only [x_slices_IndexFunc_api_Record_api_Record, key, h1, EVC, EVP, ↓reduceIte, EV, if_true, if_false, Nat.reduceAdd, Nat.reduceEqDiff, Int.reduceToNat, ne_eq, not_true, not_false_eq_true, Bool.true_eq_false, reduceCtorEq]
  · rw [if_neg h1] at key
    simp (disch := omega) only [x_slices_IndexFunc_api_Record_api_Record, key, EVC, EVP, ↓reduceIte, EV, if_true, if_false, Nat.reduceAdd, Nat.reduceEqDiff, Int.reduceToNat, ne_eq, not_true, not_false_eq_true, Bool.true_eq_false, reduceCtorEq]
theorem ContainsFuncR_ok (l : List Rec) (g : Nat) (caps : List PV) (p : Rec → Bool) (hl : l.length ≤ 1000000) (h : ∀ r ∈ l, S g 1 (r.pv :: caps) = some [.b (p r)]) : S n_slices_ContainsFunc_api_Record_api_Record 2 [recsPV l, .f g caps] = some [.b (l.any p)] := by
  refine s_slices_ContainsFunc_api_Record_api_Record (N := 1) rfl ?_
  simp (disch := omega) only [x_slices_ContainsFunc_api_Record_api_Record, IndexFuncR_ok l g caps p hl h, EVC, EVP, ↓reduceIte, EV, if_true, if_false, Nat.reduceAdd, Nat.reduceEqDiff, Int.reduceToNat, ne_eq, not_true, not_false_eq_true, Bool.true_eq_false, reduceCtorEq]
  have := (ixF_any p l 0).1
  rcases Bool.eq_false_or_eq_true (l.any p) with h1 | h1
  · rw [h1] at this ⊢; simp [this.2 rfl]
  · rw [h1] at this ⊢
    have h2 : ¬ (0 ≤ ixF p 0 l) := fun h => by simpa using this.1 h
    simp [h2]
theorem has1_ok (r : Rec) (q : Ques) : S n_trust_has_1 1 [r.pv, q.pv] = some [.b (decide (r.name = q.name) && (decide (r.typ = q.typ) || decide (q.typ = 255)))] := by
  refine s_trust_has_1 (N := 1) rfl ?_
  by_cases h1 : r.name = q.name <;> by_cases h2 : r.typ = q.typ <;> by_cases h3 : q.typ = 255 <;> simp (disch := omega) only [x_trust_has_1, h1, h2, h3, EVM, EVC, EVP, ↓reduceIte, EV, if_true, if_false, Nat.reduceAdd, Nat.reduceEqDiff, Int.reduceToNat, ne_eq, not_true, not_false_eq_true, Bool.true_eq_false, reduceCtorEq] <;> simp [h1, h2, h3]
theorem hasP_ok (l : List Rec) (q : Ques) (hl : l.length ≤ 1000000) : S n_trust_has 2 [recsPV l, q.pv] = some [.b (hasL l q.name q.typ)] := by
  refine s_trust_has (N := 1) rfl ?_
  have h1 := ContainsFuncR_ok l n_trust_has_1 [q.pv] _ hl (fun r _ => has1_ok r q)
  unfold hasL
  simp (disch := omega) only [x_trust_has, h1, EVM, EVC, EVP, ↓reduceIte, EV, if_true, if_false, Nat.reduceAdd, Nat.reduceEqDiff, Int.reduceToNat, ne_eq, not_true, not_false_eq_true, Bool.true_eq_false, reduceCtorEq]
theorem has30_ok (l : List Rec) (n : List UInt8) (t : Int) (hl : l.length ≤ 1000000) : S n_ddiref30_has 3 [recsPV l, .s n, .i .i64 t] = some [.b (hasL l n t)] := by
  refine s_ddiref30_has (N := l.length + 1) rfl ?_
  have key : l0_ddiref30_has.ev S (l.length + 1) [recsPV l, .s n, .i .i64 t] = some (if hasL l n t = true then .ret [.b true] else .yld 0 []) := by
    refine loop_list l (fun i => [.i .i64 (i : Int)]) (fun i r => if hasL r n t = true then .ret [.b true] else .yld 0 []) rfl (by omega) (fun i c r hd hi hc => ?_) ?_
    · have hcons : hasL (c :: r) n t = ((decide (c.name = n) && (decide (c.typ = t) || decide (t = 255))) || hasL r n t) := by simp [hasL]
      rw [hcons]
      by_cases t1 : c.name = n <;> by_cases t2 : c.typ = t <;> by_cases t3 : t = 255 <;> first
        | (left; simp (disch := omega) only [x_ddiref30_has, hc, t1, t2, t3, EVP, ↓reduceIte, EV, if_true, if_false, Nat.reduceAdd, Nat.reduceEqDiff, Int.reduceToNat, ne_eq, not_true, not_false_eq_true, Bool.true_eq_false, reduceCtorEq]; simp [t1, t2, t3]; done)
        | (right; simp (disch := omega) only [x_ddiref30_has, hc, t1, t2, t3, EVP, ↓reduceIte, EV, if_true, if_false, Nat.reduceAdd, Nat.reduceEqDiff, Int.reduceToNat, ne_eq, not_true, not_false_eq_true, Bool.true_eq_false, reduceCtorEq]; simp [t1, t2, t3, Out.goes]; done)
    · simp (disch := omega) only [x_ddiref30_has, EVP, ↓reduceIte, EV, if_true, if_false, Nat.reduceAdd, Nat.reduceEqDiff, Int.reduceToNat, ne_eq, not_true, not_false_eq_true, Bool.true_eq_false, reduceCtorEq]
      simp [hasL, Out.goes]
  rcases Bool.eq_false_or_eq_true (hasL l n t) with h1 | h1 <;> simp (disch := omega) only [x_ddiref30_has, key, h1, EVP, ↓reduceIte, EV, if_true, if_false, Nat.reduceAdd, Nat.reduceEqDiff, Int.reduceToNat, ne_eq, not_true, not_false_eq_true, Bool.true_eq_false, reduceCtorEq]
theorem findR_len (l : List Rec) (n : List UInt8) (t : Int) : (findR l n t).length ≤ l.length := List.length_filter_le _ _
theorem folL_len (l : List Rec) (t : Int) : ∀ (k : Nat) (n : List UInt8), (folL l t k n).1.length ≤ k
  | 0, n => by simp [folL]
  | k + 1, n => by
    unfold folL
    split
    · simp
    · split
      · simp
      · simp; exact folL_len l t k _
theorem followP_ok (m : Msg) (hl : m.ans.length ≤ 1000000) : S n_trust_follow 1 [m.pv] = some [strsPV (folL m.ans m.q.typ 8 m.q.name).1, .s (folL m.ans m.q.typ 8 m.q.name).2] := by
  refine s_trust_follow (N := 100) rfl ?_
  have key : l0_trust_follow.ev S 100 [m.pv] = some (.yld 0 [strsPV ([] ++ (folL m.ans m.q.typ (8 - ([] : List (List UInt8)).length) m.q.name).1), .s (folL m.ans m.q.typ (8 - ([] : List (List UInt8)).length) m.q.name).2]) := by
    refine loop_rule (fun (a : List (List UInt8) × List UInt8) => [strsPV a.1, .s a.2]) (fun a => .yld 0 [strsPV (a.1 ++ (folL m.ans m.q.typ (8 - a.1.length) a.2).1), .s (folL m.ans m.q.typ (8 - a.1.length) a.2).2]) (fun a => a.1.length ≤ 8) (fun a => 8 - a.1.length) ([], m.q.name) rfl (by simp) (by simp) (fun a ha => ?_)
    obtain ⟨ns, n⟩ := a
    simp only at ha ⊢
    by_cases h8 : ns.length = 8
    · right
      have e : 8 - ns.length = 0 := by omega
      rw [e]
      simp (disch := omega) only [x_trust_follow, hasP_ok, FindP_ok, h8, EVM, EVC, EVP, ↓reduceIte, EV, if_true, if_false, Nat.reduceAdd, Nat.reduceEqDiff, Int.reduceToNat, ne_eq, not_true, not_false_eq_true, Bool.true_eq_false, reduceCtorEq]
      simp [folL, Out.goes]
    · obtain ⟨k, hk⟩ : ∃ k, 8 - ns.length = k + 1 := ⟨7 - ns.length, by omega⟩
      have hlt : ns.length < 8 := by omega
      rw [hk]
      rcases Bool.eq_false_or_eq_true (hasL m.ans n m.q.typ) with h1 | h1
      · right
        have e : folL m.ans m.q.typ (k + 1) n = ([], n) := by unfold folL; rw [if_pos h1]
        rw [e]
        simp (disch := omega) only [x_trust_follow, hasP_ok, h1, EVM, EVC, EVP, ↓reduceIte, EV, if_true, if_false, Nat.reduceAdd, Nat.reduceEqDiff, Int.reduceToNat, ne_eq, not_true, not_false_eq_true, Bool.true_eq_false, reduceCtorEq]
        simp [Out.goes]
      · cases hf : findR m.ans n 5 with
        | nil =>
          right
          have e : folL m.ans m.q.typ (k + 1) n = ([], n) := by unfold folL; rw [if_neg (by simp [h1]), hf]
          rw [e]
          simp (disch := first | omega | (simp; omega)) only [x_trust_follow, hasP_ok, FindP_ok, hf, h1, EVM, EVC, EVP, ↓reduceIte, EV, if_true, if_false, Nat.reduceAdd, Nat.reduceEqDiff, Int.reduceToNat, ne_eq, not_true, not_false_eq_true, Bool.true_eq_false, reduceCtorEq]
          simp [Out.goes]
        | cons r rs =>
          left
          have e : folL m.ans m.q.typ (k + 1) n = (n :: (folL m.ans m.q.typ k r.data.host).1, (folL m.ans m.q.typ k r.data.host).2) := by unfold folL; rw [if_neg (by simp [h1]), hf]; simp only; cases k <;> rfl
          have hne : ¬ (((rs.length + 1 : Nat) : Int) = 0) := by omega
          refine ⟨(ns ++ [n], r.data.host), ?_, by simp; omega, by simp; omega, ?_⟩
          · simp (disch := first | omega | (simp; omega)) only [x_trust_follow, hasP_ok, FindP_ok, hf, h1, EVM, EVC, EVP, ↓reduceIte, EV, if_true, if_false, Nat.reduceAdd, Nat.reduceEqDiff, Int.reduceToNat, ne_eq, not_true, not_false_eq_true, Bool.true_eq_false, reduceCtorEq]
          · have e2 : 8 - (ns ++ [n]).length = k := by simp; omega
            simp only [e2, e]
            simp
  simp only [List.nil_append, List.length_nil, Nat.sub_zero] at key
  simp (disch := omega) only [x_trust_follow, key, EVM, EVP, ↓reduceIte, EV, if_true, if_false, Nat.reduceAdd, Nat.reduceEqDiff, Int.reduceToNat, ne_eq, not_true, not_false_eq_true, Bool.true_eq_false, reduceCtorEq]
/-- whether following ends by itself -/
def folE (l : List Rec) (t : Int) : Nat → List UInt8 → Bool
  | 0, _ => false
  | k + 1, n => if hasL l n t = true then true else match findR l n 5 with
    | [] => true
    | r :: _ => folE l t k r.data.host
theorem follow30_ok (l : List Rec) (q : Ques) (hl : l.length ≤ 1000000) : S n_ddiref30_follow 2 [recsPV l, q.pv] = some [strsPV (folL l q.typ 8 q.name).1, .s (folL l q.typ 8 q.name).2] := by
  refine s_ddiref30_follow (N := 100) rfl ?_
  have key : l0_ddiref30_follow.ev S 100 [recsPV l, q.pv] = some (if folE l q.typ (8 - ([] : List (List UInt8)).length) q.name = true then .ret [strsPV ([] ++ (folL l q.typ (8 - ([] : List (List UInt8)).length) q.name).1), .s (folL l q.typ (8 - ([] : List (List UInt8)).length) q.name).2] else .yld 0 [strsPV ([] ++ (folL l q.typ (8 - ([] : List (List UInt8)).length) q.name).1), .s (folL l q.typ (8 - ([] : List (List UInt8)).length) q.name).2]) := by
    refine loop_rule (fun (a : List (List UInt8) × List UInt8) => [strsPV a.1, .s a.2, .i .i64 (a.1.length : Int)]) (fun a => if folE l q.typ (8 - a.1.length) a.2 = true then .ret [strsPV (a.1 ++ (folL l q.typ (8 - a.1.length) a.2).1), .s (folL l q.typ (8 - a.1.length) a.2).2] else .yld 0 [strsPV (a.1 ++ (folL l q.typ (8 - a.1.length) a.2).1), .s (folL l q.typ (8 - a.1.length) a.2).2]) (fun a => a.1.length ≤ 8) (fun a => 8 - a.1.length) ([], q.name) rfl (by simp) (by simp) (fun a ha => ?_)
    obtain ⟨ns, n⟩ := a
    simp only at ha ⊢
    by_cases h8 : ns.length = 8
    · right
      have e : 8 - ns.length = 0 := by omega
      rw [e]
      simp (disch := omega) only [x_ddiref30_follow, h8, EVM, EVC, EVP, ↓reduceIte, EV, if_true, if_false, Nat.reduceAdd, Nat.reduceEqDiff, Int.reduceToNat, ne_eq, not_true, not_false_eq_true, Bool.true_eq_false, reduceCtorEq]
      simp [folL, folE, Out.goes]
    · obtain ⟨k, hk⟩ : ∃ k, 8 - ns.length = k + 1 := ⟨7 - ns.length, by omega⟩
      have hlt : ns.length < 8 := by omega
      rw [hk]
      rcases Bool.eq_false_or_eq_true (hasL l n q.typ) with h1 | h1
      · right
        have e : folL l q.typ (k + 1) n = ([], n) := by unfold folL; rw [if_pos h1]
        have e2 : folE l q.typ (k + 1) n = true := by unfold folE; rw [if_pos h1]
        rw [e, e2]
        simp (disch := omega) only [x_ddiref30_follow, has30_ok, Find7_ok, h1, EVM, EVC, EVP, ↓reduceIte, EV, if_true, if_false, Nat.reduceAdd, Nat.reduceEqDiff, Int.reduceToNat, ne_eq, not_true, not_false_eq_true, Bool.true_eq_false, reduceCtorEq]
        simp [Out.goes]
      · cases hf : findR l n 5 with
        | nil =>
          right
          have e : folL l q.typ (k + 1) n = ([], n) := by unfold folL; rw [if_neg (by simp [h1]), hf]
          have e2 : folE l q.typ (k + 1) n = true := by unfold folE; rw [if_neg (by simp [h1]), hf]
          rw [e, e2]
          simp (disch := first | omega | (simp; omega)) only [x_ddiref30_follow, has30_ok, Find7_ok, hf, h1, EVM, EVC, EVP, ↓reduceIte, EV, if_true, if_false, Nat.reduceAdd, Nat.reduceEqDiff, Int.reduceToNat, ne_eq, not_true, not_false_eq_true, Bool.true_eq_false, reduceCtorEq]
          simp [Out.goes]
        | cons r rs =>
          left
          have e : folL l q.typ (k + 1) n = (n :: (folL l q.typ k r.data.host).1, (folL l q.typ k r.data.host).2) := by unfold folL; rw [if_neg (by simp [h1]), hf]; simp only; cases k <;> rfl
          have e3 : folE l q.typ (k + 1) n = folE l q.typ k r.data.host := by conv => lhs; unfold folE
                                                                              rw [if_neg (by simp [h1]), hf]
          have hne : ¬ (((rs.length + 1 : Nat) : Int) = 0) := by omega
          refine ⟨(ns ++ [n], r.data.host), ?_, by simp; omega, by simp; omega, ?_⟩
          · simp (disch := first | omega | (simp; omega)) only [x_ddiref30_follow, has30_ok, Find7_ok, hf, h1, EVM, EVC, EVP, ↓reduceIte, EV, if_true, if_false, Nat.reduceAdd, Nat.reduceEqDiff, Int.reduceToNat, ne_eq, not_true, not_false_eq_true, Bool.true_eq_false, reduceCtorEq]
            simp
          · have e2 : 8 - (ns ++ [n]).length = k := by simp; omega
            simp only [e2, e, e3]
            simp
  simp only [List.nil_append, List.length_nil, Nat.sub_zero] at key
  rcases Bool.eq_false_or_eq_true (folE l q.typ 8 q.name) with h1 | h1 <;> rw [h1] at key <;> simp (disch := omega) only [x_ddiref30_follow, key, EVM, EVP, ↓reduceIte, EV, if_true, if_false, Nat.reduceAdd, Nat.reduceEqDiff, Int.reduceToNat, ne_eq, not_true, not_false_eq_true, Bool.true_eq_false, reduceCtorEq]
end Go.X.G
/- What a response says, by the program and by the reference. -/
namespace Go.X.G
open Go Go.X

def zrec : Rec := ⟨[], 0, 0, ⟨false, 0, 0, [], [], [], 0, 0, 0, 0, 0, 0, 0⟩⟩
def optR : Option Rec → List PV
  | some r => [r.pv, .b true]
  | none => [zrec.pv, .b false]
def zst (i : Nat) : List PV := .i .i64 (i : Int) :: zrec.cells
theorem zst_eq (i : Nat) : zst i = [.i .i64 (i : Int), .s [], .i .i64 0, .i .i64 0, .b false, .i .u64 0, .i .u64 0, .s [], .s [], .s [], .i .i64 0, .i .i64 0, .i .i64 0, .i .i64 0, .i .i64 0, .i .i64 0, .i .u64 0] := rfl
theorem zcells_eq : zrec.cells = [.s [], .i .i64 0, .i .i64 0, .b false, .i .u64 0, .i .u64 0, .s [], .s [], .s [], .i .i64 0, .i .i64 0, .i .i64 0, .i .i64 0, .i .i64 0, .i .i64 0, .i .u64 0] := rfl
def outR (id : Nat) : Option Rec → Out
  | some r => .ret [r.pv, .b true]
  | none => .yld id zrec.cells
theorem outR_some (id : Nat) (r : Rec) : outR id (some r) = .ret [r.pv, .b true] := rfl
theorem outR_none (id : Nat) : outR id none = .yld id zrec.cells := rfl
theorem first_ok (m : Msg) (t : Int) (zone : List UInt8) (hm : m.wf) (hz : strr zone) (hl : m.auth.length ≤ 1000000) : S n_trust_first 3 [m.pv, .i .i64 t, .s zone] = some (optR (firstP m t zone)) := by
  refine s_trust_first (N := m.auth.length + 1) rfl ?_
  have gq := hm.q.name
  unfold strr at hz gq
  have key : l0_trust_first.ev S (m.auth.length + 1) [m.pv, .i .i64 t, .s zone] = some (outR 0 (m.auth.find? (firB m t zone))) := by
    refine loop_list m.auth zst (fun i r => outR 0 (r.find? (firB m t zone))) rfl (by omega) (fun i c r hd hi hc => ?_) ?_
    · have hp := (hm.auth.2 c (List.mem_of_getElem? hc)).name
      unfold strr at hp
      have hb : firB m t zone c = (decide (c.typ = t) && under m.q.name c.name && (decide (zone = []) || (decide (c.name ≠ zone) && under c.name zone))) := rfl
      rcases Bool.eq_false_or_eq_true (firB m t zone c) with h | h
      · right
        have e : (c :: r).find? (firB m t zone) = some c := by simp [h]
        rw [e, outR_some]
        rw [hb] at h
        rw [zst_eq]
        by_cases t1 : c.typ = t
        · rcases Bool.eq_false_or_eq_true (under m.q.name c.name) with t2 | t2
          · by_cases t3 : zone = []
            · simp (disch := omega) only [x_trust_first, hc, UnderP_ok, t1, t2, t3, EVM, EVC, EVP, ↓reduceIte, EV, if_true, if_false, Nat.reduceAdd, Nat.reduceEqDiff, Int.reduceToNat, ne_eq, not_true, not_false_eq_true, Bool.true_eq_false, reduceCtorEq]
              simp [Out.goes]
            · by_cases t4 : c.name = zone
              · exfalso; simp [t3, t4] at h
              · rcases Bool.eq_false_or_eq_true (under c.name zone) with t5 | t5
                · simp (disch := omega) only [x_trust_first, hc, UnderP_ok, t1, t2, t3, t4, t5, EVM, EVC, EVP, ↓reduceIte, EV, if_true, if_false, Nat.reduceAdd, Nat.reduceEqDiff, Int.reduceToNat, ne_eq, not_true, not_false_eq_true, Bool.true_eq_false, reduceCtorEq]
                  simp [Out.goes]
                · exfalso; simp [t3, t4, t5] at h
          · exfalso; simp [t2] at h
        · exfalso; simp [t1] at h
      · left
        have e : (c :: r).find? (firB m t zone) = r.find? (firB m t zone) := by simp [h]
        rw [e]
        refine ⟨?_, rfl⟩
        rw [hb] at h
        rw [zst_eq, zst_eq]
        by_cases t1 : c.typ = t
        · rcases Bool.eq_false_or_eq_true (under m.q.name c.name) with t2 | t2
          · by_cases t3 : zone = []
            · exfalso; simp [t1, t2, t3] at h
            · by_cases t4 : c.name = zone
              · simp (disch := omega) only [x_trust_first, hc, UnderP_ok, t1, t2, t3, t4, EVM, EVC, EVP, ↓reduceIte, EV, if_true, if_false, Nat.reduceAdd, Nat.reduceEqDiff, Int.reduceToNat, ne_eq, not_true, not_false_eq_true, Bool.true_eq_false, reduceCtorEq]
                simp
              · rcases Bool.eq_false_or_eq_true (under c.name zone) with t5 | t5
                · exfalso; simp [t1, t2, t4, t5] at h
                · simp (disch := omega) only [x_trust_first, hc, UnderP_ok, t1, t2, t3, t4, t5, EVM, EVC, EVP, ↓reduceIte, EV, if_true, if_false, Nat.reduceAdd, Nat.reduceEqDiff, Int.reduceToNat, ne_eq, not_true, not_false_eq_true, Bool.true_eq_false, reduceCtorEq]
          · simp (disch := omega) only [x_trust_first, hc, UnderP_ok, t1, t2, EVM, EVC, EVP, ↓reduceIte, EV, if_true, if_false, Nat.reduceAdd, Nat.reduceEqDiff, Int.reduceToNat, ne_eq, not_true, not_false_eq_true, Bool.true_eq_false, reduceCtorEq]
        · simp (disch := omega) only [x_trust_first, hc, UnderP_ok, t1, EVM, EVC, EVP, ↓reduceIte, EV, if_true, if_false, Nat.reduceAdd, Nat.reduceEqDiff, Int.reduceToNat, ne_eq, not_true, not_false_eq_true, Bool.true_eq_false, reduceCtorEq]
    · rw [zst_eq]
      simp (disch := omega) only [x_trust_first, EVM, EVC, EVP, ↓reduceIte, EV, if_true, if_false, Nat.reduceAdd, Nat.reduceEqDiff, Int.reduceToNat, ne_eq, not_true, not_false_eq_true, Bool.true_eq_false, reduceCtorEq]
      simp [outR_none, zcells_eq, Out.goes]
  unfold firstP
  cases h : m.auth.find? (firB m t zone) with
  | none =>
    rw [h, outR_none, zcells_eq] at key
    simp (disch := omega) only [x_trust_first, key, EVM, EVC, EVP, ↓reduceIte, EV, if_true, if_false, Nat.reduceAdd, Nat.reduceEqDiff, Int.reduceToNat, ne_eq, not_true, not_false_eq_true, Bool.true_eq_false, reduceCtorEq]
    rfl
  | some r =>
    rw [h, outR_some] at key
    simp (disch := omega) only [x_trust_first, key, EVM, EVC, EVP, ↓reduceIte, EV, if_true, if_false, Nat.reduceAdd, Nat.reduceEqDiff, Int.reduceToNat, ne_eq, not_true, not_false_eq_true, Bool.true_eq_false, reduceCtorEq]
    rfl
theorem refersP_ok (m : Msg) (zone : List UInt8) (hm : m.wf) (hz : strr zone) (hl : m.auth.length ≤ 1000000) : S n_trust_refers 2 [m.pv, .s zone] = some (match refN m zone with | some r => [.s r.name, .b true] | none => [.s [], .b false]) := by
  refine s_trust_refers (N := 1) rfl ?_
  unfold refN
  by_cases h : zone = []
  · simp (disch := omega) only [x_trust_refers, h, EVM, EVC, EVP, ↓reduceIte, EV, if_true, if_false, Nat.reduceAdd, Nat.reduceEqDiff, Int.reduceToNat, ne_eq, not_true, not_false_eq_true, Bool.true_eq_false, reduceCtorEq]
  · have k := first_ok m 2 zone hm hz hl
    rw [if_neg h]
    cases h2 : firstP m 2 zone with
    | none =>
      rw [h2] at k
      unfold optR at k
      simp (disch := omega) only [x_trust_refers, h, k, EVM, EVC, EVP, ↓reduceIte, EV, if_true, if_false, Nat.reduceAdd, Nat.reduceEqDiff, Int.reduceToNat, ne_eq, not_true, not_false_eq_true, Bool.true_eq_false, reduceCtorEq]
      rfl
    | some r =>
      rw [h2] at k
      unfold optR at k
      simp (disch := omega) only [x_trust_refers, h, k, EVM, EVC, EVP, ↓reduceIte, EV, if_true, if_false, Nat.reduceAdd, Nat.reduceEqDiff, Int.reduceToNat, ne_eq, not_true, not_false_eq_true, Bool.true_eq_false, reduceCtorEq]
theorem denying_ok (m : Msg) (hm : m.wf) (hl : m.auth.length ≤ 1000000) : S n_ddiref30_denying 1 [m.pv] = some (optR (firstP m 6 [])) := by
  refine s_ddiref30_denying (N := m.auth.length + 1) rfl ?_
  have gq := hm.q.name
  unfold strr at gq
  have key : l0_ddiref30_denying.ev S (m.auth.length + 1) [m.pv] = some (outR 0 (m.auth.find? (firB m 6 []))) := by
    refine loop_list m.auth zst (fun i r => outR 0 (r.find? (firB m 6 []))) rfl (by omega) (fun i c r hd hi hc => ?_) ?_
    · have hp := (hm.auth.2 c (List.mem_of_getElem? hc)).name
      unfold strr at hp
      have hb : firB m 6 [] c = (decide (c.typ = 6) && under m.q.name c.name) := by simp [firB]
      rcases Bool.eq_false_or_eq_true (firB m 6 [] c) with h | h
      · right
        have e : (c :: r).find? (firB m 6 []) = some c := by simp [h]
        rw [e, outR_some]
        rw [hb] at h
        simp only [Bool.and_eq_true, decide_eq_true_eq] at h
        rw [zst_eq]
        simp (disch := omega) only [x_ddiref30_denying, hc, Under1_ok, h.1, h.2, EVM, EVC, EVP, ↓reduceIte, EV, if_true, if_false, Nat.reduceAdd, Nat.reduceEqDiff, Int.reduceToNat, ne_eq, not_true, not_false_eq_true, Bool.true_eq_false, reduceCtorEq]
        simp [Out.goes]
      · left
        have e : (c :: r).find? (firB m 6 []) = r.find? (firB m 6 []) := by simp [h]
        rw [e]
        refine ⟨?_, rfl⟩
        rw [hb] at h
        rw [zst_eq, zst_eq]
        by_cases t1 : c.typ = 6
        · have t2 : under m.q.name c.name = false := by simpa [t1] using h
          simp (disch := omega) only [x_ddiref30_denying, hc, Under1_ok, t1, t2, EVM, EVC, EVP, ↓reduceIte, EV, if_true, if_false, Nat.reduceAdd, Nat.reduceEqDiff, Int.reduceToNat, ne_eq, not_true, not_false_eq_true, Bool.true_eq_false, reduceCtorEq]
        · simp (disch := omega) only [x_ddiref30_denying, hc, Under1_ok, t1, EVM, EVC, EVP, ↓reduceIte, EV, if_true, if_false, Nat.reduceAdd, Nat.reduceEqDiff, Int.reduceToNat, ne_eq, not_true, not_false_eq_true, Bool.true_eq_false, reduceCtorEq]
    · rw [zst_eq]
      simp (disch := omega) only [x_ddiref30_denying, EVM, EVC, EVP, ↓reduceIte, EV, if_true, if_false, Nat.reduceAdd, Nat.reduceEqDiff, Int.reduceToNat, ne_eq, not_true, not_false_eq_true, Bool.true_eq_false, reduceCtorEq]
      simp [outR_none, zcells_eq, Out.goes]
  unfold firstP
  cases h : m.auth.find? (firB m 6 []) with
  | none =>
    rw [h, outR_none, zcells_eq] at key
    simp (disch := omega) only [x_ddiref30_denying, key, EVM, EVC, EVP, ↓reduceIte, EV, if_true, if_false, Nat.reduceAdd, Nat.reduceEqDiff, Int.reduceToNat, ne_eq, not_true, not_false_eq_true, Bool.true_eq_false, reduceCtorEq]
    rfl
  | some r =>
    rw [h, outR_some] at key
    simp (disch := omega) only [x_ddiref30_denying, key, EVM, EVC, EVP, ↓reduceIte, EV, if_true, if_false, Nat.reduceAdd, Nat.reduceEqDiff, Int.reduceToNat, ne_eq, not_true, not_false_eq_true, Bool.true_eq_false, reduceCtorEq]
    rfl
theorem refN_eq (m : Msg) (zone : List UInt8) : refN m zone = m.auth.find? fun r => decide (r.typ = 2) && decide (r.name ≠ zone) && under r.name zone && under m.q.name r.name := by
  unfold refN firstP
  by_cases h : zone = []
  · rw [if_pos h]
    subst h
    symm
    rw [List.find?_eq_none]
    intro r _
    simp [under_nil]
  · rw [if_neg h]
    congr 1
    funext r
    unfold firB
    simp only [h, decide_false, Bool.false_or]
    cases decide (r.typ = 2) <;> cases decide (r.name ≠ zone) <;> cases under r.name zone <;> cases under m.q.name r.name <;> rfl
theorem referring_ok (m : Msg) (zone : List UInt8) (hm : m.wf) (hz : strr zone) (hl : m.auth.length ≤ 1000000) : S n_ddiref30_referring 2 [m.pv, .s zone] = some (optR (refN m zone)) := by
  refine s_ddiref30_referring (N := m.auth.length + 1) rfl ?_
  have gq := hm.q.name
  unfold strr at hz gq
  rw [refN_eq]
  have key : l0_ddiref30_referring.ev S (m.auth.length + 1) [m.pv, .s zone] = some (outR 0 (m.auth.find? fun r => decide (r.typ = 2) && decide (r.name ≠ zone) && under r.name zone && under m.q.name r.name)) := by
    refine loop_list m.auth zst (fun i r => outR 0 (r.find? fun r => decide (r.typ = 2) && decide (r.name ≠ zone) && under r.name zone && under m.q.name r.name)) rfl (by omega) (fun i c r hd hi hc => ?_) ?_
    · have hp := (hm.auth.2 c (List.mem_of_getElem? hc)).name
      unfold strr at hp
      rw [List.find?_cons]
      by_cases t1 : c.typ = 2
      · by_cases t4 : c.name = zone
        · left
          refine ⟨?_, by simp [t4]⟩
          rw [zst_eq, zst_eq]
          simp (disch := omega) only [x_ddiref30_referring, hc, Under1_ok, t1, t4, EVM, EVC, EVP, ↓reduceIte, EV, if_true, if_false, Nat.reduceAdd, Nat.reduceEqDiff, Int.reduceToNat, ne_eq, not_true, not_false_eq_true, Bool.true_eq_false, reduceCtorEq]
        · rcases Bool.eq_false_or_eq_true (under c.name zone) with t5 | t5
          · rcases Bool.eq_false_or_eq_true (under m.q.name c.name) with t2 | t2
            · right
              rw [zst_eq]
              simp (disch := omega) only [x_ddiref30_referring, hc, Under1_ok, t1, t2, t4, t5, EVM, EVC, EVP, ↓reduceIte, EV, if_true, if_false, Nat.reduceAdd, Nat.reduceEqDiff, Int.reduceToNat, ne_eq, not_true, not_false_eq_true, Bool.true_eq_false, reduceCtorEq]
              simp [t4, outR_some, Out.goes]
            · left
              refine ⟨?_, by simp [t2]⟩
              rw [zst_eq, zst_eq]
              simp (disch := omega) only [x_ddiref30_referring, hc, Under1_ok, t1, t2, t4, t5, EVM, EVC, EVP, ↓reduceIte, EV, if_true, if_false, Nat.reduceAdd, Nat.reduceEqDiff, Int.reduceToNat, ne_eq, not_true, not_false_eq_true, Bool.true_eq_false, reduceCtorEq]
          · left
            refine ⟨?_, by simp [t5]⟩
            rw [zst_eq, zst_eq]
            simp (disch := omega) only [x_ddiref30_referring, hc, Under1_ok, t1, t4, t5, EVM, EVC, EVP, ↓reduceIte, EV, if_true, if_false, Nat.reduceAdd, Nat.reduceEqDiff, Int.reduceToNat, ne_eq, not_true, not_false_eq_true, Bool.true_eq_false, reduceCtorEq]
      · left
        refine ⟨?_, by simp [t1]⟩
        rw [zst_eq, zst_eq]
        simp (disch := omega) only [x_ddiref30_referring, hc, Under1_ok, t1, EVM, EVC, EVP, ↓reduceIte, EV, if_true, if_false, Nat.reduceAdd, Nat.reduceEqDiff, Int.reduceToNat, ne_eq, not_true, not_false_eq_true, Bool.true_eq_false, reduceCtorEq]
    · rw [zst_eq]
      simp (disch := omega) only [x_ddiref30_referring, EVM, EVC, EVP, ↓reduceIte, EV, if_true, if_false, Nat.reduceAdd, Nat.reduceEqDiff, Int.reduceToNat, ne_eq, not_true, not_false_eq_true, Bool.true_eq_false, reduceCtorEq]
      simp [outR_none, zcells_eq, Out.goes]
  cases h : m.auth.find? fun r => decide (r.typ = 2) && decide (r.name ≠ zone) && under r.name zone && under m.q.name r.name with
  | none =>
    rw [h, outR_none, zcells_eq] at key
    simp (disch := omega) only [x_ddiref30_referring, key, EVM, EVC, EVP, ↓reduceIte, EV, if_true, if_false, Nat.reduceAdd, Nat.reduceEqDiff, Int.reduceToNat, ne_eq, not_true, not_false_eq_true, Bool.true_eq_false, reduceCtorEq]
    rfl
  | some r =>
    rw [h, outR_some] at key
    simp (disch := omega) only [x_ddiref30_referring, key, EVM, EVC, EVP, ↓reduceIte, EV, if_true, if_false, Nat.reduceAdd, Nat.reduceEqDiff, Int.reduceToNat, ne_eq, not_true, not_false_eq_true, Bool.true_eq_false, reduceCtorEq]
    rfl
end Go.X.G
/- Kinds, children and negative answers. -/
namespace Go.X.G
open Go Go.X

theorem kind_bad {m : Msg} {zone : List UInt8} (h : (m.resp && decide (m.op = 0) && (decide (m.code = 0) || decide (m.code = 3)) && !m.tc) = false) : kindM m zone = 0 := by
  unfold kindM; rw [if_neg (by simp [h])]
theorem kindP_ok (m : Msg) (zone : List UInt8) (hm : m.wf) (hz : strr zone) (h1 : m.ans.length ≤ 1000) (h2 : m.auth.length ≤ 1000) : S n_trust_kind 2 [m.pv, .s zone] = some [.i .i64 (kindM m zone)] := by
  refine s_trust_kind (N := 1) rfl ?_
  rcases Bool.eq_false_or_eq_true (m.resp && decide (m.op = 0) && (decide (m.code = 0) || decide (m.code = 3)) && !m.tc) with hg | hg
  · have k1 := followP_ok m (by omega)
    have k2 := first_ok m 6 [] hm (by unfold strr; simp) (by omega)
    have k3 := refersP_ok m zone hm hz (by omega)
    have k4 := hasP_ok m.ans ⟨(folL m.ans m.q.typ 8 m.q.name).2, m.q.typ⟩ (by omega)
    unfold kindM
    rw [if_pos hg]
    have g3 : strr (folL m.ans m.q.typ 8 m.q.name).2 := by
      have go : ∀ (k : Nat) (n : List UInt8), strr n → strr (folL m.ans m.q.typ k n).2 := by
        intro k
        induction k with
        | zero => intro n hn; exact hn
        | succ k ih =>
          intro n hn
          unfold folL
          split
          · exact hn
          · split
            · exact hn
            · rename_i r rs hf
              have : r ∈ findR m.ans n 5 := by rw [hf]; simp
              exact ih _ (hm.ans.2 r (List.mem_filter.1 this).1).data.host
      exact go 8 _ hm.q.name
    simp only at k4 ⊢
    generalize hp : folL m.ans m.q.typ 8 m.q.name = p at *
    obtain ⟨ns, last⟩ := p
    simp only at k1 k4 g3 ⊢
    simp only [Bool.and_eq_true, Bool.or_eq_true, decide_eq_true_eq, Bool.not_eq_true'] at hg
    obtain ⟨⟨⟨e1, e2⟩, e3⟩, e4⟩ := hg
    have hns : (ns = [] ∧ ns.length = 0) ∨ (ns ≠ [] ∧ ¬ ns.length = 0 ∧ (0 : Int) < (ns.length : Int)) := by
      cases ns with
      | nil => exact .inl ⟨rfl, rfl⟩
      | cons a b => exact .inr ⟨by simp, by simp, by simp⟩
    cases q2 : firstP m 6 [] with
    | none =>
      rw [q2] at k2
      unfold optR at k2
      cases q3 : refN m zone with
      | none =>
        rw [q3] at k3
        simp only at k3
        rcases Bool.eq_false_or_eq_true (hasL m.ans last m.q.typ) with e5 | e5 <;> rcases hns with ⟨n1, n2⟩ | ⟨n1, n2, n3⟩ <;> rcases e3 with e3 | e3 <;> simp (disch := omega) only [x_trust_kind, k1, k2, k3, k4, e1, e2, e3, e4, e5, n2, EVM, EVC, EVP, ↓reduceIte, EV, if_true, if_false, Nat.reduceAdd, Nat.reduceEqDiff, Int.reduceToNat, ne_eq, not_true, not_false_eq_true, Bool.true_eq_false, reduceCtorEq] <;> simp [n1]
      | some r3 =>
        rw [q3] at k3
        simp only at k3
        rcases Bool.eq_false_or_eq_true (hasL m.ans last m.q.typ) with e5 | e5 <;> rcases hns with ⟨n1, n2⟩ | ⟨n1, n2, n3⟩ <;> rcases e3 with e3 | e3 <;> simp (disch := omega) only [x_trust_kind, k1, k2, k3, k4, e1, e2, e3, e4, e5, n2, EVM, EVC, EVP, ↓reduceIte, EV, if_true, if_false, Nat.reduceAdd, Nat.reduceEqDiff, Int.reduceToNat, ne_eq, not_true, not_false_eq_true, Bool.true_eq_false, reduceCtorEq] <;> simp [n1]
    | some r2 =>
      rw [q2] at k2
      unfold optR at k2
      cases q3 : refN m zone with
      | none =>
        rw [q3] at k3
        simp only at k3
        rcases Bool.eq_false_or_eq_true (hasL m.ans last m.q.typ) with e5 | e5 <;> rcases hns with ⟨n1, n2⟩ | ⟨n1, n2, n3⟩ <;> rcases e3 with e3 | e3 <;> simp (disch := omega) only [x_trust_kind, k1, k2, k3, k4, e1, e2, e3, e4, e5, n2, EVM, EVC, EVP, ↓reduceIte, EV, if_true, if_false, Nat.reduceAdd, Nat.reduceEqDiff, Int.reduceToNat, ne_eq, not_true, not_false_eq_true, Bool.true_eq_false, reduceCtorEq] <;> simp [n1]
      | some r3 =>
        rw [q3] at k3
        simp only at k3
        rcases Bool.eq_false_or_eq_true (hasL m.ans last m.q.typ) with e5 | e5 <;> rcases hns with ⟨n1, n2⟩ | ⟨n1, n2, n3⟩ <;> rcases e3 with e3 | e3 <;> simp (disch := omega) only [x_trust_kind, k1, k2, k3, k4, e1, e2, e3, e4, e5, n2, EVM, EVC, EVP, ↓reduceIte, EV, if_true, if_false, Nat.reduceAdd, Nat.reduceEqDiff, Int.reduceToNat, ne_eq, not_true, not_false_eq_true, Bool.true_eq_false, reduceCtorEq] <;> simp [n1]
  · rw [kind_bad hg]
    rcases Bool.eq_false_or_eq_true m.resp with e1 | e1
    · by_cases e2 : m.op = 0
      · by_cases e3 : m.code = 0
        · have e4 : m.tc = true := by simpa [e1, e2, e3] using hg
          simp (disch := omega) only [x_trust_kind, e1, e2, e3, e4, EVM, EVC, EVP, ↓reduceIte, EV, if_true, if_false, Nat.reduceAdd, Nat.reduceEqDiff, Int.reduceToNat, ne_eq, not_true, not_false_eq_true, Bool.true_eq_false, reduceCtorEq]
        · by_cases e5 : m.code = 3
          · have e4 : m.tc = true := by simpa [e1, e2, e5] using hg
            simp (disch := omega) only [x_trust_kind, e1, e2, e5, e4, EVM, EVC, EVP, ↓reduceIte, EV, if_true, if_false, Nat.reduceAdd, Nat.reduceEqDiff, Int.reduceToNat, ne_eq, not_true, not_false_eq_true, Bool.true_eq_false, reduceCtorEq]
          · simp (disch := omega) only [x_trust_kind, e1, e2, e3, e5, EVM, EVC, EVP, ↓reduceIte, EV, if_true, if_false, Nat.reduceAdd, Nat.reduceEqDiff, Int.reduceToNat, ne_eq, not_true, not_false_eq_true, Bool.true_eq_false, reduceCtorEq]
      · simp (disch := omega) only [x_trust_kind, e1, e2, EVM, EVC, EVP, ↓reduceIte, EV, if_true, if_false, Nat.reduceAdd, Nat.reduceEqDiff, Int.reduceToNat, ne_eq, not_true, not_false_eq_true, Bool.true_eq_false, reduceCtorEq]
    · simp (disch := omega) only [x_trust_kind, e1, EVM, EVC, EVP, ↓reduceIte, EV, if_true, if_false, Nat.reduceAdd, Nat.reduceEqDiff, Int.reduceToNat, ne_eq, not_true, not_false_eq_true, Bool.true_eq_false, reduceCtorEq]
theorem kind30_ok (m : Msg) (zone : List UInt8) (hm : m.wf) (hz : strr zone) (h1 : m.ans.length ≤ 1000) (h2 : m.auth.length ≤ 1000) : S n_ddiref30_kind 2 [m.pv, .s zone] = some [.i .i64 (kindM m zone)] := by
  refine s_ddiref30_kind (N := 1) rfl ?_
  rcases Bool.eq_false_or_eq_true (m.resp && decide (m.op = 0) && (decide (m.code = 0) || decide (m.code = 3)) && !m.tc) with hg | hg
  · have k1 := follow30_ok m.ans m.q (by omega)
    have k2 := denying_ok m hm (by omega)
    have k3 := referring_ok m zone hm hz (by omega)
    have k4 := has30_ok m.ans (folL m.ans m.q.typ 8 m.q.name).2 m.q.typ (by omega)
    unfold kindM
    rw [if_pos hg]
    simp only at k4 ⊢
    generalize hp : folL m.ans m.q.typ 8 m.q.name = p at *
    obtain ⟨ns, last⟩ := p
    simp only at k1 k4 ⊢
    simp only [Bool.and_eq_true, Bool.or_eq_true, decide_eq_true_eq, Bool.not_eq_true'] at hg
    obtain ⟨⟨⟨e1, e2⟩, e3⟩, e4⟩ := hg
    have hns : (ns = [] ∧ ns.length = 0) ∨ (ns ≠ [] ∧ ¬ ns.length = 0 ∧ (0 : Int) < (ns.length : Int)) := by
      cases ns with
      | nil => exact .inl ⟨rfl, rfl⟩
      | cons a b => exact .inr ⟨by simp, by simp, by simp⟩
    cases q2 : firstP m 6 [] with
    | none =>
      rw [q2] at k2
      unfold optR at k2
      cases q3 : refN m zone with
      | none =>
        rw [q3] at k3
        unfold optR at k3
        rcases Bool.eq_false_or_eq_true (hasL m.ans last m.q.typ) with e5 | e5 <;> rcases hns with ⟨n1, n2⟩ | ⟨n1, n2, n3⟩ <;> rcases e3 with e3 | e3 <;> simp (disch := omega) only [x_ddiref30_kind, k1, k2, k3, k4, e1, e2, e3, e4, e5, n2, EVM, EVC, EVP, ↓reduceIte, EV, if_true, if_false, Nat.reduceAdd, Nat.reduceEqDiff, Int.reduceToNat, ne_eq, not_true, not_false_eq_true, Bool.true_eq_false, reduceCtorEq] <;> simp [n1]
      | some r3 =>
        rw [q3] at k3
        unfold optR at k3
        rcases Bool.eq_false_or_eq_true (hasL m.ans last m.q.typ) with e5 | e5 <;> rcases hns with ⟨n1, n2⟩ | ⟨n1, n2, n3⟩ <;> rcases e3 with e3 | e3 <;> simp (disch := omega) only [x_ddiref30_kind, k1, k2, k3, k4, e1, e2, e3, e4, e5, n2, EVM, EVC, EVP, ↓reduceIte, EV, if_true, if_false, Nat.reduceAdd, Nat.reduceEqDiff, Int.reduceToNat, ne_eq, not_true, not_false_eq_true, Bool.true_eq_false, reduceCtorEq] <;> simp [n1]
    | some r2 =>
      rw [q2] at k2
      unfold optR at k2
      rcases Bool.eq_false_or_eq_true (hasL m.ans last m.q.typ) with e5 | e5 <;> rcases hns with ⟨n1, n2⟩ | ⟨n1, n2, n3⟩ <;> rcases e3 with e3 | e3 <;> simp (disch := omega) only [x_ddiref30_kind, k1, k2, k4, e1, e2, e3, e4, e5, n2, EVM, EVC, EVP, ↓reduceIte, EV, if_true, if_false, Nat.reduceAdd, Nat.reduceEqDiff, Int.reduceToNat, ne_eq, not_true, not_false_eq_true, Bool.true_eq_false, reduceCtorEq] <;> simp [n1]
  · rw [kind_bad hg]
    rcases Bool.eq_false_or_eq_true m.resp with e1 | e1
    · by_cases e2 : m.op = 0
      · by_cases e3 : m.code = 0
        · have e4 : m.tc = true := by simpa [e1, e2, e3] using hg
          simp (disch := omega) only [x_ddiref30_kind, e1, e2, e3, e4, EVM, EVC, EVP, ↓reduceIte, EV, if_true, if_false, Nat.reduceAdd, Nat.reduceEqDiff, Int.reduceToNat, ne_eq, not_true, not_false_eq_true, Bool.true_eq_false, reduceCtorEq]
        · by_cases e5 : m.code = 3
          · have e4 : m.tc = true := by simpa [e1, e2, e5] using hg
            simp (disch := omega) only [x_ddiref30_kind, e1, e2, e5, e4, EVM, EVC, EVP, ↓reduceIte, EV, if_true, if_false, Nat.reduceAdd, Nat.reduceEqDiff, Int.reduceToNat, ne_eq, not_true, not_false_eq_true, Bool.true_eq_false, reduceCtorEq]
          · simp (disch := omega) only [x_ddiref30_kind, e1, e2, e3, e5, EVM, EVC, EVP, ↓reduceIte, EV, if_true, if_false, Nat.reduceAdd, Nat.reduceEqDiff, Int.reduceToNat, ne_eq, not_true, not_false_eq_true, Bool.true_eq_false, reduceCtorEq]
      · simp (disch := omega) only [x_ddiref30_kind, e1, e2, EVM, EVC, EVP, ↓reduceIte, EV, if_true, if_false, Nat.reduceAdd, Nat.reduceEqDiff, Int.reduceToNat, ne_eq, not_true, not_false_eq_true, Bool.true_eq_false, reduceCtorEq]
    · simp (disch := omega) only [x_ddiref30_kind, e1, EVM, EVC, EVP, ↓reduceIte, EV, if_true, if_false, Nat.reduceAdd, Nat.reduceEqDiff, Int.reduceToNat, ne_eq, not_true, not_false_eq_true, Bool.true_eq_false, reduceCtorEq]
/-- what is asked of a message: its sections are short, its cells are in range -/
structure MOk (m : Msg) : Prop where
  wf : m.wf
  ans : m.ans.length ≤ 1000
  auth : m.auth.length ≤ 1000
  ext : m.ext.length ≤ 1000
theorem recsr_filter {l : List Rec} (p : Rec → Bool) (h : recsr l) : recsr (l.filter p) := ⟨Nat.le_trans (List.length_filter_le _ _) h.1, fun r hr => h.2 r (List.mem_filter.1 hr).1⟩
theorem MOk.inside {m : Msg} (h : MOk m) (zone : List UInt8) : MOk (insideM m zone) :=
  ⟨⟨h.wf.id, h.wf.op, h.wf.code, h.wf.size, h.wf.q, recsr_filter _ h.wf.ans, recsr_filter _ h.wf.auth, recsr_filter _ h.wf.ext⟩,
   Nat.le_trans (List.length_filter_le _ _) h.ans, Nat.le_trans (List.length_filter_le _ _) h.auth, Nat.le_trans (List.length_filter_le _ _) h.ext⟩
theorem ClassifyP_ok (m : Msg) (zone : List UInt8) (hm : MOk m) (hz : strr zone) : S n_trust_Classify 2 [m.pv, .s zone] = some [.i .i64 (kindM (insideM m zone) zone)] := by
  refine s_trust_Classify (N := 1) rfl ?_
  have k1 := Inside_ok m zone hm.wf hz hm.ans hm.auth hm.ext
  have hi := hm.inside zone
  have k2 := kindP_ok (insideM m zone) zone hi.wf hz hi.ans hi.auth
  simp (disch := omega) only [x_trust_Classify, k1, k2, EVM, EVC, EVP, ↓reduceIte, EV, if_true, if_false, Nat.reduceAdd, Nat.reduceEqDiff, Int.reduceToNat, ne_eq, not_true, not_false_eq_true, Bool.true_eq_false, reduceCtorEq]
theorem Classify30_ok (m : Msg) (zone : List UInt8) (hm : MOk m) (hz : strr zone) : S n_ddiref30_Classify 2 [m.pv, .s zone] = some [.i .i64 (kindM (insideM m zone) zone)] := by
  refine s_ddiref30_Classify (N := 1) rfl ?_
  have k1 := Inside30_ok m zone hm.wf hz hm.ans hm.auth hm.ext
  have hi := hm.inside zone
  have k2 := kind30_ok (insideM m zone) zone hi.wf hz hi.ans hi.auth
  simp (disch := omega) only [x_ddiref30_Classify, k1, k2, EVM, EVC, EVP, ↓reduceIte, EV, if_true, if_false, Nat.reduceAdd, Nat.reduceEqDiff, Int.reduceToNat, ne_eq, not_true, not_false_eq_true, Bool.true_eq_false, reduceCtorEq]
theorem NegativeP_ok (m : Msg) (zone : List UInt8) (hm : MOk m) (hz : strr zone) : S n_trust_Negative 2 [m.pv, .s zone] = some [.i .i64 (negN (insideM m zone) zone).1, .b (negN (insideM m zone) zone).2] := by
  refine s_trust_Negative (N := 1) rfl ?_
  have k1 := Inside_ok m zone hm.wf hz hm.ans hm.auth hm.ext
  have hi := hm.inside zone
  generalize insideM m zone = x at *
  have k2 := kindP_ok x zone hi.wf hz hi.ans hi.auth
  have k3 := first_ok x 6 [] hi.wf (by unfold strr; simp) (by have := hi.auth; omega)
  unfold negN
  generalize kindM x zone = k at *
  by_cases e : k = 4 ∨ k = 5
  · rw [if_pos e]
    cases q : firstP x 6 [] with
    | none =>
      rw [q] at k3
      unfold optR at k3
      rcases e with e | e <;> simp (disch := omega) only [x_trust_Negative, k1, k2, k3, e, EVM, EVC, EVP, ↓reduceIte, EV, if_true, if_false, Nat.reduceAdd, Nat.reduceEqDiff, Int.reduceToNat, ne_eq, not_true, not_false_eq_true, Bool.true_eq_false, reduceCtorEq] <;> rfl
    | some r =>
      rw [q] at k3
      unfold optR at k3
      by_cases h : r.data.e < r.ttl <;> rcases e with e | e <;> simp (disch := omega) only [x_trust_Negative, k1, k2, k3, e, h, EVM, EVC, EVP, ↓reduceIte, EV, if_true, if_false, Nat.reduceAdd, Nat.reduceEqDiff, Int.reduceToNat, ne_eq, not_true, not_false_eq_true, Bool.true_eq_false, reduceCtorEq]
  · rw [if_neg e]
    have e1 : ¬ k = 4 := fun h => e (.inl h)
    have e2 : ¬ k = 5 := fun h => e (.inr h)
    simp (disch := omega) only [x_trust_Negative, k1, k2, e1, e2, EVM, EVC, EVP, ↓reduceIte, EV, if_true, if_false, Nat.reduceAdd, Nat.reduceEqDiff, Int.reduceToNat, ne_eq, not_true, not_false_eq_true, Bool.true_eq_false, reduceCtorEq]
theorem Negative30_ok (m : Msg) (zone : List UInt8) (hm : MOk m) (hz : strr zone) : S n_ddiref30_Negative 2 [m.pv, .s zone] = some [.i .i64 (negN (insideM m zone) zone).1, .b (negN (insideM m zone) zone).2] := by
  refine s_ddiref30_Negative (N := 1) rfl ?_
  have k1 := Inside30_ok m zone hm.wf hz hm.ans hm.auth hm.ext
  have hi := hm.inside zone
  generalize insideM m zone = x at *
  have k2 := kind30_ok x zone hi.wf hz hi.ans hi.auth
  have k3 := denying_ok x hi.wf (by have := hi.auth; omega)
  unfold negN
  generalize kindM x zone = k at *
  by_cases e : k = 4 ∨ k = 5
  · rw [if_pos e]
    cases q : firstP x 6 [] with
    | none =>
      rw [q] at k3
      unfold optR at k3
      rcases e with e | e <;> simp (disch := omega) only [x_ddiref30_Negative, k1, k2, k3, e, EVM, EVC, EVP, ↓reduceIte, EV, if_true, if_false, Nat.reduceAdd, Nat.reduceEqDiff, Int.reduceToNat, ne_eq, not_true, not_false_eq_true, Bool.true_eq_false, reduceCtorEq] <;> rfl
    | some r =>
      rw [q] at k3
      unfold optR at k3
      by_cases h : r.data.e < r.ttl <;> rcases e with e | e <;> simp (disch := omega) only [x_ddiref30_Negative, k1, k2, k3, e, h, EVM, EVC, EVP, ↓reduceIte, EV, if_true, if_false, Nat.reduceAdd, Nat.reduceEqDiff, Int.reduceToNat, ne_eq, not_true, not_false_eq_true, Bool.true_eq_false, reduceCtorEq]
  · rw [if_neg e]
    have e1 : ¬ k = 4 := fun h => e (.inl h)
    have e2 : ¬ k = 5 := fun h => e (.inr h)
    simp (disch := omega) only [x_ddiref30_Negative, k1, k2, e1, e2, EVM, EVC, EVP, ↓reduceIte, EV, if_true, if_false, Nat.reduceAdd, Nat.reduceEqDiff, Int.reduceToNat, ne_eq, not_true, not_false_eq_true, Bool.true_eq_false, reduceCtorEq]
/-! ### Child -/
theorem IndexS_ok (l : List (List UInt8)) (x : List UInt8) (hl : l.length ≤ 1000000) : ∃ k : Int, (0 ≤ k ↔ x ∈ l) ∧ S n_slices_Index_string_string 2 [strsPV l, .s x] = some [.i .i64 k] := by
  have go : ∀ (i : Nat) (l : List (List UInt8)), ∃ k : Int, k = (match l.findIdx? (· = x) with | some j => ((i + j : Nat) : Int) | none => -1) ∧ (0 ≤ k ↔ x ∈ l) := by
    intro i l
    refine ⟨_, rfl, ?_⟩
    cases h : l.findIdx? (· = x) with
    | none =>
      rw [List.findIdx?_eq_none_iff] at h
      simp only
      constructor
      · intro h2; omega
      · intro h2; have := h x h2; simp at this
    | some j =>
      simp only
      constructor
      · intro _
        rw [List.findIdx?_eq_some_iff_getElem] at h
        obtain ⟨h1, h2, _⟩ := h
        simp at h2
        rw [← h2]; exact List.getElem_mem _
      · intro _; omega
  obtain ⟨k, hk, hk2⟩ := go 0 l
  refine ⟨k, hk2, ?_⟩
  refine s_slices_Index_string_string (N := l.length + 1) rfl ?_
  have key : l0_slices_Index_string_string.ev S (l.length + 1) [strsPV l, .s x] = some (match l.findIdx? (· = x) with | some j => .ret [.i .i64 ((0 + j : Nat) : Int)] | none => .yld 0 []) := by
    refine loop_list l (fun i => [.i .i64 (i : Int)]) (fun i r => match r.findIdx? (· = x) with | some j => .ret [.i .i64 ((i + j : Nat) : Int)] | none => .yld 0 []) rfl (by omega) (fun i c r hd hi hc => ?_) ?_
    · by_cases h : x = c
      · right
        simp (disch := omega) only [x_slices_Index_string_string, hc, h, EVM, EVC, EVP, ↓reduceIte, EV, if_true, if_false, Nat.reduceAdd, Nat.reduceEqDiff, Int.reduceToNat, ne_eq, not_true, not_false_eq_true, Bool.true_eq_false, reduceCtorEq]
        simp [List.findIdx?_cons, Out.goes]
      · left
        have h' : ¬ c = x := fun e => h e.symm
        simp (disch := omega) only [x_slices_Index_string_string, hc, h, EVM, EVC, EVP, ↓reduceIte, EV, if_true, if_false, Nat.reduceAdd, Nat.reduceEqDiff, Int.reduceToNat, ne_eq, not_true, not_false_eq_true, Bool.true_eq_false, reduceCtorEq]
        refine ⟨trivial, ?_⟩
        simp only [List.findIdx?_cons, h', decide_false, Bool.false_eq_true, if_false]
        cases r.findIdx? (· = x) with
        | none => rfl
        | some j => simp; omega
    · simp (disch := omega) only [x_slices_Index_string_string, EVM, EVC, EVP, ↓reduceIte, EV, if_true, if_false, Nat.reduceAdd, Nat.reduceEqDiff, Int.reduceToNat, ne_eq, not_true, not_false_eq_true, Bool.true_eq_false, reduceCtorEq]
      simp [Out.goes]
  rw [hk]
  cases h : l.findIdx? (· = x) with
  | none =>
    rw [h] at key
    simp (disch := omega) only [x_slices_Index_string_string, key, EVM, EVC, EVP, ↓reduceIte, EV, if_true, if_false, Nat.reduceAdd, Nat.reduceEqDiff, Int.reduceToNat, ne_eq, not_true, not_false_eq_true, Bool.true_eq_false, reduceCtorEq]
  | some j =>
    rw [h] at key
    simp (disch := omega) only [x_slices_Index_string_string, key, EVM, EVC, EVP, ↓reduceIte, EV, if_true, if_false, Nat.reduceAdd, Nat.reduceEqDiff, Int.reduceToNat, ne_eq, not_true, not_false_eq_true, Bool.true_eq_false, reduceCtorEq]
theorem ContainsS_ok (l : List (List UInt8)) (x : List UInt8) (hl : l.length ≤ 1000000) : S n_slices_Contains_string_string 2 [strsPV l, .s x] = some [.b (decide (x ∈ l))] := by
  refine s_slices_Contains_string_string (N := 1) rfl ?_
  obtain ⟨k, h1, h2⟩ := IndexS_ok l x hl
  simp (disch := omega) only [x_slices_Contains_string_string, h2, EVM, EVC, EVP, ↓reduceIte, EV, if_true, if_false, Nat.reduceAdd, Nat.reduceEqDiff, Int.reduceToNat, ne_eq, not_true, not_false_eq_true, Bool.true_eq_false, reduceCtorEq]
  simp [h1]
theorem dd_len : ∀ (l : List Rec) (out : List (List UInt8)), (dd out l).length ≤ out.length + l.length
  | [], out => by simp [dd]
  | r :: rs, out => by
    unfold dd
    split
    · have := dd_len rs out; simp; omega
    · have := dd_len rs (out ++ [r.data.host]); simp at this ⊢; omega
theorem hosts30_ok (l : List Rec) (owner : List UInt8) (hl : l.length ≤ 1000) : S n_ddiref30_hosts 2 [recsPV l, .s owner] = some [strsPV (dd [] (findR l owner 2))] := by
  refine s_ddiref30_hosts (N := 2000) rfl ?_
  have inner : ∀ (i : Nat) (c : Rec) (out : List (List UInt8)), l[i]? = some c → out.length ≤ 1000 → l1_ddiref30_hosts.ev S 2000 [recsPV l, .s owner, strsPV out, .i .i64 (i : Int)] = some (.yld 2 [.b (!(decide (c.typ = 2) && decide (c.name = owner)) || out.any fun h => decide (h = c.data.host))]) := by
    intro i c out hc ho
    refine loop_acc out (fun j (g : Bool) => [.b g, .i .i64 (j : Int)]) (fun j g r => .yld 2 [.b (g || r.any fun h => decide (h = c.data.host))]) (fun _ _ => True) (!(decide (c.typ = 2) && decide (c.name = owner))) ?_ trivial (by omega) (fun j g h r hd hj hh _ => ?_) (fun g _ => ?_)
    · by_cases t1 : c.typ = 2 <;> by_cases t2 : c.name = owner <;> simp (disch := omega) only [hc, t1, t2, EVM, EVC, EVP, ↓reduceIte, EV, if_true, if_false, Nat.reduceAdd, Nat.reduceEqDiff, Int.reduceToNat, ne_eq, not_true, not_false_eq_true, Bool.true_eq_false, reduceCtorEq] <;> simp [t2]
    · left
      refine ⟨g || decide (h = c.data.host), ?_, trivial, by simp [Bool.or_assoc]⟩
      cases g <;> by_cases e : h = c.data.host <;> simp (disch := omega) only [x_ddiref30_hosts, hc, hh, e, EVM, EVC, EVP, ↓reduceIte, EV, if_true, if_false, Nat.reduceAdd, Nat.reduceEqDiff, Int.reduceToNat, ne_eq, not_true, not_false_eq_true, Bool.true_eq_false, reduceCtorEq] <;> simp
    · simp (disch := omega) only [x_ddiref30_hosts, EVM, EVC, EVP, ↓reduceIte, EV, if_true, if_false, Nat.reduceAdd, Nat.reduceEqDiff, Int.reduceToNat, ne_eq, not_true, not_false_eq_true, Bool.true_eq_false, reduceCtorEq]
      simp [Out.goes]
  have key : l0_ddiref30_hosts.ev S 2000 [recsPV l, .s owner] = some (.yld 0 [strsPV (dd [] (findR l owner 2))]) := by
    refine loop_acc l (fun i (g : List (List UInt8)) => [strsPV g, .i .i64 (i : Int)]) (fun i g r => .yld 0 [strsPV (dd g (findR r owner 2))]) (fun i g => g.length ≤ i) [] rfl (Nat.zero_le _) (by omega) (fun i g c r hd hi hc hI => ?_) (fun g _ => ?_)
    · left
      have k := inner i c g hc (by omega)
      by_cases t : isK owner 2 c = true
      · have hf : findR (c :: r) owner 2 = c :: findR r owner 2 := by simp [findR, t]
        simp [isK] at t
        by_cases hin : c.data.host ∈ g
        · refine ⟨g, ?_, by omega, by rw [hf, dd, if_pos hin]⟩
          have e : (!(decide (c.typ = 2) && decide (c.name = owner)) || g.any fun h => decide (h = c.data.host)) = true := by
            simp [t]; exact hin
          rw [e] at k
          simp (disch := omega) only [x_ddiref30_hosts, hc, k, EVM, EVC, EVP, ↓reduceIte, EV, if_true, if_false, Nat.reduceAdd, Nat.reduceEqDiff, Int.reduceToNat, ne_eq, not_true, not_false_eq_true, Bool.true_eq_false, reduceCtorEq]
        · refine ⟨g ++ [c.data.host], ?_, by simp; omega, by rw [hf, dd, if_neg hin]⟩
          have e : (!(decide (c.typ = 2) && decide (c.name = owner)) || g.any fun h => decide (h = c.data.host)) = false := by
            simp [t]; intro x hx e; exact hin (e ▸ hx)
          rw [e] at k
          simp (disch := omega) only [x_ddiref30_hosts, hc, k, EVM, EVC, EVP, ↓reduceIte, EV, if_true, if_false, Nat.reduceAdd, Nat.reduceEqDiff, Int.reduceToNat, ne_eq, not_true, not_false_eq_true, Bool.true_eq_false, reduceCtorEq]
      · have hf : findR (c :: r) owner 2 = findR r owner 2 := by simp [findR, t]
        refine ⟨g, ?_, by omega, by rw [hf]⟩
        have e : (!(decide (c.typ = 2) && decide (c.name = owner)) || g.any fun h => decide (h = c.data.host)) = true := by
          simp [isK] at t
          by_cases t1 : c.typ = 2 <;> by_cases t2 : c.name = owner <;> simp [t1, t2] at t ⊢
        rw [e] at k
        simp (disch := omega) only [x_ddiref30_hosts, hc, k, EVM, EVC, EVP, ↓reduceIte, EV, if_true, if_false, Nat.reduceAdd, Nat.reduceEqDiff, Int.reduceToNat, ne_eq, not_true, not_false_eq_true, Bool.true_eq_false, reduceCtorEq]
    · simp (disch := omega) only [x_ddiref30_hosts, EVM, EVC, EVP, ↓reduceIte, EV, if_true, if_false, Nat.reduceAdd, Nat.reduceEqDiff, Int.reduceToNat, ne_eq, not_true, not_false_eq_true, Bool.true_eq_false, reduceCtorEq]
      simp [Out.goes, findR, dd]
  simp (disch := omega) only [x_ddiref30_hosts, key, EVM, EVC, EVP, ↓reduceIte, EV, if_true, if_false, Nat.reduceAdd, Nat.reduceEqDiff, Int.reduceToNat, ne_eq, not_true, not_false_eq_true, Bool.true_eq_false, reduceCtorEq]
/-- what a response refers to, as cells -/
def childPV (c : List UInt8 × List (List UInt8) × Bool) : List PV := [.s c.1, strsPV c.2.1, .b c.2.2]
/-- where it refers, there is a record that does -/
theorem kind3 {m : Msg} {zone : List UInt8} (h : kindM m zone = 3) : ∃ r, refN m zone = some r := by
  cases hr : refN m zone with
  | some r => exact ⟨r, rfl⟩
  | none =>
    exfalso
    unfold kindM at h
    simp only [hr, Option.isSome_none, Bool.false_eq_true, false_and, if_false] at h
    split at h
    · split at h
      · cases h
      · split at h
        · cases h
        · split at h
          · split at h <;> cases h
          · cases h
    · cases h
theorem ChildP_ok (m : Msg) (zone : List UInt8) (hm : MOk m) (hz : strr zone) : S n_trust_Child 2 [m.pv, .s zone] = some (childPV (childN (insideM m zone) zone)) := by
  refine s_trust_Child (N := 2000) rfl ?_
  have k1 := Inside_ok m zone hm.wf hz hm.ans hm.auth hm.ext
  have hi := hm.inside zone
  generalize insideM m zone = x at *
  have k2 := kindP_ok x zone hi.wf hz hi.ans hi.auth
  have k3 := refersP_ok x zone hi.wf hz (by have := hi.auth; omega)
  have ha := hi.auth
  unfold childN
  by_cases e : kindM x zone = 3
  · rw [if_pos e]
    obtain ⟨r, hr⟩ := kind3 e
    rw [hr] at k3
    simp only [hr] at k3 ⊢
    have hfl := findR_len x.auth r.name 2
    have key : l0_trust_Child.ev S 2000 [m.pv, .s zone, x.pv, .i .i64 3, .s r.name, .b true, recsPV (findR x.auth r.name 2)] = some (.yld 0 [strsPV (dd [] (findR x.auth r.name 2))]) := by
      generalize findR x.auth r.name 2 = F at *
      refine loop_acc F (fun i (g : List (List UInt8)) => [strsPV g, .i .i64 (i : Int)]) (fun i g r => .yld 0 [strsPV (dd g r)]) (fun i g => g.length ≤ i) [] rfl (Nat.zero_le _) (by omega) (fun i g c r hd hi hc hI => ?_) (fun g _ => ?_)
      · left
        by_cases hin : c.data.host ∈ g
        · refine ⟨g, ?_, by omega, by rw [dd, if_pos hin]⟩
          simp (disch := omega) only [x_trust_Child, hc, ContainsS_ok, hin, EVM, EVC, EVP, ↓reduceIte, EV, if_true, if_false, Nat.reduceAdd, Nat.reduceEqDiff, Int.reduceToNat, ne_eq, not_true, not_false_eq_true, Bool.true_eq_false, reduceCtorEq]
        · refine ⟨g ++ [c.data.host], ?_, by simp; omega, by rw [dd, if_neg hin]⟩
          simp (disch := omega) only [x_trust_Child, hc, ContainsS_ok, hin, EVM, EVC, EVP, ↓reduceIte, EV, if_true, if_false, Nat.reduceAdd, Nat.reduceEqDiff, Int.reduceToNat, ne_eq, not_true, not_false_eq_true, Bool.true_eq_false, reduceCtorEq]
      · simp (disch := omega) only [x_trust_Child, EVM, EVC, EVP, ↓reduceIte, EV, if_true, if_false, Nat.reduceAdd, Nat.reduceEqDiff, Int.reduceToNat, ne_eq, not_true, not_false_eq_true, Bool.true_eq_false, reduceCtorEq]
        simp [Out.goes, dd]
    rw [e] at k2
    simp (disch := omega) only [x_trust_Child, k1, k2, k3, FindP_ok, key, EVM, EVC, EVP, ↓reduceIte, EV, if_true, if_false, Nat.reduceAdd, Nat.reduceEqDiff, Int.reduceToNat, ne_eq, not_true, not_false_eq_true, Bool.true_eq_false, reduceCtorEq]
    rfl
  · rw [if_neg e]
    simp (disch := omega) only [x_trust_Child, k1, k2, e, EVM, EVC, EVP, ↓reduceIte, EV, if_true, if_false, Nat.reduceAdd, Nat.reduceEqDiff, Int.reduceToNat, ne_eq, not_true, not_false_eq_true, Bool.true_eq_false, reduceCtorEq]
    rfl
theorem Child30_ok (m : Msg) (zone : List UInt8) (hm : MOk m) (hz : strr zone) : S n_ddiref30_Child 2 [m.pv, .s zone] = some (childPV (childN (insideM m zone) zone)) := by
  refine s_ddiref30_Child (N := 2000) rfl ?_
  have k1 := Inside30_ok m zone hm.wf hz hm.ans hm.auth hm.ext
  have hi := hm.inside zone
  generalize insideM m zone = x at *
  have k2 := kind30_ok x zone hi.wf hz hi.ans hi.auth
  have k3 := referring_ok x zone hi.wf hz (by have := hi.auth; omega)
  have ha := hi.auth
  unfold childN
  by_cases e : kindM x zone = 3
  · rw [if_pos e]
    obtain ⟨r, hr⟩ := kind3 e
    rw [hr] at k3
    unfold optR at k3
    simp only [hr]
    have k4 := hosts30_ok x.auth r.name ha
    rw [e] at k2
    simp (disch := omega) only [x_ddiref30_Child, k1, k2, k3, k4, EVM, EVC, EVP, ↓reduceIte, EV, if_true, if_false, Nat.reduceAdd, Nat.reduceEqDiff, Int.reduceToNat, ne_eq, not_true, not_false_eq_true, Bool.true_eq_false, reduceCtorEq]
    rfl
  · rw [if_neg e]
    simp (disch := omega) only [x_ddiref30_Child, k1, k2, e, EVM, EVC, EVP, ↓reduceIte, EV, if_true, if_false, Nat.reduceAdd, Nat.reduceEqDiff, Int.reduceToNat, ne_eq, not_true, not_false_eq_true, Bool.true_eq_false, reduceCtorEq]
    rfl
end Go.X.G
/- The laws on trust. -/
namespace Go.X.G
open Go Go.X

theorem records30_self (a : List Rec) (ha : a.length ≤ 1000000) : S n_ddilaw30_records 2 [recsPV a, recsPV a] = some [.b true] := by
  refine s_ddilaw30_records (N := a.length + 1) rfl ?_
  have key : l0_ddilaw30_records.ev S (a.length + 1) [recsPV a, recsPV a] = some (.yld 0 []) := by
    refine loop_list a (fun i => [.i .i64 (i : Int)]) (fun i r => .yld 0 []) rfl (by omega) (fun i c r hd hi hc => ?_) ?_
    · left
      simp (disch := omega) only [x_ddilaw30_records, hc, EVM, EVP, ↓reduceIte, EV, if_true, if_false, Nat.reduceAdd, Nat.reduceEqDiff, Int.reduceToNat, ne_eq, not_true, not_false_eq_true, Bool.true_eq_false, reduceCtorEq]
      simp
    · simp (disch := omega) only [x_ddilaw30_records, EVM, EVP, ↓reduceIte, EV, if_true, if_false, Nat.reduceAdd, Nat.reduceEqDiff, Int.reduceToNat, ne_eq, not_true, not_false_eq_true, Bool.true_eq_false, reduceCtorEq]
      simp [Out.goes]
  simp (disch := omega) only [x_ddilaw30_records, key, EVM, EVP, ↓reduceIte, EV, if_true, if_false, Nat.reduceAdd, Nat.reduceEqDiff, Int.reduceToNat, ne_eq, not_true, not_false_eq_true, Bool.true_eq_false, reduceCtorEq]
theorem same30_self (x : Msg) (hx : MOk x) : S n_ddilaw30_same 2 [x.pv, x.pv] = some [.b true] := by
  refine s_ddilaw30_same (N := 1) rfl ?_
  have a1 := records30_self x.ans (by have := hx.ans; omega)
  have a2 := records30_self x.auth (by have := hx.auth; omega)
  have a3 := records30_self x.ext (by have := hx.ext; omega)
  simp (disch := omega) only [x_ddilaw30_same, a1, a2, a3, eqs_b, neqs_b, EVM, EVC, EVP, ↓reduceIte, EV, if_true, if_false, Nat.reduceAdd, Nat.reduceEqDiff, Int.reduceToNat, ne_eq, not_true, not_false_eq_true, Bool.true_eq_false, reduceCtorEq]
  simp
def short30B (r : Rec) : Bool := decide (r.name.length ≤ 300) && decide (r.data.host.length ≤ 300) && decide (r.data.mail.length ≤ 300) && decide (r.data.text.length ≤ 300)
def short30 (l : List Rec) : Bool := decide (l.length ≤ 40) && l.all short30B
theorem short30_ok (l : List Rec) : S n_ddilaw30_short 1 [recsPV l] = some [.b (short30 l)] := by
  refine s_ddilaw30_short (N := l.length + 1) rfl ?_
  unfold short30
  by_cases hl : l.length ≤ 40
  · have key : l0_ddilaw30_short.ev S (l.length + 1) [recsPV l] = some (if l.all short30B = true then .yld 0 [] else .ret [.b false]) := by
      refine loop_list l (fun i => [.i .i64 (i : Int)]) (fun i q => if q.all short30B = true then .yld 0 [] else .ret [.b false]) rfl (by omega) (fun i c r hd hi hc => ?_) ?_
      · by_cases h1 : c.name.length ≤ 300
        · by_cases h2 : c.data.host.length ≤ 300
          · by_cases h3 : c.data.mail.length ≤ 300
            · by_cases h4 : c.data.text.length ≤ 300
              · left
                simp (disch := omega) only [x_ddilaw30_short, hc, EVP, ↓reduceIte, EV, if_true, if_false, Nat.reduceAdd, Nat.reduceEqDiff, Int.reduceToNat, ne_eq, not_true, not_false_eq_true, Bool.true_eq_false, reduceCtorEq]
                simp [h1, h2, h3, h4, short30B]
              · right
                simp (disch := omega) only [x_ddilaw30_short, hc, EVP, ↓reduceIte, EV, if_true, if_false, Nat.reduceAdd, Nat.reduceEqDiff, Int.reduceToNat, ne_eq, not_true, not_false_eq_true, Bool.true_eq_false, reduceCtorEq]
                simp [h4, short30B, Out.goes]
            · right
              simp (disch := omega) only [x_ddilaw30_short, hc, EVP, ↓reduceIte, EV, if_true, if_false, Nat.reduceAdd, Nat.reduceEqDiff, Int.reduceToNat, ne_eq, not_true, not_false_eq_true, Bool.true_eq_false, reduceCtorEq]
              simp [h3, short30B, Out.goes]
          · right
            simp (disch := omega) only [x_ddilaw30_short, hc, EVP, ↓reduceIte, EV, if_true, if_false, Nat.reduceAdd, Nat.reduceEqDiff, Int.reduceToNat, ne_eq, not_true, not_false_eq_true, Bool.true_eq_false, reduceCtorEq]
            simp [h2, short30B, Out.goes]
        · right
          simp (disch := omega) only [x_ddilaw30_short, hc, EVP, ↓reduceIte, EV, if_true, if_false, Nat.reduceAdd, Nat.reduceEqDiff, Int.reduceToNat, ne_eq, not_true, not_false_eq_true, Bool.true_eq_false, reduceCtorEq]
          simp [h1, short30B, Out.goes]
      · simp (disch := omega) only [x_ddilaw30_short, EVP, ↓reduceIte, EV, if_true, if_false, Nat.reduceAdd, Nat.reduceEqDiff, Int.reduceToNat, ne_eq, not_true, not_false_eq_true, Bool.true_eq_false, reduceCtorEq]
        simp [Out.goes]
    rcases Bool.eq_false_or_eq_true (l.all short30B) with h | h <;> rw [h] at key ⊢ <;> simp (disch := omega) only [x_ddilaw30_short, key, EVP, ↓reduceIte, EV, if_true, if_false, Nat.reduceAdd, Nat.reduceEqDiff, Int.reduceToNat, ne_eq, not_true, not_false_eq_true, Bool.true_eq_false, reduceCtorEq] <;> simp [hl]
  · simp (disch := omega) only [x_ddilaw30_short, EVP, ↓reduceIte, EV, if_true, if_false, Nat.reduceAdd, Nat.reduceEqDiff, Int.reduceToNat, ne_eq, not_true, not_false_eq_true, Bool.true_eq_false, reduceCtorEq]
    simp [hl]
def small30 (m : Msg) (zone : List UInt8) : Bool := decide (zone.length ≤ 300) && decide (m.q.name.length ≤ 300) && short30 m.ans && short30 m.auth && short30 m.ext
theorem small30_ok (m : Msg) (zone : List UInt8) : S n_ddilaw30_small 2 [m.pv, .s zone] = some [.b (small30 m zone)] := by
  refine s_ddilaw30_small (N := 1) rfl ?_
  unfold small30
  by_cases h1 : zone.length ≤ 300
  · by_cases h2 : m.q.name.length ≤ 300
    · rcases Bool.eq_false_or_eq_true (short30 m.ans) with h3 | h3
      · rcases Bool.eq_false_or_eq_true (short30 m.auth) with h4 | h4
        · simp (disch := omega) only [x_ddilaw30_small, short30_ok, h3, h4, EVM, EVC, EVP, ↓reduceIte, EV, if_true, if_false, Nat.reduceAdd, Nat.reduceEqDiff, Int.reduceToNat, ne_eq, not_true, not_false_eq_true, Bool.true_eq_false, reduceCtorEq]
          simp [h1, h2]
        · simp (disch := omega) only [x_ddilaw30_small, short30_ok, h3, h4, EVM, EVC, EVP, ↓reduceIte, EV, if_true, if_false, Nat.reduceAdd, Nat.reduceEqDiff, Int.reduceToNat, ne_eq, not_true, not_false_eq_true, Bool.true_eq_false, reduceCtorEq]
          simp
      · simp (disch := omega) only [x_ddilaw30_small, short30_ok, h3, EVM, EVC, EVP, ↓reduceIte, EV, if_true, if_false, Nat.reduceAdd, Nat.reduceEqDiff, Int.reduceToNat, ne_eq, not_true, not_false_eq_true, Bool.true_eq_false, reduceCtorEq]
        simp
    · simp (disch := omega) only [x_ddilaw30_small, short30_ok, EVM, EVC, EVP, ↓reduceIte, EV, if_true, if_false, Nat.reduceAdd, Nat.reduceEqDiff, Int.reduceToNat, ne_eq, not_true, not_false_eq_true, Bool.true_eq_false, reduceCtorEq]
      simp [h2]
  · simp (disch := omega) only [x_ddilaw30_small, short30_ok, EVM, EVC, EVP, ↓reduceIte, EV, if_true, if_false, Nat.reduceAdd, Nat.reduceEqDiff, Int.reduceToNat, ne_eq, not_true, not_false_eq_true, Bool.true_eq_false, reduceCtorEq]
    simp [h1]
theorem small30_mok {m : Msg} {zone : List UInt8} (hm : m.wf) (h : small30 m zone = true) : MOk m := by
  simp [small30, short30] at h
  exact ⟨hm, by omega, by omega, by omega⟩
/-- the referral to d.x. -/
def refM : Msg := ⟨0, 0, 0, true, false, false, false, false, false, false, false, 0, ⟨[97, 46, 100, 46, 120, 46], 1⟩, [],
  [⟨[100, 46, 120, 46], 2, 9, ⟨false, 0, 0, [110, 46, 100, 46, 120, 46], [], [], 0, 0, 0, 0, 0, 0, 0⟩⟩],
  [⟨[110, 46, 100, 46, 120, 46], 1, 9, ⟨false, 0, 1, [], [], [], 0, 0, 0, 0, 0, 0, 0⟩⟩]⟩
theorem refM_ok : S n_ddilaw30_referral 0 [] = some [refM.pv] := by
  refine s_ddilaw30_referral (N := 1) rfl ?_
  simp (disch := omega) only [x_ddilaw30_referral, EVM, EVC, EVP, ↓reduceIte, EV, if_true, if_false, Nat.reduceAdd, Nat.reduceEqDiff, Int.reduceToNat, ne_eq, not_true, not_false_eq_true, Bool.true_eq_false, reduceCtorEq]
  rfl
theorem refM_mok : MOk refM := by
  refine ⟨⟨?_, ?_, ?_, ?_, ⟨?_, ?_⟩, ?_, ?_, ?_⟩, ?_, ?_, ?_⟩
  all_goals first | (unfold i64r refM; simp; done) | (unfold strr refM; simp; done) | (simp [refM]; done) | skip
  · refine ⟨by simp [refM], fun r hr => ?_⟩
    simp [refM] at hr
  · refine ⟨by simp [refM], fun r hr => ?_⟩
    simp only [refM, List.mem_singleton] at hr
    subst hr
    constructor
    · unfold strr; decide
    · unfold i64r; decide
    · unfold i64r; decide
    · constructor <;> first | (unfold strr; decide) | (unfold i64r; decide) | (unfold u64r; decide)
  · refine ⟨by simp [refM], fun r hr => ?_⟩
    simp only [refM, List.mem_singleton] at hr
    subst hr
    constructor
    · unfold strr; decide
    · unfold i64r; decide
    · unfold i64r; decide
    · constructor <;> first | (unfold strr; decide) | (unfold i64r; decide) | (unfold u64r; decide)
theorem awake30_ok : S n_ddilaw30_awake 0 [] = some [.b true] := by
  refine s_ddilaw30_awake (N := 1) rfl ?_
  have k1 := ChildP_ok refM [120, 46] refM_mok (by unfold strr; decide)
  have k2 := ClassifyP_ok refM [120, 46] refM_mok (by unfold strr; decide)
  have e1 : childN (insideM refM [120, 46]) [120, 46] = ([100, 46, 120, 46], [[110, 46, 100, 46, 120, 46]], true) := by kernel_rfl
  have e2 : kindM (insideM refM [120, 46]) [120, 46] = 3 := by kernel_rfl
  rw [e1] at k1
  rw [e2] at k2
  unfold childPV at k1
  simp (disch := omega) only [x_ddilaw30_awake, refM_ok, k1, k2, EVM, EVC, EVP, ↓reduceIte, EV, if_true, if_false, Nat.reduceAdd, Nat.reduceEqDiff, Int.reduceToNat, ne_eq, not_true, not_false_eq_true, Bool.true_eq_false, reduceCtorEq]
theorem law_TrustKinds (m : Msg) (zone : List UInt8) (hm : m.wf) (hz : strr zone) : S n_ddilaw30_TrustKinds 2 [m.pv, .s zone] = some [.b true] := by
  refine s_ddilaw30_TrustKinds (N := 3000) rfl ?_
  rcases Bool.eq_false_or_eq_true (small30 m zone) with h | h
  · have hk := small30_mok hm h
    have a1 := ClassifyP_ok m zone hk hz
    have a2 := Classify30_ok m zone hk hz
    have a3 := NegativeP_ok m zone hk hz
    have a4 := Negative30_ok m zone hk hz
    have a5 := ChildP_ok m zone hk hz
    have a6 := Child30_ok m zone hk hz
    have hlen : (childN (insideM m zone) zone).2.1.length ≤ 1000 := by
      have hi := (hk.inside zone).auth
      generalize insideM m zone = x at *
      unfold childN
      split
      · split
        · rename_i r _
          have := dd_len (findR x.auth r.name 2) []
          have := findR_len x.auth r.name 2
          simp at *; omega
        · simp
      · simp
    unfold childPV at a5 a6
    generalize childN (insideM m zone) zone = c at *
    obtain ⟨cn, cl, cb⟩ := c
    generalize kindM (insideM m zone) zone = k at *
    generalize negN (insideM m zone) zone = n at *
    obtain ⟨nk, nb⟩ := n
    simp only at a3 a4 a5 a6 hlen
    have key : l0_ddilaw30_TrustKinds.ev S 3000 [m.pv, .s zone, .b true, .b true, .i .i64 k, .i .i64 k, .i .i64 nk, .b nb, .i .i64 nk, .b nb, .s cn, strsPV cl, .b cb, .s cn, strsPV cl, .b cb] = some (.yld 0 []) := by
      refine loop_list cl (fun i => [.i .i64 (i : Int)]) (fun i r => .yld 0 []) rfl (by omega) (fun i c r hd hi hc => ?_) ?_
      · left
        simp (disch := omega) only [x_ddilaw30_TrustKinds, hc, EVM, EVC, EVP, ↓reduceIte, EV, if_true, if_false, Nat.reduceAdd, Nat.reduceEqDiff, Int.reduceToNat, ne_eq, not_true, not_false_eq_true, Bool.true_eq_false, reduceCtorEq]
        simp
      · simp (disch := omega) only [x_ddilaw30_TrustKinds, EVM, EVC, EVP, ↓reduceIte, EV, if_true, if_false, Nat.reduceAdd, Nat.reduceEqDiff, Int.reduceToNat, ne_eq, not_true, not_false_eq_true, Bool.true_eq_false, reduceCtorEq]
        simp [Out.goes]
    simp (disch := omega) only [x_ddilaw30_TrustKinds, awake30_ok, small30_ok, h, a1, a2, a3, a4, a5, a6, key, neqs_b, beq_self_eq_true, EVM, EVC, EVP, ↓reduceIte, EV, if_true, if_false, Nat.reduceAdd, Nat.reduceEqDiff, Int.reduceToNat, ne_eq, not_true, not_false_eq_true, Bool.true_eq_false, reduceCtorEq]
  · simp (disch := omega) only [x_ddilaw30_TrustKinds, awake30_ok, small30_ok, h, EVM, EVC, EVP, ↓reduceIte, EV, if_true, if_false, Nat.reduceAdd, Nat.reduceEqDiff, Int.reduceToNat, ne_eq, not_true, not_false_eq_true, Bool.true_eq_false, reduceCtorEq]
theorem law_TrustTwice (m : Msg) (zone : List UInt8) (hm : m.wf) (hz : strr zone) : S n_ddilaw30_TrustTwice 2 [m.pv, .s zone] = some [.b true] := by
  refine s_ddilaw30_TrustTwice (N := 3000) rfl ?_
  rcases Bool.eq_false_or_eq_true (small30 m zone) with h | h
  · have hk := small30_mok hm h
    have hi := hk.inside zone
    have b1 := Inside_ok m zone hk.wf hz hk.ans hk.auth hk.ext
    have b2 := Inside_ok (insideM m zone) zone hi.wf hz hi.ans hi.auth hi.ext
    have a1 := ClassifyP_ok m zone hk hz
    have a2 := ClassifyP_ok (insideM m zone) zone hi hz
    have a3 := NegativeP_ok m zone hk hz
    have a4 := NegativeP_ok (insideM m zone) zone hi hz
    have a5 := ChildP_ok m zone hk hz
    have a6 := ChildP_ok (insideM m zone) zone hi hz
    have b3 := same30_self (insideM m zone) hi
    rw [inside_twice] at a2 a4 a6 b2
    unfold childPV at a5 a6
    generalize childN (insideM m zone) zone = c at *
    generalize kindM (insideM m zone) zone = k at *
    generalize negN (insideM m zone) zone = n at *
    generalize insideM m zone = x at *
    simp (disch := omega) only [x_ddilaw30_TrustTwice, awake30_ok, small30_ok, h, a1, a2, a3, a4, a5, a6, b1, b2, b3, eqs_b, beq_self_eq_true, EVM, EVC, EVP, ↓reduceIte, EV, if_true, if_false, Nat.reduceAdd, Nat.reduceEqDiff, Int.reduceToNat, ne_eq, not_true, not_false_eq_true, Bool.true_eq_false, reduceCtorEq]
  · simp (disch := omega) only [x_ddilaw30_TrustTwice, awake30_ok, small30_ok, h, EVM, EVC, EVP, ↓reduceIte, EV, if_true, if_false, Nat.reduceAdd, Nat.reduceEqDiff, Int.reduceToNat, ne_eq, not_true, not_false_eq_true, Bool.true_eq_false, reduceCtorEq]
end Go.X.G
