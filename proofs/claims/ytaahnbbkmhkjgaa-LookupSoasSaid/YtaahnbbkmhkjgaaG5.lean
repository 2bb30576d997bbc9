/- The program's data. -/
import Derived.Test.YtaahnbbkmhkjgaaS1
import Derived.Test.YtaahnbbkmhkjgaaR

set_option linter.unusedVariables false
set_option linter.unusedSimpArgs false
namespace Go.X
open Go

structure Dat where
  v6 : Bool
  hi : Int
  lo : Int
  host : List UInt8
  mail : List UInt8
  text : List UInt8
  a : Int
  b : Int
  c : Int
  d : Int
  e : Int
  f : Int
  bits : Int
  deriving DecidableEq
structure Rec where
  name : List UInt8
  typ : Int
  ttl : Int
  data : Dat
  deriving DecidableEq
structure Zone where
  origin : List UInt8
  recs : List Rec
  deriving DecidableEq
def i64r (x : Int) : Prop := -9223372036854775808 ≤ x ∧ x ≤ 9223372036854775807
def u64r (x : Int) : Prop := 0 ≤ x ∧ x ≤ 18446744073709551615
def strr (x : List UInt8) : Prop := x.length ≤ 9223372036854775807
structure Dat.wf (x : Dat) : Prop where
  hi : u64r x.hi
  lo : u64r x.lo
  host : strr x.host
  mail : strr x.mail
  text : strr x.text
  a : i64r x.a
  b : i64r x.b
  c : i64r x.c
  d : i64r x.d
  e : i64r x.e
  f : i64r x.f
  bits : u64r x.bits
structure Rec.wf (r : Rec) : Prop where
  name : strr r.name
  typ : i64r r.typ
  ttl : i64r r.ttl
  data : r.data.wf
def recsr (l : List Rec) : Prop := l.length ≤ 9223372036854775807 ∧ ∀ r ∈ l, r.wf
structure Zone.wf (z : Zone) : Prop where
  origin : strr z.origin
  recs : recsr z.recs
def Dat.cells (x : Dat) : List PV := [.b x.v6, .i .u64 x.hi, .i .u64 x.lo, .s x.host, .s x.mail, .s x.text, .i .i64 x.a, .i .i64 x.b, .i .i64 x.c, .i .i64 x.d, .i .i64 x.e, .i .i64 x.f, .i .u64 x.bits]
def Dat.pv (x : Dat) : PV := .a x.cells
def Rec.cells (x : Rec) : List PV := .s x.name :: .i .i64 x.typ :: .i .i64 x.ttl :: x.data.cells
def Rec.pv (x : Rec) : PV := .a x.cells
def recsPV (l : List Rec) : PV := .l 16 (l.map Rec.pv)
def Zone.pv (x : Zone) : PV := .a [.s x.origin, recsPV x.recs]
def strsPV (l : List (List UInt8)) : PV := .l 1 (l.map .s)
def addrPV (x : Dat) : PV := .a [.b x.v6, .i .u64 x.hi, .i .u64 x.lo]

theorem sub_rec (r : Rec) : subPV 0 16 r.pv = some r.pv := rfl
theorem fit_rec (r : Rec) : fitPV 16 r.pv = some r.pv := rfl
theorem sub_rec_data (r : Rec) : subPV 3 13 r.pv = some r.data.pv := rfl
theorem sub_rec_addr (r : Rec) : subPV 3 3 r.pv = some (addrPV r.data) := rfl
theorem proj_rec0 (r : Rec) : projPV 0 r.pv = some (.s r.name) := rfl
theorem proj_rec1 (r : Rec) : projPV 1 r.pv = some (.i .i64 r.typ) := rfl
theorem proj_rec2 (r : Rec) : projPV 2 r.pv = some (.i .i64 r.ttl) := rfl
theorem proj_rec3 (r : Rec) : projPV 3 r.pv = some (.b r.data.v6) := rfl
theorem proj_rec4 (r : Rec) : projPV 4 r.pv = some (.i .u64 r.data.hi) := rfl
theorem proj_rec5 (r : Rec) : projPV 5 r.pv = some (.i .u64 r.data.lo) := rfl
theorem proj_rec6 (r : Rec) : projPV 6 r.pv = some (.s r.data.host) := rfl
theorem proj_rec7 (r : Rec) : projPV 7 r.pv = some (.s r.data.mail) := rfl
theorem proj_rec8 (r : Rec) : projPV 8 r.pv = some (.s r.data.text) := rfl
theorem proj_rec9 (r : Rec) : projPV 9 r.pv = some (.i .i64 r.data.a) := rfl
theorem proj_rec10 (r : Rec) : projPV 10 r.pv = some (.i .i64 r.data.b) := rfl
theorem proj_rec11 (r : Rec) : projPV 11 r.pv = some (.i .i64 r.data.c) := rfl
theorem proj_rec12 (r : Rec) : projPV 12 r.pv = some (.i .i64 r.data.d) := rfl
theorem proj_rec13 (r : Rec) : projPV 13 r.pv = some (.i .i64 r.data.e) := rfl
theorem proj_rec14 (r : Rec) : projPV 14 r.pv = some (.i .i64 r.data.f) := rfl
theorem proj_rec15 (r : Rec) : projPV 15 r.pv = some (.i .u64 r.data.bits) := rfl
theorem sub_dat (r : Dat) : subPV 0 13 r.pv = some r.pv := rfl
theorem sub_dat_addr (r : Dat) : subPV 0 3 r.pv = some (addrPV r) := rfl
theorem fit_dat (r : Dat) : fitPV 13 r.pv = some r.pv := rfl
theorem proj_dat0 (r : Dat) : projPV 0 r.pv = some (.b r.v6) := rfl
theorem proj_dat1 (r : Dat) : projPV 1 r.pv = some (.i .u64 r.hi) := rfl
theorem proj_dat2 (r : Dat) : projPV 2 r.pv = some (.i .u64 r.lo) := rfl
theorem proj_dat3 (r : Dat) : projPV 3 r.pv = some (.s r.host) := rfl
theorem proj_dat4 (r : Dat) : projPV 4 r.pv = some (.s r.mail) := rfl
theorem proj_dat5 (r : Dat) : projPV 5 r.pv = some (.s r.text) := rfl
theorem proj_dat6 (r : Dat) : projPV 6 r.pv = some (.i .i64 r.a) := rfl
theorem proj_dat7 (r : Dat) : projPV 7 r.pv = some (.i .i64 r.b) := rfl
theorem proj_dat8 (r : Dat) : projPV 8 r.pv = some (.i .i64 r.c) := rfl
theorem proj_dat9 (r : Dat) : projPV 9 r.pv = some (.i .i64 r.d) := rfl
theorem proj_dat10 (r : Dat) : projPV 10 r.pv = some (.i .i64 r.e) := rfl
theorem proj_dat11 (r : Dat) : projPV 11 r.pv = some (.i .i64 r.f) := rfl
theorem proj_dat12 (r : Dat) : projPV 12 r.pv = some (.i .u64 r.bits) := rfl
theorem fit_addr (r : Dat) : fitPV 3 (addrPV r) = some (addrPV r) := rfl
theorem sub_addr (r : Dat) : subPV 0 3 (addrPV r) = some (addrPV r) := rfl
theorem proj_addr0 (r : Dat) : projPV 0 (addrPV r) = some (.b r.v6) := rfl
theorem proj_addr1 (r : Dat) : projPV 1 (addrPV r) = some (.i .u64 r.hi) := rfl
theorem proj_addr2 (r : Dat) : projPV 2 (addrPV r) = some (.i .u64 r.lo) := rfl
theorem fit_zone (r : Zone) : fitPV 2 r.pv = some r.pv := rfl
theorem sub_zone (r : Zone) : subPV 0 2 r.pv = some r.pv := rfl
theorem proj_zone0 (r : Zone) : projPV 0 r.pv = some (.s r.origin) := rfl
theorem proj_zone1 (r : Zone) : projPV 1 r.pv = some (recsPV r.recs) := rfl
theorem fold_dat (v : Bool) (h l : Int) (s1 s2 s3 : List UInt8) (a b c d e f g : Int) : PV.a [.b v, .i .u64 h, .i .u64 l, .s s1, .s s2, .s s3, .i .i64 a, .i .i64 b, .i .i64 c, .i .i64 d, .i .i64 e, .i .i64 f, .i .u64 g] = Dat.pv ⟨v, h, l, s1, s2, s3, a, b, c, d, e, f, g⟩ := rfl
theorem fold_rec (n : List UInt8) (t u : Int) (v : Bool) (h l : Int) (s1 s2 s3 : List UInt8) (a b c d e f g : Int) : PV.a [.s n, .i .i64 t, .i .i64 u, .b v, .i .u64 h, .i .u64 l, .s s1, .s s2, .s s3, .i .i64 a, .i .i64 b, .i .i64 c, .i .i64 d, .i .i64 e, .i .i64 f, .i .u64 g] = Rec.pv ⟨n, t, u, ⟨v, h, l, s1, s2, s3, a, b, c, d, e, f, g⟩⟩ := rfl
theorem eta_dat (x : Dat) : (⟨x.v6, x.hi, x.lo, x.host, x.mail, x.text, x.a, x.b, x.c, x.d, x.e, x.f, x.bits⟩ : Dat) = x := rfl
theorem eta_rec (x : Rec) : (⟨x.name, x.typ, x.ttl, x.data⟩ : Rec) = x := rfl
theorem flat_dat (x : Dat) : PV.flat x.pv = true := rfl
theorem flat_rec (x : Rec) : PV.flat x.pv = true := rfl
theorem flat_addr (x : Dat) : PV.flat (addrPV x) = true := rfl
theorem lit_rec (x : Rec) : litPV 16 [x.pv] = some (recsPV [x]) := rfl
theorem len_recs (l : List Rec) : lenPV (recsPV l) = some (.i .i64 (l.length : Int)) := by simp [recsPV, lenPV]
theorem idx_recs (l : List Rec) (k : IntKind) (z : Int) (h : 0 ≤ z) : idxPV 16 (recsPV l) (.i k z) = (l[z.toNat]?).map Rec.pv := by simp [recsPV, idx_l _ _ _ _ h]
theorem app_recs1 (l : List Rec) (x : Rec) (h : l.length + 1 ≤ 1073741824) : appPV 16 (recsPV l) (recsPV [x]) = some (recsPV (l ++ [x])) := by
  have := app_l 16 (l.map Rec.pv) [x.pv] (by simpa using h)
  simpa [recsPV] using this
theorem app_recs (l m : List Rec) (h : l.length + m.length ≤ 1073741824) : appPV 16 (recsPV l) (recsPV m) = some (recsPV (l ++ m)) := by
  have := app_l 16 (l.map Rec.pv) (m.map Rec.pv) (by simpa using h)
  simpa [recsPV] using this
theorem recs_nil : PV.l 16 [] = recsPV [] := rfl
theorem lsl_recs (l : List Rec) (k k' : IntKind) (a b : Int) (h1 : 0 ≤ a) (h2 : a ≤ b) (h3 : b ≤ (l.length : Int)) : lslPV 16 (recsPV l) (.i k a) (.i k' b) = some (recsPV ((l.take b.toNat).drop a.toNat)) := by
  have := lsl_l 16 (l.map Rec.pv) k k' a b h1 h2 (by simpa using h3)
  simpa [recsPV] using this
theorem set_rec (l : List Rec) (k : IntKind) (z : Int) (n : List UInt8) (t u : Int) (v : Bool) (h w : Int) (s1 s2 s3 : List UInt8) (a b c d e f g : Int) (h0 : 0 ≤ z) (h1 : z < (l.length : Int)) :
    setPV 16 0 [.s n, .i .i64 t, .i .i64 u, .b v, .i .u64 h, .i .u64 w, .s s1, .s s2, .s s3, .i .i64 a, .i .i64 b, .i .i64 c, .i .i64 d, .i .i64 e, .i .i64 f, .i .u64 g] (recsPV l) (.i k z) = some (recsPV (l.set z.toNat ⟨n, t, u, ⟨v, h, w, s1, s2, s3, a, b, c, d, e, f, g⟩⟩)) := by
  have h2 : z.toNat < l.length := by omega
  have h3 : (l.map Rec.pv)[z.toNat]? = some (l[z.toNat].pv) := by simp [h2]
  simp only [setPV, recsPV, h0, h3, and_self, if_true, Option.bind_some]
  have h4 : setElem (l[z.toNat].pv) 0 [.s n, .i .i64 t, .i .i64 u, .b v, .i .u64 h, .i .u64 w, .s s1, .s s2, .s s3, .i .i64 a, .i .i64 b, .i .i64 c, .i .i64 d, .i .i64 e, .i .i64 f, .i .u64 g] = some (Rec.pv ⟨n, t, u, ⟨v, h, w, s1, s2, s3, a, b, c, d, e, f, g⟩⟩) := rfl
  rw [h4]
  simp [List.map_set]
theorem scal_recs (l : List Rec) : scalPV (recsPV l) = some (recsPV l) := rfl
theorem len_strs (l : List (List UInt8)) : lenPV (strsPV l) = some (.i .i64 (l.length : Int)) := by simp [strsPV, lenPV]
theorem idx_strs (l : List (List UInt8)) (k : IntKind) (z : Int) (h : 0 ≤ z) : idxPV 1 (strsPV l) (.i k z) = (l[z.toNat]?).map PV.s := by simp [strsPV, idx_l _ _ _ _ h]
theorem lit_str (x : List UInt8) : litPV 1 [.s x] = some (strsPV [x]) := rfl
theorem strs_nil : PV.l 1 [] = strsPV [] := rfl
theorem app_strs1 (l : List (List UInt8)) (x : List UInt8) (h : l.length + 1 ≤ 1073741824) : appPV 1 (strsPV l) (strsPV [x]) = some (strsPV (l ++ [x])) := by
  have := app_l 1 (l.map PV.s) [.s x] (by simpa using h)
  simpa [strsPV] using this
theorem app_strs (l m : List (List UInt8)) (h : l.length + m.length ≤ 1073741824) : appPV 1 (strsPV l) (strsPV m) = some (strsPV (l ++ m)) := by
  have := app_l 1 (l.map PV.s) (m.map PV.s) (by simpa using h)
  simpa [strsPV] using this
theorem lsl_strs (l : List (List UInt8)) (k k' : IntKind) (a b : Int) (h1 : 0 ≤ a) (h2 : a ≤ b) (h3 : b ≤ (l.length : Int)) : lslPV 1 (strsPV l) (.i k a) (.i k' b) = some (strsPV ((l.take b.toNat).drop a.toNat)) := by
  have := lsl_l 1 (l.map PV.s) k k' a b h1 h2 (by simpa using h3)
  simpa [strsPV] using this
theorem proj_strs (l : List (List UInt8)) : projPV 0 (strsPV l) = some (strsPV l) := rfl
theorem proj_recs (l : List Rec) : projPV 0 (recsPV l) = some (recsPV l) := rfl
theorem scal_strs (l : List (List UInt8)) : scalPV (strsPV l) = some (strsPV l) := rfl

theorem eq_dat (neg : Bool) (x y : Dat) : eqsPV neg true [.b, (.i .u64), (.i .u64), .s, .s, .s, (.i .i64), (.i .i64), (.i .i64), (.i .i64), (.i .i64), (.i .i64), (.i .u64)] x.pv y.pv = some (.b (if neg then decide (x ≠ y) else decide (x = y))) := by
  have : eqScs [.b, (.i .u64), (.i .u64), .s, .s, .s, (.i .i64), (.i .i64), (.i .i64), (.i .i64), (.i .i64), (.i .i64), (.i .u64)] x.cells y.cells = some (decide (x = y)) := by
    simp only [Dat.cells, eqScs, eqSc, if_true, Option.some.injEq]
    rw [Bool.eq_iff_iff]
    cases x; cases y; simp
  simp only [eqsPV, Dat.pv, this, Option.map_some]
  cases neg <;> simp
theorem eq_rec (neg : Bool) (x y : Rec) : eqsPV neg true [.s, (.i .i64), (.i .i64), .b, (.i .u64), (.i .u64), .s, .s, .s, (.i .i64), (.i .i64), (.i .i64), (.i .i64), (.i .i64), (.i .i64), (.i .u64)] x.pv y.pv = some (.b (if neg then decide (x ≠ y) else decide (x = y))) := by
  have : eqScs [.s, (.i .i64), (.i .i64), .b, (.i .u64), (.i .u64), .s, .s, .s, (.i .i64), (.i .i64), (.i .i64), (.i .i64), (.i .i64), (.i .i64), (.i .u64)] x.cells y.cells = some (decide (x = y)) := by
    simp only [Rec.cells, Dat.cells, eqScs, eqSc, if_true, Option.some.injEq]
    rw [Bool.eq_iff_iff]
    rcases x with ⟨_, _, _, ⟨⟩⟩; rcases y with ⟨_, _, _, ⟨⟩⟩; simp [and_assoc]
  simp only [eqsPV, Rec.pv, this, Option.map_some]
  cases neg <;> simp
theorem EVP : type_of% ((And.intro @set_rec (And.intro @sub_rec (And.intro @fit_rec (And.intro @sub_rec_data (And.intro @sub_rec_addr (And.intro @proj_rec0 (And.intro @proj_rec1 (And.intro @proj_rec2 (And.intro @proj_rec3 (And.intro @proj_rec4 (And.intro @proj_rec5 (And.intro @proj_rec6 (And.intro @proj_rec7 (And.intro @proj_rec8 (And.intro @proj_rec9 (And.intro @proj_rec10 (And.intro @proj_rec11 (And.intro @proj_rec12 (And.intro @proj_rec13 (And.intro @proj_rec14 (And.intro @proj_rec15 (And.intro @sub_dat (And.intro @sub_dat_addr (And.intro @fit_dat (And.intro @proj_dat0 (And.intro @proj_dat1 (And.intro @proj_dat2 (And.intro @proj_dat3 (And.intro @proj_dat4 (And.intro @proj_dat5 (And.intro @proj_dat6 (And.intro @proj_dat7 (And.intro @proj_dat8 (And.intro @proj_dat9 (And.intro @proj_dat10 (And.intro @proj_dat11 (And.intro @proj_dat12 (And.intro @fit_addr (And.intro @sub_addr (And.intro @proj_addr0 (And.intro @proj_addr1 (And.intro @proj_addr2 (And.intro @fit_zone (And.intro @sub_zone (And.intro @proj_zone0 (And.intro @proj_zone1 (And.intro @fold_dat (And.intro @fold_rec (And.intro @eta_dat (And.intro @eta_rec (And.intro @flat_dat (And.intro @flat_rec (And.intro @flat_addr (And.intro @lit_rec (And.intro @len_recs (And.intro @idx_recs (And.intro @app_recs1 (And.intro @app_recs (And.intro @recs_nil (And.intro @lsl_recs (And.intro @scal_recs (And.intro @len_strs (And.intro @idx_strs (And.intro @lit_str (And.intro @strs_nil (And.intro @app_strs1 (And.intro @app_strs (And.intro @lsl_strs (And.intro @proj_strs (And.intro @proj_recs (And.intro @scal_strs (And.intro @eq_dat @eq_rec))))))))))))))))))))))))))))))))))))))))))))))))))))))))))))))))))))))))) := (And.intro @set_rec (And.intro @sub_rec (And.intro @fit_rec (And.intro @sub_rec_data (And.intro @sub_rec_addr (And.intro @proj_rec0 (And.intro @proj_rec1 (And.intro @proj_rec2 (And.intro @proj_rec3 (And.intro @proj_rec4 (And.intro @proj_rec5 (And.intro @proj_rec6 (And.intro @proj_rec7 (And.intro @proj_rec8 (And.intro @proj_rec9 (And.intro @proj_rec10 (And.intro @proj_rec11 (And.intro @proj_rec12 (And.intro @proj_rec13 (And.intro @proj_rec14 (And.intro @proj_rec15 (And.intro @sub_dat (And.intro @sub_dat_addr (And.intro @fit_dat (And.intro @proj_dat0 (And.intro @proj_dat1 (And.intro @proj_dat2 (And.intro @proj_dat3 (And.intro @proj_dat4 (And.intro @proj_dat5 (And.intro @proj_dat6 (And.intro @proj_dat7 (And.intro @proj_dat8 (And.intro @proj_dat9 (And.intro @proj_dat10 (And.intro @proj_dat11 (And.intro @proj_dat12 (And.intro @fit_addr (And.intro @sub_addr (And.intro @proj_addr0 (And.intro @proj_addr1 (And.intro @proj_addr2 (And.intro @fit_zone (And.intro @sub_zone (And.intro @proj_zone0 (And.intro @proj_zone1 (And.intro @fold_dat (And.intro @fold_rec (And.intro @eta_dat (And.intro @eta_rec (And.intro @flat_dat (And.intro @flat_rec (And.intro @flat_addr (And.intro @lit_rec (And.intro @len_recs (And.intro @idx_recs (And.intro @app_recs1 (And.intro @app_recs (And.intro @recs_nil (And.intro @lsl_recs (And.intro @scal_recs (And.intro @len_strs (And.intro @idx_strs (And.intro @lit_str (And.intro @strs_nil (And.intro @app_strs1 (And.intro @app_strs (And.intro @lsl_strs (And.intro @proj_strs (And.intro @proj_recs (And.intro @scal_strs (And.intro @eq_dat @eq_rec))))))))))))))))))))))))))))))))))))))))))))))))))))))))))))))))))))))))
end Go.X
/- Names: what the reference's functions give. -/
namespace Go.X.G
open Go Go.X

def lchar (c : UInt8) : Bool := decide (97 ≤ (c.toNat : Int)) && decide ((c.toNat : Int) ≤ 122) || decide (48 ≤ (c.toNat : Int)) && decide ((c.toNat : Int) ≤ 57) || decide ((c.toNat : Int) = 45) || decide ((c.toNat : Int) = 95)
theorem lchar_fold (c : UInt8) : (decide (97 ≤ (c.toNat : Int)) && decide ((c.toNat : Int) ≤ 122) || decide (48 ≤ (c.toNat : Int)) && decide ((c.toNat : Int) ≤ 57) || decide ((c.toNat : Int) = 45) || decide ((c.toNat : Int) = 95)) = lchar c := rfl
def isLab (s : List UInt8) : Bool := decide (s = [42]) || (decide (1 ≤ s.length) && decide (s.length ≤ 63) && s.all lchar)

theorem isLabel_l0 (s : List UInt8) (N : Nat) (hN : s.length < N) (hs : s.length ≤ 4294967296) :
    l0_ddiref01_isLabel.ev S N [.s s] = some (if s.all lchar = true then .yld 0 [] else .ret [.b false]) := by
  refine loop_list s (fun i => [.i .i64 (i : Int)]) (fun i r => if r.all lchar = true then .yld 0 [] else .ret [.b false]) rfl hN (fun i c r hd hi hc => ?_) ?_
  · simp (disch := omega) only [x_ddiref01_isLabel, ↓reduceIte, EV, if_true, if_false, Nat.reduceAdd, Nat.reduceEqDiff, Int.reduceToNat, ne_eq, not_true, not_false_eq_true, Bool.true_eq_false, reduceCtorEq, hc, lchar_fold]
    cases h : lchar c <;> simp [h, Out.goes]
  · simp (disch := omega) [x_ddiref01_isLabel, ↓reduceIte, EV, if_true, if_false, Nat.reduceAdd, Nat.reduceEqDiff, Int.reduceToNat, ne_eq, not_true, not_false_eq_true, Bool.true_eq_false, reduceCtorEq, Out.goes]

theorem isLabel_ok (s : List UInt8) (hs : s.length ≤ 4294967296) : S n_ddiref01_isLabel 1 [.s s] = some [.b (isLab s)] := by
  refine s_ddiref01_isLabel (N := s.length + 1) rfl ?_
  simp (disch := omega) only [x_ddiref01_isLabel, isLabel_l0, ↓reduceIte, EV, if_true, if_false, Nat.reduceAdd, Nat.reduceEqDiff, Int.reduceToNat, ne_eq, not_true, not_false_eq_true, Bool.true_eq_false, reduceCtorEq]
  unfold isLab
  grind
end Go.X.G
/- Names: what the reference's functions give. -/
namespace Go.X.G
open Go Go.X

/-! ### split -/
def spl (first : Bool) (cur : List UInt8) : List UInt8 → Option (List (List UInt8))
  | [] => some []
  | c :: r => if c = 46 then (if isLab cur = true ∧ (cur = [42] → first = true) then (spl false [] r).map (cur :: ·) else none) else spl first (cur ++ [c]) r
/-- a name's labels -/
def nm (n : List UInt8) : Option (List (List UInt8)) :=
  if n = [46] then some [] else if 2 ≤ n.length ∧ n.length ≤ 254 ∧ n[n.length - 1]? = some 46 then spl true [] n else none
def lbl (n : List UInt8) : List (List UInt8) := (nm n).getD []
def vld (n : List UInt8) : Bool := (nm n).isSome

theorem td_snoc {α : Type} (n : List α) (i j : Nat) (c : α) (h : n[i]? = some c) (hj : j ≤ i) : (n.take (i + 1)).drop j = (n.take i).drop j ++ [c] := by
  have hi : i < n.length := (List.getElem?_eq_some_iff.1 h).1
  rw [List.take_add_one, h, List.drop_append_of_le_length (by simp; omega)]; rfl
theorem td_self {α : Type} (n : List α) (i : Nat) : (n.take i).drop i = [] := by
  rw [List.drop_eq_nil_iff]; simp; omega

def splOut (l : List (List UInt8)) : Option (List (List UInt8)) → Out
  | some ls => .yld 0 [.l 1 ((l ++ ls).map .s)]
  | none => .ret [.l 1 [], .b false]
theorem split_l0 (n : List UInt8) (N : Nat) (hN : n.length < N) (hs : n.length ≤ 1000) :
    l0_ddiref01_split.ev S N [.s n] = some (splOut [] (spl true [] n)) := by
  refine loop_acc n (fun i (g : List (List UInt8) × Nat) => [.l 1 (g.1.map .s), .i .i64 (g.2 : Int), .i .i64 (i : Int)]) (fun i g r => splOut g.1 (spl (decide (g.2 = 0)) ((n.take i).drop g.2) r)) (fun i g => g.1.length ≤ i ∧ g.2 ≤ i) ([], 0) rfl ⟨Nat.le_refl _, Nat.le_refl _⟩ hN (fun i g c r hd hi hc hI => ?_) (fun g hI => ?_)
  · obtain ⟨l, st⟩ := g
    obtain ⟨h1, h2⟩ := hI
    simp only at h1 h2 ⊢
    have hl : ((n.take i).drop st).length ≤ 4294967296 := by simp; omega
    have hm : (l.map PV.s).length = l.length := List.length_map ..
    have hd' := u8_eq c 46 (by omega)
    by_cases hdot : c = 46
    · have hdi := hd'.2 hdot
      simp (disch := omega) only [x_ddiref01_split, ↓reduceIte, EV, if_true, if_false, Nat.reduceAdd, Nat.reduceEqDiff, Int.reduceToNat, ne_eq, not_true, not_false_eq_true, Bool.true_eq_false, reduceCtorEq, hc, isLabel_ok]
      simp only [spl, if_pos hdot]
      by_cases h : isLab ((n.take i).drop st) = true ∧ ((n.take i).drop st = [42] → st = 0)
      · obtain ⟨h3, h4⟩ := h
        left
        refine ⟨(l ++ [(n.take i).drop st], i + 1), ?_, ?_, ?_⟩
        · rw [if_neg (by simp only [h3]; intro h; simp at h; have := h4 h.1; omega)]
          simp
        · simp; omega
        · simp only [td_self]
          rw [if_pos ⟨h3, by simpa using h4⟩]
          cases h9 : spl false [] r <;> simp [h9, splOut]
      · right
        have h' : ¬ (isLab ((n.take i).drop st) = true ∧ ((n.take i).drop st = [42] → decide (st = 0) = true)) := by simpa using h
        rw [if_neg h']
        refine ⟨?_, rfl⟩
        rw [if_pos]
        · rfl
        · cases h5 : isLab ((n.take i).drop st)
          · simp
          · simp only [h5, true_and] at h
            have ⟨h6, h7⟩ := Classical.not_imp.1 h
            simp [h6]; omega
    · have hdi : ¬ (c.toNat : Int) = 46 := fun h => hdot (hd'.1 h)
      left
      refine ⟨(l, st), ?_, ?_, ?_⟩
      · simp (disch := omega) only [x_ddiref01_split, ↓reduceIte, EV, if_true, if_false, Nat.reduceAdd, Nat.reduceEqDiff, Int.reduceToNat, ne_eq, not_true, not_false_eq_true, Bool.true_eq_false, reduceCtorEq, hc]
      · simp only; omega
      · simp only [spl]; rw [if_neg hdot, td_snoc n i st c hc h2]
  · simp (disch := omega) [x_ddiref01_split, ↓reduceIte, EV, if_true, if_false, Nat.reduceAdd, Nat.reduceEqDiff, Int.reduceToNat, ne_eq, not_true, not_false_eq_true, Bool.true_eq_false, reduceCtorEq, Out.goes, spl, splOut]

theorem split_ok (n : List UInt8) (hs : n.length ≤ 9223372036854775807) : S n_ddiref01_split 1 [.s n] = some [strsPV (lbl n), .b (vld n)] := by
  refine s_ddiref01_split (N := n.length + 1) rfl ?_
  unfold strsPV lbl vld nm
  by_cases h1 : n = [46]
  · simp (disch := omega) [x_ddiref01_split, ↓reduceIte, EV, if_true, if_false, Nat.reduceAdd, Nat.reduceEqDiff, Int.reduceToNat, ne_eq, not_true, not_false_eq_true, Bool.true_eq_false, reduceCtorEq, h1]
  · rw [if_neg h1]
    by_cases h2 : n.length < 2
    · simp (disch := omega) only [x_ddiref01_split, ↓reduceIte, EV, if_true, if_false, Nat.reduceAdd, Nat.reduceEqDiff, Int.reduceToNat, ne_eq, not_true, not_false_eq_true, Bool.true_eq_false, reduceCtorEq, h1]
      have h3 : ¬ (2 ≤ n.length ∧ n.length ≤ 254 ∧ n[n.length - 1]? = some 46) := by omega
      rw [if_neg h3]; rfl
    · by_cases h3 : 254 < n.length
      · simp (disch := omega) only [x_ddiref01_split, ↓reduceIte, EV, if_true, if_false, Nat.reduceAdd, Nat.reduceEqDiff, Int.reduceToNat, ne_eq, not_true, not_false_eq_true, Bool.true_eq_false, reduceCtorEq, h1]
        have h3 : ¬ (2 ≤ n.length ∧ n.length ≤ 254 ∧ n[n.length - 1]? = some 46) := by omega
        rw [if_neg h3]; rfl
      · have h4 := List.getElem?_eq_getElem (l := n) (i := n.length - 1) (by omega)
        have h5 : ((n.length : Int) - 1).toNat = n.length - 1 := by omega
        have h6 := u8_eq (n[n.length - 1]'(by omega)) 46 (by omega)
        simp (disch := omega) only [x_ddiref01_split, ↓reduceIte, EV, if_true, if_false, Nat.reduceAdd, Nat.reduceEqDiff, Int.reduceToNat, ne_eq, not_true, not_false_eq_true, Bool.true_eq_false, reduceCtorEq, h1, h4, h5, split_l0]
        by_cases h7 : n[n.length - 1]'(by omega) = 46
        · rw [if_pos (show 2 ≤ n.length ∧ n.length ≤ 254 ∧ some (n[n.length - 1]'(by omega)) = some 46 from ⟨by omega, by omega, by rw [h7]⟩), if_neg (fun h => h (h6.2 h7))]
          cases h8 : spl true [] n
          · simp [splOut, aft_ret]
          · simp (disch := omega) [x_ddiref01_split, splOut, ↓reduceIte, EV, if_true, if_false, Nat.reduceAdd, Nat.reduceEqDiff, Int.reduceToNat, ne_eq, not_true, not_false_eq_true, Bool.true_eq_false, reduceCtorEq]
        · rw [if_neg (show ¬ (2 ≤ n.length ∧ n.length ≤ 254 ∧ some (n[n.length - 1]'(by omega)) = some 46) from fun h => h7 (by simpa using h.2.2)), if_pos (show (((n[n.length - 1]'(by omega)).toNat : Int) ≠ 46) from fun h => h7 (h6.1 h))]
          rfl
end Go.X.G
/- Names: what the reference's functions give, ctd. -/
namespace Go.X.G
open Go Go.X

theorem spl_len : ∀ (r : List UInt8) (f : Bool) (cur : List UInt8) (l : List (List UInt8)), spl f cur r = some l → l.length ≤ r.length
  | [], f, cur, l, h => by simp [spl] at h; simp [← h]
  | c :: r, f, cur, l, h => by
    simp only [spl] at h
    split at h
    · split at h
      · obtain ⟨m, hm, rfl⟩ := Option.map_eq_some_iff.1 h
        have := spl_len r _ _ _ hm
        simp; omega
      · cases h
    · have := spl_len r _ _ _ h
      simp; omega
theorem nm_len {n : List UInt8} {l : List (List UInt8)} (h : nm n = some l) : l.length ≤ 254 := by
  unfold nm at h
  split at h
  · injection h with h; subst h; simp
  · split at h
    · rename_i h2
      have := spl_len _ _ _ _ h; omega
    · cases h
theorem lbl_len (n : List UInt8) : (lbl n).length ≤ 254 := by
  unfold lbl
  cases h : nm n with
  | none => simp
  | some l => exact nm_len h

theorem Valid1_ok (n : List UInt8) (hs : n.length ≤ 9223372036854775807) : S n_ddiref01_Valid 1 [.s n] = some [.b (vld n)] := by
  refine s_ddiref01_Valid (N := 1) rfl ?_
  simp (disch := omega) only [x_ddiref01_Valid, split_ok, EVP, ↓reduceIte, EV, if_true, if_false, Nat.reduceAdd, Nat.reduceEqDiff, Int.reduceToNat, ne_eq, not_true, not_false_eq_true, Bool.true_eq_false, reduceCtorEq]
theorem Labels1_ok (n : List UInt8) (hs : n.length ≤ 9223372036854775807) : S n_ddiref01_Labels 1 [.s n] = some [strsPV (lbl n)] := by
  refine s_ddiref01_Labels (N := 1) rfl ?_
  simp (disch := omega) only [x_ddiref01_Labels, split_ok, EVP, ↓reduceIte, EV, if_true, if_false, Nat.reduceAdd, Nat.reduceEqDiff, Int.reduceToNat, ne_eq, not_true, not_false_eq_true, Bool.true_eq_false, reduceCtorEq]

/-- how many are the same from the beginning on -/
def cpre {α : Type} [DecidableEq α] : List α → List α → Nat
  | x :: xs, y :: ys => if x = y then cpre xs ys + 1 else 0
  | _, _ => 0
def sameN (a b : List (List UInt8)) : Nat := cpre a.reverse b.reverse
theorem cpre_le {α : Type} [DecidableEq α] : ∀ (a b : List α), cpre a b ≤ a.length ∧ cpre a b ≤ b.length
  | [], b => by simp [cpre]
  | x :: xs, [] => by simp [cpre]
  | x :: xs, y :: ys => by
    have := cpre_le xs ys
    simp only [cpre]
    split <;> simp <;> omega
theorem sameN_le (a b : List (List UInt8)) : sameN a b ≤ a.length ∧ sameN a b ≤ b.length := by
  have := cpre_le a.reverse b.reverse
  simpa [sameN] using this
theorem same_l0 (a b : List (List UInt8)) (N : Nat) (hN : a.length < N) (ha : a.length ≤ 1000000) (hb : b.length ≤ 1000000) :
    l0_ddiref01_same.ev S N [strsPV a, strsPV b] = some (.yld 0 [.i .i64 (sameN a b : Int)]) := by
  have key := loop_rule (fn := S) (N := N) (η := [strsPV a, strsPV b]) (id := 1) (init := [(.c (.i .i64 (0)))]) (body := b0_ddiref01_same) (α := Nat) (fun k => [.i .i64 (k : Int)]) (fun k => .yld 0 [.i .i64 ((k + cpre (a.reverse.drop k) (b.reverse.drop k) : Nat) : Int)]) (fun k => k ≤ a.length ∧ k ≤ b.length) (fun k => a.length - k) 0 rfl ⟨Nat.zero_le _, Nat.zero_le _⟩ (by omega) ?_
  · simpa [sameN, l0_ddiref01_same] using key
  · rintro k ⟨h1, h2⟩
    by_cases h3 : k < a.length
    · by_cases h4 : k < b.length
      · have e1 : ((a.length : Int) - 1 - k).toNat = a.length - 1 - k := by omega
        have e2 : ((b.length : Int) - 1 - k).toNat = b.length - 1 - k := by omega
        have g1 : a[a.length - 1 - k]? = some (a[a.length - 1 - k]'(by omega)) := List.getElem?_eq_getElem (by omega)
        have g2 : b[b.length - 1 - k]? = some (b[b.length - 1 - k]'(by omega)) := List.getElem?_eq_getElem (by omega)
        have d1 : a.reverse.drop k = (a[a.length - 1 - k]'(by omega)) :: a.reverse.drop (k + 1) := by
          rw [List.drop_eq_getElem_cons (by simpa using h3)]; simp
        have d2 : b.reverse.drop k = (b[b.length - 1 - k]'(by omega)) :: b.reverse.drop (k + 1) := by
          rw [List.drop_eq_getElem_cons (by simpa using h4)]; simp
        simp (disch := omega) only [x_ddiref01_same, EVP, ↓reduceIte, EV, if_true, if_false, Nat.reduceAdd, Nat.reduceEqDiff, Int.reduceToNat, ne_eq, not_true, not_false_eq_true, Bool.true_eq_false, reduceCtorEq, e1, e2, g1, g2]
        rw [d1, d2]
        simp only [cpre]
        by_cases h : a[a.length - 1 - k]'(by omega) = b[b.length - 1 - k]'(by omega)
        · left
          refine ⟨k + 1, by simp [h], ⟨by omega, by omega⟩, by omega, ?_⟩
          rw [if_pos h]
          congr 3
          push_cast
          omega
        · right
          simp [h, Out.goes]
      · right
        have d2 : b.reverse.drop k = [] := List.drop_eq_nil_of_le (by simp; omega)
        have z : cpre (a.reverse.drop k) [] = 0 := by cases a.reverse.drop k <;> rfl
        rw [d2, z]
        simp (disch := omega) [x_ddiref01_same, EVP, ↓reduceIte, EV, if_true, if_false, Nat.reduceAdd, Nat.reduceEqDiff, Int.reduceToNat, ne_eq, not_true, not_false_eq_true, Bool.true_eq_false, reduceCtorEq, Out.goes]
    · right
      have d1 : a.reverse.drop k = [] := List.drop_eq_nil_of_le (by simp; omega)
      have z : cpre [] (b.reverse.drop k) = 0 := rfl
      rw [d1, z]
      simp (disch := omega) [x_ddiref01_same, EVP, ↓reduceIte, EV, if_true, if_false, Nat.reduceAdd, Nat.reduceEqDiff, Int.reduceToNat, ne_eq, not_true, not_false_eq_true, Bool.true_eq_false, reduceCtorEq, Out.goes]
theorem same_ok (a b : List (List UInt8)) (ha : a.length ≤ 1000000) (hb : b.length ≤ 1000000) : S n_ddiref01_same 2 [strsPV a, strsPV b] = some [.i .i64 (sameN a b : Int)] := by
  refine s_ddiref01_same (N := a.length + 1) rfl ?_
  simp (disch := omega) only [x_ddiref01_same, same_l0, EVP, ↓reduceIte, EV, if_true, if_false, Nat.reduceAdd, Nat.reduceEqDiff, Int.reduceToNat, ne_eq, not_true, not_false_eq_true, Bool.true_eq_false, reduceCtorEq]

def under (n top : List UInt8) : Bool := vld n && vld top && decide (sameN (lbl n) (lbl top) = (lbl top).length)
theorem Under1_ok (n top : List UInt8) (hn : n.length ≤ 9223372036854775807) (ht : top.length ≤ 9223372036854775807) : S n_ddiref01_Under 2 [.s n, .s top] = some [.b (under n top)] := by
  refine s_ddiref01_Under (N := 1) rfl ?_
  have h1 := lbl_len n
  have h2 := lbl_len top
  unfold under
  cases h3 : vld n <;> cases h4 : vld top <;> simp (disch := omega) only [x_ddiref01_Under, split_ok, same_ok, h3, h4, EVP, ↓reduceIte, EV, if_true, if_false, Nat.reduceAdd, Nat.reduceEqDiff, Int.reduceToNat, ne_eq, not_true, not_false_eq_true, Bool.true_eq_false, reduceCtorEq]
  all_goals (simp; try omega)

/-- a comparison of strings -/
def cmpS (a b : List UInt8) : Int := if Op.bytesLess a b then -1 else if a = b then 0 else 1
theorem text1_ok (a b : List UInt8) : S n_ddiref01_text 2 [.s a, .s b] = some [.i .i64 (cmpS a b)] := by
  refine s_ddiref01_text (N := 1) rfl ?_
  unfold cmpS
  simp (disch := omega) only [x_ddiref01_text, EVP, ↓reduceIte, EV, if_true, if_false, Nat.reduceAdd, Nat.reduceEqDiff, Int.reduceToNat, ne_eq, not_true, not_false_eq_true, Bool.true_eq_false, reduceCtorEq]
  cases h : Op.bytesLess a b
  · by_cases h2 : a = b <;> simp [h2]
  · simp
/-- the canonical order of names -/
def cmpN (a b : List UInt8) : Int :=
  if vld a && vld b then
    let k := sameN (lbl a) (lbl b)
    if k < (lbl a).length ∧ k < (lbl b).length then cmpS ((lbl a).getD ((lbl a).length - 1 - k) []) ((lbl b).getD ((lbl b).length - 1 - k) [])
    else if (lbl a).length < (lbl b).length then -1 else if (lbl b).length < (lbl a).length then 1 else 0
  else if vld a then -1 else if vld b then 1 else cmpS a b
theorem Compare1_ok (a b : List UInt8) (hn : a.length ≤ 9223372036854775807) (ht : b.length ≤ 9223372036854775807) : S n_ddiref01_Compare 2 [.s a, .s b] = some [.i .i64 (cmpN a b)] := by
  refine s_ddiref01_Compare (N := 1) rfl ?_
  have h1 := lbl_len a
  have h2 := lbl_len b
  have h5 := sameN_le (lbl a) (lbl b)
  unfold cmpN
  cases h3 : vld a <;> cases h4 : vld b
  · simp (disch := omega) [x_ddiref01_Compare, split_ok, text1_ok, h3, h4, EVP, ↓reduceIte, EV, if_true, if_false, Nat.reduceAdd, Nat.reduceEqDiff, Int.reduceToNat, ne_eq, not_true, not_false_eq_true, Bool.true_eq_false, reduceCtorEq]
  · simp (disch := omega) [x_ddiref01_Compare, split_ok, text1_ok, h3, h4, EVP, ↓reduceIte, EV, if_true, if_false, Nat.reduceAdd, Nat.reduceEqDiff, Int.reduceToNat, ne_eq, not_true, not_false_eq_true, Bool.true_eq_false, reduceCtorEq]
  · simp (disch := omega) [x_ddiref01_Compare, split_ok, text1_ok, h3, h4, EVP, ↓reduceIte, EV, if_true, if_false, Nat.reduceAdd, Nat.reduceEqDiff, Int.reduceToNat, ne_eq, not_true, not_false_eq_true, Bool.true_eq_false, reduceCtorEq]
  · by_cases h6 : sameN (lbl a) (lbl b) < (lbl a).length ∧ sameN (lbl a) (lbl b) < (lbl b).length
    · obtain ⟨h7, h8⟩ := h6
      have e1 : (((lbl a).length : Int) - 1 - (sameN (lbl a) (lbl b) : Int)).toNat = (lbl a).length - 1 - sameN (lbl a) (lbl b) := by omega
      have e2 : (((lbl b).length : Int) - 1 - (sameN (lbl a) (lbl b) : Int)).toNat = (lbl b).length - 1 - sameN (lbl a) (lbl b) := by omega
      have g1 := List.getElem?_eq_getElem (l := lbl a) (i := (lbl a).length - 1 - sameN (lbl a) (lbl b)) (by omega)
      have g2 := List.getElem?_eq_getElem (l := lbl b) (i := (lbl b).length - 1 - sameN (lbl a) (lbl b)) (by omega)
      simp (disch := omega) only [x_ddiref01_Compare, split_ok, same_ok, text1_ok, h3, h4, e1, e2, g1, g2, EVP, ↓reduceIte, EV, if_true, if_false, Nat.reduceAdd, Nat.reduceEqDiff, Int.reduceToNat, ne_eq, not_true, not_false_eq_true, Bool.true_eq_false, reduceCtorEq]
      simp [h7, h8, g1, g2]
    · simp (disch := omega) only [x_ddiref01_Compare, split_ok, same_ok, text1_ok, h3, h4, EVP, ↓reduceIte, EV, if_true, if_false, Nat.reduceAdd, Nat.reduceEqDiff, Int.reduceToNat, ne_eq, not_true, not_false_eq_true, Bool.true_eq_false, reduceCtorEq]
      simp only [h6]
      grind
end Go.X.G
/- Data of records: what the reference's functions give. -/
namespace Go.X.G
open Go Go.X

def mnem (t : Int) : List UInt8 :=
  if t = 1 then [65] else if t = 2 then [78, 83] else if t = 5 then [67, 78, 65, 77, 69] else if t = 6 then [83, 79, 65] else if t = 12 then [80, 84, 82]
  else if t = 15 then [77, 88] else if t = 16 then [84, 88, 84] else if t = 28 then [65, 65, 65, 65] else if t = 33 then [83, 82, 86] else if t = 39 then [68, 78, 65, 77, 69]
  else if t = 43 then [68, 83] else if t = 46 then [82, 82, 83, 73, 71] else if t = 47 then [78, 83, 69, 67] else if t = 48 then [68, 78, 83, 75, 69, 89] else []
theorem t15 (t : Int) : t = 1 ∨ t = 2 ∨ t = 5 ∨ t = 6 ∨ t = 12 ∨ t = 15 ∨ t = 16 ∨ t = 28 ∨ t = 33 ∨ t = 39 ∨ t = 43 ∨ t = 46 ∨ t = 47 ∨ t = 48 ∨ (t ≠ 1 ∧ t ≠ 2 ∧ t ≠ 5 ∧ t ≠ 6 ∧ t ≠ 12 ∧ t ≠ 15 ∧ t ≠ 16 ∧ t ≠ 28 ∧ t ≠ 33 ∧ t ≠ 39 ∧ t ≠ 43 ∧ t ≠ 46 ∧ t ≠ 47 ∧ t ≠ 48) := by omega
theorem Mnemonic_ok (t : Int) : S n_ddiref05_Mnemonic 1 [.i .i64 t] = some [.s (mnem t)] := by
  refine s_ddiref05_Mnemonic (N := 1) rfl ?_
  rcases t15 t with rfl | rfl | rfl | rfl | rfl | rfl | rfl | rfl | rfl | rfl | rfl | rfl | rfl | rfl | ⟨h0, h1, h2, h3, h4, h5, h6, h7, h8, h9, h10, h11, h12, h13⟩
  all_goals simp (disch := omega) only [x_ddiref05_Mnemonic, EVP, ↓reduceIte, EV, if_true, if_false, Nat.reduceAdd, Nat.reduceEqDiff, Int.reduceToNat, ne_eq, not_true, not_false_eq_true, Bool.true_eq_false, reduceCtorEq]
  all_goals first | rfl | (unfold mnem; simp only [if_neg, *]; rfl)
/-- a known type -/
def knw (t : Int) : Bool := decide (t = 1) || decide (t = 2) || decide (t = 5) || decide (t = 6) || decide (t = 12) || decide (t = 15) || decide (t = 16) || decide (t = 28) || decide (t = 33) || decide (t = 39) || decide (t = 43) || decide (t = 46) || decide (t = 47) || decide (t = 48)
theorem knw_mnem (t : Int) : decide (mnem t ≠ []) = knw t := by
  unfold mnem knw
  rcases t15 t with rfl | rfl | rfl | rfl | rfl | rfl | rfl | rfl | rfl | rfl | rfl | rfl | rfl | rfl | ⟨h0, h1, h2, h3, h4, h5, h6, h7, h8, h9, h10, h11, h12, h13⟩
  all_goals simp [*]
theorem Known5_ok (t : Int) : S n_ddiref05_Known 1 [.i .i64 t] = some [.b (knw t)] := by
  refine s_ddiref05_Known (N := 1) rfl ?_
  simp (disch := omega) only [x_ddiref05_Known, Mnemonic_ok, knw_mnem, EVP, ↓reduceIte, EV, if_true, if_false, Nat.reduceAdd, Nat.reduceEqDiff, Int.reduceToNat, ne_eq, not_true, not_false_eq_true, Bool.true_eq_false, reduceCtorEq]
theorem Single_ok (t : Int) : S n_ddiref05_Single 1 [.i .i64 t] = some [.b (decide (t = 6) || decide (t = 5) || decide (t = 39))] := by
  refine s_ddiref05_Single (N := 1) rfl ?_
  simp (disch := omega) only [x_ddiref05_Single, EVP, ↓reduceIte, EV, if_true, if_false, Nat.reduceAdd, Nat.reduceEqDiff, Int.reduceToNat, ne_eq, not_true, not_false_eq_true, Bool.true_eq_false, reduceCtorEq]
def addrOk (d : Dat) : Bool := d.v6 || (decide (d.hi = 0) && decide (d.lo < 4294967296))
theorem Valid2_ok (d : Dat) : S n_ddiref02_Valid 1 [addrPV d] = some [.b (addrOk d)] := by
  refine s_ddiref02_Valid (N := 1) rfl ?_
  unfold addrOk
  cases h : d.v6 <;> by_cases h2 : d.hi = 0 <;> simp (disch := omega) [x_ddiref02_Valid, h, h2, EVP, ↓reduceIte, EV, if_true, if_false, Nat.reduceAdd, Nat.reduceEqDiff, Int.reduceToNat, ne_eq, not_true, not_false_eq_true, Bool.true_eq_false, reduceCtorEq]
def inB (n most : Int) : Bool := decide (0 ≤ n) && decide (n ≤ most)
theorem in_ok (n m : Int) : S n_ddiref05_in 2 [.i .i64 n, .i .i64 m] = some [.b (inB n m)] := by
  refine s_ddiref05_in (N := 1) rfl ?_
  simp (disch := omega) only [x_ddiref05_in, inB, EVP, ↓reduceIte, EV, if_true, if_false, Nat.reduceAdd, Nat.reduceEqDiff, Int.reduceToNat, ne_eq, not_true, not_false_eq_true, Bool.true_eq_false, reduceCtorEq]
theorem Valid4_ok (n : Int) : S n_ddiref04_Valid 1 [.i .i64 n] = some [.b (inB n 4294967295)] := by
  refine s_ddiref04_Valid (N := 1) rfl ?_
  simp (disch := omega) only [x_ddiref04_Valid, inB, EVP, ↓reduceIte, EV, if_true, if_false, Nat.reduceAdd, Nat.reduceEqDiff, Int.reduceToNat, ne_eq, not_true, not_false_eq_true, Bool.true_eq_false, reduceCtorEq]
  congr 5
  simp; omega
def txtOk (s : List UInt8) : Bool := decide (1 ≤ s.length) && decide (s.length ≤ 255)
theorem text5_ok (s : List UInt8) : S n_ddiref05_text 1 [.s s] = some [.b (txtOk s)] := by
  refine s_ddiref05_text (N := 1) rfl ?_
  simp (disch := omega) only [x_ddiref05_text, txtOk, EVP, ↓reduceIte, EV, if_true, if_false, Nat.reduceAdd, Nat.reduceEqDiff, Int.reduceToNat, ne_eq, not_true, not_false_eq_true, Bool.true_eq_false, reduceCtorEq]
  congr 5 <;> simp <;> omega
theorem vld_pos {n : List UInt8} (h : vld n = true) : 0 < n.length := by
  unfold vld nm at h
  split at h
  · rename_i e; simp [e]
  · split at h
    · omega
    · cases h
def hostOk (n : List UInt8) : Bool := vld n && decide (n[0]? ≠ some 42)
theorem host5_ok (n : List UInt8) (hn : n.length ≤ 9223372036854775807) : S n_ddiref05_host 1 [.s n] = some [.b (hostOk n)] := by
  refine s_ddiref05_host (N := 1) rfl ?_
  unfold hostOk
  cases h : vld n
  · simp (disch := omega) only [x_ddiref05_host, Valid1_ok, h, EVP, ↓reduceIte, EV, if_true, if_false, Nat.reduceAdd, Nat.reduceEqDiff, Int.reduceToNat, ne_eq, not_true, not_false_eq_true, Bool.true_eq_false, reduceCtorEq]
    rfl
  · have h0 := List.getElem?_eq_getElem (vld_pos h)
    have h1 := u8_eq (n[0]'(vld_pos h)) 42 (by omega)
    simp (disch := omega) only [x_ddiref05_host, Valid1_ok, h, h0, EVP, ↓reduceIte, EV, if_true, if_false, Nat.reduceAdd, Nat.reduceEqDiff, Int.reduceToNat, ne_eq, not_true, not_false_eq_true, Bool.true_eq_false, reduceCtorEq]
    simp
    exact h1
/-- one bit of a set -/
def bit (set : Int) (t : Nat) : Int := set / 2 ^ t % 2
theorem and1 (x : Int) : IntKind.u64.wrap ((BitVec.ofInt IntKind.u64.bits x &&& BitVec.ofInt IntKind.u64.bits 1).toNat : Int) = x % 2 := by
  have h2 : (BitVec.ofInt 64 x &&& BitVec.ofInt 64 1).toNat = (BitVec.ofInt 64 x).toNat % 2 := by
    rw [BitVec.toNat_and]
    show (BitVec.ofInt 64 x).toNat &&& 1 = _
    exact Nat.and_one_is_mod _
  show IntKind.u64.wrap (((BitVec.ofInt 64 x &&& BitVec.ofInt 64 1).toNat : Nat) : Int) = _
  rw [h2, BitVec.toNat_ofInt]
  rw [wu64] <;> omega
end Go.X.G
/- Data of records: bytes. -/
namespace Go.X.G
open Go Go.X

def allK (set : Int) (i : Nat) : Nat → Bool
  | 0 => true
  | k + 1 => (!decide (bit set i = 1) || knw (i : Int)) && allK set (i + 1) k
theorem all_l0 (set : Int) (N : Nat) (hN : 64 < N) :
    l0_ddiref05_all.ev S N [.i .u64 set] = some (if allK set 0 64 = true then .yld 0 [] else .ret [.b false]) := by
  refine loop_for 64 (fun i => [.i .i64 (i : Int)]) (fun i => if allK set i (64 - i) = true then .yld 0 [] else .ret [.b false]) rfl hN (fun i hi => ?_) ?_
  · obtain ⟨k, hk⟩ : ∃ k, 64 - i = k + 1 := ⟨63 - i, by omega⟩
    have hk' : 64 - (i + 1) = k := by omega
    have hb : IntKind.u64.bits = 64 := rfl
    have hi' : i < IntKind.u64.bits := by rw [hb]; exact hi
    have h0 : X.bin .shr (.i .u64 set) (.i .u64 (i : Int)) = some (.i .u64 (set / 2 ^ i)) := shr_n _ _ _ _ hi'
    have h1 : set / 2 ^ i % 2 = bit set i := rfl
    rw [hk, hk']
    simp only [allK]
    by_cases h2 : bit set i = 1 <;> rcases Bool.eq_false_or_eq_true (knw (i : Int)) with h3 | h3 <;> simp (disch := omega) only [x_ddiref05_all, Known5_ok, bin_and, and1, h0, h1, h2, h3, EVP, ↓reduceIte, EV, if_true, if_false, Nat.reduceAdd, Nat.reduceEqDiff, Int.reduceToNat, ne_eq, not_true, not_false_eq_true, Bool.true_eq_false, reduceCtorEq]
    all_goals simp [Out.goes]
  · simp (disch := omega) [x_ddiref05_all, EVP, ↓reduceIte, EV, if_true, if_false, Nat.reduceAdd, Nat.reduceEqDiff, Int.reduceToNat, ne_eq, not_true, not_false_eq_true, Bool.true_eq_false, reduceCtorEq, Out.goes, allK]
theorem all_ok (set : Int) : S n_ddiref05_all 1 [.i .u64 set] = some [.b (allK set 0 64)] := by
  refine s_ddiref05_all (N := 65) rfl ?_
  simp (disch := omega) only [x_ddiref05_all, all_l0, EVP, ↓reduceIte, EV, if_true, if_false, Nat.reduceAdd, Nat.reduceEqDiff, Int.reduceToNat, ne_eq, not_true, not_false_eq_true, Bool.true_eq_false, reduceCtorEq]
  cases allK set 0 64 <;> rfl

/-- a number in so many bytes, the greatest first -/
def be (v : Int) : Nat → List UInt8
  | 0 => []
  | n + 1 => UInt8.ofNat (v / 256 ^ n % 256).toNat :: be v n
theorem be_len (v : Int) : ∀ n, (be v n).length = n
  | 0 => rfl
  | n + 1 => by simp [be, be_len v n]
theorem of_byte (z : Int) (h1 : 0 ≤ z) (h2 : z < 256) : ((UInt8.ofNat z.toNat).toNat : Int) = z := by
  simp; omega
theorem div_pow (v : Int) (j : Nat) : v / 256 ^ j / 256 = v / 256 ^ (j + 1) := by
  rw [Int.pow_succ, Int.ediv_ediv_of_nonneg (Int.le_of_lt (Int.pow_pos (by decide)))]
theorem div_nn (v : Int) (j : Nat) (h : 0 ≤ v) : 0 ≤ v / 256 ^ j := Int.ediv_nonneg h (Int.le_of_lt (Int.pow_pos (by decide)))
theorem div_le (v : Int) (j : Nat) (h : 0 ≤ v) : v / 256 ^ j ≤ v := Int.ediv_le_self _ h

theorem octets_l1 (v : Int) (n i : Nat) (p q : PV) (N : Nat) (hN : i < N) (hi : i ≤ 1000) (h0 : 0 ≤ v) (h1 : v ≤ 18446744073709551615) :
    l1_ddiref02_octets.ev S N [.i .u64 v, p, q, .i .i64 (i : Int)] = some (.yld 2 [.i .u64 (v / 256 ^ i)]) := by
  refine loop_for i (fun j => [.i .u64 (v / 256 ^ j), .i .i64 (j : Int)]) (fun j => .yld 2 [.i .u64 (v / 256 ^ i)]) (by simp [evs_cons, evs_nil, ev_v, ev_c]) hN (fun j hj => ?_) ?_
  · left
    have h2 := div_nn v j h0
    have h3 := div_le v j h0
    have h4 := div_pow v j
    simp (disch := omega) only [x_ddiref02_octets, h4, EVP, ↓reduceIte, EV, if_true, if_false, Nat.reduceAdd, Nat.reduceEqDiff, Int.reduceToNat, ne_eq, not_true, not_false_eq_true, Bool.true_eq_false, reduceCtorEq]
    simp
  · simp (disch := omega) only [x_ddiref02_octets, EVP, ↓reduceIte, EV, if_true, if_false, Nat.reduceAdd, Nat.reduceEqDiff, Int.reduceToNat, ne_eq, not_true, not_false_eq_true, Bool.true_eq_false, reduceCtorEq]
    simp [Out.goes]
theorem octets_l0 (v : Int) (n : Nat) (N : Nat) (hN : n + 1 < N) (hn : n ≤ 1000) (h0 : 0 ≤ v) (h1 : v ≤ 18446744073709551615) :
    l0_ddiref02_octets.ev S N [.i .u64 v, .i .i64 (n : Int)] = some (.yld 0 [.l 1 (bytesPV (be v n))]) := by
  have key := loop_rule (fn := S) (N := N) (η := [.i .u64 v, .i .i64 (n : Int)]) (id := 1) (init := [(.c (.l 1 [])), (.bin .sub (.v 1) (.c (.i .i64 (1))))]) (body := b0_ddiref02_octets) (α := Nat × List UInt8) (fun a => [.l 1 (bytesPV a.2), .i .i64 ((a.1 : Int) - 1)]) (fun a => .yld 0 [.l 1 (bytesPV (a.2 ++ be v a.1))]) (fun a => a.1 + a.2.length = n) (fun a => a.1) (n, []) (by simp (disch := omega) only [EVP, ↓reduceIte, EV, if_true, if_false, Nat.reduceAdd, Nat.reduceEqDiff, Int.reduceToNat, ne_eq, not_true, not_false_eq_true, Bool.true_eq_false, reduceCtorEq]; rfl) rfl (by simp only; omega) ?_
  · simpa [l0_ddiref02_octets] using key
  · rintro ⟨m, acc⟩ hm
    simp only at hm ⊢
    cases m with
    | zero =>
      right
      simp (disch := omega) only [x_ddiref02_octets, EVP, ↓reduceIte, EV, if_true, if_false, Nat.reduceAdd, Nat.reduceEqDiff, Int.reduceToNat, ne_eq, not_true, not_false_eq_true, Bool.true_eq_false, reduceCtorEq]
      simp [be, Out.goes]
    | succ m =>
      left
      have h2 := div_nn v m h0
      have h3 := div_le v m h0
      have e : ((m + 1 : Nat) : Int) - 1 = (m : Int) := by omega
      have e2 := of_byte (v / 256 ^ m % 256) (by omega) (by omega)
      have e3 := bytes_len acc
      refine ⟨(m, acc ++ [UInt8.ofNat (v / 256 ^ m % 256).toNat]), ?_, by simp; omega, by simp, by simp [be]⟩
      rw [e]
      have hin := octets_l1 v n m (.i .i64 (n : Int)) (.l 1 (bytesPV acc)) N (by omega) (by omega) h0 h1
      simp (disch := omega) only [x_ddiref02_octets, hin, EVP, ↓reduceIte, EV, if_true, if_false, Nat.reduceAdd, Nat.reduceEqDiff, Int.reduceToNat, ne_eq, not_true, not_false_eq_true, Bool.true_eq_false, reduceCtorEq]
      rw [← bytes_snoc, e2]
theorem octets_ok (v : Int) (n : Nat) (hn : n ≤ 1000) (h0 : 0 ≤ v) (h1 : v ≤ 18446744073709551615) : S n_ddiref02_octets 2 [.i .u64 v, .i .i64 (n : Int)] = some [.s (be v n)] := by
  refine s_ddiref02_octets (N := n + 2) rfl ?_
  simp (disch := omega) only [x_ddiref02_octets, octets_l0, EVP, ↓reduceIte, EV, if_true, if_false, Nat.reduceAdd, Nat.reduceEqDiff, Int.reduceToNat, ne_eq, not_true, not_false_eq_true, Bool.true_eq_false, reduceCtorEq]

theorem Number_l1 (v : Int) (n i : Nat) (p q : PV) (N : Nat) (hN : i < N) (hi : i ≤ 1000) (h0 : 0 ≤ v) (h1 : v ≤ 9223372036854775807) :
    l1_ddiref05_Number.ev S N [.i .i64 v, p, q, .i .i64 (i : Int)] = some (.yld 2 [.i .i64 (v / 256 ^ i)]) := by
  refine loop_for i (fun j => [.i .i64 (v / 256 ^ j), .i .i64 (j : Int)]) (fun j => .yld 2 [.i .i64 (v / 256 ^ i)]) (by simp [evs_cons, evs_nil, ev_v, ev_c]) hN (fun j hj => ?_) ?_
  · left
    have h2 := div_nn v j h0
    have h3 := div_le v j h0
    have h4 := div_pow v j
    simp (disch := omega) only [x_ddiref05_Number, h4, EVP, ↓reduceIte, EV, if_true, if_false, Nat.reduceAdd, Nat.reduceEqDiff, Int.reduceToNat, ne_eq, not_true, not_false_eq_true, Bool.true_eq_false, reduceCtorEq]
    simp
  · simp (disch := omega) only [x_ddiref05_Number, EVP, ↓reduceIte, EV, if_true, if_false, Nat.reduceAdd, Nat.reduceEqDiff, Int.reduceToNat, ne_eq, not_true, not_false_eq_true, Bool.true_eq_false, reduceCtorEq]
    simp [Out.goes]
theorem Number_l0 (v : Int) (n : Nat) (N : Nat) (hN : n + 1 < N) (hn : n ≤ 1000) (h0 : 0 ≤ v) (h1 : v ≤ 9223372036854775807) :
    l0_ddiref05_Number.ev S N [.i .i64 v, .i .i64 (n : Int)] = some (.yld 0 [.l 1 (bytesPV (be v n))]) := by
  have key := loop_rule (fn := S) (N := N) (η := [.i .i64 v, .i .i64 (n : Int)]) (id := 1) (init := [(.c (.l 1 [])), (.bin .sub (.v 1) (.c (.i .i64 (1))))]) (body := b0_ddiref05_Number) (α := Nat × List UInt8) (fun a => [.l 1 (bytesPV a.2), .i .i64 ((a.1 : Int) - 1)]) (fun a => .yld 0 [.l 1 (bytesPV (a.2 ++ be v a.1))]) (fun a => a.1 + a.2.length = n) (fun a => a.1) (n, []) (by simp (disch := omega) only [EVP, ↓reduceIte, EV, if_true, if_false, Nat.reduceAdd, Nat.reduceEqDiff, Int.reduceToNat, ne_eq, not_true, not_false_eq_true, Bool.true_eq_false, reduceCtorEq]; rfl) rfl (by simp only; omega) ?_
  · simpa [l0_ddiref05_Number] using key
  · rintro ⟨m, acc⟩ hm
    simp only at hm ⊢
    cases m with
    | zero =>
      right
      simp (disch := omega) only [x_ddiref05_Number, EVP, ↓reduceIte, EV, if_true, if_false, Nat.reduceAdd, Nat.reduceEqDiff, Int.reduceToNat, ne_eq, not_true, not_false_eq_true, Bool.true_eq_false, reduceCtorEq]
      simp [be, Out.goes]
    | succ m =>
      left
      have h2 := div_nn v m h0
      have h3 := div_le v m h0
      have e : ((m + 1 : Nat) : Int) - 1 = (m : Int) := by omega
      have e2 := of_byte (v / 256 ^ m % 256) (by omega) (by omega)
      have e3 := bytes_len acc
      refine ⟨(m, acc ++ [UInt8.ofNat (v / 256 ^ m % 256).toNat]), ?_, by simp; omega, by simp, by simp [be]⟩
      rw [e]
      have hin := Number_l1 v n m (.i .i64 (n : Int)) (.l 1 (bytesPV acc)) N (by omega) (by omega) h0 h1
      simp (disch := omega) only [x_ddiref05_Number, hin, EVP, ↓reduceIte, EV, if_true, if_false, Nat.reduceAdd, Nat.reduceEqDiff, Int.reduceToNat, ne_eq, not_true, not_false_eq_true, Bool.true_eq_false, reduceCtorEq]
      rw [← bytes_snoc, e2]
theorem Number_ok (v : Int) (n : Nat) (hn : n ≤ 1000) (h0 : 0 ≤ v) (h1 : v ≤ 9223372036854775807) : S n_ddiref05_Number 2 [.i .i64 v, .i .i64 (n : Int)] = some [.s (be v n)] := by
  refine s_ddiref05_Number (N := n + 2) rfl ?_
  simp (disch := omega) only [x_ddiref05_Number, Number_l0, EVP, ↓reduceIte, EV, if_true, if_false, Nat.reduceAdd, Nat.reduceEqDiff, Int.reduceToNat, ne_eq, not_true, not_false_eq_true, Bool.true_eq_false, reduceCtorEq]
end Go.X.G
/- Data of records: the wire form. -/
namespace Go.X.G
open Go Go.X

theorem isLab_len {s : List UInt8} (h : isLab s = true) : s.length ≤ 63 := by
  unfold isLab at h
  simp at h
  rcases h with h | h
  · simp [h]
  · omega
theorem spl_each : ∀ (r : List UInt8) (f : Bool) (cur : List UInt8) (l : List (List UInt8)), spl f cur r = some l → ∀ x ∈ l, isLab x = true
  | [], f, cur, l, h => by simp [spl] at h; subst h; simp
  | c :: r, f, cur, l, h => by
    simp only [spl] at h
    split at h
    · split at h
      · rename_i h2
        obtain ⟨m, hm, rfl⟩ := Option.map_eq_some_iff.1 h
        intro x hx
        simp at hx
        rcases hx with rfl | hx
        · exact h2.1
        · exact spl_each r _ _ _ hm x hx
      · cases h
    · exact spl_each r _ _ _ h
theorem lbl_each (n : List UInt8) : ∀ x ∈ lbl n, isLab x = true := by
  unfold lbl nm
  split
  · simp
  · split
    · cases h : spl true [] n with
      | none => simp
      | some l => simpa using spl_each _ _ _ _ h
    · simp

def wireL (l : List (List UInt8)) : List UInt8 := l.flatMap fun x => be (x.length : Int) 1 ++ x
/-- a name's bytes -/
def wireN (n : List UInt8) : List UInt8 := wireL (lbl n) ++ be 0 1
theorem wireL_len : ∀ (l : List (List UInt8)), (∀ x ∈ l, isLab x = true) → (wireL l).length ≤ 64 * l.length
  | [], _ => by simp [wireL]
  | x :: l, h => by
    have h1 := isLab_len (h x (by simp))
    have h2 := wireL_len l (fun y hy => h y (by simp [hy]))
    simp only [wireL, List.flatMap_cons, List.length_append, be_len, List.length_cons] at h2 ⊢
    omega
theorem wireN_len (n : List UInt8) : (wireN n).length ≤ 20000 := by
  have h1 := wireL_len (lbl n) (lbl_each n)
  have h2 := lbl_len n
  simp only [wireN, List.length_append, be_len]
  omega
theorem WireName_l0 (n : List UInt8) (N : Nat) (hN : 254 < N) :
    l0_ddiref05_WireName.ev S N [.s n, strsPV (lbl n)] = some (.yld 0 [.s (wireL (lbl n))]) := by
  have hl := lbl_len n
  have key := loop_acc (fn := S) (N := N) (η := [.s n, strsPV (lbl n)]) (id := 1) (init := [(.c (.s [])), (.c (.i .i64 (0)))]) (body := b0_ddiref05_WireName) (lbl n) (fun i (g : List UInt8) => [.s g, .i .i64 (i : Int)]) (fun i g r => .yld 0 [.s (g ++ wireL r)]) (fun i g => g.length ≤ 64 * i) [] rfl (Nat.le_refl _) (by omega) (fun i g c r hd hi hc hI => ?_) (fun g hI => ?_)
  · simpa [l0_ddiref05_WireName] using key
  · left
    have h1 := isLab_len (lbl_each n c (List.mem_of_getElem? hc))
    have h2 := Number_ok (c.length : Int) 1 (by omega) (by omega) (by omega)
    have h3 := be_len (c.length : Int) 1
    have h4 : (be (c.length : Int) 1 ++ c).length = 1 + c.length := by rw [List.length_append, h3]
    refine ⟨g ++ (be (c.length : Int) 1 ++ c), ?_, ?_, ?_⟩
    · simp only [Int.natCast_one] at h2
      simp (disch := omega) only [x_ddiref05_WireName, hc, h2, EVP, ↓reduceIte, EV, if_true, if_false, Nat.reduceAdd, Nat.reduceEqDiff, Int.reduceToNat, ne_eq, not_true, not_false_eq_true, Bool.true_eq_false, reduceCtorEq]
    · rw [List.length_append, h4]; omega
    · simp [wireL]
  · simp (disch := omega) only [x_ddiref05_WireName, EVP, ↓reduceIte, EV, if_true, if_false, Nat.reduceAdd, Nat.reduceEqDiff, Int.reduceToNat, ne_eq, not_true, not_false_eq_true, Bool.true_eq_false, reduceCtorEq]
    simp [Out.goes, wireL]
theorem WireName_ok (n : List UInt8) (hn : n.length ≤ 9223372036854775807) : S n_ddiref05_WireName 1 [.s n] = some [.s (wireN n)] := by
  refine s_ddiref05_WireName (N := 255) rfl ?_
  have h1 := wireL_len (lbl n) (lbl_each n)
  have h2 := lbl_len n
  have h3 := be_len 0 1
  have h4 := Number_ok 0 1 (by omega) (by omega) (by omega)
  simp only [Int.natCast_one] at h4
  simp (disch := omega) only [x_ddiref05_WireName, Labels1_ok, WireName_l0, h4, EVP, ↓reduceIte, EV, if_true, if_false, Nat.reduceAdd, Nat.reduceEqDiff, Int.reduceToNat, ne_eq, not_true, not_false_eq_true, Bool.true_eq_false, reduceCtorEq]
  rfl

/-! ### the bitmap -/
def bmV (set : Int) (i : Nat) : Nat → Int
  | 0 => 0
  | j + 1 => bmV set i j * 2 + bit set (i * 8 + j)
theorem bit_01 (set : Int) (t : Nat) : 0 ≤ bit set t ∧ bit set t ≤ 1 := by unfold bit; omega
theorem bmV_bd (set : Int) (i : Nat) : ∀ j, 0 ≤ bmV set i j ∧ bmV set i j < 2 ^ j
  | 0 => by simp [bmV]
  | j + 1 => by
    have h1 := bmV_bd set i j
    have h2 := bit_01 set (i * 8 + j)
    simp only [bmV, Int.pow_succ]
    omega
def bmB (set : Int) (i : Nat) : UInt8 := UInt8.ofNat (bmV set i 8).toNat
def bmL (set : Int) : Nat → Nat
  | 0 => 0
  | i + 1 => if bmV set i 8 ≠ 0 then i + 1 else bmL set i
theorem bmL_le (set : Int) : ∀ i, bmL set i ≤ i
  | 0 => Nat.le_refl _
  | i + 1 => by have := bmL_le set i; simp only [bmL]; split <;> omega
def bmap (set : Int) : List UInt8 := ((List.range 8).map (bmB set)).take (bmL set 8)
theorem bitmap_l1 (set : Int) (p q : PV) (i : Nat) (hi : i < 8) (N : Nat) (hN : 8 < N) :
    l1_ddiref05_bitmap.ev S N [.i .u64 set, p, q, .i .i64 (i : Int)] = some (.yld 2 [.i .i64 (bmV set i 8)]) := by
  refine loop_for 8 (fun j => [.i .i64 (bmV set i j), .i .i64 (j : Int)]) (fun j => .yld 2 [.i .i64 (bmV set i 8)]) rfl hN (fun j hj => ?_) ?_
  · left
    have hb : IntKind.u64.bits = 64 := rfl
    have hi' : i * 8 + j < IntKind.u64.bits := by rw [hb]; omega
    have e : ((i : Int) * 8 + (j : Int)) = ((i * 8 + j : Nat) : Int) := by simp
    have h0 : X.bin .shr (.i .u64 set) (.i .u64 ((i * 8 + j : Nat) : Int)) = some (.i .u64 (set / 2 ^ (i * 8 + j))) := shr_n _ _ _ _ hi'
    have h1 : set / 2 ^ (i * 8 + j) % 2 = bit set (i * 8 + j) := rfl
    have h2 := bmV_bd set i j
    have h3 : (2 : Int) ^ j ≤ 128 := (by decide : ∀ j, j < 8 → (2 : Int) ^ j ≤ 128) j hj
    have h4 := bit_01 set (i * 8 + j)
    simp (disch := omega) only [x_ddiref05_bitmap, bin_and, and1, h0, h1, ← e, EVP, ↓reduceIte, EV, if_true, if_false, Nat.reduceAdd, Nat.reduceEqDiff, Int.reduceToNat, ne_eq, not_true, not_false_eq_true, Bool.true_eq_false, reduceCtorEq]
    refine ⟨?_, trivial⟩
    rw [e, h0]
    simp (disch := omega) only [bin_and, and1, h0, h1, EVP, ↓reduceIte, EV, if_true, if_false, Nat.reduceAdd, Nat.reduceEqDiff, Int.reduceToNat, ne_eq, not_true, not_false_eq_true, Bool.true_eq_false, reduceCtorEq]
    rfl
  · simp (disch := omega) only [x_ddiref05_bitmap, EVP, ↓reduceIte, EV, if_true, if_false, Nat.reduceAdd, Nat.reduceEqDiff, Int.reduceToNat, ne_eq, not_true, not_false_eq_true, Bool.true_eq_false, reduceCtorEq]
    simp [Out.goes]

theorem bitmap_l0 (set : Int) (N : Nat) (hN : 8 < N) :
    l0_ddiref05_bitmap.ev S N [.i .u64 set] = some (.yld 0 [.l 1 (bytesPV ((List.range 8).map (bmB set))), .i .i64 (bmL set 8 : Int)]) := by
  refine loop_for 8 (fun i => [.l 1 (bytesPV ((List.range i).map (bmB set))), .i .i64 (bmL set i : Int), .i .i64 (i : Int)]) (fun _ => .yld 0 [.l 1 (bytesPV ((List.range 8).map (bmB set))), .i .i64 (bmL set 8 : Int)]) rfl hN (fun i hi => ?_) ?_
  · left
    have h1 := bitmap_l1 set (.l 1 (bytesPV ((List.range i).map (bmB set)))) (.i .i64 (bmL set i : Int)) i hi N hN
    have h2 := bmV_bd set i 8
    have h3 : (2 : Int) ^ 8 = 256 := rfl
    have h4 := of_byte (bmV set i 8) (by omega) (by omega)
    have h5 : (bytesPV ((List.range i).map (bmB set))).length = i := by simp [bytes_len]
    have h6 : bytesPV ((List.range (i + 1)).map (bmB set)) = bytesPV ((List.range i).map (bmB set)) ++ [.i .u8 (bmV set i 8)] := by
      rw [List.range_succ, List.map_append, ← h4]
      exact (bytes_snoc _ _).symm
    rw [h6]
    by_cases h7 : bmV set i 8 = 0
    · simp (disch := omega) only [x_ddiref05_bitmap, h1, bmL, h7, EVP, ↓reduceIte, EV, if_true, if_false, Nat.reduceAdd, Nat.reduceEqDiff, Int.reduceToNat, ne_eq, not_true, not_false_eq_true, Bool.true_eq_false, reduceCtorEq]
      simp
    · simp (disch := omega) only [x_ddiref05_bitmap, h1, bmL, EVP, ↓reduceIte, EV, if_true, if_false, Nat.reduceAdd, Nat.reduceEqDiff, Int.reduceToNat, ne_eq, not_true, not_false_eq_true, Bool.true_eq_false, reduceCtorEq]
      simp [h7]
  · simp (disch := omega) only [x_ddiref05_bitmap, EVP, ↓reduceIte, EV, if_true, if_false, Nat.reduceAdd, Nat.reduceEqDiff, Int.reduceToNat, ne_eq, not_true, not_false_eq_true, Bool.true_eq_false, reduceCtorEq]
    simp [Out.goes]
theorem bitmap_ok (set : Int) : S n_ddiref05_bitmap 1 [.i .u64 set] = some [.s (bmap set)] := by
  refine s_ddiref05_bitmap (N := 9) rfl ?_
  have h1 := bmL_le set 8
  have h2 : (bytesPV ((List.range 8).map (bmB set))).length = 8 := by simp [bytes_len]
  have h3 : List.drop 0 (List.take (bmL set 8) (bytesPV ((List.range 8).map (bmB set)))) = bytesPV (bmap set) := by
    simp only [List.drop_zero, bmap, bytesPV, List.map_take]
  simp (disch := omega) only [x_ddiref05_bitmap, bitmap_l0, h3, EVP, ↓reduceIte, EV, if_true, if_false, Nat.reduceAdd, Nat.reduceEqDiff, Int.reduceToNat, ne_eq, not_true, not_false_eq_true, Bool.true_eq_false, reduceCtorEq]
theorem bmap_len (set : Int) : (bmap set).length ≤ 8 := by simp [bmap]; omega

/-! ### addresses -/
def wire2 (d : Dat) : List UInt8 := if d.v6 then be d.hi 8 ++ be d.lo 8 else be d.lo 4
theorem Wire2_ok (d : Dat) (h : d.wf) : S n_ddiref02_Wire 1 [addrPV d] = some (if addrOk d = true then [.s (wire2 d), .i .i64 0] else [.s [], .i .i64 3]) := by
  refine s_ddiref02_Wire (N := 1) rfl ?_
  have h1 := h.hi
  have h2 := h.lo
  have a1 := octets_ok d.hi 8 (by omega) h1.1 h1.2
  have a2 := octets_ok d.lo 8 (by omega) h2.1 h2.2
  have a3 := octets_ok d.lo 4 (by omega) h2.1 h2.2
  have b1 := be_len d.hi 8
  have b2 := be_len d.lo 8
  simp only [Int.cast_ofNat_Int] at a1 a2 a3
  unfold wire2
  rcases Bool.eq_false_or_eq_true (addrOk d) with h3 | h3 <;> rcases Bool.eq_false_or_eq_true d.v6 with h4 | h4 <;> simp (disch := omega) only [x_ddiref02_Wire, Valid2_ok, h3, h4, a1, a2, a3, EVP, ↓reduceIte, EV, if_true, if_false, Nat.reduceAdd, Nat.reduceEqDiff, Int.reduceToNat, ne_eq, not_true, not_false_eq_true, Bool.true_eq_false, reduceCtorEq]

/-! ### what fields a type has -/
def usd (t : Int) (d : Dat) : Dat :=
  if t = 1 ∨ t = 28 then ⟨d.v6, d.hi, d.lo, [], [], [], 0, 0, 0, 0, 0, 0, 0⟩
  else if t = 2 ∨ t = 5 ∨ t = 12 ∨ t = 39 then ⟨false, 0, 0, d.host, [], [], 0, 0, 0, 0, 0, 0, 0⟩
  else if t = 6 then ⟨false, 0, 0, d.host, d.mail, [], d.a, d.b, d.c, d.d, d.e, 0, 0⟩
  else if t = 15 then ⟨false, 0, 0, d.host, [], [], d.a, 0, 0, 0, 0, 0, 0⟩
  else if t = 16 then ⟨false, 0, 0, [], [], d.text, 0, 0, 0, 0, 0, 0, 0⟩
  else if t = 33 then ⟨false, 0, 0, d.host, [], [], d.a, d.b, d.c, 0, 0, 0, 0⟩
  else if t = 43 ∨ t = 48 then ⟨false, 0, 0, [], [], d.text, d.a, d.b, d.c, 0, 0, 0, 0⟩
  else if t = 46 then ⟨false, 0, 0, d.host, [], d.text, d.a, d.b, d.c, d.d, d.e, d.f, 0⟩
  else ⟨false, 0, 0, d.host, [], [], 0, 0, 0, 0, 0, 0, d.bits⟩
theorem used_ok (t : Int) (d : Dat) : S n_ddiref05_used 2 [.i .i64 t, d.pv] = some [(usd t d).pv] := by
  refine s_ddiref05_used (N := 1) rfl ?_
  rcases t15 t with rfl | rfl | rfl | rfl | rfl | rfl | rfl | rfl | rfl | rfl | rfl | rfl | rfl | rfl | ⟨h0, h1, h2, h3, h4, h5, h6, h7, h8, h9, h10, h11, h12, h13⟩
  all_goals simp (disch := omega) only [x_ddiref05_used, EVP, ↓reduceIte, EV, if_true, if_false, Nat.reduceAdd, Nat.reduceEqDiff, Int.reduceToNat, ne_eq, not_true, not_false_eq_true, Bool.true_eq_false, reduceCtorEq]
  all_goals first | rfl | (unfold usd; simp [*])
end Go.X.G
/- Data of records: which are valid. -/
namespace Go.X.G
open Go Go.X

def kindOk (t : Int) (d : Dat) : Bool :=
  if t = 1 then addrOk d && !d.v6
  else if t = 28 then d.v6
  else if t = 6 then hostOk d.host && hostOk d.mail && inB d.a 4294967295 && inB d.b 2147483647 && inB d.c 2147483647 && inB d.d 2147483647 && inB d.e 2147483647
  else if t = 15 then hostOk d.host && inB d.a 65535
  else if t = 16 then decide (d.text.length ≤ 255)
  else if t = 33 then hostOk d.host && inB d.a 65535 && inB d.b 65535 && inB d.c 65535
  else if t = 43 then inB d.a 65535 && inB d.b 255 && inB d.c 255 && txtOk d.text
  else if t = 46 then knw d.a && decide (d.a ≠ 46) && inB d.b 127 && inB d.c 2147483647 && inB d.d 4294967295 && inB d.e 4294967295 && inB d.f 65535 && hostOk d.host && txtOk d.text
  else if t = 47 then vld d.host && decide (d.bits ≠ 0) && allK d.bits 0 64
  else if t = 48 then (decide (d.a = 256) || decide (d.a = 257)) && decide (d.b = 3) && inB d.c 255 && txtOk d.text
  else hostOk d.host
def vldD (t : Int) (d : Dat) : Bool := knw t && decide (usd t d = d) && kindOk t d
theorem Valid5_ok (t : Int) (d : Dat) (h : d.wf) : S n_ddiref05_Valid 2 [.i .i64 t, d.pv] = some [.b (vldD t d)] := by
  refine s_ddiref05_Valid (N := 1) rfl ?_
  have g1 := h.host
  have g2 := h.mail
  have g3 := h.text
  unfold strr at g1 g2 g3
  rcases Bool.eq_false_or_eq_true (knw t) with hk | hk
  · by_cases hu : usd t d = d
    · rcases t15 t with rfl | rfl | rfl | rfl | rfl | rfl | rfl | rfl | rfl | rfl | rfl | rfl | rfl | rfl | ⟨h0, h1, h2, h3, h4, h5, h6, h7, h8, h9, h10, h11, h12, h13⟩
      · rcases ch2 (addrOk d) (d.v6) with e0 | ⟨e0, e1⟩ | ⟨e0, e1⟩
        all_goals simp (disch := omega) only [x_ddiref05_Valid, Known5_ok, used_ok, Valid2_ok, EVP, ↓reduceIte, EV, if_true, if_false, Nat.reduceAdd, Nat.reduceEqDiff, Int.reduceToNat, ne_eq, not_true, not_false_eq_true, Bool.true_eq_false, reduceCtorEq, hk, hu, *]
        all_goals (unfold vldD kindOk; simp [*])
      · simp (disch := omega) only [x_ddiref05_Valid, Known5_ok, used_ok, host5_ok, EVP, ↓reduceIte, EV, if_true, if_false, Nat.reduceAdd, Nat.reduceEqDiff, Int.reduceToNat, ne_eq, not_true, not_false_eq_true, Bool.true_eq_false, reduceCtorEq, hk, hu]
        unfold vldD kindOk; simp [*]
      · simp (disch := omega) only [x_ddiref05_Valid, Known5_ok, used_ok, host5_ok, EVP, ↓reduceIte, EV, if_true, if_false, Nat.reduceAdd, Nat.reduceEqDiff, Int.reduceToNat, ne_eq, not_true, not_false_eq_true, Bool.true_eq_false, reduceCtorEq, hk, hu]
        unfold vldD kindOk; simp [*]
      · rcases ch7 (hostOk d.host) (hostOk d.mail) (inB d.a 4294967295) (inB d.b 2147483647) (inB d.c 2147483647) (inB d.d 2147483647) (inB d.e 2147483647) with e0 | ⟨e0, e1⟩ | ⟨e0, e1, e2⟩ | ⟨e0, e1, e2, e3⟩ | ⟨e0, e1, e2, e3, e4⟩ | ⟨e0, e1, e2, e3, e4, e5⟩ | ⟨e0, e1, e2, e3, e4, e5, e6⟩ | ⟨e0, e1, e2, e3, e4, e5, e6⟩
        all_goals simp (disch := omega) only [x_ddiref05_Valid, Known5_ok, used_ok, host5_ok, Valid4_ok, in_ok, EVP, ↓reduceIte, EV, if_true, if_false, Nat.reduceAdd, Nat.reduceEqDiff, Int.reduceToNat, ne_eq, not_true, not_false_eq_true, Bool.true_eq_false, reduceCtorEq, hk, hu, *]
        all_goals (unfold vldD kindOk; simp [*])
      · simp (disch := omega) only [x_ddiref05_Valid, Known5_ok, used_ok, host5_ok, EVP, ↓reduceIte, EV, if_true, if_false, Nat.reduceAdd, Nat.reduceEqDiff, Int.reduceToNat, ne_eq, not_true, not_false_eq_true, Bool.true_eq_false, reduceCtorEq, hk, hu]
        unfold vldD kindOk; simp [*]
      · rcases ch2 (hostOk d.host) (inB d.a 65535) with e0 | ⟨e0, e1⟩ | ⟨e0, e1⟩
        all_goals simp (disch := omega) only [x_ddiref05_Valid, Known5_ok, used_ok, host5_ok, in_ok, EVP, ↓reduceIte, EV, if_true, if_false, Nat.reduceAdd, Nat.reduceEqDiff, Int.reduceToNat, ne_eq, not_true, not_false_eq_true, Bool.true_eq_false, reduceCtorEq, hk, hu, *]
        all_goals (unfold vldD kindOk; simp [*])
      · simp (disch := omega) only [x_ddiref05_Valid, Known5_ok, used_ok, host5_ok, EVP, ↓reduceIte, EV, if_true, if_false, Nat.reduceAdd, Nat.reduceEqDiff, Int.reduceToNat, ne_eq, not_true, not_false_eq_true, Bool.true_eq_false, reduceCtorEq, hk, hu]
        unfold vldD kindOk; simp [*]; omega
      · simp (disch := omega) only [x_ddiref05_Valid, Known5_ok, used_ok, host5_ok, EVP, ↓reduceIte, EV, if_true, if_false, Nat.reduceAdd, Nat.reduceEqDiff, Int.reduceToNat, ne_eq, not_true, not_false_eq_true, Bool.true_eq_false, reduceCtorEq, hk, hu]
        unfold vldD kindOk; simp [*]
      · rcases ch4 (hostOk d.host) (inB d.a 65535) (inB d.b 65535) (inB d.c 65535) with e0 | ⟨e0, e1⟩ | ⟨e0, e1, e2⟩ | ⟨e0, e1, e2, e3⟩ | ⟨e0, e1, e2, e3⟩
        all_goals simp (disch := omega) only [x_ddiref05_Valid, Known5_ok, used_ok, host5_ok, in_ok, EVP, ↓reduceIte, EV, if_true, if_false, Nat.reduceAdd, Nat.reduceEqDiff, Int.reduceToNat, ne_eq, not_true, not_false_eq_true, Bool.true_eq_false, reduceCtorEq, hk, hu, *]
        all_goals (unfold vldD kindOk; simp [*])
      · simp (disch := omega) only [x_ddiref05_Valid, Known5_ok, used_ok, host5_ok, EVP, ↓reduceIte, EV, if_true, if_false, Nat.reduceAdd, Nat.reduceEqDiff, Int.reduceToNat, ne_eq, not_true, not_false_eq_true, Bool.true_eq_false, reduceCtorEq, hk, hu]
        unfold vldD kindOk; simp [*]
      · rcases ch4 (inB d.a 65535) (inB d.b 255) (inB d.c 255) (txtOk d.text) with e0 | ⟨e0, e1⟩ | ⟨e0, e1, e2⟩ | ⟨e0, e1, e2, e3⟩ | ⟨e0, e1, e2, e3⟩
        all_goals simp (disch := omega) only [x_ddiref05_Valid, Known5_ok, used_ok, in_ok, text5_ok, EVP, ↓reduceIte, EV, if_true, if_false, Nat.reduceAdd, Nat.reduceEqDiff, Int.reduceToNat, ne_eq, not_true, not_false_eq_true, Bool.true_eq_false, reduceCtorEq, hk, hu, *]
        all_goals (unfold vldD kindOk; simp [*])
      · rcases ch9 (knw d.a) (decide (d.a ≠ 46)) (inB d.b 127) (inB d.c 2147483647) (inB d.d 4294967295) (inB d.e 4294967295) (inB d.f 65535) (hostOk d.host) (txtOk d.text) with e0 | ⟨e0, e1⟩ | ⟨e0, e1, e2⟩ | ⟨e0, e1, e2, e3⟩ | ⟨e0, e1, e2, e3, e4⟩ | ⟨e0, e1, e2, e3, e4, e5⟩ | ⟨e0, e1, e2, e3, e4, e5, e6⟩ | ⟨e0, e1, e2, e3, e4, e5, e6, e7⟩ | ⟨e0, e1, e2, e3, e4, e5, e6, e7, e8⟩ | ⟨e0, e1, e2, e3, e4, e5, e6, e7, e8⟩
        all_goals simp (disch := omega) only [x_ddiref05_Valid, Known5_ok, used_ok, host5_ok, in_ok, text5_ok, EVP, ↓reduceIte, EV, if_true, if_false, Nat.reduceAdd, Nat.reduceEqDiff, Int.reduceToNat, ne_eq, not_true, not_false_eq_true, Bool.true_eq_false, reduceCtorEq, hk, hu, *]
        all_goals (unfold vldD kindOk; simp [*])
      · rcases ch3 (vld d.host) (decide (d.bits ≠ 0)) (allK d.bits 0 64) with e0 | ⟨e0, e1⟩ | ⟨e0, e1, e2⟩ | ⟨e0, e1, e2⟩
        all_goals simp (disch := omega) only [x_ddiref05_Valid, Known5_ok, used_ok, Valid1_ok, all_ok, EVP, ↓reduceIte, EV, if_true, if_false, Nat.reduceAdd, Nat.reduceEqDiff, Int.reduceToNat, ne_eq, not_true, not_false_eq_true, Bool.true_eq_false, reduceCtorEq, hk, hu, *]
        all_goals (unfold vldD kindOk; simp [*])
      · rcases ch4 (decide (d.a = 256) || decide (d.a = 257)) (decide (d.b = 3)) (inB d.c 255) (txtOk d.text) with e0 | ⟨e0, e1⟩ | ⟨e0, e1, e2⟩ | ⟨e0, e1, e2, e3⟩ | ⟨e0, e1, e2, e3⟩
        all_goals simp (disch := omega) only [x_ddiref05_Valid, Known5_ok, used_ok, in_ok, text5_ok, EVP, ↓reduceIte, EV, if_true, if_false, Nat.reduceAdd, Nat.reduceEqDiff, Int.reduceToNat, ne_eq, not_true, not_false_eq_true, Bool.true_eq_false, reduceCtorEq, hk, hu, *]
        all_goals (unfold vldD kindOk; simp [*])
      · simp [knw, *] at hk
    · simp (disch := omega) only [x_ddiref05_Valid, Known5_ok, used_ok, EVP, ↓reduceIte, EV, if_true, if_false, Nat.reduceAdd, Nat.reduceEqDiff, Int.reduceToNat, ne_eq, not_true, not_false_eq_true, Bool.true_eq_false, reduceCtorEq, hk, hu]
      unfold vldD
      simp [hu]
  · simp (disch := omega) only [x_ddiref05_Valid, Known5_ok, EVP, ↓reduceIte, EV, if_true, if_false, Nat.reduceAdd, Nat.reduceEqDiff, Int.reduceToNat, ne_eq, not_true, not_false_eq_true, Bool.true_eq_false, reduceCtorEq, hk]
    unfold vldD
    simp [hk]

def wireD (t : Int) (d : Dat) : List UInt8 :=
  if t = 1 ∨ t = 28 then wire2 d
  else if t = 6 then wireN d.host ++ wireN d.mail ++ be d.a 4 ++ be d.b 4 ++ be d.c 4 ++ be d.d 4 ++ be d.e 4
  else if t = 15 then be d.a 2 ++ wireN d.host
  else if t = 16 then be (d.text.length : Int) 1 ++ d.text
  else if t = 33 then be d.a 2 ++ be d.b 2 ++ be d.c 2 ++ wireN d.host
  else if t = 43 ∨ t = 48 then be d.a 2 ++ be d.b 1 ++ be d.c 1 ++ d.text
  else if t = 46 then be d.a 2 ++ be 253 1 ++ be d.b 1 ++ be d.c 4 ++ be d.d 4 ++ be d.e 4 ++ be d.f 2 ++ wireN d.host ++ d.text
  else if t = 47 then wireN d.host ++ be 0 1 ++ be ((bmap d.bits).length : Int) 1 ++ bmap d.bits
  else wireN d.host
theorem knw_cases {t : Int} (h : knw t = true) : t = 1 ∨ t = 2 ∨ t = 5 ∨ t = 6 ∨ t = 12 ∨ t = 15 ∨ t = 16 ∨ t = 28 ∨ t = 33 ∨ t = 39 ∨ t = 43 ∨ t = 46 ∨ t = 47 ∨ t = 48 := by
  simp [knw] at h; omega
theorem Number1 (v : Int) (h0 : 0 ≤ v) (h1 : v ≤ 9223372036854775807) : S n_ddiref05_Number 2 [.i .i64 v, .i .i64 1] = some [.s (be v 1)] := Number_ok v 1 (by omega) h0 h1
theorem Number2 (v : Int) (h0 : 0 ≤ v) (h1 : v ≤ 9223372036854775807) : S n_ddiref05_Number 2 [.i .i64 v, .i .i64 2] = some [.s (be v 2)] := Number_ok v 2 (by omega) h0 h1
theorem Number4 (v : Int) (h0 : 0 ≤ v) (h1 : v ≤ 9223372036854775807) : S n_ddiref05_Number 2 [.i .i64 v, .i .i64 4] = some [.s (be v 4)] := Number_ok v 4 (by omega) h0 h1
theorem Wire5_ok (t : Int) (d : Dat) (h : d.wf) : S n_ddiref05_Wire 2 [.i .i64 t, d.pv] = some (if vldD t d = true then [.s (wireD t d), .i .i64 0] else if knw t = true then [.s [], .i .i64 5] else [.s [], .i .i64 4]) := by
  refine s_ddiref05_Wire (N := 1) rfl ?_
  have g1 := h.host
  have g2 := h.mail
  have g3 := h.text
  unfold strr at g1 g2 g3
  have g4 := wireN_len d.host
  have g5 := wireN_len d.mail
  have g6 := bmap_len d.bits
  rcases Bool.eq_false_or_eq_true (knw t) with hk | hk
  · rcases Bool.eq_false_or_eq_true (vldD t d) with hv | hv
    · rw [if_pos hv]
      have hv' := hv
      rcases knw_cases hk with rfl | rfl | rfl | rfl | rfl | rfl | rfl | rfl | rfl | rfl | rfl | rfl | rfl | rfl
      · simp [vldD, kindOk] at hv'
        simp (disch := omega) only [x_ddiref05_Wire, Known5_ok, Valid5_ok _ _ h, Wire2_ok d h, hk, hv, hv'.2.1, EVP, ↓reduceIte, EV, if_true, if_false, Nat.reduceAdd, Nat.reduceEqDiff, Int.reduceToNat, ne_eq, not_true, not_false_eq_true, Bool.true_eq_false, reduceCtorEq]
        rfl
      · simp (disch := omega) only [x_ddiref05_Wire, Known5_ok, Valid5_ok _ _ h, WireName_ok, hk, hv, EVP, ↓reduceIte, EV, if_true, if_false, Nat.reduceAdd, Nat.reduceEqDiff, Int.reduceToNat, ne_eq, not_true, not_false_eq_true, Bool.true_eq_false, reduceCtorEq]
        rfl
      · simp (disch := omega) only [x_ddiref05_Wire, Known5_ok, Valid5_ok _ _ h, WireName_ok, hk, hv, EVP, ↓reduceIte, EV, if_true, if_false, Nat.reduceAdd, Nat.reduceEqDiff, Int.reduceToNat, ne_eq, not_true, not_false_eq_true, Bool.true_eq_false, reduceCtorEq]
        rfl
      · simp [vldD, kindOk, inB, txtOk] at hv'
        simp (disch := first | omega | (simp only [List.length_append, be_len]; omega)) only [x_ddiref05_Wire, Known5_ok, Valid5_ok _ _ h, WireName_ok, Number4, hk, hv, EVP, ↓reduceIte, EV, if_true, if_false, Nat.reduceAdd, Nat.reduceEqDiff, Int.reduceToNat, ne_eq, not_true, not_false_eq_true, Bool.true_eq_false, reduceCtorEq]
        rfl
      · simp (disch := omega) only [x_ddiref05_Wire, Known5_ok, Valid5_ok _ _ h, WireName_ok, hk, hv, EVP, ↓reduceIte, EV, if_true, if_false, Nat.reduceAdd, Nat.reduceEqDiff, Int.reduceToNat, ne_eq, not_true, not_false_eq_true, Bool.true_eq_false, reduceCtorEq]
        rfl
      · simp [vldD, kindOk, inB, txtOk] at hv'
        simp (disch := first | omega | (simp only [List.length_append, be_len]; omega)) only [x_ddiref05_Wire, Known5_ok, Valid5_ok _ _ h, WireName_ok, Number2, hk, hv, EVP, ↓reduceIte, EV, if_true, if_false, Nat.reduceAdd, Nat.reduceEqDiff, Int.reduceToNat, ne_eq, not_true, not_false_eq_true, Bool.true_eq_false, reduceCtorEq]
        rfl
      · simp [vldD, kindOk, inB, txtOk] at hv'
        simp (disch := first | omega | (simp only [List.length_append, be_len]; omega)) only [x_ddiref05_Wire, Known5_ok, Valid5_ok _ _ h, WireName_ok, Number1, hk, hv, EVP, ↓reduceIte, EV, if_true, if_false, Nat.reduceAdd, Nat.reduceEqDiff, Int.reduceToNat, ne_eq, not_true, not_false_eq_true, Bool.true_eq_false, reduceCtorEq]
        rfl
      · simp [vldD, kindOk] at hv'
        have ha : addrOk d = true := by simp [addrOk, hv'.2]
        simp (disch := omega) only [x_ddiref05_Wire, Known5_ok, Valid5_ok _ _ h, Wire2_ok d h, hk, hv, ha, EVP, ↓reduceIte, EV, if_true, if_false, Nat.reduceAdd, Nat.reduceEqDiff, Int.reduceToNat, ne_eq, not_true, not_false_eq_true, Bool.true_eq_false, reduceCtorEq]
        rfl
      · simp [vldD, kindOk, inB, txtOk] at hv'
        simp (disch := first | omega | (simp only [List.length_append, be_len]; omega)) only [x_ddiref05_Wire, Known5_ok, Valid5_ok _ _ h, WireName_ok, Number2, hk, hv, EVP, ↓reduceIte, EV, if_true, if_false, Nat.reduceAdd, Nat.reduceEqDiff, Int.reduceToNat, ne_eq, not_true, not_false_eq_true, Bool.true_eq_false, reduceCtorEq]
        rfl
      · simp (disch := omega) only [x_ddiref05_Wire, Known5_ok, Valid5_ok _ _ h, WireName_ok, hk, hv, EVP, ↓reduceIte, EV, if_true, if_false, Nat.reduceAdd, Nat.reduceEqDiff, Int.reduceToNat, ne_eq, not_true, not_false_eq_true, Bool.true_eq_false, reduceCtorEq]
        rfl
      · simp [vldD, kindOk, inB, txtOk] at hv'
        simp (disch := first | omega | (simp only [List.length_append, be_len]; omega)) only [x_ddiref05_Wire, Known5_ok, Valid5_ok _ _ h, WireName_ok, Number1, Number2, hk, hv, EVP, ↓reduceIte, EV, if_true, if_false, Nat.reduceAdd, Nat.reduceEqDiff, Int.reduceToNat, ne_eq, not_true, not_false_eq_true, Bool.true_eq_false, reduceCtorEq]
        rfl
      · simp [vldD, kindOk, inB, txtOk] at hv'
        have k1 : 0 ≤ d.a := by have := knw_cases hv'.2.1.1.1.1.1.1.1.1; omega
        have k2 := h.a.2
        simp (disch := first | omega | (simp only [List.length_append, be_len]; omega)) only [x_ddiref05_Wire, Known5_ok, Valid5_ok _ _ h, WireName_ok, Number1, Number2, Number4, hk, hv, EVP, ↓reduceIte, EV, if_true, if_false, Nat.reduceAdd, Nat.reduceEqDiff, Int.reduceToNat, ne_eq, not_true, not_false_eq_true, Bool.true_eq_false, reduceCtorEq]
        rfl
      · simp (disch := first | omega | (simp only [List.length_append, be_len]; omega)) only [x_ddiref05_Wire, Known5_ok, Valid5_ok _ _ h, WireName_ok, bitmap_ok, Number1, hk, hv, EVP, ↓reduceIte, EV, if_true, if_false, Nat.reduceAdd, Nat.reduceEqDiff, Int.reduceToNat, ne_eq, not_true, not_false_eq_true, Bool.true_eq_false, reduceCtorEq]
        rfl
      · simp [vldD, kindOk, inB, txtOk] at hv'
        simp (disch := first | omega | (simp only [List.length_append, be_len]; omega)) only [x_ddiref05_Wire, Known5_ok, Valid5_ok _ _ h, WireName_ok, Number1, Number2, hk, hv, EVP, ↓reduceIte, EV, if_true, if_false, Nat.reduceAdd, Nat.reduceEqDiff, Int.reduceToNat, ne_eq, not_true, not_false_eq_true, Bool.true_eq_false, reduceCtorEq]
        rfl
    · simp (disch := omega) only [x_ddiref05_Wire, Known5_ok, Valid5_ok _ _ h, hk, hv, EVP, ↓reduceIte, EV, if_true, if_false, Nat.reduceAdd, Nat.reduceEqDiff, Int.reduceToNat, ne_eq, not_true, not_false_eq_true, Bool.true_eq_false, reduceCtorEq]
  · have hv : vldD t d = false := by simp [vldD, hk]
    simp (disch := omega) only [x_ddiref05_Wire, Known5_ok, hk, hv, EVP, ↓reduceIte, EV, if_true, if_false, Nat.reduceAdd, Nat.reduceEqDiff, Int.reduceToNat, ne_eq, not_true, not_false_eq_true, Bool.true_eq_false, reduceCtorEq]

/-- how data of a type are compared -/
def cmpD (t : Int) (a b : Dat) : Int :=
  if vldD t a && vldD t b then cmpS (wireD t a) (wireD t b) else if vldD t a then -1 else if vldD t b then 1 else 0
theorem Compare5_ok (t : Int) (a b : Dat) (ha : a.wf) (hb : b.wf) : S n_ddiref05_Compare 3 [.i .i64 t, a.pv, b.pv] = some [.i .i64 (cmpD t a b)] := by
  refine s_ddiref05_Compare (N := 1) rfl ?_
  unfold cmpD cmpS
  rcases Bool.eq_false_or_eq_true (vldD t a) with h1 | h1 <;> rcases Bool.eq_false_or_eq_true (vldD t b) with h2 | h2
  · simp (disch := omega) only [x_ddiref05_Compare, Wire5_ok _ _ ha, Wire5_ok _ _ hb, h1, h2, EVP, ↓reduceIte, EV, if_true, if_false, Nat.reduceAdd, Nat.reduceEqDiff, Int.reduceToNat, ne_eq, not_true, not_false_eq_true, Bool.true_eq_false, reduceCtorEq]
    cases Op.bytesLess (wireD t a) (wireD t b)
    · by_cases h3 : wireD t a = wireD t b <;> simp [h3]
    · simp
  all_goals rcases Bool.eq_false_or_eq_true (knw t) with h3 | h3 <;> simp (disch := omega) [x_ddiref05_Compare, Wire5_ok _ _ ha, Wire5_ok _ _ hb, h1, h2, h3, EVP, ↓reduceIte, EV, if_true, if_false, Nat.reduceAdd, Nat.reduceEqDiff, Int.reduceToNat, ne_eq, not_true, not_false_eq_true, Bool.true_eq_false, reduceCtorEq]
end Go.X.G
/- Lists of records: what the reference's functions give. -/
namespace Go.X.G
open Go Go.X

def vldR (r : Rec) : Bool := vld r.name && knw r.typ && decide (0 ≤ r.ttl) && decide (r.ttl ≤ 2147483647) && vldD r.typ r.data
theorem Valid7_ok (r : Rec) (h : r.wf) : S n_ddiref07_Valid 1 [r.pv] = some [.b (vldR r)] := by
  refine s_ddiref07_Valid (N := 1) rfl ?_
  have g := h.name
  unfold strr at g
  unfold vldR
  by_cases h0 : 0 ≤ r.ttl <;> by_cases h1 : r.ttl ≤ 2147483647
  all_goals rcases ch3 (vld r.name) (knw r.typ) (vldD r.typ r.data) with e0 | ⟨e0, e1⟩ | ⟨e0, e1, e2⟩ | ⟨e0, e1, e2⟩
  all_goals simp (disch := omega) [x_ddiref07_Valid, Valid1_ok, Known5_ok, Valid5_ok _ _ h.data, EVP, ↓reduceIte, EV, if_true, if_false, Nat.reduceAdd, Nat.reduceEqDiff, Int.reduceToNat, ne_eq, not_true, not_false_eq_true, Bool.true_eq_false, reduceCtorEq, *]

/-- a comparison of numbers -/
def cmpI (a b : Int) : Int := if a < b then -1 else if b < a then 1 else 0
theorem number7_ok (a b : Int) : S n_ddiref07_number 2 [.i .i64 a, .i .i64 b] = some [.i .i64 (cmpI a b)] := by
  refine s_ddiref07_number (N := 1) rfl ?_
  unfold cmpI
  simp (disch := omega) only [x_ddiref07_number, EVP, ↓reduceIte, EV, if_true, if_false, Nat.reduceAdd, Nat.reduceEqDiff, Int.reduceToNat, ne_eq, not_true, not_false_eq_true, Bool.true_eq_false, reduceCtorEq]
  grind
/-- the first three comparisons -/
def cmpF (a b : Rec) : Int :=
  if cmpN a.name b.name ≠ 0 then cmpN a.name b.name else if cmpI a.typ b.typ ≠ 0 then cmpI a.typ b.typ else cmpD a.typ a.data b.data
theorem first7_ok (a b : Rec) (ha : a.wf) (hb : b.wf) : S n_ddiref07_first 2 [a.pv, b.pv] = some [.i .i64 (cmpF a b)] := by
  refine s_ddiref07_first (N := 1) rfl ?_
  have g1 := ha.name
  have g2 := hb.name
  unfold strr at g1 g2
  unfold cmpF
  simp (disch := omega) only [x_ddiref07_first, Compare1_ok, number7_ok, Compare5_ok _ _ _ ha.data hb.data, EVP, ↓reduceIte, EV, if_true, if_false, Nat.reduceAdd, Nat.reduceEqDiff, Int.reduceToNat, ne_eq, not_true, not_false_eq_true, Bool.true_eq_false, reduceCtorEq]
  by_cases h1 : cmpN a.name b.name = 0 <;> by_cases h2 : cmpI a.typ b.typ = 0 <;> simp [h1, h2]

def isK (n : List UInt8) (t : Int) (r : Rec) : Bool := decide (r.name = n) && decide (r.typ = t)
def findR (l : List Rec) (n : List UInt8) (t : Int) : List Rec := l.filter (isK n t)
theorem Find7_ok (l : List Rec) (n : List UInt8) (t : Int) (hl : l.length ≤ 1000000) : S n_ddiref07_Find 3 [recsPV l, .s n, .i .i64 t] = some [recsPV (findR l n t)] := by
  refine s_ddiref07_Find (N := l.length + 1) rfl ?_
  have key : l0_ddiref07_Find.ev S (l.length + 1) [recsPV l, .s n, .i .i64 t] = some (.yld 0 [recsPV ([] ++ findR l n t)]) := by
    refine loop_acc l (fun i (g : List Rec) => [recsPV g, .i .i64 (i : Int)]) (fun i g r => .yld 0 [recsPV (g ++ findR r n t)]) (fun i g => g.length ≤ i) [] rfl (Nat.zero_le _) (by omega) (fun i g c r hd hi hc hI => ?_) (fun g hI => ?_)
    · left
      by_cases h : isK n t c = true
      · refine ⟨g ++ [c], ?_, by simp; omega, by simp [findR, h]⟩
        simp [isK] at h
        simp (disch := omega) only [x_ddiref07_Find, hc, h.1, h.2, EVP, ↓reduceIte, EV, if_true, if_false, Nat.reduceAdd, Nat.reduceEqDiff, Int.reduceToNat, ne_eq, not_true, not_false_eq_true, Bool.true_eq_false, reduceCtorEq]
      · refine ⟨g, ?_, by omega, by simp [findR, h]⟩
        simp [isK] at h
        by_cases h1 : c.name = n
        · simp (disch := omega) only [x_ddiref07_Find, hc, h1, h h1, EVP, ↓reduceIte, EV, if_true, if_false, Nat.reduceAdd, Nat.reduceEqDiff, Int.reduceToNat, ne_eq, not_true, not_false_eq_true, Bool.true_eq_false, reduceCtorEq]
        · simp (disch := omega) only [x_ddiref07_Find, hc, h1, EVP, ↓reduceIte, EV, if_true, if_false, Nat.reduceAdd, Nat.reduceEqDiff, Int.reduceToNat, ne_eq, not_true, not_false_eq_true, Bool.true_eq_false, reduceCtorEq]
    · simp (disch := omega) only [x_ddiref07_Find, EVP, ↓reduceIte, EV, if_true, if_false, Nat.reduceAdd, Nat.reduceEqDiff, Int.reduceToNat, ne_eq, not_true, not_false_eq_true, Bool.true_eq_false, reduceCtorEq]
      simp [findR, Out.goes]
  simp (disch := omega) only [x_ddiref07_Find, key, EVP, ↓reduceIte, EV, if_true, if_false, Nat.reduceAdd, Nat.reduceEqDiff, Int.reduceToNat, ne_eq, not_true, not_false_eq_true, Bool.true_eq_false, reduceCtorEq]
theorem FindP_ok (l : List Rec) (n : List UInt8) (t : Int) (hl : l.length ≤ 1000000) : S n_rrset_Find 3 [recsPV l, .s n, .i .i64 t] = some [recsPV (findR l n t)] := by
  refine s_rrset_Find (N := l.length + 1) rfl ?_
  have key : l0_rrset_Find.ev S (l.length + 1) [recsPV l, .s n, .i .i64 t] = some (.yld 0 [recsPV ([] ++ findR l n t)]) := by
    refine loop_acc l (fun i (g : List Rec) => [recsPV g, .i .i64 (i : Int)]) (fun i g r => .yld 0 [recsPV (g ++ findR r n t)]) (fun i g => g.length ≤ i) [] rfl (Nat.zero_le _) (by omega) (fun i g c r hd hi hc hI => ?_) (fun g hI => ?_)
    · left
      by_cases h : isK n t c = true
      · refine ⟨g ++ [c], ?_, by simp; omega, by simp [findR, h]⟩
        simp [isK] at h
        simp (disch := omega) only [x_rrset_Find, hc, h.1, h.2, EVP, ↓reduceIte, EV, if_true, if_false, Nat.reduceAdd, Nat.reduceEqDiff, Int.reduceToNat, ne_eq, not_true, not_false_eq_true, Bool.true_eq_false, reduceCtorEq]
      · refine ⟨g, ?_, by omega, by simp [findR, h]⟩
        simp [isK] at h
        by_cases h1 : c.name = n
        · simp (disch := omega) only [x_rrset_Find, hc, h1, h h1, EVP, ↓reduceIte, EV, if_true, if_false, Nat.reduceAdd, Nat.reduceEqDiff, Int.reduceToNat, ne_eq, not_true, not_false_eq_true, Bool.true_eq_false, reduceCtorEq]
        · by_cases h2 : c.typ = t <;> simp (disch := omega) only [x_rrset_Find, hc, h1, h2, EVP, ↓reduceIte, EV, if_true, if_false, Nat.reduceAdd, Nat.reduceEqDiff, Int.reduceToNat, ne_eq, not_true, not_false_eq_true, Bool.true_eq_false, reduceCtorEq]
    · simp (disch := omega) only [x_rrset_Find, EVP, ↓reduceIte, EV, if_true, if_false, Nat.reduceAdd, Nat.reduceEqDiff, Int.reduceToNat, ne_eq, not_true, not_false_eq_true, Bool.true_eq_false, reduceCtorEq]
      simp [findR, Out.goes]
  simp (disch := omega) only [x_rrset_Find, key, EVP, ↓reduceIte, EV, if_true, if_false, Nat.reduceAdd, Nat.reduceEqDiff, Int.reduceToNat, ne_eq, not_true, not_false_eq_true, Bool.true_eq_false, reduceCtorEq]

theorem Equal7_ok (a b : List Rec) (ha : a.length ≤ 1000000) : S n_ddiref07_Equal 2 [recsPV a, recsPV b] = some [.b (decide (a = b))] := by
  refine s_ddiref07_Equal (N := a.length + 1) rfl ?_
  by_cases hl : a.length = b.length
  · have key : l0_ddiref07_Equal.ev S (a.length + 1) [recsPV a, recsPV b] = some (if a.drop 0 = b.drop 0 then .yld 0 [] else .ret [.b false]) := by
      refine loop_list a (fun i => [.i .i64 (i : Int)]) (fun i r => if r = b.drop i then .yld 0 [] else .ret [.b false]) rfl (by omega) (fun i c r hd hi hc => ?_) ?_
      · obtain ⟨y, r', hb, hd2, hd3⟩ : ∃ y r', b[i]? = some y ∧ b.drop i = y :: r' ∧ b.drop (i + 1) = r' := ⟨b[i]'(by omega), _, List.getElem?_eq_getElem (by omega), List.drop_eq_getElem_cons (by omega), rfl⟩
        rw [hd2, hd3]
        by_cases h : c = y
        · subst h
          left
          simp (disch := omega) only [x_ddiref07_Equal, hc, hb, EVP, ↓reduceIte, EV, if_true, if_false, Nat.reduceAdd, Nat.reduceEqDiff, Int.reduceToNat, ne_eq, not_true, not_false_eq_true, Bool.true_eq_false, reduceCtorEq]
          simp
        · right
          simp (disch := omega) only [x_ddiref07_Equal, hc, hb, h, EVP, ↓reduceIte, EV, if_true, if_false, Nat.reduceAdd, Nat.reduceEqDiff, Int.reduceToNat, ne_eq, not_true, not_false_eq_true, Bool.true_eq_false, reduceCtorEq]
          simp [h, Out.goes]
      · have hd2 : b.drop a.length = [] := List.drop_eq_nil_of_le (by omega)
        rw [hd2]
        simp (disch := omega) only [x_ddiref07_Equal, EVP, ↓reduceIte, EV, if_true, if_false, Nat.reduceAdd, Nat.reduceEqDiff, Int.reduceToNat, ne_eq, not_true, not_false_eq_true, Bool.true_eq_false, reduceCtorEq]
        simp [Out.goes]
    simp only [List.drop_zero] at key
    by_cases h : a = b
    · rw [if_pos h] at key
      simp (disch := omega) only [x_ddiref07_Equal, key, EVP, ↓reduceIte, EV, if_true, if_false, Nat.reduceAdd, Nat.reduceEqDiff, Int.reduceToNat, ne_eq, not_true, not_false_eq_true, Bool.true_eq_false, reduceCtorEq]
      try simp [h]
    · rw [if_neg h] at key
      simp (disch := omega) only [x_ddiref07_Equal, key, EVP, ↓reduceIte, EV, if_true, if_false, Nat.reduceAdd, Nat.reduceEqDiff, Int.reduceToNat, ne_eq, not_true, not_false_eq_true, Bool.true_eq_false, reduceCtorEq]
      try simp [h]
  · have h : a ≠ b := fun h => hl (by rw [h])
    simp (disch := omega) [x_ddiref07_Equal, h, EVP, ↓reduceIte, EV, if_true, if_false, Nat.reduceAdd, Nat.reduceEqDiff, Int.reduceToNat, ne_eq, not_true, not_false_eq_true, Bool.true_eq_false, reduceCtorEq]

/-! ### sorting -/
def insR (x : Rec) : List Rec → List Rec
  | [] => [x]
  | y :: r => if cmpF y x < 0 then y :: insR x r else if cmpF y x = 0 then (if x.ttl < y.ttl then x :: r else y :: r) else x :: y :: r
def sortR (l : List Rec) : List Rec := l.foldl (fun acc x => insR x acc) []
def leadR (x : Rec) : List Rec → Nat
  | [] => 0
  | y :: r => if cmpF y x < 0 then leadR x r + 1 else 0
theorem leadR_le (x : Rec) : ∀ l, leadR x l ≤ l.length
  | [] => Nat.le_refl _
  | y :: r => by have := leadR_le x r; simp only [leadR]; split <;> simp; omega
theorem insR_at (x : Rec) : ∀ (l : List Rec), insR x l = match l[leadR x l]? with
    | some y => if cmpF y x = 0 then (if x.ttl < y.ttl then l.set (leadR x l) x else l) else l.take (leadR x l) ++ [x] ++ l.drop (leadR x l)
    | none => l.take (leadR x l) ++ [x] ++ l.drop (leadR x l)
  | [] => rfl
  | y :: r => by
    simp only [insR, leadR]
    by_cases h : cmpF y x < 0
    · simp only [if_pos h, List.getElem?_cons_succ]
      rw [insR_at x r]
      cases h2 : r[leadR x r]? with
      | none => simp
      | some z => by_cases h3 : cmpF z x = 0 <;> by_cases h4 : x.ttl < z.ttl <;> simp [h3, h4]
    · simp only [if_neg h, List.getElem?_cons_zero]
      by_cases h3 : cmpF y x = 0 <;> by_cases h4 : x.ttl < y.ttl <;> simp [h3, h4]
theorem insR_len (x : Rec) : ∀ l, (insR x l).length ≤ l.length + 1
  | [] => by simp [insR]
  | y :: r => by
    have := insR_len x r
    simp only [insR]
    split
    · simp; omega
    · split
      · split <;> simp
      · simp
theorem insR_mem (x : Rec) : ∀ (l : List Rec) (y : Rec), y ∈ insR x l → y = x ∨ y ∈ l
  | [], y, h => by simp [insR] at h; exact .inl h
  | z :: r, y, h => by
    simp only [insR] at h
    split at h
    · simp at h
      rcases h with h | h
      · exact .inr (by simp [h])
      · rcases insR_mem x r y h with h | h
        · exact .inl h
        · exact .inr (by simp [h])
    · split at h
      · split at h
        · simp at h; rcases h with h | h
          · exact .inl h
          · exact .inr (by simp [h])
        · exact .inr h
      · simp at h; rcases h with h | h
        · exact .inl h
        · exact .inr (by simpa using h)
theorem Sort_l1 (l g : List Rec) (i : Nat) (x : Rec) (hx : l[i]? = some x) (hw : ∀ r ∈ l, r.wf) (hg : ∀ r ∈ g, r.wf) (N : Nat) (hN : g.length < N) (hl : g.length ≤ 1000000) :
    l1_ddiref07_Sort.ev S N [recsPV l, recsPV g, .i .i64 (i : Int)] = some (.yld 2 [.i .i64 (leadR x g : Int)]) := by
  have key : l1_ddiref07_Sort.ev S N [recsPV l, recsPV g, .i .i64 (i : Int)] = some (.yld 2 [.i .i64 ((0 + leadR x g : Nat) : Int)]) := by
    refine loop_list g (fun k => [.i .i64 (k : Int)]) (fun k r => .yld 2 [.i .i64 ((k + leadR x r : Nat) : Int)]) rfl hN (fun k c r hd hk hc => ?_) ?_
    · have h1 := first7_ok c x (hg c (List.mem_of_getElem? hc)) (hw x (List.mem_of_getElem? hx))
      by_cases h : cmpF c x < 0
      · left
        simp (disch := omega) only [x_ddiref07_Sort, hc, hx, h1, h, EVP, ↓reduceIte, EV, if_true, if_false, Nat.reduceAdd, Nat.reduceEqDiff, Int.reduceToNat, ne_eq, not_true, not_false_eq_true, Bool.true_eq_false, reduceCtorEq]
        refine ⟨trivial, ?_⟩
        simp only [leadR, if_pos h]
        congr 3; push_cast; omega
      · right
        simp (disch := omega) only [x_ddiref07_Sort, hc, hx, h1, EVP, ↓reduceIte, EV, if_true, if_false, Nat.reduceAdd, Nat.reduceEqDiff, Int.reduceToNat, ne_eq, not_true, not_false_eq_true, Bool.true_eq_false, reduceCtorEq]
        simp [leadR, h, Out.goes]
    · simp (disch := omega) only [x_ddiref07_Sort, EVP, ↓reduceIte, EV, if_true, if_false, Nat.reduceAdd, Nat.reduceEqDiff, Int.reduceToNat, ne_eq, not_true, not_false_eq_true, Bool.true_eq_false, reduceCtorEq]
      simp [leadR, Out.goes]
  simpa using key
theorem Sort_l0 (l : List Rec) (hw : ∀ r ∈ l, r.wf) (N : Nat) (hN : l.length < N) (hl : l.length ≤ 1000000) :
    l0_ddiref07_Sort.ev S N [recsPV l] = some (.yld 0 [recsPV (sortR l)]) := by
  refine loop_acc l (fun i (g : List Rec) => [recsPV g, .i .i64 (i : Int)]) (fun i g r => .yld 0 [recsPV (r.foldl (fun acc x => insR x acc) g)]) (fun i g => g.length ≤ i ∧ ∀ r ∈ g, r.wf) [] rfl ⟨Nat.le_refl _, fun r h => by cases h⟩ hN (fun i g c r hd hi hc hI => ?_) (fun g hI => ?_)
  · left
    obtain ⟨h1, h2⟩ := hI
    have hcw := hw c (List.mem_of_getElem? hc)
    have h3 := Sort_l1 l g i c hc hw h2 N (by omega) (by omega)
    have h4 := leadR_le c g
    have h5 := insR_len c g
    refine ⟨insR c g, ?_, ⟨by omega, fun r hr => ?_⟩, rfl⟩
    · rw [insR_at]
      cases h6 : g[leadR c g]? with
      | none =>
        have h7 := List.getElem?_eq_none_iff.1 h6
        have h8 : leadR c g = g.length := by omega
        simp (disch := first | omega | (simp; omega)) only [x_ddiref07_Sort, hc, h3, h8, EVP, ↓reduceIte, EV, if_true, if_false, Nat.reduceAdd, Nat.reduceEqDiff, Int.reduceToNat, ne_eq, not_true, not_false_eq_true, Bool.true_eq_false, reduceCtorEq]
        simp
      | some y =>
        have h7 := (List.getElem?_eq_some_iff.1 h6).1
        have h8 := first7_ok y c (h2 y (List.mem_of_getElem? h6)) hcw
        by_cases h9 : cmpF y c = 0
        · by_cases h10 : c.ttl < y.ttl
          · simp (disch := omega) only [x_ddiref07_Sort, hc, h3, h6, h8, h9, h10, EVP, ↓reduceIte, EV, if_true, if_false, Nat.reduceAdd, Nat.reduceEqDiff, Int.reduceToNat, ne_eq, not_true, not_false_eq_true, Bool.true_eq_false, reduceCtorEq]
          · simp (disch := omega) only [x_ddiref07_Sort, hc, h3, h6, h8, h9, h10, EVP, ↓reduceIte, EV, if_true, if_false, Nat.reduceAdd, Nat.reduceEqDiff, Int.reduceToNat, ne_eq, not_true, not_false_eq_true, Bool.true_eq_false, reduceCtorEq]
        · simp (disch := first | omega | (simp; omega)) only [x_ddiref07_Sort, hc, h3, h6, h8, h9, EVP, ↓reduceIte, EV, if_true, if_false, Nat.reduceAdd, Nat.reduceEqDiff, Int.reduceToNat, ne_eq, not_true, not_false_eq_true, Bool.true_eq_false, reduceCtorEq]
          simp
    · rcases insR_mem c g r hr with h | h
      · subst h; exact hcw
      · exact h2 r h
  · simp (disch := omega) only [x_ddiref07_Sort, EVP, ↓reduceIte, EV, if_true, if_false, Nat.reduceAdd, Nat.reduceEqDiff, Int.reduceToNat, ne_eq, not_true, not_false_eq_true, Bool.true_eq_false, reduceCtorEq]
    simp [Out.goes]
theorem Sort7_ok (l : List Rec) (hw : ∀ r ∈ l, r.wf) (hl : l.length ≤ 1000000) : S n_ddiref07_Sort 1 [recsPV l] = some [recsPV (sortR l)] := by
  refine s_ddiref07_Sort (N := l.length + 1) rfl ?_
  simp (disch := omega) only [x_ddiref07_Sort, Sort_l0 l hw, EVP, ↓reduceIte, EV, if_true, if_false, Nat.reduceAdd, Nat.reduceEqDiff, Int.reduceToNat, ne_eq, not_true, not_false_eq_true, Bool.true_eq_false, reduceCtorEq]
end Go.X.G
/- Zones: what the reference's check gives. -/
namespace Go.X.G
open Go Go.X

def belowN (n top : List UInt8) : Bool := decide (n ≠ top) && under n top
theorem below10_ok (n top : List UInt8) (hn : n.length ≤ 9223372036854775807) (ht : top.length ≤ 9223372036854775807) : S n_ddiref10_below 2 [.s n, .s top] = some [.b (belowN n top)] := by
  refine s_ddiref10_below (N := 1) rfl ?_
  unfold belowN
  by_cases h : n = top
  · simp (disch := omega) only [x_ddiref10_below, Under1_ok, h, EVP, ↓reduceIte, EV, if_true, if_false, Nat.reduceAdd, Nat.reduceEqDiff, Int.reduceToNat, ne_eq, not_true, not_false_eq_true, Bool.true_eq_false, reduceCtorEq]
    simp
  · simp (disch := omega) only [x_ddiref10_below, Under1_ok, h, EVP, ↓reduceIte, EV, if_true, if_false, Nat.reduceAdd, Nat.reduceEqDiff, Int.reduceToNat, ne_eq, not_true, not_false_eq_true, Bool.true_eq_false, reduceCtorEq]
    simp
def hasR (l : List Rec) (n : List UInt8) (t : Int) : Bool := decide (0 < (findR l n t).length)
theorem has10_ok (l : List Rec) (n : List UInt8) (t : Int) (hl : l.length ≤ 1000000) : S n_ddiref10_has 3 [recsPV l, .s n, .i .i64 t] = some [.b (hasR l n t)] := by
  refine s_ddiref10_has (N := 1) rfl ?_
  unfold hasR
  simp (disch := omega) only [x_ddiref10_has, Find7_ok, EVP, ↓reduceIte, EV, if_true, if_false, Nat.reduceAdd, Nat.reduceEqDiff, Int.reduceToNat, ne_eq, not_true, not_false_eq_true, Bool.true_eq_false, reduceCtorEq]
  simp
def besideOk (r x : Rec) : Bool :=
  !decide (x.name = r.name) || (!(decide (x.typ = r.typ) && decide (r.typ ≠ 46) && decide (x.ttl ≠ r.ttl)) && !(decide (x.typ = r.typ) && (decide (r.typ = 6) || decide (r.typ = 5) || decide (r.typ = 39)) && decide (x ≠ r)) &&
    !(decide (r.typ = 5) && decide (x.typ ≠ 5) && decide (x.typ ≠ 46) && decide (x.typ ≠ 47)))
def besideR (z : Zone) (r : Rec) : Bool := z.recs.all (besideOk r)
theorem beside_l0 (z : Zone) (r : Rec) (N : Nat) (hN : z.recs.length < N) (hz : z.recs.length ≤ 1000000) :
    l0_ddiref10_beside.ev S N [z.pv, r.pv] = some (if besideR z r = true then .yld 0 [] else .ret [.b false]) := by
  refine loop_list z.recs (fun i => [.i .i64 (i : Int)]) (fun i l => if l.all (besideOk r) = true then .yld 0 [] else .ret [.b false]) rfl hN (fun i c l hd hi hc => ?_) ?_
  · have key : b0_ddiref10_beside.ev S N ([z.pv, r.pv] ++ [.i .i64 (i : Int)]) = some (if besideOk r c = true then .yld 1 [.i .i64 ((i : Int) + 1)] else .ret [.b false]) := by
      by_cases h1 : c.name = r.name
      · by_cases h2 : c.typ = r.typ
        · simp (disch := omega) only [x_ddiref10_beside, Single_ok, hc, h1, h2, EVP, ↓reduceIte, EV, if_true, if_false, Nat.reduceAdd, Nat.reduceEqDiff, Int.reduceToNat, ne_eq, not_true, not_false_eq_true, Bool.true_eq_false, reduceCtorEq]
          simp only [besideOk, h1, h2]
          grind
        · simp (disch := omega) only [x_ddiref10_beside, Single_ok, hc, h1, h2, EVP, ↓reduceIte, EV, if_true, if_false, Nat.reduceAdd, Nat.reduceEqDiff, Int.reduceToNat, ne_eq, not_true, not_false_eq_true, Bool.true_eq_false, reduceCtorEq]
          simp only [besideOk, h1, h2]
          grind
      · simp (disch := omega) only [x_ddiref10_beside, hc, h1, EVP, ↓reduceIte, EV, if_true, if_false, Nat.reduceAdd, Nat.reduceEqDiff, Int.reduceToNat, ne_eq, not_true, not_false_eq_true, Bool.true_eq_false, reduceCtorEq]
        simp [besideOk, h1]
    rw [key]
    rcases Bool.eq_false_or_eq_true (besideOk r c) with h | h <;> simp [h, Out.goes]
  · simp (disch := omega) [x_ddiref10_beside, EVP, ↓reduceIte, EV, if_true, if_false, Nat.reduceAdd, Nat.reduceEqDiff, Int.reduceToNat, ne_eq, not_true, not_false_eq_true, Bool.true_eq_false, reduceCtorEq, Out.goes]
theorem beside_ok (z : Zone) (r : Rec) (hz : z.recs.length ≤ 1000000) : S n_ddiref10_beside 2 [z.pv, r.pv] = some [.b (besideR z r)] := by
  refine s_ddiref10_beside (N := z.recs.length + 1) rfl ?_
  simp (disch := omega) only [x_ddiref10_beside, beside_l0, EVP, ↓reduceIte, EV, if_true, if_false, Nat.reduceAdd, Nat.reduceEqDiff, Int.reduceToNat, ne_eq, not_true, not_false_eq_true, Bool.true_eq_false, reduceCtorEq]
  cases besideR z r <;> simp

def placedOk (z : Zone) (r x : Rec) : Bool :=
  !(decide (x.typ = 39) && belowN r.name x.name) && !(decide (x.typ = 2) && belowN x.name z.origin && belowN r.name x.name && decide (r.typ ≠ 1) && decide (r.typ ≠ 28))
def placedT (t : Int) : Bool := decide (t = 2) || decide (t = 43) || decide (t = 47) || decide (t = 46) || decide (t = 1) || decide (t = 28)
def placedR (z : Zone) (r : Rec) : Bool :=
  if (lbl r.name)[0]? = some [42] ∧ (r.typ = 2 ∨ r.typ = 39) then false
  else z.recs.all (placedOk z r) && (if belowN r.name z.origin && hasR z.recs r.name 2 then placedT r.typ else decide (r.typ ≠ 43))
theorem placed_l0 (z : Zone) (r : Rec) (hz : z.wf) (hr : r.wf) (p : PV) (N : Nat) (hN : z.recs.length < N) (hl : z.recs.length ≤ 1000000) :
    l0_ddiref10_placed.ev S N [z.pv, r.pv, p] = some (if z.recs.all (placedOk z r) = true then .yld 0 [] else .ret [.b false]) := by
  have g1 := hz.origin
  have g2 := hr.name
  unfold strr at g1 g2
  refine loop_list z.recs (fun i => [.i .i64 (i : Int)]) (fun i l => if l.all (placedOk z r) = true then .yld 0 [] else .ret [.b false]) rfl hN (fun i c l hd hi hc => ?_) ?_
  · have g3 := (hz.recs.2 c (List.mem_of_getElem? hc)).name
    unfold strr at g3
    have key : b0_ddiref10_placed.ev S N ([z.pv, r.pv, p] ++ [.i .i64 (i : Int)]) = some (if placedOk z r c = true then .yld 1 [.i .i64 ((i : Int) + 1)] else .ret [.b false]) := by
      by_cases h1 : c.typ = 39
      · have h2 : c.typ ≠ 2 := by omega
        rcases Bool.eq_false_or_eq_true (belowN r.name c.name) with h3 | h3 <;> simp (disch := omega) only [x_ddiref10_placed, below10_ok, hc, h1, h3, EVP, ↓reduceIte, EV, if_true, if_false, Nat.reduceAdd, Nat.reduceEqDiff, Int.reduceToNat, ne_eq, not_true, not_false_eq_true, Bool.true_eq_false, reduceCtorEq] <;> simp [placedOk, h1, h3]
      · by_cases h2 : c.typ = 2
        · rcases Bool.eq_false_or_eq_true (belowN r.name c.name) with h3 | h3 <;> rcases Bool.eq_false_or_eq_true (belowN c.name z.origin) with h4 | h4 <;> simp (disch := omega) only [x_ddiref10_placed, below10_ok, hc, h2, h3, h4, EVP, ↓reduceIte, EV, if_true, if_false, Nat.reduceAdd, Nat.reduceEqDiff, Int.reduceToNat, ne_eq, not_true, not_false_eq_true, Bool.true_eq_false, reduceCtorEq] <;> simp [placedOk, h2, h3, h4]
          by_cases h5 : r.typ = 1 <;> by_cases h6 : r.typ = 28 <;> simp [h5, h6]
        · simp (disch := omega) only [x_ddiref10_placed, hc, h1, h2, EVP, ↓reduceIte, EV, if_true, if_false, Nat.reduceAdd, Nat.reduceEqDiff, Int.reduceToNat, ne_eq, not_true, not_false_eq_true, Bool.true_eq_false, reduceCtorEq]
          simp [placedOk, h1, h2]
    rw [key]
    rcases Bool.eq_false_or_eq_true (placedOk z r c) with h | h <;> simp [h, Out.goes]
  · simp (disch := omega) [x_ddiref10_placed, EVP, ↓reduceIte, EV, if_true, if_false, Nat.reduceAdd, Nat.reduceEqDiff, Int.reduceToNat, ne_eq, not_true, not_false_eq_true, Bool.true_eq_false, reduceCtorEq, Out.goes]
theorem placed_ok (z : Zone) (r : Rec) (hz : z.wf) (hr : r.wf) (hl : z.recs.length ≤ 1000000) : S n_ddiref10_placed 2 [z.pv, r.pv] = some [.b (placedR z r)] := by
  refine s_ddiref10_placed (N := z.recs.length + 1) rfl ?_
  have g1 := hz.origin
  have g2 := hr.name
  unfold strr at g1 g2
  have g3 := lbl_len r.name
  have tail : T.ev S (z.recs.length + 1) c21_ddiref10_placed [z.pv, r.pv, strsPV (lbl r.name)] = some (.ret [.b (z.recs.all (placedOk z r) && (if belowN r.name z.origin && hasR z.recs r.name 2 then placedT r.typ else decide (r.typ ≠ 43)))]) := by
    rcases Bool.eq_false_or_eq_true (z.recs.all (placedOk z r)) with h0 | h0
    · rcases Bool.eq_false_or_eq_true (belowN r.name z.origin) with h1 | h1 <;> rcases Bool.eq_false_or_eq_true (hasR z.recs r.name 2) with h2 | h2
      · simp (disch := omega) only [x_ddiref10_placed, placed_l0 z r hz hr, below10_ok, has10_ok, h0, h1, h2, EVP, ↓reduceIte, EV, if_true, if_false, Nat.reduceAdd, Nat.reduceEqDiff, Int.reduceToNat, ne_eq, not_true, not_false_eq_true, Bool.true_eq_false, reduceCtorEq]
        simp only [placedT]
        grind
      all_goals simp (disch := omega) only [x_ddiref10_placed, placed_l0 z r hz hr, below10_ok, has10_ok, h0, h1, h2, EVP, ↓reduceIte, EV, if_true, if_false, Nat.reduceAdd, Nat.reduceEqDiff, Int.reduceToNat, ne_eq, not_true, not_false_eq_true, Bool.true_eq_false, reduceCtorEq]
      all_goals simp
    · simp (disch := omega) only [x_ddiref10_placed, placed_l0 z r hz hr, h0, EVP, ↓reduceIte, EV, if_true, if_false, Nat.reduceAdd, Nat.reduceEqDiff, Int.reduceToNat, ne_eq, not_true, not_false_eq_true, Bool.true_eq_false, reduceCtorEq]
      simp
  unfold placedR
  cases h : lbl r.name with
  | nil =>
    rw [h] at tail
    simp (disch := first | omega | (simp; omega)) only [↓tail, x_ddiref10_placed, Labels1_ok, h, EVP, ↓reduceIte, EV, if_true, if_false, Nat.reduceAdd, Nat.reduceEqDiff, Int.reduceToNat, ne_eq, not_true, not_false_eq_true, Bool.true_eq_false, reduceCtorEq]
    simp
  | cons a l =>
    rw [h] at tail
    have g4 : 0 < ((a :: l).length : Int) := by simp only [List.length_cons]; omega
    by_cases h1 : a = [42] <;> by_cases h2 : r.typ = 2 <;> by_cases h3 : r.typ = 39
    all_goals first | omega | skip
    all_goals try subst h1
    all_goals simp (disch := first | omega | (simp; omega)) only [↓tail, x_ddiref10_placed, Labels1_ok, h, h2, h3, EVP, ↓reduceIte, EV, if_true, if_false, Nat.reduceAdd, Nat.reduceEqDiff, Int.reduceToNat, ne_eq, not_true, not_false_eq_true, Bool.true_eq_false, reduceCtorEq]
    all_goals simp [h2, h3, *]

def recOk (z : Zone) (r : Rec) : Bool := under r.name z.origin && !(decide (r.typ = 6) && decide (r.name ≠ z.origin)) && besideR z r && placedR z r
def checkZ (z : Zone) : Int :=
  if vld z.origin = false then 2
  else if 2048 < z.recs.length then 9
  else if z.recs.all (fun r => decide ((findR z.recs r.name r.typ).length ≤ 64)) = false then 9
  else if z.recs.all vldR = false then 5
  else if z.recs ≠ sortR z.recs then 7
  else if (findR z.recs z.origin 6).length ≠ 1 ∨ hasR z.recs z.origin 2 = false then 13
  else if z.recs.all (recOk z) = false then 13
  else 0
theorem Check_l0 (z : Zone) (N : Nat) (hN : z.recs.length < N) (hl : z.recs.length ≤ 1000000) (p : PV) :
    l0_ddiref10_Check.ev S N [z.pv, p] = some (if z.recs.all (fun r => decide ((findR z.recs r.name r.typ).length ≤ 64)) = true then .yld 0 [] else .ret [.i .i64 9]) := by
  refine loop_list z.recs (fun i => [.i .i64 (i : Int)]) (fun i l => if l.all (fun r => decide ((findR z.recs r.name r.typ).length ≤ 64)) = true then .yld 0 [] else .ret [.i .i64 9]) rfl hN (fun i c l hd hi hc => ?_) ?_
  · by_cases h : (findR z.recs c.name c.typ).length ≤ 64
    · left
      simp (disch := omega) only [x_ddiref10_Check, Find7_ok, hc, EVP, ↓reduceIte, EV, if_true, if_false, Nat.reduceAdd, Nat.reduceEqDiff, Int.reduceToNat, ne_eq, not_true, not_false_eq_true, Bool.true_eq_false, reduceCtorEq]
      simp [h]
    · right
      simp (disch := omega) only [x_ddiref10_Check, Find7_ok, hc, EVP, ↓reduceIte, EV, if_true, if_false, Nat.reduceAdd, Nat.reduceEqDiff, Int.reduceToNat, ne_eq, not_true, not_false_eq_true, Bool.true_eq_false, reduceCtorEq]
      simp [h, Out.goes]
  · simp (disch := omega) [x_ddiref10_Check, EVP, ↓reduceIte, EV, if_true, if_false, Nat.reduceAdd, Nat.reduceEqDiff, Int.reduceToNat, ne_eq, not_true, not_false_eq_true, Bool.true_eq_false, reduceCtorEq, Out.goes]
theorem Check_l1 (z : Zone) (hz : z.wf) (N : Nat) (hN : z.recs.length < N) (hl : z.recs.length ≤ 1000000) (p : PV) :
    l1_ddiref10_Check.ev S N [z.pv, p] = some (if z.recs.all vldR = true then .yld 0 [] else .ret [.i .i64 5]) := by
  refine loop_list z.recs (fun i => [.i .i64 (i : Int)]) (fun i l => if l.all vldR = true then .yld 0 [] else .ret [.i .i64 5]) rfl hN (fun i c l hd hi hc => ?_) ?_
  · have hw := hz.recs.2 c (List.mem_of_getElem? hc)
    rcases Bool.eq_false_or_eq_true (vldR c) with h | h
    · left
      simp (disch := omega) only [x_ddiref10_Check, Valid7_ok c hw, hc, h, EVP, ↓reduceIte, EV, if_true, if_false, Nat.reduceAdd, Nat.reduceEqDiff, Int.reduceToNat, ne_eq, not_true, not_false_eq_true, Bool.true_eq_false, reduceCtorEq]
      simp [h]
    · right
      simp (disch := omega) only [x_ddiref10_Check, Valid7_ok c hw, hc, h, EVP, ↓reduceIte, EV, if_true, if_false, Nat.reduceAdd, Nat.reduceEqDiff, Int.reduceToNat, ne_eq, not_true, not_false_eq_true, Bool.true_eq_false, reduceCtorEq]
      simp [h, Out.goes]
  · simp (disch := omega) [x_ddiref10_Check, EVP, ↓reduceIte, EV, if_true, if_false, Nat.reduceAdd, Nat.reduceEqDiff, Int.reduceToNat, ne_eq, not_true, not_false_eq_true, Bool.true_eq_false, reduceCtorEq, Out.goes]
theorem Check_l2 (z : Zone) (hz : z.wf) (N : Nat) (hN : z.recs.length < N) (hl : z.recs.length ≤ 1000000) (p1 p2 p3 p4 p5 : PV) :
    l2_ddiref10_Check.ev S N [z.pv, p1, p2, p3, p4, p5] = some (if z.recs.all (recOk z) = true then .yld 0 [] else .ret [.i .i64 13]) := by
  have g1 := hz.origin
  unfold strr at g1
  refine loop_list z.recs (fun i => [.i .i64 (i : Int)]) (fun i l => if l.all (recOk z) = true then .yld 0 [] else .ret [.i .i64 13]) rfl hN (fun i c l hd hi hc => ?_) ?_
  · have hw := hz.recs.2 c (List.mem_of_getElem? hc)
    have g2 := hw.name
    unfold strr at g2
    have key : b2_ddiref10_Check.ev S N ([z.pv, p1, p2, p3, p4, p5] ++ [.i .i64 (i : Int)]) = some (if recOk z c = true then .yld 1 [.i .i64 ((i : Int) + 1)] else .ret [.i .i64 13]) := by
      rcases Bool.eq_false_or_eq_true (under c.name z.origin) with h1 | h1
      · by_cases h2 : c.typ = 6 <;> by_cases h3 : c.name = z.origin
        all_goals try rw [h3] at h1 g2
        all_goals rcases ch2 (besideR z c) (placedR z c) with e0 | ⟨e0, e1⟩ | ⟨e0, e1⟩
        all_goals simp (disch := omega) only [x_ddiref10_Check, Under1_ok, beside_ok, placed_ok z c hz hw, hc, h1, h2, h3, EVP, ↓reduceIte, EV, if_true, if_false, Nat.reduceAdd, Nat.reduceEqDiff, Int.reduceToNat, ne_eq, not_true, not_false_eq_true, Bool.true_eq_false, reduceCtorEq, *]
        all_goals simp [recOk, h1, h2, h3, *]
      · simp (disch := omega) only [x_ddiref10_Check, Under1_ok, hc, h1, EVP, ↓reduceIte, EV, if_true, if_false, Nat.reduceAdd, Nat.reduceEqDiff, Int.reduceToNat, ne_eq, not_true, not_false_eq_true, Bool.true_eq_false, reduceCtorEq]
        simp [recOk, h1]
    rw [key]
    rcases Bool.eq_false_or_eq_true (recOk z c) with h | h <;> simp [h, Out.goes]
  · simp (disch := omega) [x_ddiref10_Check, EVP, ↓reduceIte, EV, if_true, if_false, Nat.reduceAdd, Nat.reduceEqDiff, Int.reduceToNat, ne_eq, not_true, not_false_eq_true, Bool.true_eq_false, reduceCtorEq, Out.goes]
theorem Check10_ok (z : Zone) (hz : z.wf) : S n_ddiref10_Check 1 [z.pv] = some [.i .i64 (checkZ z)] := by
  refine s_ddiref10_Check (N := z.recs.length + 1) rfl ?_
  have g1 := hz.origin
  unfold strr at g1
  unfold checkZ
  rcases Bool.eq_false_or_eq_true (vld z.origin) with h1 | h1
  · by_cases h2 : 2048 < z.recs.length
    · simp (disch := omega) only [x_ddiref10_Check, Valid1_ok, h1, h2, EVP, ↓reduceIte, EV, if_true, if_false, Nat.reduceAdd, Nat.reduceEqDiff, Int.reduceToNat, ne_eq, not_true, not_false_eq_true, Bool.true_eq_false, reduceCtorEq]
    · rcases Bool.eq_false_or_eq_true (z.recs.all (fun r => decide ((findR z.recs r.name r.typ).length ≤ 64))) with h3 | h3
      · rcases Bool.eq_false_or_eq_true (z.recs.all vldR) with h4 | h4
        · by_cases h5 : z.recs = sortR z.recs
          · by_cases h6 : (findR z.recs z.origin 6).length = 1
            · rcases Bool.eq_false_or_eq_true (hasR z.recs z.origin 2) with h7 | h7
              · rcases Bool.eq_false_or_eq_true (z.recs.all (recOk z)) with h8 | h8 <;> simp (disch := omega) only [x_ddiref10_Check, Valid1_ok, Check_l0, Check_l1 z hz, Check_l2 z hz, Sort7_ok _ hz.recs.2, Equal7_ok, Find7_ok, has10_ok, h1, h2, h3, h4, ← h5, h6, h7, h8, EVP, ↓reduceIte, EV, if_true, if_false, Nat.reduceAdd, Nat.reduceEqDiff, Int.reduceToNat, ne_eq, not_true, not_false_eq_true, Bool.true_eq_false, reduceCtorEq] <;> simp
              · simp (disch := omega) only [x_ddiref10_Check, Valid1_ok, Check_l0, Check_l1 z hz, Sort7_ok _ hz.recs.2, Equal7_ok, Find7_ok, has10_ok, h1, h2, h3, h4, ← h5, h6, h7, EVP, ↓reduceIte, EV, if_true, if_false, Nat.reduceAdd, Nat.reduceEqDiff, Int.reduceToNat, ne_eq, not_true, not_false_eq_true, Bool.true_eq_false, reduceCtorEq]
                simp
            · simp (disch := omega) only [x_ddiref10_Check, Valid1_ok, Check_l0, Check_l1 z hz, Sort7_ok _ hz.recs.2, Equal7_ok, Find7_ok, has10_ok, h1, h2, h3, h4, ← h5, h6, EVP, ↓reduceIte, EV, if_true, if_false, Nat.reduceAdd, Nat.reduceEqDiff, Int.reduceToNat, ne_eq, not_true, not_false_eq_true, Bool.true_eq_false, reduceCtorEq]
              simp
          · simp (disch := omega) only [x_ddiref10_Check, Valid1_ok, Check_l0, Check_l1 z hz, Sort7_ok _ hz.recs.2, Equal7_ok, h1, h2, h3, h4, h5, EVP, ↓reduceIte, EV, if_true, if_false, Nat.reduceAdd, Nat.reduceEqDiff, Int.reduceToNat, ne_eq, not_true, not_false_eq_true, Bool.true_eq_false, reduceCtorEq]
        · simp (disch := omega) only [x_ddiref10_Check, Valid1_ok, Check_l0, Check_l1 z hz, h1, h2, h3, h4, EVP, ↓reduceIte, EV, if_true, if_false, Nat.reduceAdd, Nat.reduceEqDiff, Int.reduceToNat, ne_eq, not_true, not_false_eq_true, Bool.true_eq_false, reduceCtorEq]
      · simp (disch := omega) only [x_ddiref10_Check, Valid1_ok, Check_l0, h1, h2, h3, EVP, ↓reduceIte, EV, if_true, if_false, Nat.reduceAdd, Nat.reduceEqDiff, Int.reduceToNat, ne_eq, not_true, not_false_eq_true, Bool.true_eq_false, reduceCtorEq]
  · simp (disch := omega) only [x_ddiref10_Check, Valid1_ok, h1, EVP, ↓reduceIte, EV, if_true, if_false, Nat.reduceAdd, Nat.reduceEqDiff, Int.reduceToNat, ne_eq, not_true, not_false_eq_true, Bool.true_eq_false, reduceCtorEq]
end Go.X.G
/- The law LookupSoas. -/
namespace Go.X.G
open Go Go.X

theorem zoneFind_ok (z : Zone) (n : List UInt8) (t : Int) (hl : z.recs.length ≤ 1000000) : S n_zone_Find 3 [z.pv, .s n, .i .i64 t] = some [recsPV (findR z.recs n t)] := by
  refine s_zone_Find (N := 1) rfl ?_
  simp (disch := omega) only [x_zone_Find, FindP_ok, EVP, ↓reduceIte, EV, if_true, if_false, Nat.reduceAdd, Nat.reduceEqDiff, Int.reduceToNat, ne_eq, not_true, not_false_eq_true, Bool.true_eq_false, reduceCtorEq]
theorem Find10_ok (z : Zone) (n : List UInt8) (t : Int) (hl : z.recs.length ≤ 1000000) : S n_ddiref10_Find 3 [z.pv, .s n, .i .i64 t] = some [recsPV (findR z.recs n t)] := by
  refine s_ddiref10_Find (N := 1) rfl ?_
  simp (disch := omega) only [x_ddiref10_Find, Find7_ok, EVP, ↓reduceIte, EV, if_true, if_false, Nat.reduceAdd, Nat.reduceEqDiff, Int.reduceToNat, ne_eq, not_true, not_false_eq_true, Bool.true_eq_false, reduceCtorEq]
/-- the SOA record for negative answers -/
def soaR (z : Zone) : List Rec := match findR z.recs z.origin 6 with
  | [] => []
  | r :: _ => [{ r with ttl := if r.data.e < r.ttl then r.data.e else r.ttl }]
theorem SoaP_ok (z : Zone) (hl : z.recs.length ≤ 1000000) : S n_lookup_Soa 1 [z.pv] = some [recsPV (soaR z)] := by
  refine s_lookup_Soa (N := 1) rfl ?_
  unfold soaR
  cases h : findR z.recs z.origin 6 with
  | nil => simp (disch := first | omega | (simp; omega)) only [x_lookup_Soa, zoneFind_ok, h, EVP, ↓reduceIte, EV, if_true, if_false, Nat.reduceAdd, Nat.reduceEqDiff, Int.reduceToNat, ne_eq, not_true, not_false_eq_true, Bool.true_eq_false, reduceCtorEq]
  | cons r l =>
    have h1 : ¬ (((l.length + 1 : Nat) : Int) = 0) := by omega
    by_cases h2 : r.data.e < r.ttl <;> simp (disch := first | omega | (simp; omega)) only [x_lookup_Soa, zoneFind_ok, h, h2, EVP, ↓reduceIte, EV, if_true, if_false, Nat.reduceAdd, Nat.reduceEqDiff, Int.reduceToNat, ne_eq, not_true, not_false_eq_true, Bool.true_eq_false, reduceCtorEq]
theorem SoaR_ok (z : Zone) (hl : z.recs.length ≤ 1000000) : S n_ddiref11_Soa 1 [z.pv] = some [recsPV (soaR z)] := by
  refine s_ddiref11_Soa (N := 1) rfl ?_
  unfold soaR
  cases h : findR z.recs z.origin 6 with
  | nil => simp (disch := first | omega | (simp; omega)) only [x_ddiref11_Soa, Find10_ok, h, EVP, ↓reduceIte, EV, if_true, if_false, Nat.reduceAdd, Nat.reduceEqDiff, Int.reduceToNat, ne_eq, not_true, not_false_eq_true, Bool.true_eq_false, reduceCtorEq]
  | cons r l =>
    have h1 : ¬ (((l.length + 1 : Nat) : Int) = 0) := by omega
    by_cases h2 : r.data.e < r.ttl <;> simp (disch := first | omega | (simp; omega)) only [x_ddiref11_Soa, Find10_ok, h, h2, EVP, ↓reduceIte, EV, if_true, if_false, Nat.reduceAdd, Nat.reduceEqDiff, Int.reduceToNat, ne_eq, not_true, not_false_eq_true, Bool.true_eq_false, reduceCtorEq]
theorem small_ok (z : Zone) (hz : z.wf) : S n_ddilaw11_small 1 [z.pv] = some [.b (decide (z.recs.length ≤ 60) && decide (checkZ z = 0))] := by
  refine s_ddilaw11_small (N := 1) rfl ?_
  by_cases h : z.recs.length ≤ 60 <;> simp (disch := omega) only [x_ddilaw11_small, Check10_ok z hz, h, EVP, ↓reduceIte, EV, if_true, if_false, Nat.reduceAdd, Nat.reduceEqDiff, Int.reduceToNat, ne_eq, not_true, not_false_eq_true, Bool.true_eq_false, reduceCtorEq] <;> simp
theorem records_ok (a b : List Rec) (ha : a.length ≤ 1000000) : S n_ddilaw11_records 2 [recsPV a, recsPV b] = some [.b (decide (a = b))] := by
  refine s_ddilaw11_records (N := a.length + 1) rfl ?_
  by_cases hl : a.length = b.length
  · have key : l0_ddilaw11_records.ev S (a.length + 1) [recsPV a, recsPV b] = some (if a.drop 0 = b.drop 0 then .yld 0 [] else .ret [.b false]) := by
      refine loop_list a (fun i => [.i .i64 (i : Int)]) (fun i r => if r = b.drop i then .yld 0 [] else .ret [.b false]) rfl (by omega) (fun i c r hd hi hc => ?_) ?_
      · obtain ⟨y, r', hb, hd2, hd3⟩ : ∃ y r', b[i]? = some y ∧ b.drop i = y :: r' ∧ b.drop (i + 1) = r' := ⟨b[i]'(by omega), _, List.getElem?_eq_getElem (by omega), List.drop_eq_getElem_cons (by omega), rfl⟩
        rw [hd2, hd3]
        by_cases h : c = y
        · subst h
          left
          simp (disch := omega) only [x_ddilaw11_records, hc, hb, EVP, ↓reduceIte, EV, if_true, if_false, Nat.reduceAdd, Nat.reduceEqDiff, Int.reduceToNat, ne_eq, not_true, not_false_eq_true, Bool.true_eq_false, reduceCtorEq]
          simp
        · right
          simp (disch := omega) only [x_ddilaw11_records, hc, hb, h, EVP, ↓reduceIte, EV, if_true, if_false, Nat.reduceAdd, Nat.reduceEqDiff, Int.reduceToNat, ne_eq, not_true, not_false_eq_true, Bool.true_eq_false, reduceCtorEq]
          simp [h, Out.goes]
      · have hd2 : b.drop a.length = [] := List.drop_eq_nil_of_le (by omega)
        rw [hd2]
        simp (disch := omega) only [x_ddilaw11_records, EVP, ↓reduceIte, EV, if_true, if_false, Nat.reduceAdd, Nat.reduceEqDiff, Int.reduceToNat, ne_eq, not_true, not_false_eq_true, Bool.true_eq_false, reduceCtorEq]
        simp [Out.goes]
    simp only [List.drop_zero] at key
    by_cases h : a = b
    · rw [if_pos h] at key
      simp (disch := omega) only [x_ddilaw11_records, key, EVP, ↓reduceIte, EV, if_true, if_false, Nat.reduceAdd, Nat.reduceEqDiff, Int.reduceToNat, ne_eq, not_true, not_false_eq_true, Bool.true_eq_false, reduceCtorEq]
      try simp [h]
    · rw [if_neg h] at key
      simp (disch := omega) only [x_ddilaw11_records, key, EVP, ↓reduceIte, EV, if_true, if_false, Nat.reduceAdd, Nat.reduceEqDiff, Int.reduceToNat, ne_eq, not_true, not_false_eq_true, Bool.true_eq_false, reduceCtorEq]
      try simp [h]
  · have h : a ≠ b := fun h => hl (by rw [h])
    simp (disch := omega) [x_ddilaw11_records, h, EVP, ↓reduceIte, EV, if_true, if_false, Nat.reduceAdd, Nat.reduceEqDiff, Int.reduceToNat, ne_eq, not_true, not_false_eq_true, Bool.true_eq_false, reduceCtorEq]
def zero : Dat := ⟨false, 0, 0, [], [], [], 0, 0, 0, 0, 0, 0, 0⟩
def sample11 : Zone := ⟨[120, 46], [⟨[120, 46], 2, 9, { zero with host := [110, 46, 120, 46] }⟩, ⟨[120, 46], 6, 9, { zero with host := [110, 46, 120, 46], mail := [109, 46, 120, 46], e := 5 }⟩,
  ⟨[42, 46, 120, 46], 1, 9, { zero with lo := 1 }⟩, ⟨[100, 46, 120, 46], 2, 9, { zero with host := [110, 46, 100, 46, 120, 46] }⟩]⟩
theorem sample_ok : S n_ddilaw11_sample 0 [] = some [sample11.pv] := (sem_iff noExt_mono).2 ⟨3, by kernel_rfl⟩
theorem law_LookupSoas (z : Zone) (hz : z.wf) : S n_ddilaw11_LookupSoas 1 [z.pv] = some [.b true] := by
  refine s_ddilaw11_LookupSoas (N := 1) rfl ?_
  have h1 := SoaP_ok sample11 (by decide)
  have h2 : soaR sample11 = [⟨[120, 46], 6, 5, { zero with host := [110, 46, 120, 46], mail := [109, 46, 120, 46], e := 5 }⟩] := by decide
  rw [h2] at h1
  by_cases h3 : z.recs.length ≤ 60
  · have h4 : (soaR z).length ≤ 1000000 := by unfold soaR; split <;> simp
    by_cases h5 : checkZ z = 0 <;> simp (disch := first | omega | (simp; omega)) only [x_ddilaw11_LookupSoas, sample_ok, h1, small_ok z hz, SoaP_ok, SoaR_ok, records_ok, h3, h5, Bool.and_true, Bool.and_false, EVP, ↓reduceIte, EV, if_true, if_false, Nat.reduceAdd, Nat.reduceEqDiff, Int.reduceToNat, ne_eq, not_true, not_false_eq_true, Bool.true_eq_false, reduceCtorEq]
  · simp (disch := first | omega | (simp; omega)) only [x_ddilaw11_LookupSoas, sample_ok, h1, small_ok z hz, h3, Bool.false_and, EVP, ↓reduceIte, EV, if_true, if_false, Nat.reduceAdd, Nat.reduceEqDiff, Int.reduceToNat, ne_eq, not_true, not_false_eq_true, Bool.true_eq_false, reduceCtorEq]
end Go.X.G
/- The program's data out of the readings. -/
namespace Go.X
open Go
def shDat : Sh := .st [.st [.b, .i .u64, .i .u64], .s, .s, .s, .i .i64, .i .i64, .i .i64, .i .i64, .i .i64, .i .i64, .i .u64]
def shRec : Sh := .st [.s, .i .i64, .i .i64, shDat]
def shRecs : Sh := .l shRec
def shZone : Sh := .st [.s, shRecs]
theorem i64_rng {n : Int} (h1 : IntKind.i64.min ≤ n) (h2 : n ≤ IntKind.i64.max) : i64r n := ⟨h1, h2⟩
theorem u64_rng {n : Int} (h1 : IntKind.u64.min ≤ n) (h2 : n ≤ IntKind.u64.max) : u64r n := ⟨h1, h2⟩
theorem okCs_cons {f : Sh} {fs : List Sh} {cs : List PV} (h : Sh.okCs (f :: fs) cs) : ∃ a b, cs = a ++ b ∧ f.okC a ∧ Sh.okCs fs b := by simpa only [Sh.okCs] using h
theorem okCs_nil {cs : List PV} (h : Sh.okCs [] cs) : cs = [] := by simpa only [Sh.okCs] using h
theorem okC_st {fs : List Sh} {cs : List PV} (h : (Sh.st fs).okC cs) : Sh.okCs fs cs := by simpa only [Sh.okC] using h
theorem okC_s {cs : List PV} (h : Sh.s.okC cs) : ∃ x, cs = [.s x] ∧ strr x := by
  simp only [Sh.okC] at h
  exact h
theorem okC_b {cs : List PV} (h : Sh.b.okC cs) : ∃ x, cs = [.b x] := by simpa only [Sh.okC] using h
theorem okC_i64 {cs : List PV} (h : (Sh.i .i64).okC cs) : ∃ x, cs = [.i .i64 x] ∧ i64r x := by
  simp only [Sh.okC] at h
  exact h
theorem okC_u64 {cs : List PV} (h : (Sh.i .u64).okC cs) : ∃ x, cs = [.i .u64 x] ∧ u64r x := by
  simp only [Sh.okC] at h
  exact h
theorem ok_dat {cs : List PV} (h : shDat.okC cs) : ∃ d : Dat, d.wf ∧ cs = d.cells := by
  obtain ⟨c0, r0, rfl, h0, h⟩ := okCs_cons (okC_st h)
  obtain ⟨a1, r1, rfl, h1, h⟩ := okCs_cons h
  obtain ⟨a2, r2, rfl, h2, h⟩ := okCs_cons h
  obtain ⟨a3, r3, rfl, h3, h⟩ := okCs_cons h
  obtain ⟨a4, r4, rfl, h4, h⟩ := okCs_cons h
  obtain ⟨a5, r5, rfl, h5, h⟩ := okCs_cons h
  obtain ⟨a6, r6, rfl, h6, h⟩ := okCs_cons h
  obtain ⟨a7, r7, rfl, h7, h⟩ := okCs_cons h
  obtain ⟨a8, r8, rfl, h8, h⟩ := okCs_cons h
  obtain ⟨a9, r9, rfl, h9, h⟩ := okCs_cons h
  obtain ⟨a10, r10, rfl, h10, h⟩ := okCs_cons h
  obtain rfl := okCs_nil h
  obtain ⟨b0, s0, rfl, g0, g⟩ := okCs_cons (okC_st h0)
  obtain ⟨b1, s1, rfl, g1, g⟩ := okCs_cons g
  obtain ⟨b2, s2, rfl, g2, g⟩ := okCs_cons g
  obtain rfl := okCs_nil g
  obtain ⟨v6, rfl⟩ := okC_b g0
  obtain ⟨hi, rfl, k1⟩ := okC_u64 g1
  obtain ⟨lo, rfl, k2⟩ := okC_u64 g2
  obtain ⟨x1, rfl, k3⟩ := okC_s h1
  obtain ⟨x2, rfl, k4⟩ := okC_s h2
  obtain ⟨x3, rfl, k5⟩ := okC_s h3
  obtain ⟨x4, rfl, k6⟩ := okC_i64 h4
  obtain ⟨x5, rfl, k7⟩ := okC_i64 h5
  obtain ⟨x6, rfl, k8⟩ := okC_i64 h6
  obtain ⟨x7, rfl, k9⟩ := okC_i64 h7
  obtain ⟨x8, rfl, k10⟩ := okC_i64 h8
  obtain ⟨x9, rfl, k11⟩ := okC_i64 h9
  obtain ⟨x10, rfl, k12⟩ := okC_u64 h10
  exact ⟨⟨v6, hi, lo, x1, x2, x3, x4, x5, x6, x7, x8, x9, x10⟩, ⟨k1, k2, k3, k4, k5, k6, k7, k8, k9, k10, k11, k12⟩, rfl⟩
theorem ok_rec {cs : List PV} (h : shRec.okC cs) : ∃ r : Rec, r.wf ∧ cs = r.cells := by
  obtain ⟨a0, r0, rfl, h0, h⟩ := okCs_cons (okC_st h)
  obtain ⟨a1, r1, rfl, h1, h⟩ := okCs_cons h
  obtain ⟨a2, r2, rfl, h2, h⟩ := okCs_cons h
  obtain ⟨a3, r3, rfl, h3, h⟩ := okCs_cons h
  obtain rfl := okCs_nil h
  obtain ⟨x0, rfl, k0⟩ := okC_s h0
  obtain ⟨x1, rfl, k1⟩ := okC_i64 h1
  obtain ⟨x2, rfl, k2⟩ := okC_i64 h2
  obtain ⟨d, k3, rfl⟩ := ok_dat h3
  exact ⟨⟨x0, x1, x2, d⟩, ⟨k0, k1, k2, k3⟩, by simp [Rec.cells]⟩
theorem ok_recs {cs : List PV} (h : shRecs.okC cs) : ∃ l : List Rec, recsr l ∧ cs = [recsPV l] := by
  have h' : ∃ xs, cs = [.l shRec.size xs] ∧ xs.length ≤ maxLen ∧ ∀ x, x ∈ xs → if shRec.agg then ∃ ds, x = .a ds ∧ shRec.okC ds else x.scal = true ∧ shRec.okC [x] := by
    unfold shRecs at h
    simpa only [Sh.okC] using h
  obtain ⟨xs, rfl, hl, hx⟩ := h'
  have go : ∀ xs : List PV, (∀ x, x ∈ xs → if shRec.agg then ∃ ds, x = .a ds ∧ shRec.okC ds else x.scal = true ∧ shRec.okC [x]) → ∃ l : List Rec, (∀ r ∈ l, r.wf) ∧ xs = l.map Rec.pv := by
    intro xs
    induction xs with
    | nil => exact fun _ => ⟨[], fun r h => (by cases h), rfl⟩
    | cons x xs ih =>
      intro hx
      obtain ⟨l, h1, rfl⟩ := ih (fun y hy => hx y (List.mem_cons_of_mem _ hy))
      have := hx x (List.mem_cons_self ..)
      obtain ⟨ds, rfl, hd⟩ : ∃ ds, x = .a ds ∧ shRec.okC ds := this
      obtain ⟨r, hr, rfl⟩ := ok_rec hd
      refine ⟨r :: l, fun y hy => ?_, rfl⟩
      rcases List.mem_cons.1 hy with rfl | hy
      · exact hr
      · exact h1 y hy
  obtain ⟨l, h1, rfl⟩ := go xs hx
  exact ⟨l, ⟨by simpa [maxLen] using hl, h1⟩, rfl⟩
theorem ok_zone {p : PV} (h : shZone.ok p) : ∃ z : Zone, z.wf ∧ p = z.pv := by
  obtain ⟨ds, rfl, h⟩ : ∃ ds, p = .a ds ∧ shZone.okC ds := h
  obtain ⟨a0, r0, rfl, h0, h⟩ := okCs_cons (okC_st h)
  obtain ⟨a1, r1, rfl, h1, h⟩ := okCs_cons h
  obtain rfl := okCs_nil h
  obtain ⟨x0, rfl, k0⟩ := okC_s h0
  obtain ⟨l, k1, rfl⟩ := ok_recs h1
  exact ⟨⟨x0, l⟩, ⟨k0, k1⟩, rfl⟩
end Go.X
