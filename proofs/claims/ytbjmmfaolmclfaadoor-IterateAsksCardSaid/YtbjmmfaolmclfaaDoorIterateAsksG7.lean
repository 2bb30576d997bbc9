/- The program's data. -/
import Derived.Test.YtbjmmfaolmclfaaDoorIterateAsksG4

set_option maxHeartbeats 1000000
set_option linter.unusedVariables false
set_option linter.unusedSimpArgs false
namespace Go.X
open Go

structure Dat where
  v6 : Bool
  hi : Int
  lo : Int
  host : List UInt8
  mail : List UInt8
  text : List UInt8
  a : Int
  b : Int
  c : Int
  d : Int
  e : Int
  f : Int
  bits : Int
  deriving DecidableEq
structure Rec where
  name : List UInt8
  typ : Int
  ttl : Int
  data : Dat
  deriving DecidableEq
structure Zone where
  origin : List UInt8
  recs : List Rec
  deriving DecidableEq
def i64r (x : Int) : Prop := -9223372036854775808 ≤ x ∧ x ≤ 9223372036854775807
def u64r (x : Int) : Prop := 0 ≤ x ∧ x ≤ 18446744073709551615
def strr (x : List UInt8) : Prop := x.length ≤ 9223372036854775807
structure Dat.wf (x : Dat) : Prop where
  hi : u64r x.hi
  lo : u64r x.lo
  host : strr x.host
  mail : strr x.mail
  text : strr x.text
  a : i64r x.a
  b : i64r x.b
  c : i64r x.c
  d : i64r x.d
  e : i64r x.e
  f : i64r x.f
  bits : u64r x.bits
structure Rec.wf (r : Rec) : Prop where
  name : strr r.name
  typ : i64r r.typ
  ttl : i64r r.ttl
  data : r.data.wf
def recsr (l : List Rec) : Prop := l.length ≤ 9223372036854775807 ∧ ∀ r ∈ l, r.wf
structure Zone.wf (z : Zone) : Prop where
  origin : strr z.origin
  recs : recsr z.recs
def Dat.cells (x : Dat) : List PV := [.b x.v6, .i .u64 x.hi, .i .u64 x.lo, .s x.host, .s x.mail, .s x.text, .i .i64 x.a, .i .i64 x.b, .i .i64 x.c, .i .i64 x.d, .i .i64 x.e, .i .i64 x.f, .i .u64 x.bits]
def Dat.pv (x : Dat) : PV := .a x.cells
def Rec.cells (x : Rec) : List PV := .s x.name :: .i .i64 x.typ :: .i .i64 x.ttl :: x.data.cells
def Rec.pv (x : Rec) : PV := .a x.cells
def recsPV (l : List Rec) : PV := .l 16 (l.map Rec.pv)
def Zone.pv (x : Zone) : PV := .a [.s x.origin, recsPV x.recs]
def strsPV (l : List (List UInt8)) : PV := .l 1 (l.map .s)
def addrPV (x : Dat) : PV := .a [.b x.v6, .i .u64 x.hi, .i .u64 x.lo]

theorem sub_rec (r : Rec) : subPV 0 16 r.pv = some r.pv := rfl
theorem fit_rec (r : Rec) : fitPV 16 r.pv = some r.pv := rfl
theorem sub_rec_data (r : Rec) : subPV 3 13 r.pv = some r.data.pv := rfl
theorem sub_rec_addr (r : Rec) : subPV 3 3 r.pv = some (addrPV r.data) := rfl
theorem proj_rec0 (r : Rec) : projPV 0 r.pv = some (.s r.name) := rfl
theorem proj_rec1 (r : Rec) : projPV 1 r.pv = some (.i .i64 r.typ) := rfl
theorem proj_rec2 (r : Rec) : projPV 2 r.pv = some (.i .i64 r.ttl) := rfl
theorem proj_rec3 (r : Rec) : projPV 3 r.pv = some (.b r.data.v6) := rfl
theorem proj_rec4 (r : Rec) : projPV 4 r.pv = some (.i .u64 r.data.hi) := rfl
theorem proj_rec5 (r : Rec) : projPV 5 r.pv = some (.i .u64 r.data.lo) := rfl
theorem proj_rec6 (r : Rec) : projPV 6 r.pv = some (.s r.data.host) := rfl
theorem proj_rec7 (r : Rec) : projPV 7 r.pv = some (.s r.data.mail) := rfl
theorem proj_rec8 (r : Rec) : projPV 8 r.pv = some (.s r.data.text) := rfl
theorem proj_rec9 (r : Rec) : projPV 9 r.pv = some (.i .i64 r.data.a) := rfl
theorem proj_rec10 (r : Rec) : projPV 10 r.pv = some (.i .i64 r.data.b) := rfl
theorem proj_rec11 (r : Rec) : projPV 11 r.pv = some (.i .i64 r.data.c) := rfl
theorem proj_rec12 (r : Rec) : projPV 12 r.pv = some (.i .i64 r.data.d) := rfl
theorem proj_rec13 (r : Rec) : projPV 13 r.pv = some (.i .i64 r.data.e) := rfl
theorem proj_rec14 (r : Rec) : projPV 14 r.pv = some (.i .i64 r.data.f) := rfl
theorem proj_rec15 (r : Rec) : projPV 15 r.pv = some (.i .u64 r.data.bits) := rfl
theorem sub_dat (r : Dat) : subPV 0 13 r.pv = some r.pv := rfl
theorem sub_dat_addr (r : Dat) : subPV 0 3 r.pv = some (addrPV r) := rfl
theorem fit_dat (r : Dat) : fitPV 13 r.pv = some r.pv := rfl
theorem proj_dat0 (r : Dat) : projPV 0 r.pv = some (.b r.v6) := rfl
theorem proj_dat1 (r : Dat) : projPV 1 r.pv = some (.i .u64 r.hi) := rfl
theorem proj_dat2 (r : Dat) : projPV 2 r.pv = some (.i .u64 r.lo) := rfl
theorem proj_dat3 (r : Dat) : projPV 3 r.pv = some (.s r.host) := rfl
theorem proj_dat4 (r : Dat) : projPV 4 r.pv = some (.s r.mail) := rfl
theorem proj_dat5 (r : Dat) : projPV 5 r.pv = some (.s r.text) := rfl
theorem proj_dat6 (r : Dat) : projPV 6 r.pv = some (.i .i64 r.a) := rfl
theorem proj_dat7 (r : Dat) : projPV 7 r.pv = some (.i .i64 r.b) := rfl
theorem proj_dat8 (r : Dat) : projPV 8 r.pv = some (.i .i64 r.c) := rfl
theorem proj_dat9 (r : Dat) : projPV 9 r.pv = some (.i .i64 r.d) := rfl
theorem proj_dat10 (r : Dat) : projPV 10 r.pv = some (.i .i64 r.e) := rfl
theorem proj_dat11 (r : Dat) : projPV 11 r.pv = some (.i .i64 r.f) := rfl
theorem proj_dat12 (r : Dat) : projPV 12 r.pv = some (.i .u64 r.bits) := rfl
theorem fit_addr (r : Dat) : fitPV 3 (addrPV r) = some (addrPV r) := rfl
theorem sub_addr (r : Dat) : subPV 0 3 (addrPV r) = some (addrPV r) := rfl
theorem proj_addr0 (r : Dat) : projPV 0 (addrPV r) = some (.b r.v6) := rfl
theorem proj_addr1 (r : Dat) : projPV 1 (addrPV r) = some (.i .u64 r.hi) := rfl
theorem proj_addr2 (r : Dat) : projPV 2 (addrPV r) = some (.i .u64 r.lo) := rfl
theorem fit_zone (r : Zone) : fitPV 2 r.pv = some r.pv := rfl
theorem sub_zone (r : Zone) : subPV 0 2 r.pv = some r.pv := rfl
theorem proj_zone0 (r : Zone) : projPV 0 r.pv = some (.s r.origin) := rfl
theorem proj_zone1 (r : Zone) : projPV 1 r.pv = some (recsPV r.recs) := rfl
theorem fold_dat (v : Bool) (h l : Int) (s1 s2 s3 : List UInt8) (a b c d e f g : Int) : PV.a [.b v, .i .u64 h, .i .u64 l, .s s1, .s s2, .s s3, .i .i64 a, .i .i64 b, .i .i64 c, .i .i64 d, .i .i64 e, .i .i64 f, .i .u64 g] = Dat.pv ⟨v, h, l, s1, s2, s3, a, b, c, d, e, f, g⟩ := rfl
theorem fold_rec (n : List UInt8) (t u : Int) (v : Bool) (h l : Int) (s1 s2 s3 : List UInt8) (a b c d e f g : Int) : PV.a [.s n, .i .i64 t, .i .i64 u, .b v, .i .u64 h, .i .u64 l, .s s1, .s s2, .s s3, .i .i64 a, .i .i64 b, .i .i64 c, .i .i64 d, .i .i64 e, .i .i64 f, .i .u64 g] = Rec.pv ⟨n, t, u, ⟨v, h, l, s1, s2, s3, a, b, c, d, e, f, g⟩⟩ := rfl
theorem eta_dat (x : Dat) : (⟨x.v6, x.hi, x.lo, x.host, x.mail, x.text, x.a, x.b, x.c, x.d, x.e, x.f, x.bits⟩ : Dat) = x := rfl
theorem eta_rec (x : Rec) : (⟨x.name, x.typ, x.ttl, x.data⟩ : Rec) = x := rfl
theorem flat_dat (x : Dat) : PV.flat x.pv = true := rfl
theorem flat_rec (x : Rec) : PV.flat x.pv = true := rfl
theorem flat_addr (x : Dat) : PV.flat (addrPV x) = true := rfl
theorem lit_rec (x : Rec) : litPV 16 [x.pv] = some (recsPV [x]) := rfl
theorem len_recs (l : List Rec) : lenPV (recsPV l) = some (.i .i64 (l.length : Int)) := by simp [recsPV, lenPV]
theorem idx_recs (l : List Rec) (k : IntKind) (z : Int) (h : 0 ≤ z) : idxPV 16 (recsPV l) (.i k z) = (l[z.toNat]?).map Rec.pv := by simp [recsPV, idx_l _ _ _ _ h]
theorem app_recs1 (l : List Rec) (x : Rec) (h : l.length + 1 ≤ 1073741824) : appPV 16 (recsPV l) (recsPV [x]) = some (recsPV (l ++ [x])) := by
  have := app_l 16 (l.map Rec.pv) [x.pv] (by simpa using h)
  simpa [recsPV] using this
theorem app_recs (l m : List Rec) (h : l.length + m.length ≤ 1073741824) : appPV 16 (recsPV l) (recsPV m) = some (recsPV (l ++ m)) := by
  have := app_l 16 (l.map Rec.pv) (m.map Rec.pv) (by simpa using h)
  simpa [recsPV] using this
theorem recs_nil : PV.l 16 [] = recsPV [] := rfl
theorem lsl_recs (l : List Rec) (k k' : IntKind) (a b : Int) (h1 : 0 ≤ a) (h2 : a ≤ b) (h3 : b ≤ (l.length : Int)) : lslPV 16 (recsPV l) (.i k a) (.i k' b) = some (recsPV ((l.take b.toNat).drop a.toNat)) := by
  have := lsl_l 16 (l.map Rec.pv) k k' a b h1 h2 (by simpa using h3)
  simpa [recsPV] using this
theorem set_rec (l : List Rec) (k : IntKind) (z : Int) (n : List UInt8) (t u : Int) (v : Bool) (h w : Int) (s1 s2 s3 : List UInt8) (a b c d e f g : Int) (h0 : 0 ≤ z) (h1 : z < (l.length : Int)) :
    setPV 16 0 [.s n, .i .i64 t, .i .i64 u, .b v, .i .u64 h, .i .u64 w, .s s1, .s s2, .s s3, .i .i64 a, .i .i64 b, .i .i64 c, .i .i64 d, .i .i64 e, .i .i64 f, .i .u64 g] (recsPV l) (.i k z) = some (recsPV (l.set z.toNat ⟨n, t, u, ⟨v, h, w, s1, s2, s3, a, b, c, d, e, f, g⟩⟩)) := by
  have h2 : z.toNat < l.length := by omega
  have h3 : (l.map Rec.pv)[z.toNat]? = some (l[z.toNat].pv) := by simp [h2]
  simp only [setPV, recsPV, h0, h3, and_self, if_true, Option.bind_some]
  have h4 : setElem (l[z.toNat].pv) 0 [.s n, .i .i64 t, .i .i64 u, .b v, .i .u64 h, .i .u64 w, .s s1, .s s2, .s s3, .i .i64 a, .i .i64 b, .i .i64 c, .i .i64 d, .i .i64 e, .i .i64 f, .i .u64 g] = some (Rec.pv ⟨n, t, u, ⟨v, h, w, s1, s2, s3, a, b, c, d, e, f, g⟩⟩) := rfl
  rw [h4]
  simp [List.map_set]
theorem scal_recs (l : List Rec) : scalPV (recsPV l) = some (recsPV l) := rfl
theorem len_strs (l : List (List UInt8)) : lenPV (strsPV l) = some (.i .i64 (l.length : Int)) := by simp [strsPV, lenPV]
theorem idx_strs (l : List (List UInt8)) (k : IntKind) (z : Int) (h : 0 ≤ z) : idxPV 1 (strsPV l) (.i k z) = (l[z.toNat]?).map PV.s := by simp [strsPV, idx_l _ _ _ _ h]
theorem lit_str (x : List UInt8) : litPV 1 [.s x] = some (strsPV [x]) := rfl
theorem strs_nil : PV.l 1 [] = strsPV [] := rfl
theorem app_strs1 (l : List (List UInt8)) (x : List UInt8) (h : l.length + 1 ≤ 1073741824) : appPV 1 (strsPV l) (strsPV [x]) = some (strsPV (l ++ [x])) := by
  have := app_l 1 (l.map PV.s) [.s x] (by simpa using h)
  simpa [strsPV] using this
theorem app_strs (l m : List (List UInt8)) (h : l.length + m.length ≤ 1073741824) : appPV 1 (strsPV l) (strsPV m) = some (strsPV (l ++ m)) := by
  have := app_l 1 (l.map PV.s) (m.map PV.s) (by simpa using h)
  simpa [strsPV] using this
theorem lsl_strs (l : List (List UInt8)) (k k' : IntKind) (a b : Int) (h1 : 0 ≤ a) (h2 : a ≤ b) (h3 : b ≤ (l.length : Int)) : lslPV 1 (strsPV l) (.i k a) (.i k' b) = some (strsPV ((l.take b.toNat).drop a.toNat)) := by
  have := lsl_l 1 (l.map PV.s) k k' a b h1 h2 (by simpa using h3)
  simpa [strsPV] using this
theorem set_strs (l : List (List UInt8)) (k : IntKind) (z : Int) (x : List UInt8) (h0 : 0 ≤ z) (h1 : z < (l.length : Int)) : setPV 1 0 [.s x] (strsPV l) (.i k z) = some (strsPV (l.set z.toNat x)) := by
  have h2 : z.toNat < l.length := by omega
  have h3 : (l.map PV.s)[z.toNat]? = some (.s l[z.toNat]) := by simp [h2]
  simp only [setPV, strsPV, h0, h3, and_self, if_true, Option.bind_some]
  have h4 : setElem (.s l[z.toNat]) 0 [.s x] = some (.s x) := rfl
  rw [h4]
  simp [List.map_set]
theorem rep_strs (n : Int) (h0 : 0 ≤ n) (h1 : n ≤ 1073741824) : repPV 1 (.i .i64 n) (.s []) = some (strsPV (List.replicate n.toNat [])) := by
  have h2 : n ≤ (LIM : Int) := by simp only [LIM]; omega
  have h3 : (PV.s []).cells.length = 1 := rfl
  simp only [repPV, h0, h2, h3, and_self, if_true]
  simp [strsPV]
theorem proj_strs (l : List (List UInt8)) : projPV 0 (strsPV l) = some (strsPV l) := rfl
theorem proj_recs (l : List Rec) : projPV 0 (recsPV l) = some (recsPV l) := rfl
theorem scal_strs (l : List (List UInt8)) : scalPV (strsPV l) = some (strsPV l) := rfl

theorem eq_dat (neg : Bool) (x y : Dat) : eqsPV neg true [.b, (.i .u64), (.i .u64), .s, .s, .s, (.i .i64), (.i .i64), (.i .i64), (.i .i64), (.i .i64), (.i .i64), (.i .u64)] x.pv y.pv = some (.b (if neg then decide (x ≠ y) else decide (x = y))) := by
  have : eqScs [.b, (.i .u64), (.i .u64), .s, .s, .s, (.i .i64), (.i .i64), (.i .i64), (.i .i64), (.i .i64), (.i .i64), (.i .u64)] x.cells y.cells = some (decide (x = y)) := by
    simp only [Dat.cells, eqScs, eqSc, if_true, Option.some.injEq]
    rw [Bool.eq_iff_iff]
    cases x; cases y; simp
  simp only [eqsPV, Dat.pv, this, Option.map_some]
  cases neg <;> simp
theorem eq_rec (neg : Bool) (x y : Rec) : eqsPV neg true [.s, (.i .i64), (.i .i64), .b, (.i .u64), (.i .u64), .s, .s, .s, (.i .i64), (.i .i64), (.i .i64), (.i .i64), (.i .i64), (.i .i64), (.i .u64)] x.pv y.pv = some (.b (if neg then decide (x ≠ y) else decide (x = y))) := by
  have : eqScs [.s, (.i .i64), (.i .i64), .b, (.i .u64), (.i .u64), .s, .s, .s, (.i .i64), (.i .i64), (.i .i64), (.i .i64), (.i .i64), (.i .i64), (.i .u64)] x.cells y.cells = some (decide (x = y)) := by
    simp only [Rec.cells, Dat.cells, eqScs, eqSc, if_true, Option.some.injEq]
    rw [Bool.eq_iff_iff]
    rcases x with ⟨_, _, _, ⟨⟩⟩; rcases y with ⟨_, _, _, ⟨⟩⟩; simp [and_assoc]
  simp only [eqsPV, Rec.pv, this, Option.map_some]
  cases neg <;> simp
theorem EVP : type_of% ((And.intro @set_strs (And.intro @rep_strs (And.intro @set_rec (And.intro @sub_rec (And.intro @fit_rec (And.intro @sub_rec_data (And.intro @sub_rec_addr (And.intro @proj_rec0 (And.intro @proj_rec1 (And.intro @proj_rec2 (And.intro @proj_rec3 (And.intro @proj_rec4 (And.intro @proj_rec5 (And.intro @proj_rec6 (And.intro @proj_rec7 (And.intro @proj_rec8 (And.intro @proj_rec9 (And.intro @proj_rec10 (And.intro @proj_rec11 (And.intro @proj_rec12 (And.intro @proj_rec13 (And.intro @proj_rec14 (And.intro @proj_rec15 (And.intro @sub_dat (And.intro @sub_dat_addr (And.intro @fit_dat (And.intro @proj_dat0 (And.intro @proj_dat1 (And.intro @proj_dat2 (And.intro @proj_dat3 (And.intro @proj_dat4 (And.intro @proj_dat5 (And.intro @proj_dat6 (And.intro @proj_dat7 (And.intro @proj_dat8 (And.intro @proj_dat9 (And.intro @proj_dat10 (And.intro @proj_dat11 (And.intro @proj_dat12 (And.intro @fit_addr (And.intro @sub_addr (And.intro @proj_addr0 (And.intro @proj_addr1 (And.intro @proj_addr2 (And.intro @fit_zone (And.intro @sub_zone (And.intro @proj_zone0 (And.intro @proj_zone1 (And.intro @fold_dat (And.intro @fold_rec (And.intro @eta_dat (And.intro @eta_rec (And.intro @flat_dat (And.intro @flat_rec (And.intro @flat_addr (And.intro @lit_rec (And.intro @len_recs (And.intro @idx_recs (And.intro @app_recs1 (And.intro @app_recs (And.intro @recs_nil (And.intro @lsl_recs (And.intro @scal_recs (And.intro @len_strs (And.intro @idx_strs (And.intro @lit_str (And.intro @strs_nil (And.intro @app_strs1 (And.intro @app_strs (And.intro @lsl_strs (And.intro @proj_strs (And.intro @proj_recs (And.intro @scal_strs (And.intro @eq_dat @eq_rec))))))))))))))))))))))))))))))))))))))))))))))))))))))))))))))))))))))))))) := (And.intro @set_strs (And.intro @rep_strs (And.intro @set_rec (And.intro @sub_rec (And.intro @fit_rec (And.intro @sub_rec_data (And.intro @sub_rec_addr (And.intro @proj_rec0 (And.intro @proj_rec1 (And.intro @proj_rec2 (And.intro @proj_rec3 (And.intro @proj_rec4 (And.intro @proj_rec5 (And.intro @proj_rec6 (And.intro @proj_rec7 (And.intro @proj_rec8 (And.intro @proj_rec9 (And.intro @proj_rec10 (And.intro @proj_rec11 (And.intro @proj_rec12 (And.intro @proj_rec13 (And.intro @proj_rec14 (And.intro @proj_rec15 (And.intro @sub_dat (And.intro @sub_dat_addr (And.intro @fit_dat (And.intro @proj_dat0 (And.intro @proj_dat1 (And.intro @proj_dat2 (And.intro @proj_dat3 (And.intro @proj_dat4 (And.intro @proj_dat5 (And.intro @proj_dat6 (And.intro @proj_dat7 (And.intro @proj_dat8 (And.intro @proj_dat9 (And.intro @proj_dat10 (And.intro @proj_dat11 (And.intro @proj_dat12 (And.intro @fit_addr (And.intro @sub_addr (And.intro @proj_addr0 (And.intro @proj_addr1 (And.intro @proj_addr2 (And.intro @fit_zone (And.intro @sub_zone (And.intro @proj_zone0 (And.intro @proj_zone1 (And.intro @fold_dat (And.intro @fold_rec (And.intro @eta_dat (And.intro @eta_rec (And.intro @flat_dat (And.intro @flat_rec (And.intro @flat_addr (And.intro @lit_rec (And.intro @len_recs (And.intro @idx_recs (And.intro @app_recs1 (And.intro @app_recs (And.intro @recs_nil (And.intro @lsl_recs (And.intro @scal_recs (And.intro @len_strs (And.intro @idx_strs (And.intro @lit_str (And.intro @strs_nil (And.intro @app_strs1 (And.intro @app_strs (And.intro @lsl_strs (And.intro @proj_strs (And.intro @proj_recs (And.intro @scal_strs (And.intro @eq_dat @eq_rec))))))))))))))))))))))))))))))))))))))))))))))))))))))))))))))))))))))))))
end Go.X
