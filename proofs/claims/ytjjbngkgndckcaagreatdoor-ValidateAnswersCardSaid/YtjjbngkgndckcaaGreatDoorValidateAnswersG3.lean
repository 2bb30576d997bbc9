/- strings.Builder at this program: what its methods do. -/
import Derived.Test.YtjjbngkgndckcaaGreatDoorValidateAnswersG2
import Derived.Test.YtjjbngkgndckcaaGreatDoorProg
import Derived.KernelRfl
open Array renaming getElem?_toList->B9
open List renaming getElem?_eq_some_iff->Br,getElem?_take->Cp
open Option renaming map_eq_some_iff->Bs
set_option maxHeartbeats 1000000
set_option linter.defProp false
set_option linter.unusedVariables false
set_option linter.unusedSimpArgs false
set_option linter.unusedVariables false
namespace Go.X.G
open Go Go.X Go.RowKit Go.Proofs
set_option maxHeartbeats 2000000 in
set_option maxRecDepth 100000 in
def Dc7 {b:Nat} {p u:Value} {w w1:World} (hbk:w.heap[b]? =some (.cells #[p,u] 126 (0,0))) (h:Tb b p w w1):
  Calls Go.Proofs.Tryz.prog 149 #[.pointer (some ⟨b,0,none⟩)] w fun e w'=>e= .returned (.tuple #[])∧w'=w1:=by
 obtain⟨j,hj,hjs⟩:=Bs.1 (show (Go.Proofs.Tryz.prog.info? 126).map (·.size)=some 2 from by kernel_rfl);rcases h with⟨rfl,rfl⟩|⟨rfl,rfl⟩
 .have h0:w.cell? ⟨b,0,none⟩=some (.pointer none):=by rw[Lib.cell_of_heap hbk];rfl
  have hsh:w.shape? b=some (126,2):=by simp[World.shape?,hbk]
  have hfz:w.frozen? ⟨b,0,none⟩=false:=Lib.frozen_of_heap hbk 0
  go_enter Go.Proofs.Tryz.func149,Go.Proofs.Tryz.ntmps149
  go_wp2
  rw[Lib.run_to_unsafe w ⟨b,0,none⟩ Go.Proofs.Tryz.underlying123 Go.Proofs.Tryz.underlying180 hj (by rw[hjs];decide) hsh (Nat.zero_lt_succ 1)];simp only[Result.andThen];rw[Oper.upon_value]
  go_wp2
  rw[run_callFunc_extern Go.Proofs.Tryz.func199 (by kernel_rfl) (by kernel_rfl) (by kernel_rfl) (e:=Extern.AbiNoEscape.same) (by kernel_rfl)];rw[Lib.run_noEscape];simp only[Result.andThen];rw[Oper.upon_value]
  go_wp2
  rw[Lib.run_from_unsafe w ⟨b,0,none⟩ Go.Proofs.Tryz.underlying180 Go.Proofs.Tryz.underlying123 hj hsh (by kernel_rfl)];simp only[Result.andThen];rw[Oper.upon_value]
  go_wp2
  go_end0
  exact⟨rfl,rfl⟩
 .have h0:w1.cell? ⟨b,0,none⟩=some (.pointer (some ⟨b,0,none⟩)):=by rw[Lib.cell_of_heap hbk];rfl
  go_enter Go.Proofs.Tryz.func149,Go.Proofs.Tryz.ntmps149
  go_wp2
  rw[Lib.run_neq_ptr_same w1 _ Go.Proofs.Tryz.underlying123 hj]
  go_wp2
  go_end0
  exact⟨rfl,rfl⟩
set_option maxHeartbeats 2000000 in
set_option maxRecDepth 100000 in
def Hs2 {b:Nat} {p u:Value} {ao:Option Addr} {n' c':Nat} {s:ByteArray} {w w1 w2:World} (hbk:w.heap[b]? =some (.cells #[p,u] 126 (0,0))) (hm:Tb b p w w1)
  (hrun:(Builtin.append_ #[124,9] 124 #[u,.string s]).run Go.Proofs.Tryz.prog w1= .ok (.slice ao n' c') w2) (hb2:∃q u',w2.heap[b]? =some (.cells #[q,u'] 126 (0,0))):
  Calls Go.Proofs.Tryz.prog 98 #[.pointer (some ⟨b,0,none⟩),.string s] w fun e w'=>(∃r,e= .returned r)∧w'=w2.setCell ⟨b,1,none⟩ (.slice ao n' c'):=by
 go_enter Go.Proofs.Tryz.func98,Go.Proofs.Tryz.ntmps98
 go_wp2_with (go_at_call 149;refine(Dc7 hbk hm).mono ?_)
 rintro e w' ⟨rfl,rfl⟩;have hbk1:=hm.blk hbk;have c0:w'.cell? ⟨b,0,none⟩=some (.pointer (some ⟨b,0,none⟩)):=by rw[Lib.cell_of_heap hbk1];rfl
 have c1:w'.cell? ⟨b,1,none⟩=some u:=by rw[Lib.cell_of_heap hbk1];rfl
 obtain⟨q,u',hb2⟩:=hb2;have d0:w2.cell? ⟨b,0,none⟩=some q:=by rw[Lib.cell_of_heap hb2];rfl
 have d1:w2.cell? ⟨b,1,none⟩=some u':=by rw[Lib.cell_of_heap hb2];rfl
 have f1:w2.frozen? ⟨b,1,none⟩=false:=Lib.frozen_of_heap hb2 1
 go_wp2_with (at_builtin;refine Y1 rfl _ _ _ _ rfl _ _ rfl rfl hrun ?_)
 go_wp2
 go_ret2
 exact⟨⟨_,rfl⟩,rfl⟩
set_option maxHeartbeats 2000000 in
set_option maxRecDepth 100000 in
def Gy1 {b:Nat} {p u:Value} {ao:Option Addr} {n' c':Nat} {c:Int} {w w1 w2:World} (hbk:w.heap[b]? =some (.cells #[p,u] 126 (0,0))) (hm:Tb b p w w1)
  (hrun:(Builtin.append_ #[124,124] 124 #[u,.slice (some ⟨w1.heap.size,0,none⟩) 1 1]).run Go.Proofs.Tryz.prog (w1.alloc (.cells #[.int .u8 c] 5))= .ok (.slice ao n' c') w2) (hb2:∃q u',w2.heap[b]? =some (.cells #[q,u'] 126 (0,0))):
  Calls Go.Proofs.Tryz.prog 110 #[.pointer (some ⟨b,0,none⟩),.int .u8 c] w fun e w'=>(∃r,e= .returned r)∧w'=w2.setCell ⟨b,1,none⟩ (.slice ao n' c'):=by
 go_enter Go.Proofs.Tryz.func110,Go.Proofs.Tryz.ntmps110
 go_wp2_with (go_at_call 149;refine(Dc7 hbk hm).mono ?_)
 rintro e w' ⟨rfl,rfl⟩;have hbk1:=hm.blk hbk;have c0:w'.cell? ⟨b,0,none⟩=some (.pointer (some ⟨b,0,none⟩)):=by rw[Lib.cell_of_heap hbk1];rfl
 have c1:w'.cell? ⟨b,1,none⟩=some u:=by rw[Lib.cell_of_heap hbk1];rfl
 obtain⟨q,u',hb2⟩:=hb2;have d0:w2.cell? ⟨b,0,none⟩=some q:=by rw[Lib.cell_of_heap hb2];rfl
 have d1:w2.cell? ⟨b,1,none⟩=some u':=by rw[Lib.cell_of_heap hb2];rfl
 have f1:w2.frozen? ⟨b,1,none⟩=false:=Lib.frozen_of_heap hb2 1
 go_wp2_with (at_builtin;refine Y1 rfl _ _ _ _ rfl _ _ rfl rfl hrun ?_)
 go_wp2
 go_ret
 exact⟨⟨_,rfl⟩,rfl⟩
set_option maxHeartbeats 2000000 in
set_option maxRecDepth 100000 in
def Dc6 {b g cap:Nat} {p:Value} {cur:Array Value} {l:List UInt8} {w:World} (hbk:w.heap[b]? =some (.cells #[p,.slice (some ⟨g,0,none⟩) l.length cap] 126 (0,0)))
  (hg:w.heap[g]? =some (.cells cur 5 (0,0))) (h0:l≠[]) (hnc:l.length<=cap) (hcm:cap<=maxLen) (hcs:cur.size=cap) (hl:cur.toList.take l.length=Lib.byteCells l):
  Calls Go.Proofs.Tryz.prog 102 #[.pointer (some ⟨b,0,none⟩)] w fun e w'=>e= .returned (.string ⟨l.toArray⟩)∧w'=w.drew.freeze ⟨g,0,none⟩ l.length:=by
 have hl0:l.length≠0:=by simpa using h0
 have c1:w.drew.cell? ⟨b,1,none⟩=some (.slice (some ⟨g,0,none⟩) l.length cap):=by have:w.drew.heap[b]? =some (.cells #[p,.slice (some ⟨g,0,none⟩) l.length cap] 126 (0,0)):=hbk;rw[Lib.cell_of_heap this];rfl
 have hSD:(Builtin.unsafeSliceData_ #[124] 162 #[.slice (some ⟨g,0,none⟩) l.length cap]).run Go.Proofs.Tryz.prog w.drew= .ok (.pointer (some ⟨g,0,none⟩)) w.drew:=
  Lib.run_unsafeSliceData_row _ _ _ _ _ _ (by omega)
 have hUS:(Builtin.unsafeString_ #[162,3] 9 #[.pointer (some ⟨g,0,none⟩),.int .i64 l.length]).run Go.Proofs.Tryz.prog w.drew= .ok (.string ⟨l.toArray⟩) (w.drew.freeze ⟨g,0,none⟩ l.length):=by
  refine Lib.run_unsafeString_row w.drew 162 3 9 5 Go.Proofs.Tryz.underlying162 (by kernel_rfl) g cur.size (by have hg':w.drew.heap[g]? =some (.cells cur 5 (0,0)):=hg;simp[World.shape?,hg']) l h0 (by omega) (by unfold maxLen at hcm;omega) ?_;intro j x hx;have hg':w.drew.heap[g]? =some (.cells cur 5 (0,0)):=hg;have hj:j<l.length:=(Br.1 hx).1;have h5:(cur.toList.take l.length)[j]? =(Lib.byteCells l)[j]? :=by rw[hl]
  rw[Cp,if_pos hj,B9] at h5;have hadd:(⟨g,0,none⟩:Addr).add j=⟨g,j,none⟩:=by unfold Go.Addr.add;split<;>simp_all
  rw[hadd,Lib.cell_of_heap hg',h5];simp[Lib.byteCells,hx]
 go_enter Go.Proofs.Tryz.func102,Go.Proofs.Tryz.ntmps102
 go_wp2
 go_region
 all_goals (go_wp2;go_ret;exact⟨rfl,rfl⟩)
def Gy0:Sp Go.Proofs.Tryz.prog 98 126 0∧Sp Go.Proofs.Tryz.prog 110 126 1∧Sp Go.Proofs.Tryz.prog 102 126 2:=by
 refine⟨⟨124,9,5,by kernel_rfl,Go.Proofs.Tryz.underlying124,Go.Proofs.Tryz.underlying9,fun w w1 w2 b p u s ao n' c' h1 h2 h3 h4=> ?_⟩,⟨124,5,by kernel_rfl,Go.Proofs.Tryz.underlying124,fun w w1 w2 b p u c ao n' c' h1 h2 h3 h4=> ?_⟩,⟨5,by kernel_rfl,fun w b g cap p cur l h1 h2 h3 h4 h5 h6 h7=> ?_⟩⟩
 .refine I5.of_calls Go.Proofs.Tryz.func98 (by kernel_rfl) (by kernel_rfl) ((Hs2 h1 h2 h3 h4).mono ?_);rintro e w' ⟨⟨r,rfl⟩,h⟩;exact⟨r,rfl,h⟩
 .refine I5.of_calls Go.Proofs.Tryz.func110 (by kernel_rfl) (by kernel_rfl) ((Gy1 h1 h2 h3 h4).mono ?_);rintro e w' ⟨⟨r,rfl⟩,h⟩;exact⟨r,rfl,h⟩
 .refine I5.of_calls Go.Proofs.Tryz.func102 (by kernel_rfl) (by kernel_rfl) ((Dc6 h1 h2 h3 h4 h5 h6 h7).mono ?_);rintro e w' ⟨rfl,rfl⟩;exact⟨_,rfl,rfl,rfl⟩
end Go.X.G
