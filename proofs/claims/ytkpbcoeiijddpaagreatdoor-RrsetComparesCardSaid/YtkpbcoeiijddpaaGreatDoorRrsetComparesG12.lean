/- Merging in place: the library's function, the Jx. -/
import Derived.Test.YtkpbcoeiijddpaaGreatDoorRrsetComparesG11
import Derived.Test.YtkpbcoeiijddpaaGreatDoorRrsetComparesG9
import Derived.Test.YtkpbcoeiijddpaaGreatDoorRrsetComparesG8
import Derived.Test.YtkpbcoeiijddpaaGreatDoorRrsetComparesG10
open Bool renaming eq_false_or_eq_true→Ad
open Int renaming toNat_natCast→Gy
open List renaming length_take→Bf,take_of_length_le→Cn,take_length→Fc,take_take→dh
open Nat renaming mul_le_mul_right→A2,min_eq_left→Qh
set_option maxHeartbeats 1000000
set_option linter.unusedVariables false
set_option linter.unusedSimpArgs false
namespace Go.X.G
open Go Go.X
section
variable {g:Nat} {caps:List PV} {c:Rec→Rec→Int} {P:Rec→Prop}
end
end Go.X.G
/- Stable sorting: the library's functions. -/
namespace Go.X.G
open Go Go.X
section
variable {g:Nat} {caps:List PV} {c:Rec→Rec→Int} {P:Rec→Prop}
end
end Go.X.G
/- Stable sorting: the Jx. -/
namespace Go.X.G
open Go Go.X
theorem Blk.pre {α:Type} {le:α→α→Bool} {bs k:Nat} {Y LY:List α} (h:Blk le bs Y LY):Blk le bs (Y.take (k*bs)) (LY.take (k*bs)):=by
 refine ⟨by simp [h.len],fun j=> ?_⟩;rw [List.drop_take,List.drop_take,dh,dh];by_cases hj:j<k
 ·have e:(j+1)*bs≤k*bs:=A2 _ hj;rw [Nat.succ_mul] at e;rw [Qh (by omega)];exact h.st j
 ·have e:k*bs≤j*bs:=A2 _ (by omega);rw [show k*bs - j*bs=0 by omega,Nat.min_eq_right (by omega),List.take_zero,List.take_zero];exact O6 le
section
variable {g:Nat} {caps:List PV} {c:Rec→Rec→Int} {P:Rec→Prop}
end
end Go.X.G
/- Records compacted: the library's function. -/
namespace Go.X.G
open Go Go.X
end Go.X.G
/- Lists of records in the program: which are valid, their order, their sorting. -/
namespace Go.X.G
open Go Go.X
theorem Az9 (r:Rec) (h:r.wf):S Cg8 1 [r.pv]=some [.b (Db9 r)]:=by
 refine Ft8 (N:=1) rfl ?_;have g:r.name.length≤9223372036854775807:=h.name;have h1:=Bz r.name g;have h2:=B1 r.typ;have h3:=Np r.typ r.data h.data;unfold Db9;by_cases k0:0≤r.ttl<;>by_cases k1:r.ttl≤2147483647
 all_goals rcases ch3 (vld r.name) (knw r.typ) (Ch r.typ r.data) with e0|⟨e0,e1⟩|⟨e0,e1,e2⟩|⟨e0,e1,e2⟩
 all_goals simp only [*] at h1 h2 h3
 all_goals simp (disch:=omega) only [Ft1,P3,Dp,h1,h2,h3,EVC,xe,EVP,EV,simprocAttr, *]
 all_goals simp
theorem Cz3 (x:Int):S af 1 [.i .i64 x]=some [.b false]:=by refine Fy0 (N:=1) rfl ?_;simp (disch:=omega) only [Fk6,EVC,xe,EVP,EV,simprocAttr]
theorem Ab9 (a b:Int):S bv 2 [.i .i64 a, .i .i64 b]=some [.i .i64 (Bq7 a b)]:=by
 refine Fb5 (N:=1) rfl ?_;have h1:=Cz3 a;have h2:=Cz3 b;unfold Bq7;by_cases k1:a<b
 ·simp (disch:=omega) only [Cb1,h1,h2,k1,EVC,xe,EVP,EV,simprocAttr]
 ·by_cases k2:b<a
  ·simp (disch:=omega) only [Cb1,h1,h2,k1,k2,EVC,xe,EVP,EV,simprocAttr]
  ·simp (disch:=omega) only [Cb1,h1,h2,k1,k2,EVC,xe,EVP,EV,simprocAttr]
theorem Ar2 (a b:Rec) (ha:a.wf) (hb:b.wf):S Ur 2 [a.pv,b.pv]=some [.i .i64 (cmpF a b)]:=by
 refine Fb6 (N:=1) rfl ?_;have g1:a.name.length≤9223372036854775807:=ha.name;have g2:b.name.length≤9223372036854775807:=hb.name;have h1:=Wk a.name b.name g1 g2;have h2:=Ab9 a.typ b.typ;have h3:=Ww a.typ a.data b.data ha.data hb.data;unfold cmpF;by_cases k1:nj a.name b.name=0
 ·by_cases k2:Bq7 a.typ b.typ=0
  ·rw [k1] at h1;rw [k2] at h2;simp (disch:=omega) only [Cb2,P3,Dp,h1,h2,h3,EVC,xe,EVP,EV,simprocAttr];simp [k1,k2]
  ·rw [k1] at h1;simp (disch:=omega) only [Cb2,h1,h2,k2,EVC,xe,EVP,EV,simprocAttr];simp [k1,k2]
 ·simp (disch:=omega) only [Cb2,h1,k1,EVC,xe,EVP,EV,simprocAttr]
theorem Wj (a b:Rec) (ha:a.wf) (hb:b.wf):S U0 2 [a.pv,b.pv]=some [.i .i64 (cmpR a b)]:=by
 refine Fc3 (N:=1) rfl ?_;have h1:=Ar2 a b ha hb;have h2:=Ab9 a.ttl b.ttl;unfold cmpR;by_cases k1:cmpF a b=0
 ·rw [k1] at h1;simp (disch:=omega) only [Dg5,h1,h2,EVC,xe,EVP,EV,simprocAttr];simp [k1]
 ·simp (disch:=omega) only [Dg5,h1,k1,EVC,xe,EVP,EV,simprocAttr]
end Go.X.G
/- Sets of records: what the program's and the reference's functions give. -/
namespace Go.X
open Go
structure SetR where
 name:List UInt8
 typ:Int
 ttl:Int
 data:List Dat
 deriving DecidableEq
def Ed0 (l:List Dat):PV:= .l 13 (l.map Dat.pv)
def SetR.pv (x:SetR):PV:= .a [.s x.name, .i .i64 x.typ, .i .i64 x.ttl,Ed0 x.data]
end Go.X
namespace Go.X.G
open Go Go.X
structure SetsIn (g:List SetR) (i:Nat):Prop where
 len:g.length≤i
 each:∀x∈g,x.data.length≤i
end Go.X.G
/- Records with names and texts of at most 300 bytes. -/
namespace Go.X.G
open Go Go.X
def c3 (s:List UInt8):List UInt8:=s.take 300
def cutRec (r:Rec):Rec:=⟨c3 r.name,r.typ,r.ttl,{r.data with host:=c3 r.data.host,mail:=c3 r.data.mail,text:=c3 r.data.text}⟩
theorem El2 (s:List UInt8):(c3 s).length≤300:=by unfold c3;rw [Bf];omega
theorem Tj {r:Rec} (h:r.wf):(cutRec r).wf:=by
 have hs:∀s:List UInt8,Y5 (c3 s):=fun s=>by have:=El2 s;unfold Y5;omega
 exact ⟨hs _,h.typ,h.ttl,⟨h.data.hi,h.data.lo,hs _,hs _,hs _,h.data.a,h.data.b,h.data.c,h.data.d,h.data.e,h.data.f,h.data.bits⟩⟩
theorem Xb (s:List UInt8) (hs:s.length≤9223372036854775807):Q9 (.s s) (.i .i64 0) (.i .i64 (if (300:Int)<(s.length:Int) then 300 else (s.length:Int)))=some (.s (c3 s)):=by
 unfold c3;by_cases h:(300:Int)<(s.length:Int)
 ·rw [if_pos h];have h1:(0:Int)≤0∧(0:Int)≤300∧(300:Int)≤(s.length:Int):=by omega
  simp only [Q9,h1,and_self,if_true];rfl
 ·rw [if_neg h];have h1:(0:Int)≤0∧(0:Int)≤(s.length:Int)∧(s.length:Int)≤(s.length:Int):=by omega
  simp only [Q9,h1,and_self,if_true,Gy,Fc];rw [Cn (by omega)];rfl
theorem Fd6 (n:Int):As8 (.i .i64 n) (.i .i64 300)=some (.i .i64 (if (300:Int)<n then 300 else n)):=by simp [As8]
end Go.X.G
/- What the laws on lists of records call. -/
namespace Go.X.G
open Go Go.X
theorem Xc (r:Rec) (h:r.wf):S Dc1 1 [r.pv]=some [(cutRec r).pv]:=by refine Ft9 (N:=1) rfl ?_;have s1:=Xb r.name h.name;have s2:=Xb r.data.host h.data.host;have s3:=Xb r.data.mail h.data.mail;have s4:=Xb r.data.text h.data.text;have g1:r.name.length≤9223372036854775807:=h.name;have g2:r.data.host.length≤9223372036854775807:=h.data.host;have g3:r.data.mail.length≤9223372036854775807:=h.data.mail;have g4:r.data.text.length≤9223372036854775807:=h.data.text;simp (disch:=omega) only [Ft2,Fd6,s1,s2,s3,s4,xe,EVP,EV,simprocAttr];rfl
theorem c6:S As6 0 []=some [.b true]:=(L1 ext_mono).2 ⟨300,by kernel_rfl⟩
end Go.X.G
/- Lists side by side: slices.Concat. -/
namespace Go.X.G
open Go Go.X
end Go.X.G
/- Names on the way up; delegations above a name. -/
namespace Go.X.G
open Go Go.X
end Go.X.G
/- Delegations and names of a zone, as the program finds them. -/
namespace Go.X.G
open Go Go.X
end Go.X.G
/- Delegations and names of a zone, as the reference finds them; what exists. -/
namespace Go.X.G
open Go Go.X
end Go.X.G
/- The reference's lists of records: sets, unions, differences. -/
namespace Go.X.G
open Go Go.X
end Go.X.G
/- Unions, differences, types of names: the program's and the reference's. -/
namespace Go.X.G
open Go Go.X
end Go.X.G
/- Three records as one argument. -/
namespace Go.X
open Go
end Go.X
/- The order of records is total: the law RrsetTotal. -/
namespace Go.X.G
open Go Go.X
end Go.X.G
/- Types of names; the laws RrsetCompares, RrsetSorts, RrsetSets, RrsetPairs. -/
namespace Go.X
open Go
end Go.X
namespace Go.X.G
open Go Go.X
theorem Wx (a b:Rec) (ha:a.wf) (hb:b.wf):S kw 2 [a.pv,b.pv]=some [.i .i64 (cmpR a b)]:=by
 refine Fc2 (N:=1) rfl ?_;have h1:=mj a b ha hb;have h2:=N1 a.ttl b.ttl;unfold cmpR;by_cases h0:cmpF a b=0
 ·rw [h0] at h1 ⊢;simp (disch:=omega) only [Dg2,h1,h2,xe,EVP,EV,simprocAttr]
  try simp
 ·generalize cmpF a b=c at*;simp (disch:=omega) only [Dg2,h1,h0,xe,EVP,EV,simprocAttr]
  try simp [h0]
theorem law_RrsetCompares (a0 b0:Rec) (ha:a0.wf) (hb:b0.wf):S Ek3 2 [a0.pv,b0.pv]=some [.b true]:=by refine Gj0 (N:=1) rfl ?_;have s1:=Xc a0 ha;have s2:=Xc b0 hb;have wa:=Tj ha;have wb:=Tj hb;generalize cutRec a0=a at*;generalize cutRec b0=b at*;have k1:=Az9 a wa;have k2:=Ab1 a wa;have k3:=Wj a b wa wb;have k4:=Wx a b wa wb;have aw:=c6;generalize cmpR a b=c at*;rcases Ad (Db9 a) with h|h<;>rw [h] at k1 k2<;>simp (disch:=omega) only [Ft3,s1,s2,k1,k2,k3,k4,aw,Eb9,beq_self_eq_true,xe,EVP,EV,simprocAttr]
end Go.X.G
