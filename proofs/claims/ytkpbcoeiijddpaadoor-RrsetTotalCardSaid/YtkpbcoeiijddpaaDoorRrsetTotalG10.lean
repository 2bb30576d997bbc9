/- Merging in place: the library's function, the It. -/
import Derived.Test.YtkpbcoeiijddpaaDoorRrsetTotalG9
import Derived.Test.YtkpbcoeiijddpaaDoorRrsetTotalG7
import Derived.Test.YtkpbcoeiijddpaaDoorRrsetTotalG6
import Derived.Test.YtkpbcoeiijddpaaDoorRrsetTotalG8
open Bool renaming eq_false_or_eq_true→Ac
open Int renaming toNat_natCast→Eg
open List renaming length_take→Bz,take_of_length_le→Cl,take_length→Fq,take_take→Z5
open Nat renaming mul_le_mul_right→A3,min_eq_left→P4
set_option maxHeartbeats 1000000
set_option linter.unusedVariables false
set_option linter.unusedSimpArgs false
namespace Go.X.G
open Go Go.X
section
variable {g:Nat} {caps:List PV} {c:Rec→Rec→Int} {P:Rec→Prop}
end
end Go.X.G
/- Stable sorting: the library's functions. -/
namespace Go.X.G
open Go Go.X
section
variable {g:Nat} {caps:List PV} {c:Rec→Rec→Int} {P:Rec→Prop}
end
end Go.X.G
/- Stable sorting: the It. -/
namespace Go.X.G
open Go Go.X
theorem Blk.pre {α:Type} {le:α→α→Bool} {bs k:Nat} {Y LY:List α} (h:Blk le bs Y LY):Blk le bs (Y.take (k*bs)) (LY.take (k*bs)):=by
 refine ⟨by simp [h.len],fun j=> ?_⟩;rw [List.drop_take,List.drop_take,Z5,Z5];by_cases hj:j<k
 ·have e:(j+1)*bs≤k*bs:=A3 _ hj;rw [Nat.succ_mul] at e;rw [P4 (by omega)];exact h.st j
 ·have e:k*bs≤j*bs:=A3 _ (by omega);rw [show k*bs - j*bs=0 by omega,Nat.min_eq_right (by omega),List.take_zero,List.take_zero];exact Ov le
section
variable {g:Nat} {caps:List PV} {c:Rec→Rec→Int} {P:Rec→Prop}
end
end Go.X.G
/- Records compacted: the library's function. -/
namespace Go.X.G
open Go Go.X
end Go.X.G
/- Lists of records in the program: which are valid, their order, their sorting. -/
namespace Go.X.G
open Go Go.X
theorem R5 (r:Rec) (h:r.wf):S Rj 1 [r.pv]=some [.b (ob r)]:=by
 refine Db9 (N:=1) rfl ?_;have g:r.name.length≤9223372036854775807:=h.name;have h1:=Bc r.name g;have h2:=Bt r.typ;have h3:=Nj r.typ r.data h.data;unfold ob;by_cases k0:0≤r.ttl<;>by_cases k1:r.ttl≤2147483647
 all_goals rcases ch3 (vld r.name) (knw r.typ) (C8 r.typ r.data) with e0|⟨e0,e1⟩|⟨e0,e1,e2⟩|⟨e0,e1,e2⟩
 all_goals simp only [*] at h1 h2 h3
 all_goals simp (disch:=omega) only [Dv0,Pv,Dn,h1,h2,h3,EVC,xe,EVP,EV,simprocAttr, *]
 all_goals simp
theorem Af6 (x:Int):S Y2 1 [.i .i64 x]=some [.b false]:=by refine Db2 (N:=1) rfl ?_;simp (disch:=omega) only [Dq9,EVC,xe,EVP,EV,simprocAttr]
theorem ox (a b:Int):S Y4 2 [.i .i64 a, .i .i64 b]=some [.i .i64 (T2 a b)]:=by
 refine Db7 (N:=1) rfl ?_;have h1:=Af6 a;have h2:=Af6 b;unfold T2;by_cases k1:a<b
 ·simp (disch:=omega) only [Ag6,h1,h2,k1,EVC,xe,EVP,EV,simprocAttr]
 ·by_cases k2:b<a
  ·simp (disch:=omega) only [Ag6,h1,h2,k1,k2,EVC,xe,EVP,EV,simprocAttr]
  ·simp (disch:=omega) only [Ag6,h1,h2,k1,k2,EVC,xe,EVP,EV,simprocAttr]
theorem tn (a b:Rec) (ha:a.wf) (hb:b.wf):S Tx 2 [a.pv,b.pv]=some [.i .i64 (Vr a b)]:=by
 refine Db8 (N:=1) rfl ?_;have g1:a.name.length≤9223372036854775807:=ha.name;have g2:b.name.length≤9223372036854775807:=hb.name;have h1:=Uq a.name b.name g1 g2;have h2:=ox a.typ b.typ;have h3:=Ux a.typ a.data b.data ha.data hb.data;unfold Vr;by_cases k1:Kg a.name b.name=0
 ·by_cases k2:T2 a.typ b.typ=0
  ·rw [k1] at h1;rw [k2] at h2;simp (disch:=omega) only [Ag7,Pv,Dn,h1,h2,h3,EVC,xe,EVP,EV,simprocAttr];simp [k1,k2]
  ·rw [k1] at h1;simp (disch:=omega) only [Ag7,h1,h2,k2,EVC,xe,EVP,EV,simprocAttr];simp [k1,k2]
 ·simp (disch:=omega) only [Ag7,h1,k1,EVC,xe,EVP,EV,simprocAttr]
theorem Gp (a b:Rec) (ha:a.wf) (hb:b.wf):S oc 2 [a.pv,b.pv]=some [.i .i64 (cmpR a b)]:=by
 refine Ej9 (N:=1) rfl ?_;have h1:=tn a b ha hb;have h2:=ox a.ttl b.ttl;unfold cmpR;by_cases k1:Vr a b=0
 ·rw [k1] at h1;simp (disch:=omega) only [Dt4,h1,h2,EVC,xe,EVP,EV,simprocAttr];simp [k1]
 ·simp (disch:=omega) only [Dt4,h1,k1,EVC,xe,EVP,EV,simprocAttr]
end Go.X.G
/- Sets of records: what the program's and the reference's functions give. -/
namespace Go.X
open Go
structure SetR where
 name:List UInt8
 typ:Int
 ttl:Int
 data:List Dat
 deriving DecidableEq
def Cw0 (l:List Dat):PV:= .l 13 (l.map Dat.pv)
def SetR.pv (x:SetR):PV:= .a [.s x.name, .i .i64 x.typ, .i .i64 x.ttl,Cw0 x.data]
end Go.X
namespace Go.X.G
open Go Go.X
structure SetsIn (g:List SetR) (i:Nat):Prop where
 len:g.length≤i
 each:∀x∈g,x.data.length≤i
end Go.X.G
/- Records with names and texts of at most 300 bytes. -/
namespace Go.X.G
open Go Go.X
def c3 (s:List UInt8):List UInt8:=s.take 300
def cutRec (r:Rec):Rec:=⟨c3 r.name,r.typ,r.ttl,{r.data with host:=c3 r.data.host,mail:=c3 r.data.mail,text:=c3 r.data.text}⟩
theorem Cf2 (s:List UInt8):(c3 s).length≤300:=by unfold c3;rw [Bz];omega
theorem Ml {r:Rec} (h:r.wf):(cutRec r).wf:=by
 have hs:∀s:List UInt8,rn (c3 s):=fun s=>by have:=Cf2 s;unfold rn;omega
 exact ⟨hs _,h.typ,h.ttl,⟨h.data.hi,h.data.lo,hs _,hs _,hs _,h.data.a,h.data.b,h.data.c,h.data.d,h.data.e,h.data.f,h.data.bits⟩⟩
theorem Ul (s:List UInt8) (hs:s.length≤9223372036854775807):Qd (.s s) (.i .i64 0) (.i .i64 (if (300:Int)<(s.length:Int) then 300 else (s.length:Int)))=some (.s (c3 s)):=by
 unfold c3;by_cases h:(300:Int)<(s.length:Int)
 ·rw [if_pos h];have h1:(0:Int)≤0∧(0:Int)≤300∧(300:Int)≤(s.length:Int):=by omega
  simp only [Qd,h1,and_self,if_true];rfl
 ·rw [if_neg h];have h1:(0:Int)≤0∧(0:Int)≤(s.length:Int)∧(s.length:Int)≤(s.length:Int):=by omega
  simp only [Qd,h1,and_self,if_true,Eg,Fq];rw [Cl (by omega)];rfl
theorem Dd4 (n:Int):u9 (.i .i64 n) (.i .i64 300)=some (.i .i64 (if (300:Int)<n then 300 else n)):=by simp [u9]
end Go.X.G
/- What the laws on lists of records call. -/
namespace Go.X.G
open Go Go.X
theorem Oy (r:Rec) (h:r.wf):S Ty 1 [r.pv]=some [(cutRec r).pv]:=by refine Dc0 (N:=1) rfl ?_;have s1:=Ul r.name h.name;have s2:=Ul r.data.host h.data.host;have s3:=Ul r.data.mail h.data.mail;have s4:=Ul r.data.text h.data.text;have g1:r.name.length≤9223372036854775807:=h.name;have g2:r.data.host.length≤9223372036854775807:=h.data.host;have g3:r.data.mail.length≤9223372036854775807:=h.data.mail;have g4:r.data.text.length≤9223372036854775807:=h.data.text;simp (disch:=omega) only [Dv1,Dd4,s1,s2,s3,s4,xe,EVP,EV,simprocAttr];rfl
theorem Zl:S u6 0 []=some [.b true]:=(Ln ext_mono).2 ⟨300,by kernel_rfl⟩
end Go.X.G
/- Three records as one argument. -/
namespace Go.X
open Go
def Dh (a b c:Rec):PV:= .a (a.cells++(b.cells++c.cells))
theorem X8 (a b c:Rec):Bv 16 (Dh a b c)=some (.s b.name):=rfl
theorem X7 (a b c:Rec):Bv 17 (Dh a b c)=some (.i .i64 b.typ):=rfl
theorem X6 (a b c:Rec):Bv 18 (Dh a b c)=some (.i .i64 b.ttl):=rfl
theorem X5 (a b c:Rec):Bv 19 (Dh a b c)=some (.b b.data.v6):=rfl
theorem X4 (a b c:Rec):Bv 20 (Dh a b c)=some (.i .u64 b.data.hi):=rfl
theorem X3 (a b c:Rec):Bv 21 (Dh a b c)=some (.i .u64 b.data.lo):=rfl
theorem X2 (a b c:Rec):Bv 22 (Dh a b c)=some (.s b.data.host):=rfl
theorem X1 (a b c:Rec):Bv 23 (Dh a b c)=some (.s b.data.mail):=rfl
theorem X0 (a b c:Rec):Bv 24 (Dh a b c)=some (.s b.data.text):=rfl
theorem Xt (a b c:Rec):Bv 25 (Dh a b c)=some (.i .i64 b.data.a):=rfl
theorem Xs (a b c:Rec):Bv 26 (Dh a b c)=some (.i .i64 b.data.b):=rfl
theorem Xr (a b c:Rec):Bv 27 (Dh a b c)=some (.i .i64 b.data.c):=rfl
theorem Xp (a b c:Rec):Bv 28 (Dh a b c)=some (.i .i64 b.data.d):=rfl
theorem Xn (a b c:Rec):Bv 29 (Dh a b c)=some (.i .i64 b.data.e):=rfl
theorem Xm (a b c:Rec):Bv 30 (Dh a b c)=some (.i .i64 b.data.f):=rfl
theorem Xl (a b c:Rec):Bv 31 (Dh a b c)=some (.i .u64 b.data.bits):=rfl
theorem Xh (a b c:Rec):Bv 32 (Dh a b c)=some (.s c.name):=rfl
theorem Xg (a b c:Rec):Bv 33 (Dh a b c)=some (.i .i64 c.typ):=rfl
theorem Xf (a b c:Rec):Bv 34 (Dh a b c)=some (.i .i64 c.ttl):=rfl
theorem Xd (a b c:Rec):Bv 35 (Dh a b c)=some (.b c.data.v6):=rfl
theorem Xc (a b c:Rec):Bv 36 (Dh a b c)=some (.i .u64 c.data.hi):=rfl
theorem Xb (a b c:Rec):Bv 37 (Dh a b c)=some (.i .u64 c.data.lo):=rfl
theorem Xz (a b c:Rec):Bv 38 (Dh a b c)=some (.s c.data.host):=rfl
theorem Xy (a b c:Rec):Bv 39 (Dh a b c)=some (.s c.data.mail):=rfl
theorem Xx (a b c:Rec):Bv 40 (Dh a b c)=some (.s c.data.text):=rfl
theorem Xw (a b c:Rec):Bv 41 (Dh a b c)=some (.i .i64 c.data.a):=rfl
theorem Xv (a b c:Rec):Bv 42 (Dh a b c)=some (.i .i64 c.data.b):=rfl
theorem Xq (a b c:Rec):Bv 43 (Dh a b c)=some (.i .i64 c.data.c):=rfl
theorem Xk (a b c:Rec):Bv 44 (Dh a b c)=some (.i .i64 c.data.d):=rfl
theorem Xj (a b c:Rec):Bv 45 (Dh a b c)=some (.i .i64 c.data.e):=rfl
theorem W9 (a b c:Rec):Bv 46 (Dh a b c)=some (.i .i64 c.data.f):=rfl
theorem W8 (a b c:Rec):Bv 47 (Dh a b c)=some (.i .u64 c.data.bits):=rfl
theorem Al2 (a b c:Rec):Mt 0 16 (Dh a b c)=some a.pv:=rfl
theorem At8 (a b c:Rec):Rn 48 (Dh a b c)=some (Dh a b c):=rfl
set_option linter.defProp false in
def Dt2:=(And.intro @X8 (And.intro @X7 (And.intro @X6 (And.intro @X5 (And.intro @X4 (And.intro @X3 (And.intro @X2 (And.intro @X1 (And.intro @X0 (And.intro @Xt (And.intro @Xs (And.intro @Xr (And.intro @Xp (And.intro @Xn (And.intro @Xm (And.intro @Xl (And.intro @Xh (And.intro @Xg (And.intro @Xf (And.intro @Xd (And.intro @Xc (And.intro @Xb (And.intro @Xz (And.intro @Xy (And.intro @Xx (And.intro @Xw (And.intro @Xv (And.intro @Xq (And.intro @Xk (And.intro @Xj (And.intro @W9 (And.intro @W8 (And.intro @Al2 @At8)))))))))))))))))))))))))))))))))
def sq:Sh:= .st [sw,sw,sw]
theorem An6 {p:PV} (h:sq.ok p):∃q:Rec×Rec×Rec,(q.1.wf∧q.2.1.wf∧q.2.2.wf)∧p=Dh q.1 q.2.1 q.2.2:=by obtain ⟨ds,rfl,h⟩:∃ds,p= .a ds∧sq.okC ds:=h;obtain ⟨a0,r0,rfl,h0,h⟩:=Cb (Ut h);obtain ⟨a1,r1,rfl,h1,h⟩:=Cb h;obtain ⟨a2,r2,rfl,h2,h⟩:=Cb h;obtain rfl:=K4 h;obtain ⟨x,hx,rfl⟩:=ed h0;obtain ⟨y,hy,rfl⟩:=ed h1;obtain ⟨z,hz,rfl⟩:=ed h2;exact ⟨(x,y,z),⟨hx,hy,hz⟩,by simp [Dh]⟩
end Go.X
/- The order of records is total: the law RrsetTotal. -/
namespace Go.X.G
open Go Go.X
theorem Bp1 {K:Type} {lt:K→K→Prop} (ht:TO lt) {x y:K} {c d:Int} (h1:c<0↔lt x y) (h2:c=0↔x=y) (h3:d<0↔lt y x) (r1: -1≤c∧c≤1) (r2: -1≤d∧d≤1) (h4:d=0↔y=x):d= -c:=by
 rcases ht.tri x y with h|h|h
 ·have a1:=h1.2 h;have a2:¬d<0:=fun q=>ht.asym h (h3.1 q);have a3:¬d=0:=fun q=>by have:=h4.1 q;subst this;exact ht.irr _ h
  omega
 ·subst h;have a1:=h2.2 rfl;have a2:=h4.2 rfl;omega
 ·have a1:=h3.2 h;have a2:¬c<0:=fun q=>ht.asym h (h1.1 q);have a3:¬c=0:=fun q=>by have:=h2.1 q;subst this;exact ht.irr _ h
  omega
theorem Py (a b:List UInt8): -1≤cmpS a b∧cmpS a b≤1:=by unfold cmpS;split;omega;split<;>omega
theorem xq (a b:List UInt8): -1≤Kg a b∧Kg a b≤1:=by
 unfold Kg;split
 ·simp only;split
  ·exact Py _ _
  ·split;omega;split<;>omega
 ·split
  ·omega
  ·split
   ·omega
   ·exact Py _ _
theorem Vn (a b:Int): -1≤T2 a b∧T2 a b≤1:=by unfold T2;split;omega;split<;>omega
theorem xy (t:Int) (a b:Dat): -1≤ol t a b∧ol t a b≤1:=by
 unfold ol;split
 ·exact Py _ _
 ·split;omega;split<;>omega
theorem xv (a b:Rec): -1≤Vr a b∧Vr a b≤1:=by
 unfold Vr;split
 ·exact xq _ _
 ·split
  ·exact Vn _ _
  ·exact xy _ _ _
theorem Jz (a b:Rec): -1≤cmpR a b∧cmpR a b≤1:=by
 unfold cmpR;split
 ·exact xv _ _
 ·exact Vn _ _
theorem d9 {α β:Type} {a c:α} {b d:β}:(a,b)=(c,d)↔a=c∧b=d:=by simp
theorem Lj (a b:Rec):cmpR b a= - cmpR a b:=
 Bp1 Dt5 (Jb a b) ((Jy a b).trans d9.symm) (Jb b a) (Jz a b) (Jz b a) ((Jy b a).trans d9.symm)
theorem Zz {a b c:Rec} (h1:cmpR a b≤0) (h2:cmpR b c≤0):cmpR a c≤0:=by
 have h3:¬ltT (K9 b,b.ttl) (K9 a,a.ttl):=fun h=>by have:=(Jb b a).2 h;rw [Lj] at this;omega
 have h4:¬ltT (K9 c,c.ttl) (K9 b,b.ttl):=fun h=>by have:=(Jb c b).2 h;rw [Lj] at this;omega
 have h5:=Dt5.ntr h4 h3;have h6:¬cmpR c a<0:=fun h=>h5 ((Jb c a).1 h);rw [Lj] at h6;omega
theorem Y9 {a b:Rec} (wa:a.wf) (wb:b.wf) (ha:ob a=true) (h:K9 a=K9 b):a.name=b.name∧a.typ=b.typ∧a.data=b.data:=by
 have h1:a.name=b.name:=congrArg (fun k:yy=>k.1) h;have h2:a.typ=b.typ:=congrArg (fun k:yy=>k.2.1) h;have h3:(Zw a.typ a.data).1=(Zw b.typ b.data).1:=congrArg (fun k:yy=>k.2.2.1) h;have h4:(Zw a.typ a.data).2=(Zw b.typ b.data).2:=congrArg (fun k:yy=>k.2.2.2) h;have va:=af ha;have vb:C8 b.typ b.data=true:=by
  rw [←h2];rw [←h2] at h3;simp only [Zw,va,if_true] at h3;rcases Ac (C8 a.typ b.data) with q|q
  ·exact q
  ·rw [q] at h3;simp at h3
 refine ⟨h1,h2,?_⟩;have vb':=vb;rw [←h2] at vb';rw [←h2] at h4;simp only [Zw,va,vb',if_true] at h4;exact ay wa.data wb.data va vb' h4
theorem Bq4 {a b:Rec} (wa:a.wf) (wb:b.wf) (ha:ob a=true):cmpR a b=0↔a=b:=by
 constructor
 ·intro h;obtain ⟨h1,h2⟩:=(Jy a b).1 h;obtain ⟨e1,e2,e3⟩:=Y9 wa wb ha h1;obtain ⟨n,t,u,d⟩:=a;obtain ⟨n',t',u',d'⟩:=b;simp only at e1 e2 e3 h2;subst e1;subst e2;subst e3;subst h2;rfl
 ·intro h;subst h;exact (Jy a a).2 ⟨rfl,rfl⟩
theorem law_RrsetTotal (q:Rec×Rec×Rec) (hq:q.1.wf∧q.2.1.wf∧q.2.2.wf):S Br4 1 [Dh q.1 q.2.1 q.2.2]=some [.b true]:=by
 obtain ⟨a0,b0,c0⟩:=q;obtain ⟨ha,hb,hc⟩:=hq;refine Ek0 (N:=1) rfl ?_;have s1:=Oy a0 ha;have s2:=Oy b0 hb;have s3:=Oy c0 hc;have wa:=Ml ha;have wb:=Ml hb;have wc:=Ml hc;simp only at*;generalize cutRec a0=a at*;generalize cutRec b0=b at*;generalize cutRec c0=c at*;have k1:=Gp a b wa wb;have k2:=Gp b c wb wc;have k3:=Gp a c wa wc;have k4:=Gp b a wb wa;have v1:=R5 a wa;have v2:=R5 b wb;have aw:=Zl;have e1:=Lj a b;have e2:=Jz a b;have e3:=Jz b c;have e4:=Jz a c;have e5:cmpR a b≤0→cmpR b c≤0→cmpR a c≤0:=Zz;have e6:ob a=true→(cmpR a b=0↔a=b):=fun h=>Bq4 wa wb h;rw [e1] at k4;generalize cmpR a b=x at*;generalize cmpR b c=y at*;generalize cmpR a c=z at*;clear e1;have hxz:x≤0→y≤0→¬(0:Int)<z:=fun h1 h2=>by have:=e5 h1 h2;omega
 clear e5;have f1:¬x< -1:=by omega
 have f2:¬(1:Int)<x:=by omega
 have hneg:X.un .neg (.i .i64 (-x))=some (.i .i64 x):=by simp only [X.un];rw [w64 (by omega) (by omega)];congr 2;omega
 have st:T7.ev S 1 [Dh a0 b0 c0,a.pv,b.pv,c.pv, .i .i64 x, .i .i64 y, .i .i64 z, .i .i64 (-x)]=xf.ev S 1 [Dh a0 b0 c0,a.pv,b.pv,c.pv, .i .i64 x, .i .i64 y, .i .i64 z, .i .i64 (-x)]:=by
  by_cases hx:x≤0
  ·by_cases hy:y≤0
   ·have hz:=hxz hx hy;simp (disch:=omega) only [Cv T7.eq_1,hneg,hx,hy,hz,f1,f2,xe,EVP,EV,simprocAttr]
   ·simp (disch:=omega) only [Cv T7.eq_1,hneg,hx,hy,f1,f2,xe,EVP,EV,simprocAttr]
  ·simp (disch:=omega) only [Cv T7.eq_1,hneg,hx,f1,f2,xe,EVP,EV,simprocAttr]
 have key:∀(p q:Bool),ob a=p→ob b=q→(p=true→q=true→(decide (x=0)=decide (a=b)))→xf.ev S 1 [Dh a0 b0 c0,a.pv,b.pv,c.pv, .i .i64 x, .i .i64 y, .i .i64 z, .i .i64 (-x)]=some (.ret [.b true]):=by
  intro p q h1 h2 h3;rw [h1] at v1;rw [h2] at v2;rcases Ac p with rfl|rfl
  ·rcases Ac q with rfl|rfl
   ·have h4:=h3 rfl rfl;simp (disch:=omega) only [Dj1,v1,v2,aw,wn,U0,h4,beq_self_eq_true,xe,EVP,EV,simprocAttr]
    try simp [h4]
   ·simp (disch:=omega) only [Dj1,v1,v2,aw,wn,U0,beq_self_eq_true,xe,EVP,EV,simprocAttr]
  ·simp (disch:=omega) only [Dj1,v1,v2,aw,wn,U0,beq_self_eq_true,xe,EVP,EV,simprocAttr]
 have key:=key _ _ rfl rfl fun h1 h2=>by
  have:=e6 h1;by_cases hab:a=b
  ·simp [hab,this.2 hab]
  ·have hx:¬x=0:=fun h=>hab (this.1 h);simp [hab,hx]
 rw [key] at st;generalize hC:T7=C4 at st;simp (disch:=omega) only [Dj1,hC,s1,s2,s3,k1,k2,k3,k4,st,Dt2,xe,EVP,EV,simprocAttr]
end Go.X.G
