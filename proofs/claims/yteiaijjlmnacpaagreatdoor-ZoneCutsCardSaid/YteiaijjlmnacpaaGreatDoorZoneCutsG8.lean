/- The program's data. -/
import Derived.Test.YteiaijjlmnacpaaGreatDoorZoneCutsG6
open Bool renaming eq_iff_iff→Cn
open Option renaming bind_some→Ay,map_some→A5
set_option maxHeartbeats 1000000
set_option linter.unusedVariables false
set_option linter.unusedSimpArgs false
namespace Go.X
open Go
structure Dat where
 v6:Bool
 hi:Int
 lo:Int
 host:List UInt8
 mail:List UInt8
 text:List UInt8
 a:Int
 b:Int
 c:Int
 d:Int
 e:Int
 f:Int
 bits:Int
 deriving DecidableEq
structure Rec where
 name:List UInt8
 typ:Int
 ttl:Int
 data:Dat
 deriving DecidableEq
structure Zone where
 origin:List UInt8
 recs:List Rec
 deriving DecidableEq
def om (x:Int):Prop:= -9223372036854775808≤x∧x≤9223372036854775807
def Jc9 (x:Int):Prop:=0≤x∧x≤18446744073709551615
def K3 (x:List UInt8):Prop:=x.length≤9223372036854775807
structure Dat.wf (x:Dat):Prop where
 hi:Jc9 x.hi
 lo:Jc9 x.lo
 host:K3 x.host
 mail:K3 x.mail
 text:K3 x.text
 a:om x.a
 b:om x.b
 c:om x.c
 d:om x.d
 e:om x.e
 f:om x.f
 bits:Jc9 x.bits
structure Rec.wf (r:Rec):Prop where
 name:K3 r.name
 typ:om r.typ
 ttl:om r.ttl
 data:r.data.wf
def Bs5 (l:List Rec):Prop:=l.length≤9223372036854775807∧∀r∈l,r.wf
structure Zone.wf (z:Zone):Prop where
 origin:K3 z.origin
 recs:Bs5 z.recs
def Dat.cells (x:Dat):List PV:=[.b x.v6,.i .u64 x.hi,.i .u64 x.lo,.s x.host,.s x.mail,.s x.text,.i .i64 x.a,.i .i64 x.b,.i .i64 x.c,.i .i64 x.d,.i .i64 x.e,.i .i64 x.f,.i .u64 x.bits]
def Dat.pv (x:Dat):PV:= .a x.cells
def Rec.cells (x:Rec):List PV:= .s x.name:: .i .i64 x.typ:: .i .i64 x.ttl::x.data.cells
def Rec.pv (x:Rec):PV:= .a x.cells
def Ad (l:List Rec):PV:= .l 16 (l.map Rec.pv)
def Zone.pv (x:Zone):PV:= .a [.s x.origin,Ad x.recs]
def Bq (l:List (List UInt8)):PV:= .l 1 (l.map .s)
def I7 (x:Dat):PV:= .a [.b x.v6,.i .u64 x.hi,.i .u64 x.lo]
theorem Iz3 (r:Rec):Js 0 16 r.pv=some r.pv:=rfl
theorem Ih8 (r:Rec):T9 16 r.pv=some r.pv:=rfl
theorem cn (r:Rec):Js 3 13 r.pv=some r.data.pv:=rfl
theorem cp (r:Rec):Js 3 3 r.pv=some (I7 r.data):=rfl
theorem Cv2 (r:Rec):Bm 0 r.pv=some (.s r.name):=rfl
theorem Cv1 (r:Rec):Bm 1 r.pv=some (.i .i64 r.typ):=rfl
theorem Cv0 (r:Rec):Bm 2 r.pv=some (.i .i64 r.ttl):=rfl
theorem Cq9 (r:Rec):Bm 3 r.pv=some (.b r.data.v6):=rfl
theorem Cq8 (r:Rec):Bm 4 r.pv=some (.i .u64 r.data.hi):=rfl
theorem Cq7 (r:Rec):Bm 5 r.pv=some (.i .u64 r.data.lo):=rfl
theorem Cq6 (r:Rec):Bm 6 r.pv=some (.s r.data.host):=rfl
theorem Cq5 (r:Rec):Bm 7 r.pv=some (.s r.data.mail):=rfl
theorem Cq4 (r:Rec):Bm 8 r.pv=some (.s r.data.text):=rfl
theorem Cq3 (r:Rec):Bm 9 r.pv=some (.i .i64 r.data.a):=rfl
theorem Bk8 (r:Rec):Bm 10 r.pv=some (.i .i64 r.data.b):=rfl
theorem Bk7 (r:Rec):Bm 11 r.pv=some (.i .i64 r.data.c):=rfl
theorem Bk6 (r:Rec):Bm 12 r.pv=some (.i .i64 r.data.d):=rfl
theorem Bk5 (r:Rec):Bm 13 r.pv=some (.i .i64 r.data.e):=rfl
theorem Bk4 (r:Rec):Bm 14 r.pv=some (.i .i64 r.data.f):=rfl
theorem Bk3 (r:Rec):Bm 15 r.pv=some (.i .u64 r.data.bits):=rfl
theorem Iz5 (r:Dat):Js 0 13 r.pv=some r.pv:=rfl
theorem cr (r:Dat):Js 0 3 r.pv=some (I7 r):=rfl
theorem Il0 (r:Dat):T9 13 r.pv=some r.pv:=rfl
theorem Cx2 (r:Dat):Bm 0 r.pv=some (.b r.v6):=rfl
theorem Cx1 (r:Dat):Bm 1 r.pv=some (.i .u64 r.hi):=rfl
theorem Cx0 (r:Dat):Bm 2 r.pv=some (.i .u64 r.lo):=rfl
theorem Cw9 (r:Dat):Bm 3 r.pv=some (.s r.host):=rfl
theorem Cw8 (r:Dat):Bm 4 r.pv=some (.s r.mail):=rfl
theorem Cw7 (r:Dat):Bm 5 r.pv=some (.s r.text):=rfl
theorem Cw6 (r:Dat):Bm 6 r.pv=some (.i .i64 r.a):=rfl
theorem Cw5 (r:Dat):Bm 7 r.pv=some (.i .i64 r.b):=rfl
theorem Cw4 (r:Dat):Bm 8 r.pv=some (.i .i64 r.c):=rfl
theorem Cw3 (r:Dat):Bm 9 r.pv=some (.i .i64 r.d):=rfl
theorem Bq8 (r:Dat):Bm 10 r.pv=some (.i .i64 r.e):=rfl
theorem Bq7 (r:Dat):Bm 11 r.pv=some (.i .i64 r.f):=rfl
theorem Bq6 (r:Dat):Bm 12 r.pv=some (.i .u64 r.bits):=rfl
theorem Ft4 (r:Dat):T9 3 (I7 r)=some (I7 r):=rfl
theorem Ff8 (r:Dat):Js 0 3 (I7 r)=some (I7 r):=rfl
theorem Bv1 (r:Dat):Bm 0 (I7 r)=some (.b r.v6):=rfl
theorem Bv0 (r:Dat):Bm 1 (I7 r)=some (.i .u64 r.hi):=rfl
theorem Bq9 (r:Dat):Bm 2 (I7 r)=some (.i .u64 r.lo):=rfl
theorem Ft3 (r:Zone):T9 2 r.pv=some r.pv:=rfl
theorem Ff6 (r:Zone):Js 0 2 r.pv=some r.pv:=rfl
theorem Bk1 (r:Zone):Bm 0 r.pv=some (.s r.origin):=rfl
theorem Bk0 (r:Zone):Bm 1 r.pv=some (Ad r.recs):=rfl
theorem Zj (v:Bool) (h l:Int) (s1 s2 s3:List UInt8) (a b c d e f g:Int):PV.a [.b v,.i .u64 h,.i .u64 l,.s s1,.s s2,.s s3,.i .i64 a,.i .i64 b,.i .i64 c,.i .i64 d,.i .i64 e,.i .i64 f,.i .u64 g]=Dat.pv ⟨v,h,l,s1,s2,s3,a,b,c,d,e,f,g⟩:=rfl
theorem Fs7 (n:List UInt8) (t u:Int) (v:Bool) (h l:Int) (s1 s2 s3:List UInt8) (a b c d e f g:Int):PV.a [.s n,.i .i64 t,.i .i64 u,.b v,.i .u64 h,.i .u64 l,.s s1,.s s2,.s s3,.i .i64 a,.i .i64 b,.i .i64 c,.i .i64 d,.i .i64 e,.i .i64 f,.i .u64 g]=Rec.pv ⟨n,t,u,⟨v,h,l,s1,s2,s3,a,b,c,d,e,f,g⟩⟩:=rfl
theorem Fw (x:Dat):(⟨x.v6,x.hi,x.lo,x.host,x.mail,x.text,x.a,x.b,x.c,x.d,x.e,x.f,x.bits⟩:Dat)=x:=rfl
theorem Im9 (x:Rec):(⟨x.name,x.typ,x.ttl,x.data⟩:Rec)=x:=rfl
theorem Ft1 (x:Dat):PV.flat x.pv=true:=rfl
theorem Ft0 (x:Rec):PV.flat x.pv=true:=rfl
theorem Cr6 (x:Dat):PV.flat (I7 x)=true:=rfl
theorem Ig2 (x:Rec):J1 16 [x.pv]=some (Ad [x]):=rfl
theorem Fp8 (l:List Rec):Gn (Ad l)=some (.i .i64 (l.length:Int)):=by simp [Ad,Gn]
theorem O6 (l:List Rec) (k:IntKind) (z:Int) (h:0≤z):H6 16 (Ad l) (.i k z)=(l[z.toNat]?).map Rec.pv:=by simp [Ad,ib _ _ _ _ h]
theorem j6 (l:List Rec) (x:Rec) (h:l.length+1≤1073741824):Ic 16 (Ad l) (Ad [x])=some (Ad (l++[x])):=by
 have:=Vg 16 (l.map Rec.pv) [x.pv] (by simpa using h)
 simpa [Ad] using this
theorem Z9 (l m:List Rec) (h:l.length+m.length≤1073741824):Ic 16 (Ad l) (Ad m)=some (Ad (l++m)):=by
 have:=Vg 16 (l.map Rec.pv) (m.map Rec.pv) (by simpa using h)
 simpa [Ad] using this
theorem Fh7:PV.l 16 []=Ad []:=rfl
theorem Md (l:List Rec) (k k':IntKind) (a b:Int) (h1:0≤a) (h2:a≤b) (h3:b≤(l.length:Int)):H5 16 (Ad l) (.i k a) (.i k' b)=some (Ad ((l.take b.toNat).drop a.toNat)):=by
 have:=Cg1 16 (l.map Rec.pv) k k' a b h1 h2 (by simpa using h3)
 simpa [Ad] using this
theorem Ib3 (l:List Rec) (k:IntKind) (z:Int) (n:List UInt8) (t u:Int) (v:Bool) (h w:Int) (s1 s2 s3:List UInt8) (a b c d e f g:Int) (h0:0≤z) (h1:z<(l.length:Int)):
  Yx 16 0 [.s n,.i .i64 t,.i .i64 u,.b v,.i .u64 h,.i .u64 w,.s s1,.s s2,.s s3,.i .i64 a,.i .i64 b,.i .i64 c,.i .i64 d,.i .i64 e,.i .i64 f,.i .u64 g] (Ad l) (.i k z)=some (Ad (l.set z.toNat ⟨n,t,u,⟨v,h,w,s1,s2,s3,a,b,c,d,e,f,g⟩⟩)):=by
 have h2:z.toNat<l.length:=by omega
 have h3:(l.map Rec.pv)[z.toNat]? =some (l[z.toNat].pv):=by simp [h2]
 simp only [Yx,Ad,h0,h3,and_self,if_true,Ay]
 have h4:Sl (l[z.toNat].pv) 0 [.s n,.i .i64 t,.i .i64 u,.b v,.i .u64 h,.i .u64 w,.s s1,.s s2,.s s3,.i .i64 a,.i .i64 b,.i .i64 c,.i .i64 d,.i .i64 e,.i .i64 f,.i .u64 g]=some (Rec.pv ⟨n,t,u,⟨v,h,w,s1,s2,s3,a,b,c,d,e,f,g⟩⟩):=rfl
 rw [h4]
 simp [List.map_set]
theorem Br5 (l:List Rec):It (Ad l)=some (Ad l):=rfl
theorem Fp7 (l:List (List UInt8)):Gn (Bq l)=some (.i .i64 (l.length:Int)):=by simp [Bq,Gn]
theorem Mh (l:List (List UInt8)) (k:IntKind) (z:Int) (h:0≤z):H6 1 (Bq l) (.i k z)=(l[z.toNat]?).map PV.s:=by simp [Bq,ib _ _ _ _ h]
theorem Ig1 (x:List UInt8):J1 1 [.s x]=some (Bq [x]):=rfl
theorem Fg0:PV.l 1 []=Bq []:=rfl
theorem Es9 (l:List (List UInt8)) (x:List UInt8) (h:l.length+1≤1073741824):Ic 1 (Bq l) (Bq [x])=some (Bq (l++[x])):=by
 have:=Vg 1 (l.map PV.s) [.s x] (by simpa using h)
 simpa [Bq] using this
theorem Ap3 (l m:List (List UInt8)) (h:l.length+m.length≤1073741824):Ic 1 (Bq l) (Bq m)=some (Bq (l++m)):=by
 have:=Vg 1 (l.map PV.s) (m.map PV.s) (by simpa using h)
 simpa [Bq] using this
theorem Ky (l:List (List UInt8)) (k k':IntKind) (a b:Int) (h1:0≤a) (h2:a≤b) (h3:b≤(l.length:Int)):H5 1 (Bq l) (.i k a) (.i k' b)=some (Bq ((l.take b.toNat).drop a.toNat)):=by
 have:=Cg1 1 (l.map PV.s) k k' a b h1 h2 (by simpa using h3)
 simpa [Bq] using this
theorem Fg8 (l:List (List UInt8)) (k:IntKind) (z:Int) (x:List UInt8) (h0:0≤z) (h1:z<(l.length:Int)):Yx 1 0 [.s x] (Bq l) (.i k z)=some (Bq (l.set z.toNat x)):=by
 have h2:z.toNat<l.length:=by omega
 have h3:(l.map PV.s)[z.toNat]? =some (.s l[z.toNat]):=by simp [h2]
 simp only [Yx,Bq,h0,h3,and_self,if_true,Ay]
 have h4:Sl (.s l[z.toNat]) 0 [.s x]=some (.s x):=rfl
 rw [h4]
 simp [List.map_set]
theorem y4 (n:Int) (h0:0≤n) (h1:n≤1073741824):Lz 1 (.i .i64 n) (.s [])=some (Bq (List.replicate n.toNat [])):=by
 have h2:n≤(LIM:Int):=by simp only [LIM];omega
 have h3:(PV.s []).cells.length=1:=rfl
 simp only [Lz,h0,h2,h3,and_self,if_true]
 simp [Bq]
theorem Cq1 (l:List (List UInt8)):Bm 0 (Bq l)=some (Bq l):=rfl
theorem Cq2 (l:List Rec):Bm 0 (Ad l)=some (Ad l):=rfl
theorem Br4 (l:List (List UInt8)):It (Bq l)=some (Bq l):=rfl
theorem Kh0 (neg:Bool) (x y:Dat):K6 neg true [.b,(.i .u64),(.i .u64),.s,.s,.s,(.i .i64),(.i .i64),(.i .i64),(.i .i64),(.i .i64),(.i .i64),(.i .u64)] x.pv y.pv=some (.b (if neg then decide (x≠y) else decide (x=y))):=by
 have:Gb [.b,(.i .u64),(.i .u64),.s,.s,.s,(.i .i64),(.i .i64),(.i .i64),(.i .i64),(.i .i64),(.i .i64),(.i .u64)] x.cells y.cells=some (decide (x=y)):=by
  simp only [Dat.cells,Gb,Fk6,if_true,Option.some.injEq]
  rw [Cn]
  cases x;cases y;simp
 simp only [K6,Dat.pv,this,A5]
 cases neg<;>simp
theorem Kg9 (neg:Bool) (x y:Rec):K6 neg true [.s,(.i .i64),(.i .i64),.b,(.i .u64),(.i .u64),.s,.s,.s,(.i .i64),(.i .i64),(.i .i64),(.i .i64),(.i .i64),(.i .i64),(.i .u64)] x.pv y.pv=some (.b (if neg then decide (x≠y) else decide (x=y))):=by
 have:Gb [.s,(.i .i64),(.i .i64),.b,(.i .u64),(.i .u64),.s,.s,.s,(.i .i64),(.i .i64),(.i .i64),(.i .i64),(.i .i64),(.i .i64),(.i .u64)] x.cells y.cells=some (decide (x=y)):=by
  simp only [Rec.cells,Dat.cells,Gb,Fk6,if_true,Option.some.injEq]
  rw [Cn]
  rcases x with ⟨_,_,_,⟨⟩⟩;rcases y with ⟨_,_,_,⟨⟩⟩;simp [and_assoc]
 simp only [K6,Rec.pv,this,A5]
 cases neg<;>simp
set_option linter.defProp false in
def EVP:=(And.intro @Fg8 (And.intro @y4 (And.intro @Ib3 (And.intro @Iz3 (And.intro @Ih8 (And.intro @cn (And.intro @cp (And.intro @Cv2 (And.intro @Cv1 (And.intro @Cv0 (And.intro @Cq9 (And.intro @Cq8 (And.intro @Cq7 (And.intro @Cq6 (And.intro @Cq5 (And.intro @Cq4 (And.intro @Cq3 (And.intro @Bk8 (And.intro @Bk7 (And.intro @Bk6 (And.intro @Bk5 (And.intro @Bk4 (And.intro @Bk3 (And.intro @Iz5 (And.intro @cr (And.intro @Il0 (And.intro @Cx2 (And.intro @Cx1 (And.intro @Cx0 (And.intro @Cw9 (And.intro @Cw8 (And.intro @Cw7 (And.intro @Cw6 (And.intro @Cw5 (And.intro @Cw4 (And.intro @Cw3 (And.intro @Bq8 (And.intro @Bq7 (And.intro @Bq6 (And.intro @Ft4 (And.intro @Ff8 (And.intro @Bv1 (And.intro @Bv0 (And.intro @Bq9 (And.intro @Ft3 (And.intro @Ff6 (And.intro @Bk1 (And.intro @Bk0 (And.intro @Zj (And.intro @Fs7 (And.intro @Fw (And.intro @Im9 (And.intro @Ft1 (And.intro @Ft0 (And.intro @Cr6 (And.intro @Ig2 (And.intro @Fp8 (And.intro @O6 (And.intro @j6 (And.intro @Z9 (And.intro @Fh7 (And.intro @Md (And.intro @Br5 (And.intro @Fp7 (And.intro @Mh (And.intro @Ig1 (And.intro @Fg0 (And.intro @Es9 (And.intro @Ap3 (And.intro @Ky (And.intro @Cq1 (And.intro @Cq2 (And.intro @Br4 (And.intro @Kh0 @Kg9))))))))))))))))))))))))))))))))))))))))))))))))))))))))))))))))))))))))))
end Go.X
