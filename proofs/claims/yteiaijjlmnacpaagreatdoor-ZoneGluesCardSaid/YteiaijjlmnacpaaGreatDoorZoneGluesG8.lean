/- The program's data. -/
import Derived.Test.YteiaijjlmnacpaaGreatDoorZoneGluesG6
open Bool renaming eq_iff_iff→C1
open Option renaming bind_some→Ay,map_some→A4
set_option maxHeartbeats 1000000
set_option linter.unusedVariables false
set_option linter.unusedSimpArgs false
namespace Go.X
open Go
structure Dat where
 v6:Bool
 hi:Int
 lo:Int
 host:List UInt8
 mail:List UInt8
 text:List UInt8
 a:Int
 b:Int
 c:Int
 d:Int
 e:Int
 f:Int
 bits:Int
 deriving DecidableEq
structure Rec where
 name:List UInt8
 typ:Int
 ttl:Int
 data:Dat
 deriving DecidableEq
structure Zone where
 origin:List UInt8
 recs:List Rec
 deriving DecidableEq
def ml (x:Int):Prop:= -9223372036854775808≤x∧x≤9223372036854775807
def Ir3 (x:Int):Prop:=0≤x∧x≤18446744073709551615
def J4 (x:List UInt8):Prop:=x.length≤9223372036854775807
structure Dat.wf (x:Dat):Prop where
 hi:Ir3 x.hi
 lo:Ir3 x.lo
 host:J4 x.host
 mail:J4 x.mail
 text:J4 x.text
 a:ml x.a
 b:ml x.b
 c:ml x.c
 d:ml x.d
 e:ml x.e
 f:ml x.f
 bits:Ir3 x.bits
structure Rec.wf (r:Rec):Prop where
 name:J4 r.name
 typ:ml r.typ
 ttl:ml r.ttl
 data:r.data.wf
def Bl5 (l:List Rec):Prop:=l.length≤9223372036854775807∧∀r∈l,r.wf
structure Zone.wf (z:Zone):Prop where
 origin:J4 z.origin
 recs:Bl5 z.recs
def Dat.cells (x:Dat):List PV:=[.b x.v6, .i .u64 x.hi, .i .u64 x.lo, .s x.host, .s x.mail, .s x.text, .i .i64 x.a, .i .i64 x.b, .i .i64 x.c, .i .i64 x.d, .i .i64 x.e, .i .i64 x.f, .i .u64 x.bits]
def Dat.pv (x:Dat):PV:= .a x.cells
def Rec.cells (x:Rec):List PV:= .s x.name:: .i .i64 x.typ:: .i .i64 x.ttl::x.data.cells
def Rec.pv (x:Rec):PV:= .a x.cells
def Ad (l:List Rec):PV:= .l 16 (l.map Rec.pv)
def Zone.pv (x:Zone):PV:= .a [.s x.origin,Ad x.recs]
def Bq (l:List (List UInt8)):PV:= .l 1 (l.map .s)
def I2 (x:Dat):PV:= .a [.b x.v6, .i .u64 x.hi, .i .u64 x.lo]
theorem Hm8 (r:Rec):Jn 0 16 r.pv=some r.pv:=rfl
theorem Ik2 (r:Rec):Tf 16 r.pv=some r.pv:=rfl
theorem ax (r:Rec):Jn 3 13 r.pv=some r.data.pv:=rfl
theorem ay (r:Rec):Jn 3 3 r.pv=some (I2 r.data):=rfl
theorem Bs0 (r:Rec):Bm 0 r.pv=some (.s r.name):=rfl
theorem Br9 (r:Rec):Bm 1 r.pv=some (.i .i64 r.typ):=rfl
theorem Br8 (r:Rec):Bm 2 r.pv=some (.i .i64 r.ttl):=rfl
theorem Br7 (r:Rec):Bm 3 r.pv=some (.b r.data.v6):=rfl
theorem Br6 (r:Rec):Bm 4 r.pv=some (.i .u64 r.data.hi):=rfl
theorem Br5 (r:Rec):Bm 5 r.pv=some (.i .u64 r.data.lo):=rfl
theorem Br4 (r:Rec):Bm 6 r.pv=some (.s r.data.host):=rfl
theorem Br3 (r:Rec):Bm 7 r.pv=some (.s r.data.mail):=rfl
theorem Br2 (r:Rec):Bm 8 r.pv=some (.s r.data.text):=rfl
theorem Br1 (r:Rec):Bm 9 r.pv=some (.i .i64 r.data.a):=rfl
theorem Ap8 (r:Rec):Bm 10 r.pv=some (.i .i64 r.data.b):=rfl
theorem Ap7 (r:Rec):Bm 11 r.pv=some (.i .i64 r.data.c):=rfl
theorem Ap6 (r:Rec):Bm 12 r.pv=some (.i .i64 r.data.d):=rfl
theorem Ap5 (r:Rec):Bm 13 r.pv=some (.i .i64 r.data.e):=rfl
theorem Ap4 (r:Rec):Bm 14 r.pv=some (.i .i64 r.data.f):=rfl
theorem Ap3 (r:Rec):Bm 15 r.pv=some (.i .u64 r.data.bits):=rfl
theorem Hn0 (r:Dat):Jn 0 13 r.pv=some r.pv:=rfl
theorem az (r:Dat):Jn 0 3 r.pv=some (I2 r):=rfl
theorem Ik4 (r:Dat):Tf 13 r.pv=some r.pv:=rfl
theorem Cj0 (r:Dat):Bm 0 r.pv=some (.b r.v6):=rfl
theorem Bt9 (r:Dat):Bm 1 r.pv=some (.i .u64 r.hi):=rfl
theorem Bt8 (r:Dat):Bm 2 r.pv=some (.i .u64 r.lo):=rfl
theorem Bt7 (r:Dat):Bm 3 r.pv=some (.s r.host):=rfl
theorem Bt6 (r:Dat):Bm 4 r.pv=some (.s r.mail):=rfl
theorem Bt5 (r:Dat):Bm 5 r.pv=some (.s r.text):=rfl
theorem Bt4 (r:Dat):Bm 6 r.pv=some (.i .i64 r.a):=rfl
theorem Bt3 (r:Dat):Bm 7 r.pv=some (.i .i64 r.b):=rfl
theorem Bt2 (r:Dat):Bm 8 r.pv=some (.i .i64 r.c):=rfl
theorem Bt1 (r:Dat):Bm 9 r.pv=some (.i .i64 r.d):=rfl
theorem Ar8 (r:Dat):Bm 10 r.pv=some (.i .i64 r.e):=rfl
theorem Ar7 (r:Dat):Bm 11 r.pv=some (.i .i64 r.f):=rfl
theorem Ar6 (r:Dat):Bm 12 r.pv=some (.i .u64 r.bits):=rfl
theorem Fh2 (r:Dat):Tf 3 (I2 r)=some (I2 r):=rfl
theorem Fw5 (r:Dat):Jn 0 3 (I2 r)=some (I2 r):=rfl
theorem As1 (r:Dat):Bm 0 (I2 r)=some (.b r.v6):=rfl
theorem As0 (r:Dat):Bm 1 (I2 r)=some (.i .u64 r.hi):=rfl
theorem Ar9 (r:Dat):Bm 2 (I2 r)=some (.i .u64 r.lo):=rfl
theorem Fh1 (r:Zone):Tf 2 r.pv=some r.pv:=rfl
theorem Fw3 (r:Zone):Jn 0 2 r.pv=some r.pv:=rfl
theorem Ap2 (r:Zone):Bm 0 r.pv=some (.s r.origin):=rfl
theorem Ap1 (r:Zone):Bm 1 r.pv=some (Ad r.recs):=rfl
theorem Yz (v:Bool) (h l:Int) (s1 s2 s3:List UInt8) (a b c d e f g:Int):PV.a [.b v, .i .u64 h, .i .u64 l, .s s1, .s s2, .s s3, .i .i64 a, .i .i64 b, .i .i64 c, .i .i64 d, .i .i64 e, .i .i64 f, .i .u64 g]=Dat.pv ⟨v,h,l,s1,s2,s3,a,b,c,d,e,f,g⟩:=rfl
theorem Fg5 (n:List UInt8) (t u:Int) (v:Bool) (h l:Int) (s1 s2 s3:List UInt8) (a b c d e f g:Int):PV.a [.s n, .i .i64 t, .i .i64 u, .b v, .i .u64 h, .i .u64 l, .s s1, .s s2, .s s3, .i .i64 a, .i .i64 b, .i .i64 c, .i .i64 d, .i .i64 e, .i .i64 f, .i .u64 g]=Rec.pv ⟨n,t,u,⟨v,h,l,s1,s2,s3,a,b,c,d,e,f,g⟩⟩:=rfl
theorem Fx (x:Dat):(⟨x.v6,x.hi,x.lo,x.host,x.mail,x.text,x.a,x.b,x.c,x.d,x.e,x.f,x.bits⟩:Dat)=x:=rfl
theorem Iv3 (x:Rec):(⟨x.name,x.typ,x.ttl,x.data⟩:Rec)=x:=rfl
theorem Fg9 (x:Dat):PV.flat x.pv=true:=rfl
theorem Fg8 (x:Rec):PV.flat x.pv=true:=rfl
theorem Cg4 (x:Dat):PV.flat (I2 x)=true:=rfl
theorem Ht6 (x:Rec):Jr 16 [x.pv]=some (Ad [x]):=rfl
theorem Fd6 (l:List Rec):Gh (Ad l)=some (.i .i64 (l.length:Int)):=by simp [Ad,Gh]
theorem Oh (l:List Rec) (k:IntKind) (z:Int) (h:0≤z):H3 16 (Ad l) (.i k z)=(l[z.toNat]?).map Rec.pv:=by simp [Ad,fp _ _ _ _ h]
theorem iy (l:List Rec) (x:Rec) (h:l.length+1≤1073741824):Iv 16 (Ad l) (Ad [x])=some (Ad (l++[x])):=by
 have:=Us 16 (l.map Rec.pv) [x.pv] (by simpa using h)
 simpa [Ad] using this
theorem Zw (l m:List Rec) (h:l.length+m.length≤1073741824):Iv 16 (Ad l) (Ad m)=some (Ad (l++m)):=by
 have:=Us 16 (l.map Rec.pv) (m.map Rec.pv) (by simpa using h)
 simpa [Ad] using this
theorem Fy4:PV.l 16 []=Ad []:=rfl
theorem Mx (l:List Rec) (k k':IntKind) (a b:Int) (h1:0≤a) (h2:a≤b) (h3:b≤(l.length:Int)):H2 16 (Ad l) (.i k a) (.i k' b)=some (Ad ((l.take b.toNat).drop a.toNat)):=by
 have:=Cy3 16 (l.map Rec.pv) k k' a b h1 h2 (by simpa using h3)
 simpa [Ad] using this
theorem Hn8 (l:List Rec) (k:IntKind) (z:Int) (n:List UInt8) (t u:Int) (v:Bool) (h w:Int) (s1 s2 s3:List UInt8) (a b c d e f g:Int) (h0:0≤z) (h1:z<(l.length:Int)):
  Xd 16 0 [.s n, .i .i64 t, .i .i64 u, .b v, .i .u64 h, .i .u64 w, .s s1, .s s2, .s s3, .i .i64 a, .i .i64 b, .i .i64 c, .i .i64 d, .i .i64 e, .i .i64 f, .i .u64 g] (Ad l) (.i k z)=some (Ad (l.set z.toNat ⟨n,t,u,⟨v,h,w,s1,s2,s3,a,b,c,d,e,f,g⟩⟩)):=by
 have h2:z.toNat<l.length:=by omega
 have h3:(l.map Rec.pv)[z.toNat]? =some (l[z.toNat].pv):=by simp [h2]
 simp only [Xd,Ad,h0,h3,and_self,if_true,Ay]
 have h4:Sj (l[z.toNat].pv) 0 [.s n, .i .i64 t, .i .i64 u, .b v, .i .u64 h, .i .u64 w, .s s1, .s s2, .s s3, .i .i64 a, .i .i64 b, .i .i64 c, .i .i64 d, .i .i64 e, .i .i64 f, .i .u64 g]=some (Rec.pv ⟨n,t,u,⟨v,h,w,s1,s2,s3,a,b,c,d,e,f,g⟩⟩):=rfl
 rw [h4]
 simp [List.map_set]
theorem Bh5 (l:List Rec):Il (Ad l)=some (Ad l):=rfl
theorem Fd5 (l:List (List UInt8)):Gh (Bq l)=some (.i .i64 (l.length:Int)):=by simp [Bq,Gh]
theorem Mb (l:List (List UInt8)) (k:IntKind) (z:Int) (h:0≤z):H3 1 (Bq l) (.i k z)=(l[z.toNat]?).map PV.s:=by simp [Bq,fp _ _ _ _ h]
theorem Ht5 (x:List UInt8):Jr 1 [.s x]=some (Bq [x]):=rfl
theorem Fw7:PV.l 1 []=Bq []:=rfl
theorem Eh3 (l:List (List UInt8)) (x:List UInt8) (h:l.length+1≤1073741824):Iv 1 (Bq l) (Bq [x])=some (Bq (l++[x])):=by
 have:=Us 1 (l.map PV.s) [.s x] (by simpa using h)
 simpa [Bq] using this
theorem Ag8 (l m:List (List UInt8)) (h:l.length+m.length≤1073741824):Iv 1 (Bq l) (Bq m)=some (Bq (l++m)):=by
 have:=Us 1 (l.map PV.s) (m.map PV.s) (by simpa using h)
 simpa [Bq] using this
theorem Kv (l:List (List UInt8)) (k k':IntKind) (a b:Int) (h1:0≤a) (h2:a≤b) (h3:b≤(l.length:Int)):H2 1 (Bq l) (.i k a) (.i k' b)=some (Bq ((l.take b.toNat).drop a.toNat)):=by
 have:=Cy3 1 (l.map PV.s) k k' a b h1 h2 (by simpa using h3)
 simpa [Bq] using this
theorem Fx5 (l:List (List UInt8)) (k:IntKind) (z:Int) (x:List UInt8) (h0:0≤z) (h1:z<(l.length:Int)):Xd 1 0 [.s x] (Bq l) (.i k z)=some (Bq (l.set z.toNat x)):=by
 have h2:z.toNat<l.length:=by omega
 have h3:(l.map PV.s)[z.toNat]? =some (.s l[z.toNat]):=by simp [h2]
 simp only [Xd,Bq,h0,h3,and_self,if_true,Ay]
 have h4:Sj (.s l[z.toNat]) 0 [.s x]=some (.s x):=rfl
 rw [h4]
 simp [List.map_set]
theorem w6 (n:Int) (h0:0≤n) (h1:n≤1073741824):Lk 1 (.i .i64 n) (.s [])=some (Bq (List.replicate n.toNat [])):=by
 have h2:n≤(LIM:Int):=by simp only [LIM];omega
 have h3:(PV.s []).cells.length=1:=rfl
 simp only [Lk,h0,h2,h3,and_self,if_true]
 simp [Bq]
theorem Bp9 (l:List (List UInt8)):Bm 0 (Bq l)=some (Bq l):=rfl
theorem Br0 (l:List Rec):Bm 0 (Ad l)=some (Ad l):=rfl
theorem Bh4 (l:List (List UInt8)):Il (Bq l)=some (Bq l):=rfl
theorem Kj4 (neg:Bool) (x y:Dat):K3 neg true [.b,(.i .u64),(.i .u64), .s, .s, .s,(.i .i64),(.i .i64),(.i .i64),(.i .i64),(.i .i64),(.i .i64),(.i .u64)] x.pv y.pv=some (.b (if neg then decide (x≠y) else decide (x=y))):=by
 have:Gz [.b,(.i .u64),(.i .u64), .s, .s, .s,(.i .i64),(.i .i64),(.i .i64),(.i .i64),(.i .i64),(.i .i64),(.i .u64)] x.cells y.cells=some (decide (x=y)):=by
  simp only [Dat.cells,Gz,Em8,if_true,Option.some.injEq]
  rw [C1]
  cases x;cases y;simp
 simp only [K3,Dat.pv,this,A4]
 cases neg<;>simp
theorem Kj3 (neg:Bool) (x y:Rec):K3 neg true [.s,(.i .i64),(.i .i64), .b,(.i .u64),(.i .u64), .s, .s, .s,(.i .i64),(.i .i64),(.i .i64),(.i .i64),(.i .i64),(.i .i64),(.i .u64)] x.pv y.pv=some (.b (if neg then decide (x≠y) else decide (x=y))):=by
 have:Gz [.s,(.i .i64),(.i .i64), .b,(.i .u64),(.i .u64), .s, .s, .s,(.i .i64),(.i .i64),(.i .i64),(.i .i64),(.i .i64),(.i .i64),(.i .u64)] x.cells y.cells=some (decide (x=y)):=by
  simp only [Rec.cells,Dat.cells,Gz,Em8,if_true,Option.some.injEq]
  rw [C1]
  rcases x with ⟨_,_,_,⟨⟩⟩;rcases y with ⟨_,_,_,⟨⟩⟩;simp [and_assoc]
 simp only [K3,Rec.pv,this,A4]
 cases neg<;>simp
set_option linter.defProp false in
def EVP:=(And.intro @Fx5 (And.intro @w6 (And.intro @Hn8 (And.intro @Hm8 (And.intro @Ik2 (And.intro @ax (And.intro @ay (And.intro @Bs0 (And.intro @Br9 (And.intro @Br8 (And.intro @Br7 (And.intro @Br6 (And.intro @Br5 (And.intro @Br4 (And.intro @Br3 (And.intro @Br2 (And.intro @Br1 (And.intro @Ap8 (And.intro @Ap7 (And.intro @Ap6 (And.intro @Ap5 (And.intro @Ap4 (And.intro @Ap3 (And.intro @Hn0 (And.intro @az (And.intro @Ik4 (And.intro @Cj0 (And.intro @Bt9 (And.intro @Bt8 (And.intro @Bt7 (And.intro @Bt6 (And.intro @Bt5 (And.intro @Bt4 (And.intro @Bt3 (And.intro @Bt2 (And.intro @Bt1 (And.intro @Ar8 (And.intro @Ar7 (And.intro @Ar6 (And.intro @Fh2 (And.intro @Fw5 (And.intro @As1 (And.intro @As0 (And.intro @Ar9 (And.intro @Fh1 (And.intro @Fw3 (And.intro @Ap2 (And.intro @Ap1 (And.intro @Yz (And.intro @Fg5 (And.intro @Fx (And.intro @Iv3 (And.intro @Fg9 (And.intro @Fg8 (And.intro @Cg4 (And.intro @Ht6 (And.intro @Fd6 (And.intro @Oh (And.intro @iy (And.intro @Zw (And.intro @Fy4 (And.intro @Mx (And.intro @Bh5 (And.intro @Fd5 (And.intro @Mb (And.intro @Ht5 (And.intro @Fw7 (And.intro @Eh3 (And.intro @Ag8 (And.intro @Kv (And.intro @Bp9 (And.intro @Br0 (And.intro @Bh4 (And.intro @Kj4 @Kj3))))))))))))))))))))))))))))))))))))))))))))))))))))))))))))))))))))))))))
end Go.X
