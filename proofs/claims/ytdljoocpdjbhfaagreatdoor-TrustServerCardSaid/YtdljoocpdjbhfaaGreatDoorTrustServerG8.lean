/- The program's data. -/
import Derived.Test.YtdljoocpdjbhfaaGreatDoorTrustServerG6
open Bool renaming eq_iff_iff→Cn
open Option renaming bind_some→Ay,map_some→A4
open Option.some renaming injEq→Ak
set_option maxHeartbeats 1000000
set_option linter.unusedVariables false
set_option linter.unusedSimpArgs false
namespace Go.X
open Go
structure Dat where
 v6:Bool
 hi:Int
 lo:Int
 host:List UInt8
 mail:List UInt8
 text:List UInt8
 a:Int
 b:Int
 c:Int
 d:Int
 e:Int
 f:Int
 bits:Int
 deriving DecidableEq
structure Rec where
 name:List UInt8
 typ:Int
 ttl:Int
 data:Dat
 deriving DecidableEq
structure Zone where
 origin:List UInt8
 recs:List Rec
 deriving DecidableEq
def Is (x:Int):Prop:= -9223372036854775808≤x∧x≤9223372036854775807
def Ex2 (x:Int):Prop:=0≤x∧x≤18446744073709551615
def Jl (x:List UInt8):Prop:=x.length≤9223372036854775807
structure Dat.wf (x:Dat):Prop where
 hi:Ex2 x.hi
 lo:Ex2 x.lo
 host:Jl x.host
 mail:Jl x.mail
 text:Jl x.text
 a:Is x.a
 b:Is x.b
 c:Is x.c
 d:Is x.d
 e:Is x.e
 f:Is x.f
 bits:Ex2 x.bits
structure Rec.wf (r:Rec):Prop where
 name:Jl r.name
 typ:Is r.typ
 ttl:Is r.ttl
 data:r.data.wf
def Ov (l:List Rec):Prop:=l.length≤9223372036854775807∧∀r∈l,r.wf
structure Zone.wf (z:Zone):Prop where
 origin:Jl z.origin
 recs:Ov z.recs
def Dat.cells (x:Dat):List PV:=[.b x.v6, .i .u64 x.hi, .i .u64 x.lo, .s x.host, .s x.mail, .s x.text, .i .i64 x.a, .i .i64 x.b, .i .i64 x.c, .i .i64 x.d, .i .i64 x.e, .i .i64 x.f, .i .u64 x.bits]
def Dat.pv (x:Dat):PV:= .a x.cells
def Rec.cells (x:Rec):List PV:= .s x.name:: .i .i64 x.typ:: .i .i64 x.ttl::x.data.cells
def Rec.pv (x:Rec):PV:= .a x.cells
def Ag (l:List Rec):PV:= .l 16 (l.map Rec.pv)
def Zone.pv (x:Zone):PV:= .a [.s x.origin,Ag x.recs]
def Bh (l:List (List UInt8)):PV:= .l 1 (l.map .s)
def J6 (x:Dat):PV:= .a [.b x.v6, .i .u64 x.hi, .i .u64 x.lo]
theorem Hk6 (r:Rec):Jd 0 16 r.pv=some r.pv:=rfl
theorem Hb8 (r:Rec):Ry 16 r.pv=some r.pv:=rfl
theorem cp (r:Rec):Jd 3 13 r.pv=some r.data.pv:=rfl
theorem cr (r:Rec):Jd 3 3 r.pv=some (J6 r.data):=rfl
theorem Bl6 (r:Rec):Bt 0 r.pv=some (.s r.name):=rfl
theorem Bl5 (r:Rec):Bt 1 r.pv=some (.i .i64 r.typ):=rfl
theorem Bl4 (r:Rec):Bt 2 r.pv=some (.i .i64 r.ttl):=rfl
theorem Bl3 (r:Rec):Bt 3 r.pv=some (.b r.data.v6):=rfl
theorem Bl2 (r:Rec):Bt 4 r.pv=some (.i .u64 r.data.hi):=rfl
theorem Bl1 (r:Rec):Bt 5 r.pv=some (.i .u64 r.data.lo):=rfl
theorem Bl0 (r:Rec):Bt 6 r.pv=some (.s r.data.host):=rfl
theorem Bh9 (r:Rec):Bt 7 r.pv=some (.s r.data.mail):=rfl
theorem Bh8 (r:Rec):Bt 8 r.pv=some (.s r.data.text):=rfl
theorem Bh7 (r:Rec):Bt 9 r.pv=some (.i .i64 r.data.a):=rfl
theorem Ah1 (r:Rec):Bt 10 r.pv=some (.i .i64 r.data.b):=rfl
theorem Ah0 (r:Rec):Bt 11 r.pv=some (.i .i64 r.data.c):=rfl
theorem Ag9 (r:Rec):Bt 12 r.pv=some (.i .i64 r.data.d):=rfl
theorem Ag8 (r:Rec):Bt 13 r.pv=some (.i .i64 r.data.e):=rfl
theorem Ag7 (r:Rec):Bt 14 r.pv=some (.i .i64 r.data.f):=rfl
theorem Ag6 (r:Rec):Bt 15 r.pv=some (.i .u64 r.data.bits):=rfl
theorem Hk8 (r:Dat):Jd 0 13 r.pv=some r.pv:=rfl
theorem ct (r:Dat):Jd 0 3 r.pv=some (J6 r):=rfl
theorem Hc0 (r:Dat):Ry 13 r.pv=some r.pv:=rfl
theorem Bn6 (r:Dat):Bt 0 r.pv=some (.b r.v6):=rfl
theorem Bn5 (r:Dat):Bt 1 r.pv=some (.i .u64 r.hi):=rfl
theorem Bn4 (r:Dat):Bt 2 r.pv=some (.i .u64 r.lo):=rfl
theorem Bn3 (r:Dat):Bt 3 r.pv=some (.s r.host):=rfl
theorem Bn2 (r:Dat):Bt 4 r.pv=some (.s r.mail):=rfl
theorem Bn1 (r:Dat):Bt 5 r.pv=some (.s r.text):=rfl
theorem Bn0 (r:Dat):Bt 6 r.pv=some (.i .i64 r.a):=rfl
theorem Bm9 (r:Dat):Bt 7 r.pv=some (.i .i64 r.b):=rfl
theorem Bm8 (r:Dat):Bt 8 r.pv=some (.i .i64 r.c):=rfl
theorem Bm7 (r:Dat):Bt 9 r.pv=some (.i .i64 r.d):=rfl
theorem Al1 (r:Dat):Bt 10 r.pv=some (.i .i64 r.e):=rfl
theorem Al0 (r:Dat):Bt 11 r.pv=some (.i .i64 r.f):=rfl
theorem Ah9 (r:Dat):Bt 12 r.pv=some (.i .u64 r.bits):=rfl
theorem Fj8 (r:Dat):Ry 3 (J6 r)=some (J6 r):=rfl
theorem Eg2 (r:Dat):Jd 0 3 (J6 r)=some (J6 r):=rfl
theorem Al4 (r:Dat):Bt 0 (J6 r)=some (.b r.v6):=rfl
theorem Al3 (r:Dat):Bt 1 (J6 r)=some (.i .u64 r.hi):=rfl
theorem Al2 (r:Dat):Bt 2 (J6 r)=some (.i .u64 r.lo):=rfl
theorem Fj7 (r:Zone):Ry 2 r.pv=some r.pv:=rfl
theorem Eg0 (r:Zone):Jd 0 2 r.pv=some r.pv:=rfl
theorem Ag5 (r:Zone):Bt 0 r.pv=some (.s r.origin):=rfl
theorem Ag4 (r:Zone):Bt 1 r.pv=some (Ag r.recs):=rfl
theorem Y5 (v:Bool) (h l:Int) (s1 s2 s3:List UInt8) (a b c d e f g:Int):PV.a [.b v, .i .u64 h, .i .u64 l, .s s1, .s s2, .s s3, .i .i64 a, .i .i64 b, .i .i64 c, .i .i64 d, .i .i64 e, .i .i64 f, .i .u64 g]=Dat.pv ⟨v,h,l,s1,s2,s3,a,b,c,d,e,f,g⟩:=rfl
theorem Fj1 (n:List UInt8) (t u:Int) (v:Bool) (h l:Int) (s1 s2 s3:List UInt8) (a b c d e f g:Int):PV.a [.s n, .i .i64 t, .i .i64 u, .b v, .i .u64 h, .i .u64 l, .s s1, .s s2, .s s3, .i .i64 a, .i .i64 b, .i .i64 c, .i .i64 d, .i .i64 e, .i .i64 f, .i .u64 g]=Rec.pv ⟨n,t,u,⟨v,h,l,s1,s2,s3,a,b,c,d,e,f,g⟩⟩:=rfl
theorem Fq (x:Dat):(⟨x.v6,x.hi,x.lo,x.host,x.mail,x.text,x.a,x.b,x.c,x.d,x.e,x.f,x.bits⟩:Dat)=x:=rfl
theorem Hd3 (x:Rec):(⟨x.name,x.typ,x.ttl,x.data⟩:Rec)=x:=rfl
theorem Fj5 (x:Dat):PV.flat x.pv=true:=rfl
theorem Fj4 (x:Rec):PV.flat x.pv=true:=rfl
theorem Cz0 (x:Dat):PV.flat (J6 x)=true:=rfl
theorem Hz0 (x:Rec):Jt 16 [x.pv]=some (Ag [x]):=rfl
theorem Er6 (l:List Rec):F4 (Ag l)=some (.i .i64 (l.length:Int)):=by simp [Ag,F4]
theorem Jv (l:List Rec) (k:IntKind) (z:Int) (h:0≤z):Gt 16 (Ag l) (.i k z)=(l[z.toNat]?).map Rec.pv:=by simp [Ag,Y0 _ _ _ _ h]
theorem Ek0 (l:List Rec) (x:Rec) (h:l.length+1≤1073741824):H7 16 (Ag l) (Ag [x])=some (Ag (l++[x])):=by have:=Ul 16 (l.map Rec.pv) [x.pv] (by simpa using h);simpa [Ag] using this
theorem Ix (l m:List Rec) (h:l.length+m.length≤1073741824):H7 16 (Ag l) (Ag m)=some (Ag (l++m)):=by have:=Ul 16 (l.map Rec.pv) (m.map Rec.pv) (by simpa using h);simpa [Ag] using this
theorem El2:PV.l 16 []=Ag []:=rfl
theorem G8 (l:List Rec) (k k':IntKind) (a b:Int) (h1:0≤a) (h2:a≤b) (h3:b≤(l.length:Int)):G9 16 (Ag l) (.i k a) (.i k' b)=some (Ag ((l.take b.toNat).drop a.toNat)):=by have:=Ck3 16 (l.map Rec.pv) k k' a b h1 h2 (by simpa using h3);simpa [Ag] using this
theorem Hq9 (l:List Rec) (k:IntKind) (z:Int) (n:List UInt8) (t u:Int) (v:Bool) (h w:Int) (s1 s2 s3:List UInt8) (a b c d e f g:Int) (h0:0≤z) (h1:z<(l.length:Int)):
  Rk 16 0 [.s n, .i .i64 t, .i .i64 u, .b v, .i .u64 h, .i .u64 w, .s s1, .s s2, .s s3, .i .i64 a, .i .i64 b, .i .i64 c, .i .i64 d, .i .i64 e, .i .i64 f, .i .u64 g] (Ag l) (.i k z)=some (Ag (l.set z.toNat ⟨n,t,u,⟨v,h,w,s1,s2,s3,a,b,c,d,e,f,g⟩⟩)):=by
 have h2:z.toNat<l.length:=by omega
 have h3:(l.map Rec.pv)[z.toNat]? =some (l[z.toNat].pv):=by simp [h2]
 simp only [Rk,Ag,h0,h3,and_self,if_true,Ay];have h4:P3 (l[z.toNat].pv) 0 [.s n, .i .i64 t, .i .i64 u, .b v, .i .u64 h, .i .u64 w, .s s1, .s s2, .s s3, .i .i64 a, .i .i64 b, .i .i64 c, .i .i64 d, .i .i64 e, .i .i64 f, .i .u64 g]=some (Rec.pv ⟨n,t,u,⟨v,h,w,s1,s2,s3,a,b,c,d,e,f,g⟩⟩):=rfl;rw [h4];simp [List.map_set]
theorem Bb1 (l:List Rec):H9 (Ag l)=some (Ag l):=rfl
theorem Er4 (l:List (List UInt8)):F4 (Bh l)=some (.i .i64 (l.length:Int)):=by simp [Bh,F4]
theorem Ml (l:List (List UInt8)) (k:IntKind) (z:Int) (h:0≤z):Gt 1 (Bh l) (.i k z)=(l[z.toNat]?).map PV.s:=by simp [Bh,Y0 _ _ _ _ h]
theorem Hy8 (x:List UInt8):Jt 1 [.s x]=some (Bh [x]):=rfl
theorem Eg5:PV.l 1 []=Bh []:=rfl
theorem Ej8 (l:List (List UInt8)) (x:List UInt8) (h:l.length+1≤1073741824):H7 1 (Bh l) (Bh [x])=some (Bh (l++[x])):=by have:=Ul 1 (l.map PV.s) [.s x] (by simpa using h);simpa [Bh] using this
theorem Ab1 (l m:List (List UInt8)) (h:l.length+m.length≤1073741824):H7 1 (Bh l) (Bh m)=some (Bh (l++m)):=by have:=Ul 1 (l.map PV.s) (m.map PV.s) (by simpa using h);simpa [Bh] using this
theorem Mf (l:List (List UInt8)) (k k':IntKind) (a b:Int) (h1:0≤a) (h2:a≤b) (h3:b≤(l.length:Int)):G9 1 (Bh l) (.i k a) (.i k' b)=some (Bh ((l.take b.toNat).drop a.toNat)):=by have:=Ck3 1 (l.map PV.s) k k' a b h1 h2 (by simpa using h3);simpa [Bh] using this
theorem Eh3 (l:List (List UInt8)) (k:IntKind) (z:Int) (x:List UInt8) (h0:0≤z) (h1:z<(l.length:Int)):Rk 1 0 [.s x] (Bh l) (.i k z)=some (Bh (l.set z.toNat x)):=by
 have h2:z.toNat<l.length:=by omega
 have h3:(l.map PV.s)[z.toNat]? =some (.s l[z.toNat]):=by simp [h2]
 simp only [Rk,Bh,h0,h3,and_self,if_true,Ay];have h4:P3 (.s l[z.toNat]) 0 [.s x]=some (.s x):=rfl;rw [h4];simp [List.map_set]
theorem yn (n:Int) (h0:0≤n) (h1:n≤1073741824):K8 1 (.i .i64 n) (.s [])=some (Bh (List.replicate n.toNat [])):=by
 have h2:n≤(LIM:Int):=by simp only [LIM];omega
 have h3:(PV.s []).cells.length=1:=rfl;simp only [K8,h0,h2,h3,and_self,if_true];simp [Bh]
theorem Bg9 (l:List (List UInt8)):Bt 0 (Bh l)=some (Bh l):=rfl
theorem Bh6 (l:List Rec):Bt 0 (Ag l)=some (Ag l):=rfl
theorem Bz9 (l:List (List UInt8)):H9 (Bh l)=some (Bh l):=rfl
theorem Jw9 (neg:Bool) (x y:Dat):Lj neg true [.b,(.i .u64),(.i .u64), .s, .s, .s,(.i .i64),(.i .i64),(.i .i64),(.i .i64),(.i .i64),(.i .i64),(.i .u64)] x.pv y.pv=some (.b (if neg then decide (x≠y) else decide (x=y))):=by
 have:Gy [.b,(.i .u64),(.i .u64), .s, .s, .s,(.i .i64),(.i .i64),(.i .i64),(.i .i64),(.i .i64),(.i .i64),(.i .u64)] x.cells y.cells=some (decide (x=y)):=by simp only [Dat.cells,Gy,Ev1,if_true,Ak];rw [Cn];cases x;cases y;simp
 simp only [Lj,Dat.pv,this,A4];cases neg<;>simp
theorem Jw8 (neg:Bool) (x y:Rec):Lj neg true [.s,(.i .i64),(.i .i64), .b,(.i .u64),(.i .u64), .s, .s, .s,(.i .i64),(.i .i64),(.i .i64),(.i .i64),(.i .i64),(.i .i64),(.i .u64)] x.pv y.pv=some (.b (if neg then decide (x≠y) else decide (x=y))):=by
 have:Gy [.s,(.i .i64),(.i .i64), .b,(.i .u64),(.i .u64), .s, .s, .s,(.i .i64),(.i .i64),(.i .i64),(.i .i64),(.i .i64),(.i .i64),(.i .u64)] x.cells y.cells=some (decide (x=y)):=by simp only [Rec.cells,Dat.cells,Gy,Ev1,if_true,Ak];rw [Cn];rcases x with ⟨_,_,_,⟨⟩⟩;rcases y with ⟨_,_,_,⟨⟩⟩;simp [and_assoc]
 simp only [Lj,Rec.pv,this,A4];cases neg<;>simp
set_option linter.defProp false in
def EVP:=(And.intro @Eh3 (And.intro @yn (And.intro @Hq9 (And.intro @Hk6 (And.intro @Hb8 (And.intro @cp (And.intro @cr (And.intro @Bl6 (And.intro @Bl5 (And.intro @Bl4 (And.intro @Bl3 (And.intro @Bl2 (And.intro @Bl1 (And.intro @Bl0 (And.intro @Bh9 (And.intro @Bh8 (And.intro @Bh7 (And.intro @Ah1 (And.intro @Ah0 (And.intro @Ag9 (And.intro @Ag8 (And.intro @Ag7 (And.intro @Ag6 (And.intro @Hk8 (And.intro @ct (And.intro @Hc0 (And.intro @Bn6 (And.intro @Bn5 (And.intro @Bn4 (And.intro @Bn3 (And.intro @Bn2 (And.intro @Bn1 (And.intro @Bn0 (And.intro @Bm9 (And.intro @Bm8 (And.intro @Bm7 (And.intro @Al1 (And.intro @Al0 (And.intro @Ah9 (And.intro @Fj8 (And.intro @Eg2 (And.intro @Al4 (And.intro @Al3 (And.intro @Al2 (And.intro @Fj7 (And.intro @Eg0 (And.intro @Ag5 (And.intro @Ag4 (And.intro @Y5 (And.intro @Fj1 (And.intro @Fq (And.intro @Hd3 (And.intro @Fj5 (And.intro @Fj4 (And.intro @Cz0 (And.intro @Hz0 (And.intro @Er6 (And.intro @Jv (And.intro @Ek0 (And.intro @Ix (And.intro @El2 (And.intro @G8 (And.intro @Bb1 (And.intro @Er4 (And.intro @Ml (And.intro @Hy8 (And.intro @Eg5 (And.intro @Ej8 (And.intro @Ab1 (And.intro @Mf (And.intro @Bg9 (And.intro @Bh6 (And.intro @Bz9 (And.intro @Jw9 @Jw8))))))))))))))))))))))))))))))))))))))))))))))))))))))))))))))))))))))))))
end Go.X
