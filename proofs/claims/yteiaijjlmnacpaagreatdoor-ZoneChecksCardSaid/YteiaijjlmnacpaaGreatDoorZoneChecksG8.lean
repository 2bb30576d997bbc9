/- The program's data. -/
import Derived.Test.YteiaijjlmnacpaaGreatDoorZoneChecksG6
open Bool renaming eq_iff_iff→Ch
open Option renaming bind_some→Ay,map_some→A4
set_option maxHeartbeats 1000000
set_option linter.unusedVariables false
set_option linter.unusedSimpArgs false
namespace Go.X
open Go
structure Dat where
 v6:Bool
 hi:Int
 lo:Int
 host:List UInt8
 mail:List UInt8
 text:List UInt8
 a:Int
 b:Int
 c:Int
 d:Int
 e:Int
 f:Int
 bits:Int
 deriving DecidableEq
structure Rec where
 name:List UInt8
 typ:Int
 ttl:Int
 data:Dat
 deriving DecidableEq
structure Zone where
 origin:List UInt8
 recs:List Rec
 deriving DecidableEq
def jb (x:Int):Prop:= -9223372036854775808≤x∧x≤9223372036854775807
def Iv1 (x:Int):Prop:=0≤x∧x≤18446744073709551615
def L9 (x:List UInt8):Prop:=x.length≤9223372036854775807
structure Dat.wf (x:Dat):Prop where
 hi:Iv1 x.hi
 lo:Iv1 x.lo
 host:L9 x.host
 mail:L9 x.mail
 text:L9 x.text
 a:jb x.a
 b:jb x.b
 c:jb x.c
 d:jb x.d
 e:jb x.e
 f:jb x.f
 bits:Iv1 x.bits
structure Rec.wf (r:Rec):Prop where
 name:L9 r.name
 typ:jb r.typ
 ttl:jb r.ttl
 data:r.data.wf
def Bw3 (l:List Rec):Prop:=l.length≤9223372036854775807∧∀r∈l,r.wf
structure Zone.wf (z:Zone):Prop where
 origin:L9 z.origin
 recs:Bw3 z.recs
def Dat.cells (x:Dat):List PV:=[.b x.v6, .i .u64 x.hi, .i .u64 x.lo, .s x.host, .s x.mail, .s x.text, .i .i64 x.a, .i .i64 x.b, .i .i64 x.c, .i .i64 x.d, .i .i64 x.e, .i .i64 x.f, .i .u64 x.bits]
def Dat.pv (x:Dat):PV:= .a x.cells
def Rec.cells (x:Rec):List PV:= .s x.name:: .i .i64 x.typ:: .i .i64 x.ttl::x.data.cells
def Rec.pv (x:Rec):PV:= .a x.cells
def Af (l:List Rec):PV:= .l 16 (l.map Rec.pv)
def Zone.pv (x:Zone):PV:= .a [.s x.origin,Af x.recs]
def Bv (l:List (List UInt8)):PV:= .l 1 (l.map .s)
def Il (x:Dat):PV:= .a [.b x.v6, .i .u64 x.hi, .i .u64 x.lo]
theorem Hk4 (r:Rec):Jz 0 16 r.pv=some r.pv:=rfl
theorem Hz6 (r:Rec):Sz 16 r.pv=some r.pv:=rfl
theorem Ys (r:Rec):Jz 3 13 r.pv=some r.data.pv:=rfl
theorem Yt (r:Rec):Jz 3 3 r.pv=some (Il r.data):=rfl
theorem Bb8 (r:Rec):Bm 0 r.pv=some (.s r.name):=rfl
theorem Bb7 (r:Rec):Bm 1 r.pv=some (.i .i64 r.typ):=rfl
theorem Bb6 (r:Rec):Bm 2 r.pv=some (.i .i64 r.ttl):=rfl
theorem Bb5 (r:Rec):Bm 3 r.pv=some (.b r.data.v6):=rfl
theorem Bb4 (r:Rec):Bm 4 r.pv=some (.i .u64 r.data.hi):=rfl
theorem Bb3 (r:Rec):Bm 5 r.pv=some (.i .u64 r.data.lo):=rfl
theorem Bb2 (r:Rec):Bm 6 r.pv=some (.s r.data.host):=rfl
theorem Bb1 (r:Rec):Bm 7 r.pv=some (.s r.data.mail):=rfl
theorem Bb0 (r:Rec):Bm 8 r.pv=some (.s r.data.text):=rfl
theorem Bz9 (r:Rec):Bm 9 r.pv=some (.i .i64 r.data.a):=rfl
theorem Ad1 (r:Rec):Bm 10 r.pv=some (.i .i64 r.data.b):=rfl
theorem Ad0 (r:Rec):Bm 11 r.pv=some (.i .i64 r.data.c):=rfl
theorem Ac9 (r:Rec):Bm 12 r.pv=some (.i .i64 r.data.d):=rfl
theorem Ac8 (r:Rec):Bm 13 r.pv=some (.i .i64 r.data.e):=rfl
theorem Ac7 (r:Rec):Bm 14 r.pv=some (.i .i64 r.data.f):=rfl
theorem Ac6 (r:Rec):Bm 15 r.pv=some (.i .u64 r.data.bits):=rfl
theorem Hk6 (r:Dat):Jz 0 13 r.pv=some r.pv:=rfl
theorem Y0 (r:Dat):Jz 0 3 r.pv=some (Il r):=rfl
theorem Hz8 (r:Dat):Sz 13 r.pv=some r.pv:=rfl
theorem Bd8 (r:Dat):Bm 0 r.pv=some (.b r.v6):=rfl
theorem Bd7 (r:Dat):Bm 1 r.pv=some (.i .u64 r.hi):=rfl
theorem Bd6 (r:Dat):Bm 2 r.pv=some (.i .u64 r.lo):=rfl
theorem Bd5 (r:Dat):Bm 3 r.pv=some (.s r.host):=rfl
theorem Bd4 (r:Dat):Bm 4 r.pv=some (.s r.mail):=rfl
theorem Bd3 (r:Dat):Bm 5 r.pv=some (.s r.text):=rfl
theorem Bd2 (r:Dat):Bm 6 r.pv=some (.i .i64 r.a):=rfl
theorem Bd1 (r:Dat):Bm 7 r.pv=some (.i .i64 r.b):=rfl
theorem Bd0 (r:Dat):Bm 8 r.pv=some (.i .i64 r.c):=rfl
theorem Bc9 (r:Dat):Bm 9 r.pv=some (.i .i64 r.d):=rfl
theorem Af1 (r:Dat):Bm 10 r.pv=some (.i .i64 r.e):=rfl
theorem Af0 (r:Dat):Bm 11 r.pv=some (.i .i64 r.f):=rfl
theorem Ad9 (r:Dat):Bm 12 r.pv=some (.i .u64 r.bits):=rfl
theorem Fk7 (r:Dat):Sz 3 (Il r)=some (Il r):=rfl
theorem El0 (r:Dat):Jz 0 3 (Il r)=some (Il r):=rfl
theorem Af4 (r:Dat):Bm 0 (Il r)=some (.b r.v6):=rfl
theorem Af3 (r:Dat):Bm 1 (Il r)=some (.i .u64 r.hi):=rfl
theorem Af2 (r:Dat):Bm 2 (Il r)=some (.i .u64 r.lo):=rfl
theorem Fk6 (r:Zone):Sz 2 r.pv=some r.pv:=rfl
theorem Eh8 (r:Zone):Jz 0 2 r.pv=some r.pv:=rfl
theorem Ac5 (r:Zone):Bm 0 r.pv=some (.s r.origin):=rfl
theorem Ac4 (r:Zone):Bm 1 r.pv=some (Af r.recs):=rfl
theorem Xk (v:Bool) (h l:Int) (s1 s2 s3:List UInt8) (a b c d e f g:Int):PV.a [.b v, .i .u64 h, .i .u64 l, .s s1, .s s2, .s s3, .i .i64 a, .i .i64 b, .i .i64 c, .i .i64 d, .i .i64 e, .i .i64 f, .i .u64 g]=Dat.pv ⟨v,h,l,s1,s2,s3,a,b,c,d,e,f,g⟩:=rfl
theorem Fk0 (n:List UInt8) (t u:Int) (v:Bool) (h l:Int) (s1 s2 s3:List UInt8) (a b c d e f g:Int):PV.a [.s n, .i .i64 t, .i .i64 u, .b v, .i .u64 h, .i .u64 l, .s s1, .s s2, .s s3, .i .i64 a, .i .i64 b, .i .i64 c, .i .i64 d, .i .i64 e, .i .i64 f, .i .u64 g]=Rec.pv ⟨n,t,u,⟨v,h,l,s1,s2,s3,a,b,c,d,e,f,g⟩⟩:=rfl
theorem E8 (x:Dat):(⟨x.v6,x.hi,x.lo,x.host,x.mail,x.text,x.a,x.b,x.c,x.d,x.e,x.f,x.bits⟩:Dat)=x:=rfl
theorem Hc7 (x:Rec):(⟨x.name,x.typ,x.ttl,x.data⟩:Rec)=x:=rfl
theorem Fk4 (x:Dat):PV.flat x.pv=true:=rfl
theorem Fk3 (x:Rec):PV.flat x.pv=true:=rfl
theorem Cq3 (x:Dat):PV.flat (Il x)=true:=rfl
theorem Hy0 (x:Rec):Jc 16 [x.pv]=some (Af [x]):=rfl
theorem Et1 (l:List Rec):Gb (Af l)=some (.i .i64 (l.length:Int)):=by simp [Af,Gb]
theorem N1 (l:List Rec) (k:IntKind) (z:Int) (h:0≤z):Hr 16 (Af l) (.i k z)=(l[z.toNat]?).map Rec.pv:=by simp [Af,ct _ _ _ _ h]
theorem dr (l:List Rec) (x:Rec) (h:l.length+1≤1073741824):H7 16 (Af l) (Af [x])=some (Af (l++[x])):=by
 have:=Td 16 (l.map Rec.pv) [x.pv] (by simpa using h)
 simpa [Af] using this
theorem X2 (l m:List Rec) (h:l.length+m.length≤1073741824):H7 16 (Af l) (Af m)=some (Af (l++m)):=by
 have:=Td 16 (l.map Rec.pv) (m.map Rec.pv) (by simpa using h)
 simpa [Af] using this
theorem Em9:PV.l 16 []=Af []:=rfl
theorem Lm (l:List Rec) (k k':IntKind) (a b:Int) (h1:0≤a) (h2:a≤b) (h3:b≤(l.length:Int)):H5 16 (Af l) (.i k a) (.i k' b)=some (Af ((l.take b.toNat).drop a.toNat)):=by
 have:=Bp1 16 (l.map Rec.pv) k k' a b h1 h2 (by simpa using h3)
 simpa [Af] using this
theorem Hq4 (l:List Rec) (k:IntKind) (z:Int) (n:List UInt8) (t u:Int) (v:Bool) (h w:Int) (s1 s2 s3:List UInt8) (a b c d e f g:Int) (h0:0≤z) (h1:z<(l.length:Int)):
  Ww 16 0 [.s n, .i .i64 t, .i .i64 u, .b v, .i .u64 h, .i .u64 w, .s s1, .s s2, .s s3, .i .i64 a, .i .i64 b, .i .i64 c, .i .i64 d, .i .i64 e, .i .i64 f, .i .u64 g] (Af l) (.i k z)=some (Af (l.set z.toNat ⟨n,t,u,⟨v,h,w,s1,s2,s3,a,b,c,d,e,f,g⟩⟩)):=by
 have h2:z.toNat<l.length:=by omega
 have h3:(l.map Rec.pv)[z.toNat]? =some (l[z.toNat].pv):=by simp [h2]
 simp only [Ww,Af,h0,h3,and_self,if_true,Ay]
 have h4:Q6 (l[z.toNat].pv) 0 [.s n, .i .i64 t, .i .i64 u, .b v, .i .u64 h, .i .u64 w, .s s1, .s s2, .s s3, .i .i64 a, .i .i64 b, .i .i64 c, .i .i64 d, .i .i64 e, .i .i64 f, .i .u64 g]=some (Rec.pv ⟨n,t,u,⟨v,h,w,s1,s2,s3,a,b,c,d,e,f,g⟩⟩):=rfl
 rw [h4]
 simp [List.map_set]
theorem Bv2 (l:List Rec):Iy (Af l)=some (Af l):=rfl
theorem Et0 (l:List (List UInt8)):Gb (Bv l)=some (.i .i64 (l.length:Int)):=by simp [Bv,Gb]
theorem Lr (l:List (List UInt8)) (k:IntKind) (z:Int) (h:0≤z):Hr 1 (Bv l) (.i k z)=(l[z.toNat]?).map PV.s:=by simp [Bv,ct _ _ _ _ h]
theorem Hx9 (x:List UInt8):Jc 1 [.s x]=some (Bv [x]):=rfl
theorem El2:PV.l 1 []=Bv []:=rfl
theorem Eq2 (l:List (List UInt8)) (x:List UInt8) (h:l.length+1≤1073741824):H7 1 (Bv l) (Bv [x])=some (Bv (l++[x])):=by
 have:=Td 1 (l.map PV.s) [.s x] (by simpa using h)
 simpa [Bv] using this
theorem Ax2 (l m:List (List UInt8)) (h:l.length+m.length≤1073741824):H7 1 (Bv l) (Bv m)=some (Bv (l++m)):=by
 have:=Td 1 (l.map PV.s) (m.map PV.s) (by simpa using h)
 simpa [Bv] using this
theorem Ll (l:List (List UInt8)) (k k':IntKind) (a b:Int) (h1:0≤a) (h2:a≤b) (h3:b≤(l.length:Int)):H5 1 (Bv l) (.i k a) (.i k' b)=some (Bv ((l.take b.toNat).drop a.toNat)):=by
 have:=Bp1 1 (l.map PV.s) k k' a b h1 h2 (by simpa using h3)
 simpa [Bv] using this
theorem Em0 (l:List (List UInt8)) (k:IntKind) (z:Int) (x:List UInt8) (h0:0≤z) (h1:z<(l.length:Int)):Ww 1 0 [.s x] (Bv l) (.i k z)=some (Bv (l.set z.toNat x)):=by
 have h2:z.toNat<l.length:=by omega
 have h3:(l.map PV.s)[z.toNat]? =some (.s l[z.toNat]):=by simp [h2]
 simp only [Ww,Bv,h0,h3,and_self,if_true,Ay]
 have h4:Q6 (.s l[z.toNat]) 0 [.s x]=some (.s x):=rfl
 rw [h4]
 simp [List.map_set]
theorem rn (n:Int) (h0:0≤n) (h1:n≤1073741824):Km 1 (.i .i64 n) (.s [])=some (Bv (List.replicate n.toNat [])):=by
 have h2:n≤(LIM:Int):=by simp only [LIM];omega
 have h3:(PV.s []).cells.length=1:=rfl
 simp only [Km,h0,h2,h3,and_self,if_true]
 simp [Bv]
theorem Bz7 (l:List (List UInt8)):Bm 0 (Bv l)=some (Bv l):=rfl
theorem Bz8 (l:List Rec):Bm 0 (Af l)=some (Af l):=rfl
theorem Bv1 (l:List (List UInt8)):Iy (Bv l)=some (Bv l):=rfl
theorem Jy2 (neg:Bool) (x y:Dat):Kz neg true [.b,(.i .u64),(.i .u64), .s, .s, .s,(.i .i64),(.i .i64),(.i .i64),(.i .i64),(.i .i64),(.i .i64),(.i .u64)] x.pv y.pv=some (.b (if neg then decide (x≠y) else decide (x=y))):=by
 have:Gq [.b,(.i .u64),(.i .u64), .s, .s, .s,(.i .i64),(.i .i64),(.i .i64),(.i .i64),(.i .i64),(.i .i64),(.i .u64)] x.cells y.cells=some (decide (x=y)):=by
  simp only [Dat.cells,Gq,Ew7,if_true,Option.some.injEq]
  rw [Ch]
  cases x;cases y;simp
 simp only [Kz,Dat.pv,this,A4]
 cases neg<;>simp
theorem Jy1 (neg:Bool) (x y:Rec):Kz neg true [.s,(.i .i64),(.i .i64), .b,(.i .u64),(.i .u64), .s, .s, .s,(.i .i64),(.i .i64),(.i .i64),(.i .i64),(.i .i64),(.i .i64),(.i .u64)] x.pv y.pv=some (.b (if neg then decide (x≠y) else decide (x=y))):=by
 have:Gq [.s,(.i .i64),(.i .i64), .b,(.i .u64),(.i .u64), .s, .s, .s,(.i .i64),(.i .i64),(.i .i64),(.i .i64),(.i .i64),(.i .i64),(.i .u64)] x.cells y.cells=some (decide (x=y)):=by
  simp only [Rec.cells,Dat.cells,Gq,Ew7,if_true,Option.some.injEq]
  rw [Ch]
  rcases x with ⟨_,_,_,⟨⟩⟩;rcases y with ⟨_,_,_,⟨⟩⟩;simp [and_assoc]
 simp only [Kz,Rec.pv,this,A4]
 cases neg<;>simp
set_option linter.defProp false in
def EVP:=(And.intro @Em0 (And.intro @rn (And.intro @Hq4 (And.intro @Hk4 (And.intro @Hz6 (And.intro @Ys (And.intro @Yt (And.intro @Bb8 (And.intro @Bb7 (And.intro @Bb6 (And.intro @Bb5 (And.intro @Bb4 (And.intro @Bb3 (And.intro @Bb2 (And.intro @Bb1 (And.intro @Bb0 (And.intro @Bz9 (And.intro @Ad1 (And.intro @Ad0 (And.intro @Ac9 (And.intro @Ac8 (And.intro @Ac7 (And.intro @Ac6 (And.intro @Hk6 (And.intro @Y0 (And.intro @Hz8 (And.intro @Bd8 (And.intro @Bd7 (And.intro @Bd6 (And.intro @Bd5 (And.intro @Bd4 (And.intro @Bd3 (And.intro @Bd2 (And.intro @Bd1 (And.intro @Bd0 (And.intro @Bc9 (And.intro @Af1 (And.intro @Af0 (And.intro @Ad9 (And.intro @Fk7 (And.intro @El0 (And.intro @Af4 (And.intro @Af3 (And.intro @Af2 (And.intro @Fk6 (And.intro @Eh8 (And.intro @Ac5 (And.intro @Ac4 (And.intro @Xk (And.intro @Fk0 (And.intro @E8 (And.intro @Hc7 (And.intro @Fk4 (And.intro @Fk3 (And.intro @Cq3 (And.intro @Hy0 (And.intro @Et1 (And.intro @N1 (And.intro @dr (And.intro @X2 (And.intro @Em9 (And.intro @Lm (And.intro @Bv2 (And.intro @Et0 (And.intro @Lr (And.intro @Hx9 (And.intro @El2 (And.intro @Eq2 (And.intro @Ax2 (And.intro @Ll (And.intro @Bz7 (And.intro @Bz8 (And.intro @Bv1 (And.intro @Jy2 @Jy1))))))))))))))))))))))))))))))))))))))))))))))))))))))))))))))))))))))))))
end Go.X
