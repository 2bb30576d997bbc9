/- The program's data. -/
import Derived.Test.YtfnmphjdknjkmaaGreatDoorNsecCoversG6
open Bool renaming eq_iff_iff→C1
open Option renaming bind_some→Ay,map_some→A4
open Option.some renaming injEq→Ak
set_option maxHeartbeats 1000000
set_option linter.unusedVariables false
set_option linter.unusedSimpArgs false
namespace Go.X
open Go
structure Dat where
 v6:Bool
 hi:Int
 lo:Int
 host:List UInt8
 mail:List UInt8
 text:List UInt8
 a:Int
 b:Int
 c:Int
 d:Int
 e:Int
 f:Int
 bits:Int
 deriving DecidableEq
structure Rec where
 name:List UInt8
 typ:Int
 ttl:Int
 data:Dat
 deriving DecidableEq
structure Zone where
 origin:List UInt8
 recs:List Rec
 deriving DecidableEq
def fy (x:Int):Prop:= -9223372036854775808≤x∧x≤9223372036854775807
def Gn4 (x:Int):Prop:=0≤x∧x≤18446744073709551615
def S7 (x:List UInt8):Prop:=x.length≤9223372036854775807
structure Dat.wf (x:Dat):Prop where
 hi:Gn4 x.hi
 lo:Gn4 x.lo
 host:S7 x.host
 mail:S7 x.mail
 text:S7 x.text
 a:fy x.a
 b:fy x.b
 c:fy x.c
 d:fy x.d
 e:fy x.e
 f:fy x.f
 bits:Gn4 x.bits
structure Rec.wf (r:Rec):Prop where
 name:S7 r.name
 typ:fy r.typ
 ttl:fy r.ttl
 data:r.data.wf
def Ds8 (l:List Rec):Prop:=l.length≤9223372036854775807∧∀r∈l,r.wf
structure Zone.wf (z:Zone):Prop where
 origin:S7 z.origin
 recs:Ds8 z.recs
def Dat.cells (x:Dat):List PV:=[.b x.v6, .i .u64 x.hi, .i .u64 x.lo, .s x.host, .s x.mail, .s x.text, .i .i64 x.a, .i .i64 x.b, .i .i64 x.c, .i .i64 x.d, .i .i64 x.e, .i .i64 x.f, .i .u64 x.bits]
def Dat.pv (x:Dat):PV:= .a x.cells
def Rec.cells (x:Rec):List PV:= .s x.name:: .i .i64 x.typ:: .i .i64 x.ttl::x.data.cells
def Rec.pv (x:Rec):PV:= .a x.cells
def Al (l:List Rec):PV:= .l 16 (l.map Rec.pv)
def Zone.pv (x:Zone):PV:= .a [.s x.origin,Al x.recs]
def Bd (l:List (List UInt8)):PV:= .l 1 (l.map .s)
def Jn (x:Dat):PV:= .a [.b x.v6, .i .u64 x.hi, .i .u64 x.lo]
theorem Fs6 (r:Rec):Jf 0 16 r.pv=some r.pv:=rfl
theorem Gx4 (r:Rec):Sx 16 r.pv=some r.pv:=rfl
theorem Y9 (r:Rec):Jf 3 13 r.pv=some r.data.pv:=rfl
theorem Zj (r:Rec):Jf 3 3 r.pv=some (Jn r.data):=rfl
theorem Bz6 (r:Rec):Bn 0 r.pv=some (.s r.name):=rfl
theorem Bz5 (r:Rec):Bn 1 r.pv=some (.i .i64 r.typ):=rfl
theorem Bz4 (r:Rec):Bn 2 r.pv=some (.i .i64 r.ttl):=rfl
theorem Bz3 (r:Rec):Bn 3 r.pv=some (.b r.data.v6):=rfl
theorem Bz2 (r:Rec):Bn 4 r.pv=some (.i .u64 r.data.hi):=rfl
theorem Bz1 (r:Rec):Bn 5 r.pv=some (.i .u64 r.data.lo):=rfl
theorem Bz0 (r:Rec):Bn 6 r.pv=some (.s r.data.host):=rfl
theorem By9 (r:Rec):Bn 7 r.pv=some (.s r.data.mail):=rfl
theorem By8 (r:Rec):Bn 8 r.pv=some (.s r.data.text):=rfl
theorem By7 (r:Rec):Bn 9 r.pv=some (.i .i64 r.data.a):=rfl
theorem Ab9 (r:Rec):Bn 10 r.pv=some (.i .i64 r.data.b):=rfl
theorem Ab8 (r:Rec):Bn 11 r.pv=some (.i .i64 r.data.c):=rfl
theorem Ab7 (r:Rec):Bn 12 r.pv=some (.i .i64 r.data.d):=rfl
theorem Ab6 (r:Rec):Bn 13 r.pv=some (.i .i64 r.data.e):=rfl
theorem Ab5 (r:Rec):Bn 14 r.pv=some (.i .i64 r.data.f):=rfl
theorem Ab4 (r:Rec):Bn 15 r.pv=some (.i .u64 r.data.bits):=rfl
theorem Fs8 (r:Dat):Jf 0 13 r.pv=some r.pv:=rfl
theorem Zk (r:Dat):Jf 0 3 r.pv=some (Jn r):=rfl
theorem Gx6 (r:Dat):Sx 13 r.pv=some r.pv:=rfl
theorem Bc6 (r:Dat):Bn 0 r.pv=some (.b r.v6):=rfl
theorem Bc5 (r:Dat):Bn 1 r.pv=some (.i .u64 r.hi):=rfl
theorem Bc4 (r:Dat):Bn 2 r.pv=some (.i .u64 r.lo):=rfl
theorem Bc3 (r:Dat):Bn 3 r.pv=some (.s r.host):=rfl
theorem Bc2 (r:Dat):Bn 4 r.pv=some (.s r.mail):=rfl
theorem Bc1 (r:Dat):Bn 5 r.pv=some (.s r.text):=rfl
theorem Bc0 (r:Dat):Bn 6 r.pv=some (.i .i64 r.a):=rfl
theorem Bb9 (r:Dat):Bn 7 r.pv=some (.i .i64 r.b):=rfl
theorem Bb8 (r:Dat):Bn 8 r.pv=some (.i .i64 r.c):=rfl
theorem Bb7 (r:Dat):Bn 9 r.pv=some (.i .i64 r.d):=rfl
theorem Ac9 (r:Dat):Bn 10 r.pv=some (.i .i64 r.e):=rfl
theorem Ac8 (r:Dat):Bn 11 r.pv=some (.i .i64 r.f):=rfl
theorem Ac7 (r:Dat):Bn 12 r.pv=some (.i .u64 r.bits):=rfl
theorem Ex9 (r:Dat):Sx 3 (Jn r)=some (Jn r):=rfl
theorem Dp9 (r:Dat):Jf 0 3 (Jn r)=some (Jn r):=rfl
theorem Ad2 (r:Dat):Bn 0 (Jn r)=some (.b r.v6):=rfl
theorem Ad1 (r:Dat):Bn 1 (Jn r)=some (.i .u64 r.hi):=rfl
theorem Ad0 (r:Dat):Bn 2 (Jn r)=some (.i .u64 r.lo):=rfl
theorem Ex8 (r:Zone):Sx 2 r.pv=some r.pv:=rfl
theorem Dp7 (r:Zone):Jf 0 2 r.pv=some r.pv:=rfl
theorem Ab3 (r:Zone):Bn 0 r.pv=some (.s r.origin):=rfl
theorem Ab2 (r:Zone):Bn 1 r.pv=some (Al r.recs):=rfl
theorem Xq (v:Bool) (h l:Int) (s1 s2 s3:List UInt8) (a b c d e f g:Int):PV.a [.b v, .i .u64 h, .i .u64 l, .s s1, .s s2, .s s3, .i .i64 a, .i .i64 b, .i .i64 c, .i .i64 d, .i .i64 e, .i .i64 f, .i .u64 g]=Dat.pv ⟨v,h,l,s1,s2,s3,a,b,c,d,e,f,g⟩:=rfl
theorem Ex2 (n:List UInt8) (t u:Int) (v:Bool) (h l:Int) (s1 s2 s3:List UInt8) (a b c d e f g:Int):PV.a [.s n, .i .i64 t, .i .i64 u, .b v, .i .u64 h, .i .u64 l, .s s1, .s s2, .s s3, .i .i64 a, .i .i64 b, .i .i64 c, .i .i64 d, .i .i64 e, .i .i64 f, .i .u64 g]=Rec.pv ⟨n,t,u,⟨v,h,l,s1,s2,s3,a,b,c,d,e,f,g⟩⟩:=rfl
theorem E3 (x:Dat):(⟨x.v6,x.hi,x.lo,x.host,x.mail,x.text,x.a,x.b,x.c,x.d,x.e,x.f,x.bits⟩:Dat)=x:=rfl
theorem Gy9 (x:Rec):(⟨x.name,x.typ,x.ttl,x.data⟩:Rec)=x:=rfl
theorem Ex6 (x:Dat):PV.flat x.pv=true:=rfl
theorem Ex5 (x:Rec):PV.flat x.pv=true:=rfl
theorem Ck0 (x:Dat):PV.flat (Jn x)=true:=rfl
theorem Gv7 (x:Rec):I2 16 [x.pv]=some (Al [x]):=rfl
theorem Ev3 (l:List Rec):Ft (Al l)=some (.i .i64 (l.length:Int)):=by simp [Al,Ft]
theorem Nt (l:List Rec) (k:IntKind) (z:Int) (h:0≤z):Hf 16 (Al l) (.i k z)=(l[z.toNat]?).map Rec.pv:=by simp [Al,W9 _ _ _ _ h]
theorem Dz1 (l:List Rec) (x:Rec) (h:l.length+1≤1073741824):Ik 16 (Al l) (Al [x])=some (Al (l++[x])):=by have:=S5 16 (l.map Rec.pv) [x.pv] (by simpa using h);simpa [Al] using this
theorem X6 (l m:List Rec) (h:l.length+m.length≤1073741824):Ik 16 (Al l) (Al m)=some (Al (l++m)):=by have:=S5 16 (l.map Rec.pv) (m.map Rec.pv) (by simpa using h);simpa [Al] using this
theorem Ds9:PV.l 16 []=Al []:=rfl
theorem Ls (l:List Rec) (k k':IntKind) (a b:Int) (h1:0≤a) (h2:a≤b) (h3:b≤(l.length:Int)):H9 16 (Al l) (.i k a) (.i k' b)=some (Al ((l.take b.toNat).drop a.toNat)):=by have:=Bm7 16 (l.map Rec.pv) k k' a b h1 h2 (by simpa using h3);simpa [Al] using this
theorem Ft9 (l:List Rec) (k:IntKind) (z:Int) (n:List UInt8) (t u:Int) (v:Bool) (h w:Int) (s1 s2 s3:List UInt8) (a b c d e f g:Int) (h0:0≤z) (h1:z<(l.length:Int)):
  Q7 16 0 [.s n, .i .i64 t, .i .i64 u, .b v, .i .u64 h, .i .u64 w, .s s1, .s s2, .s s3, .i .i64 a, .i .i64 b, .i .i64 c, .i .i64 d, .i .i64 e, .i .i64 f, .i .u64 g] (Al l) (.i k z)=some (Al (l.set z.toNat ⟨n,t,u,⟨v,h,w,s1,s2,s3,a,b,c,d,e,f,g⟩⟩)):=by
 have h2:z.toNat<l.length:=by omega
 have h3:(l.map Rec.pv)[z.toNat]? =some (l[z.toNat].pv):=by simp [h2]
 simp only [Q7,Al,h0,h3,and_self,if_true,Ay];have h4:Oh (l[z.toNat].pv) 0 [.s n, .i .i64 t, .i .i64 u, .b v, .i .u64 h, .i .u64 w, .s s1, .s s2, .s s3, .i .i64 a, .i .i64 b, .i .i64 c, .i .i64 d, .i .i64 e, .i .i64 f, .i .u64 g]=some (Rec.pv ⟨n,t,u,⟨v,h,w,s1,s2,s3,a,b,c,d,e,f,g⟩⟩):=rfl;rw [h4];simp [List.map_set]
theorem Bq0 (l:List Rec):Ih (Al l)=some (Al l):=rfl
theorem Ev2 (l:List (List UInt8)):Ft (Bd l)=some (.i .i64 (l.length:Int)):=by simp [Bd,Ft]
theorem L1 (l:List (List UInt8)) (k:IntKind) (z:Int) (h:0≤z):Hf 1 (Bd l) (.i k z)=(l[z.toNat]?).map PV.s:=by simp [Bd,W9 _ _ _ _ h]
theorem Gv6 (x:List UInt8):I2 1 [.s x]=some (Bd [x]):=rfl
theorem Dr2:PV.l 1 []=Bd []:=rfl
theorem Dz0 (l:List (List UInt8)) (x:List UInt8) (h:l.length+1≤1073741824):Ik 1 (Bd l) (Bd [x])=some (Bd (l++[x])):=by have:=S5 1 (l.map PV.s) [.s x] (by simpa using h);simpa [Bd] using this
theorem Av7 (l m:List (List UInt8)) (h:l.length+m.length≤1073741824):Ik 1 (Bd l) (Bd m)=some (Bd (l++m)):=by have:=S5 1 (l.map PV.s) (m.map PV.s) (by simpa using h);simpa [Bd] using this
theorem Lr (l:List (List UInt8)) (k k':IntKind) (a b:Int) (h1:0≤a) (h2:a≤b) (h3:b≤(l.length:Int)):H9 1 (Bd l) (.i k a) (.i k' b)=some (Bd ((l.take b.toNat).drop a.toNat)):=by have:=Bm7 1 (l.map PV.s) k k' a b h1 h2 (by simpa using h3);simpa [Bd] using this
theorem Ds0 (l:List (List UInt8)) (k:IntKind) (z:Int) (x:List UInt8) (h0:0≤z) (h1:z<(l.length:Int)):Q7 1 0 [.s x] (Bd l) (.i k z)=some (Bd (l.set z.toNat x)):=by
 have h2:z.toNat<l.length:=by omega
 have h3:(l.map PV.s)[z.toNat]? =some (.s l[z.toNat]):=by simp [h2]
 simp only [Q7,Bd,h0,h3,and_self,if_true,Ay];have h4:Oh (.s l[z.toNat]) 0 [.s x]=some (.s x):=rfl;rw [h4];simp [List.map_set]
theorem td (n:Int) (h0:0≤n) (h1:n≤1073741824):K1 1 (.i .i64 n) (.s [])=some (Bd (List.replicate n.toNat [])):=by
 have h2:n≤(LIM:Int):=by simp only [LIM];omega
 have h3:(PV.s []).cells.length=1:=rfl;simp only [K1,h0,h2,h3,and_self,if_true];simp [Bd]
theorem By5 (l:List (List UInt8)):Bn 0 (Bd l)=some (Bd l):=rfl
theorem By6 (l:List Rec):Bn 0 (Al l)=some (Al l):=rfl
theorem Bk9 (l:List (List UInt8)):Ih (Bd l)=some (Bd l):=rfl
theorem Iq8 (neg:Bool) (x y:Dat):Kl neg true [.b,(.i .u64),(.i .u64), .s, .s, .s,(.i .i64),(.i .i64),(.i .i64),(.i .i64),(.i .i64),(.i .i64),(.i .u64)] x.pv y.pv=some (.b (if neg then decide (x≠y) else decide (x=y))):=by
 have:Gj [.b,(.i .u64),(.i .u64), .s, .s, .s,(.i .i64),(.i .i64),(.i .i64),(.i .i64),(.i .i64),(.i .i64),(.i .u64)] x.cells y.cells=some (decide (x=y)):=by simp only [Dat.cells,Gj,Dc7,if_true,Ak];rw [C1];cases x;cases y;simp
 simp only [Kl,Dat.pv,this,A4];cases neg<;>simp
theorem Iq7 (neg:Bool) (x y:Rec):Kl neg true [.s,(.i .i64),(.i .i64), .b,(.i .u64),(.i .u64), .s, .s, .s,(.i .i64),(.i .i64),(.i .i64),(.i .i64),(.i .i64),(.i .i64),(.i .u64)] x.pv y.pv=some (.b (if neg then decide (x≠y) else decide (x=y))):=by
 have:Gj [.s,(.i .i64),(.i .i64), .b,(.i .u64),(.i .u64), .s, .s, .s,(.i .i64),(.i .i64),(.i .i64),(.i .i64),(.i .i64),(.i .i64),(.i .u64)] x.cells y.cells=some (decide (x=y)):=by simp only [Rec.cells,Dat.cells,Gj,Dc7,if_true,Ak];rw [C1];rcases x with ⟨_,_,_,⟨⟩⟩;rcases y with ⟨_,_,_,⟨⟩⟩;simp [and_assoc]
 simp only [Kl,Rec.pv,this,A4];cases neg<;>simp
set_option linter.defProp false in
def EVP:=(And.intro @Ds0 (And.intro @td (And.intro @Ft9 (And.intro @Fs6 (And.intro @Gx4 (And.intro @Y9 (And.intro @Zj (And.intro @Bz6 (And.intro @Bz5 (And.intro @Bz4 (And.intro @Bz3 (And.intro @Bz2 (And.intro @Bz1 (And.intro @Bz0 (And.intro @By9 (And.intro @By8 (And.intro @By7 (And.intro @Ab9 (And.intro @Ab8 (And.intro @Ab7 (And.intro @Ab6 (And.intro @Ab5 (And.intro @Ab4 (And.intro @Fs8 (And.intro @Zk (And.intro @Gx6 (And.intro @Bc6 (And.intro @Bc5 (And.intro @Bc4 (And.intro @Bc3 (And.intro @Bc2 (And.intro @Bc1 (And.intro @Bc0 (And.intro @Bb9 (And.intro @Bb8 (And.intro @Bb7 (And.intro @Ac9 (And.intro @Ac8 (And.intro @Ac7 (And.intro @Ex9 (And.intro @Dp9 (And.intro @Ad2 (And.intro @Ad1 (And.intro @Ad0 (And.intro @Ex8 (And.intro @Dp7 (And.intro @Ab3 (And.intro @Ab2 (And.intro @Xq (And.intro @Ex2 (And.intro @E3 (And.intro @Gy9 (And.intro @Ex6 (And.intro @Ex5 (And.intro @Ck0 (And.intro @Gv7 (And.intro @Ev3 (And.intro @Nt (And.intro @Dz1 (And.intro @X6 (And.intro @Ds9 (And.intro @Ls (And.intro @Bq0 (And.intro @Ev2 (And.intro @L1 (And.intro @Gv6 (And.intro @Dr2 (And.intro @Dz0 (And.intro @Av7 (And.intro @Lr (And.intro @By5 (And.intro @By6 (And.intro @Bk9 (And.intro @Iq8 @Iq7))))))))))))))))))))))))))))))))))))))))))))))))))))))))))))))))))))))))))
end Go.X
