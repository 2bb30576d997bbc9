/- The program's data. -/
import Derived.Test.YteiaijjlmnacpaaGreatDoorZoneExistsG6
open Bool renaming eq_iff_iff→Cr
open Option renaming bind_some→Ax,map_some→A3
set_option maxHeartbeats 1000000
set_option linter.unusedVariables false
set_option linter.unusedSimpArgs false
namespace Go.X
open Go
structure Dat where
 v6:Bool
 hi:Int
 lo:Int
 host:List UInt8
 mail:List UInt8
 text:List UInt8
 a:Int
 b:Int
 c:Int
 d:Int
 e:Int
 f:Int
 bits:Int
 deriving DecidableEq
structure Rec where
 name:List UInt8
 typ:Int
 ttl:Int
 data:Dat
 deriving DecidableEq
structure Zone where
 origin:List UInt8
 recs:List Rec
 deriving DecidableEq
def g8 (x:Int):Prop:= -9223372036854775808≤x∧x≤9223372036854775807
def Gq7 (x:Int):Prop:=0≤x∧x≤18446744073709551615
def Mp (x:List UInt8):Prop:=x.length≤9223372036854775807
structure Dat.wf (x:Dat):Prop where
 hi:Gq7 x.hi
 lo:Gq7 x.lo
 host:Mp x.host
 mail:Mp x.mail
 text:Mp x.text
 a:g8 x.a
 b:g8 x.b
 c:g8 x.c
 d:g8 x.d
 e:g8 x.e
 f:g8 x.f
 bits:Gq7 x.bits
structure Rec.wf (r:Rec):Prop where
 name:Mp r.name
 typ:g8 r.typ
 ttl:g8 r.ttl
 data:r.data.wf
def Ac3 (l:List Rec):Prop:=l.length≤9223372036854775807∧∀r∈l,r.wf
structure Zone.wf (z:Zone):Prop where
 origin:Mp z.origin
 recs:Ac3 z.recs
def Dat.cells (x:Dat):List PV:=[.b x.v6, .i .u64 x.hi, .i .u64 x.lo, .s x.host, .s x.mail, .s x.text, .i .i64 x.a, .i .i64 x.b, .i .i64 x.c, .i .i64 x.d, .i .i64 x.e, .i .i64 x.f, .i .u64 x.bits]
def Dat.pv (x:Dat):PV:= .a x.cells
def Rec.cells (x:Rec):List PV:= .s x.name:: .i .i64 x.typ:: .i .i64 x.ttl::x.data.cells
def Rec.pv (x:Rec):PV:= .a x.cells
def Ag (l:List Rec):PV:= .l 16 (l.map Rec.pv)
def Zone.pv (x:Zone):PV:= .a [.s x.origin,Ag x.recs]
def Bc (l:List (List UInt8)):PV:= .l 1 (l.map .s)
def I9 (x:Dat):PV:= .a [.b x.v6, .i .u64 x.hi, .i .u64 x.lo]
theorem Fj3 (r:Rec):I3 0 16 r.pv=some r.pv:=rfl
theorem Fy5 (r:Rec):Rl 16 r.pv=some r.pv:=rfl
theorem Yj (r:Rec):I3 3 13 r.pv=some r.data.pv:=rfl
theorem Yk (r:Rec):I3 3 3 r.pv=some (I9 r.data):=rfl
theorem Ah8 (r:Rec):Bm 0 r.pv=some (.s r.name):=rfl
theorem Ah7 (r:Rec):Bm 1 r.pv=some (.i .i64 r.typ):=rfl
theorem Ah6 (r:Rec):Bm 2 r.pv=some (.i .i64 r.ttl):=rfl
theorem Ah5 (r:Rec):Bm 3 r.pv=some (.b r.data.v6):=rfl
theorem Ah4 (r:Rec):Bm 4 r.pv=some (.i .u64 r.data.hi):=rfl
theorem Ah3 (r:Rec):Bm 5 r.pv=some (.i .u64 r.data.lo):=rfl
theorem Ah2 (r:Rec):Bm 6 r.pv=some (.s r.data.host):=rfl
theorem Ah1 (r:Rec):Bm 7 r.pv=some (.s r.data.mail):=rfl
theorem Ah0 (r:Rec):Bm 8 r.pv=some (.s r.data.text):=rfl
theorem Ag9 (r:Rec):Bm 9 r.pv=some (.i .i64 r.data.a):=rfl
theorem xr (r:Rec):Bm 10 r.pv=some (.i .i64 r.data.b):=rfl
theorem xp (r:Rec):Bm 11 r.pv=some (.i .i64 r.data.c):=rfl
theorem xn (r:Rec):Bm 12 r.pv=some (.i .i64 r.data.d):=rfl
theorem xm (r:Rec):Bm 13 r.pv=some (.i .i64 r.data.e):=rfl
theorem xl (r:Rec):Bm 14 r.pv=some (.i .i64 r.data.f):=rfl
theorem xh (r:Rec):Bm 15 r.pv=some (.i .u64 r.data.bits):=rfl
theorem Fj5 (r:Dat):I3 0 13 r.pv=some r.pv:=rfl
theorem Yq (r:Dat):I3 0 3 r.pv=some (I9 r):=rfl
theorem Fy7 (r:Dat):Rl 13 r.pv=some r.pv:=rfl
theorem Am8 (r:Dat):Bm 0 r.pv=some (.b r.v6):=rfl
theorem Am7 (r:Dat):Bm 1 r.pv=some (.i .u64 r.hi):=rfl
theorem Am6 (r:Dat):Bm 2 r.pv=some (.i .u64 r.lo):=rfl
theorem Am5 (r:Dat):Bm 3 r.pv=some (.s r.host):=rfl
theorem Am4 (r:Dat):Bm 4 r.pv=some (.s r.mail):=rfl
theorem Am3 (r:Dat):Bm 5 r.pv=some (.s r.text):=rfl
theorem Am2 (r:Dat):Bm 6 r.pv=some (.i .i64 r.a):=rfl
theorem Am1 (r:Dat):Bm 7 r.pv=some (.i .i64 r.b):=rfl
theorem Am0 (r:Dat):Bm 8 r.pv=some (.i .i64 r.c):=rfl
theorem Al9 (r:Dat):Bm 9 r.pv=some (.i .i64 r.d):=rfl
theorem yd (r:Dat):Bm 10 r.pv=some (.i .i64 r.e):=rfl
theorem yc (r:Dat):Bm 11 r.pv=some (.i .i64 r.f):=rfl
theorem yb (r:Dat):Bm 12 r.pv=some (.i .u64 r.bits):=rfl
theorem Db1 (r:Dat):Rl 3 (I9 r)=some (I9 r):=rfl
theorem Ct6 (r:Dat):I3 0 3 (I9 r)=some (I9 r):=rfl
theorem yh (r:Dat):Bm 0 (I9 r)=some (.b r.v6):=rfl
theorem yg (r:Dat):Bm 1 (I9 r)=some (.i .u64 r.hi):=rfl
theorem yf (r:Dat):Bm 2 (I9 r)=some (.i .u64 r.lo):=rfl
theorem Db0 (r:Zone):Rl 2 r.pv=some r.pv:=rfl
theorem Ct4 (r:Zone):I3 0 2 r.pv=some r.pv:=rfl
theorem xg (r:Zone):Bm 0 r.pv=some (.s r.origin):=rfl
theorem xf (r:Zone):Bm 1 r.pv=some (Ag r.recs):=rfl
theorem Wq (v:Bool) (h l:Int) (s1 s2 s3:List UInt8) (a b c d e f g:Int):PV.a [.b v, .i .u64 h, .i .u64 l, .s s1, .s s2, .s s3, .i .i64 a, .i .i64 b, .i .i64 c, .i .i64 d, .i .i64 e, .i .i64 f, .i .u64 g]=Dat.pv ⟨v,h,l,s1,s2,s3,a,b,c,d,e,f,g⟩:=rfl
theorem Dz4 (n:List UInt8) (t u:Int) (v:Bool) (h l:Int) (s1 s2 s3:List UInt8) (a b c d e f g:Int):PV.a [.s n, .i .i64 t, .i .i64 u, .b v, .i .u64 h, .i .u64 l, .s s1, .s s2, .s s3, .i .i64 a, .i .i64 b, .i .i64 c, .i .i64 d, .i .i64 e, .i .i64 f, .i .u64 g]=Rec.pv ⟨n,t,u,⟨v,h,l,s1,s2,s3,a,b,c,d,e,f,g⟩⟩:=rfl
theorem E5 (x:Dat):(⟨x.v6,x.hi,x.lo,x.host,x.mail,x.text,x.a,x.b,x.c,x.d,x.e,x.f,x.bits⟩:Dat)=x:=rfl
theorem Fb7 (x:Rec):(⟨x.name,x.typ,x.ttl,x.data⟩:Rec)=x:=rfl
theorem Dz8 (x:Dat):PV.flat x.pv=true:=rfl
theorem Dz7 (x:Rec):PV.flat x.pv=true:=rfl
theorem Bx5 (x:Dat):PV.flat (I9 x)=true:=rfl
theorem Fw9 (x:Rec):I5 16 [x.pv]=some (Ag [x]):=rfl
theorem Dx6 (l:List Rec):Gk (Ag l)=some (.i .i64 (l.length:Int)):=by simp [Ag,Gk]
theorem Nv (l:List Rec) (k:IntKind) (z:Int) (h:0≤z):Hb 16 (Ag l) (.i k z)=(l[z.toNat]?).map Rec.pv:=by simp [Ag,af _ _ _ _ h]
theorem cm (l:List Rec) (x:Rec) (h:l.length+1≤1073741824):Hm 16 (Ag l) (Ag [x])=some (Ag (l++[x])):=by
 have:=Ss 16 (l.map Rec.pv) [x.pv] (by simpa using h)
 simpa [Ag] using this
theorem Xk (l m:List Rec) (h:l.length+m.length≤1073741824):Hm 16 (Ag l) (Ag m)=some (Ag (l++m)):=by
 have:=Ss 16 (l.map Rec.pv) (m.map Rec.pv) (by simpa using h)
 simpa [Ag] using this
theorem Dk5:PV.l 16 []=Ag []:=rfl
theorem Ly (l:List Rec) (k k':IntKind) (a b:Int) (h1:0≤a) (h2:a≤b) (h3:b≤(l.length:Int)):Hh 16 (Ag l) (.i k a) (.i k' b)=some (Ag ((l.take b.toNat).drop a.toNat)):=by
 have:=Bj1 16 (l.map Rec.pv) k k' a b h1 h2 (by simpa using h3)
 simpa [Ag] using this
theorem Fk3 (l:List Rec) (k:IntKind) (z:Int) (n:List UInt8) (t u:Int) (v:Bool) (h w:Int) (s1 s2 s3:List UInt8) (a b c d e f g:Int) (h0:0≤z) (h1:z<(l.length:Int)):
  Vk 16 0 [.s n, .i .i64 t, .i .i64 u, .b v, .i .u64 h, .i .u64 w, .s s1, .s s2, .s s3, .i .i64 a, .i .i64 b, .i .i64 c, .i .i64 d, .i .i64 e, .i .i64 f, .i .u64 g] (Ag l) (.i k z)=some (Ag (l.set z.toNat ⟨n,t,u,⟨v,h,w,s1,s2,s3,a,b,c,d,e,f,g⟩⟩)):=by
 have h2:z.toNat<l.length:=by omega
 have h3:(l.map Rec.pv)[z.toNat]? =some (l[z.toNat].pv):=by simp [h2]
 simp only [Vk,Ag,h0,h3,and_self,if_true,Ax]
 have h4:Qf (l[z.toNat].pv) 0 [.s n, .i .i64 t, .i .i64 u, .b v, .i .u64 h, .i .u64 w, .s s1, .s s2, .s s3, .i .i64 a, .i .i64 b, .i .i64 c, .i .i64 d, .i .i64 e, .i .i64 f, .i .u64 g]=some (Rec.pv ⟨n,t,u,⟨v,h,w,s1,s2,s3,a,b,c,d,e,f,g⟩⟩):=rfl
 rw [h4]
 simp [List.map_set]
theorem Ab3 (l:List Rec):H4 (Ag l)=some (Ag l):=rfl
theorem Dx5 (l:List (List UInt8)):Gk (Bc l)=some (.i .i64 (l.length:Int)):=by simp [Bc,Gk]
theorem Lc (l:List (List UInt8)) (k:IntKind) (z:Int) (h:0≤z):Hb 1 (Bc l) (.i k z)=(l[z.toNat]?).map PV.s:=by simp [Bc,af _ _ _ _ h]
theorem Fw8 (x:List UInt8):I5 1 [.s x]=some (Bc [x]):=rfl
theorem Ct8:PV.l 1 []=Bc []:=rfl
theorem Cd7 (l:List (List UInt8)) (x:List UInt8) (h:l.length+1≤1073741824):Hm 1 (Bc l) (Bc [x])=some (Bc (l++[x])):=by
 have:=Ss 1 (l.map PV.s) [.s x] (by simpa using h)
 simpa [Bc] using this
theorem vk (l m:List (List UInt8)) (h:l.length+m.length≤1073741824):Hm 1 (Bc l) (Bc m)=some (Bc (l++m)):=by
 have:=Ss 1 (l.map PV.s) (m.map PV.s) (by simpa using h)
 simpa [Bc] using this
theorem Lx (l:List (List UInt8)) (k k':IntKind) (a b:Int) (h1:0≤a) (h2:a≤b) (h3:b≤(l.length:Int)):Hh 1 (Bc l) (.i k a) (.i k' b)=some (Bc ((l.take b.toNat).drop a.toNat)):=by
 have:=Bj1 1 (l.map PV.s) k k' a b h1 h2 (by simpa using h3)
 simpa [Bc] using this
theorem Dj7 (l:List (List UInt8)) (k:IntKind) (z:Int) (x:List UInt8) (h0:0≤z) (h1:z<(l.length:Int)):Vk 1 0 [.s x] (Bc l) (.i k z)=some (Bc (l.set z.toNat x)):=by
 have h2:z.toNat<l.length:=by omega
 have h3:(l.map PV.s)[z.toNat]? =some (.s l[z.toNat]):=by simp [h2]
 simp only [Vk,Bc,h0,h3,and_self,if_true,Ax]
 have h4:Qf (.s l[z.toNat]) 0 [.s x]=some (.s x):=rfl
 rw [h4]
 simp [List.map_set]
theorem o0 (n:Int) (h0:0≤n) (h1:n≤1073741824):Kw 1 (.i .i64 n) (.s [])=some (Bc (List.replicate n.toNat [])):=by
 have h2:n≤(LIM:Int):=by simp only [LIM];omega
 have h3:(PV.s []).cells.length=1:=rfl
 simp only [Kw,h0,h2,h3,and_self,if_true]
 simp [Bc]
theorem Ag7 (l:List (List UInt8)):Bm 0 (Bc l)=some (Bc l):=rfl
theorem Ag8 (l:List Rec):Bm 0 (Ag l)=some (Ag l):=rfl
theorem Ab2 (l:List (List UInt8)):H4 (Bc l)=some (Bc l):=rfl
theorem Hk7 (neg:Bool) (x y:Dat):J6 neg true [.b,(.i .u64),(.i .u64), .s, .s, .s,(.i .i64),(.i .i64),(.i .i64),(.i .i64),(.i .i64),(.i .i64),(.i .u64)] x.pv y.pv=some (.b (if neg then decide (x≠y) else decide (x=y))):=by
 have:F3 [.b,(.i .u64),(.i .u64), .s, .s, .s,(.i .i64),(.i .i64),(.i .i64),(.i .i64),(.i .i64),(.i .i64),(.i .u64)] x.cells y.cells=some (decide (x=y)):=by
  simp only [Dat.cells,F3,Cg9,if_true,Option.some.injEq]
  rw [Cr]
  cases x;cases y;simp
 simp only [J6,Dat.pv,this,A3]
 cases neg<;>simp
theorem Hk6 (neg:Bool) (x y:Rec):J6 neg true [.s,(.i .i64),(.i .i64), .b,(.i .u64),(.i .u64), .s, .s, .s,(.i .i64),(.i .i64),(.i .i64),(.i .i64),(.i .i64),(.i .i64),(.i .u64)] x.pv y.pv=some (.b (if neg then decide (x≠y) else decide (x=y))):=by
 have:F3 [.s,(.i .i64),(.i .i64), .b,(.i .u64),(.i .u64), .s, .s, .s,(.i .i64),(.i .i64),(.i .i64),(.i .i64),(.i .i64),(.i .i64),(.i .u64)] x.cells y.cells=some (decide (x=y)):=by
  simp only [Rec.cells,Dat.cells,F3,Cg9,if_true,Option.some.injEq]
  rw [Cr]
  rcases x with ⟨_,_,_,⟨⟩⟩;rcases y with ⟨_,_,_,⟨⟩⟩;simp [and_assoc]
 simp only [J6,Rec.pv,this,A3]
 cases neg<;>simp
set_option linter.defProp false in
def EVP:=(And.intro @Dj7 (And.intro @o0 (And.intro @Fk3 (And.intro @Fj3 (And.intro @Fy5 (And.intro @Yj (And.intro @Yk (And.intro @Ah8 (And.intro @Ah7 (And.intro @Ah6 (And.intro @Ah5 (And.intro @Ah4 (And.intro @Ah3 (And.intro @Ah2 (And.intro @Ah1 (And.intro @Ah0 (And.intro @Ag9 (And.intro @xr (And.intro @xp (And.intro @xn (And.intro @xm (And.intro @xl (And.intro @xh (And.intro @Fj5 (And.intro @Yq (And.intro @Fy7 (And.intro @Am8 (And.intro @Am7 (And.intro @Am6 (And.intro @Am5 (And.intro @Am4 (And.intro @Am3 (And.intro @Am2 (And.intro @Am1 (And.intro @Am0 (And.intro @Al9 (And.intro @yd (And.intro @yc (And.intro @yb (And.intro @Db1 (And.intro @Ct6 (And.intro @yh (And.intro @yg (And.intro @yf (And.intro @Db0 (And.intro @Ct4 (And.intro @xg (And.intro @xf (And.intro @Wq (And.intro @Dz4 (And.intro @E5 (And.intro @Fb7 (And.intro @Dz8 (And.intro @Dz7 (And.intro @Bx5 (And.intro @Fw9 (And.intro @Dx6 (And.intro @Nv (And.intro @cm (And.intro @Xk (And.intro @Dk5 (And.intro @Ly (And.intro @Ab3 (And.intro @Dx5 (And.intro @Lc (And.intro @Fw8 (And.intro @Ct8 (And.intro @Cd7 (And.intro @vk (And.intro @Lx (And.intro @Ag7 (And.intro @Ag8 (And.intro @Ab2 (And.intro @Hk7 @Hk6))))))))))))))))))))))))))))))))))))))))))))))))))))))))))))))))))))))))))
end Go.X
