/- The program's data. -/
import Derived.Test.YtfnmphjdknjkmaaGreatDoorNsecOrderG6
open Bool renaming eq_iff_iff→Cp
open Option renaming bind_some→Ay,map_some→A5
open Option.some renaming injEq→Ak
set_option maxHeartbeats 1000000
set_option linter.unusedVariables false
set_option linter.unusedSimpArgs false
namespace Go.X
open Go
structure Dat where
 v6:Bool
 hi:Int
 lo:Int
 host:List UInt8
 mail:List UInt8
 text:List UInt8
 a:Int
 b:Int
 c:Int
 d:Int
 e:Int
 f:Int
 bits:Int
 deriving DecidableEq
structure Rec where
 name:List UInt8
 typ:Int
 ttl:Int
 data:Dat
 deriving DecidableEq
structure Zone where
 origin:List UInt8
 recs:List Rec
 deriving DecidableEq
def P8 (x:Int):Prop:= -9223372036854775808≤x∧x≤9223372036854775807
def Db9 (x:Int):Prop:=0≤x∧x≤18446744073709551615
def Tj (x:List UInt8):Prop:=x.length≤9223372036854775807
structure Dat.wf (x:Dat):Prop where
 hi:Db9 x.hi
 lo:Db9 x.lo
 host:Tj x.host
 mail:Tj x.mail
 text:Tj x.text
 a:P8 x.a
 b:P8 x.b
 c:P8 x.c
 d:P8 x.d
 e:P8 x.e
 f:P8 x.f
 bits:Db9 x.bits
structure Rec.wf (r:Rec):Prop where
 name:Tj r.name
 typ:P8 r.typ
 ttl:P8 r.ttl
 data:r.data.wf
def Bw1 (l:List Rec):Prop:=l.length≤9223372036854775807∧∀r∈l,r.wf
structure Zone.wf (z:Zone):Prop where
 origin:Tj z.origin
 recs:Bw1 z.recs
def Dat.cells (x:Dat):List PV:=[.b x.v6, .i .u64 x.hi, .i .u64 x.lo, .s x.host, .s x.mail, .s x.text, .i .i64 x.a, .i .i64 x.b, .i .i64 x.c, .i .i64 x.d, .i .i64 x.e, .i .i64 x.f, .i .u64 x.bits]
def Dat.pv (x:Dat):PV:= .a x.cells
def Rec.cells (x:Rec):List PV:= .s x.name:: .i .i64 x.typ:: .i .i64 x.ttl::x.data.cells
def Rec.pv (x:Rec):PV:= .a x.cells
def Al (l:List Rec):PV:= .l 16 (l.map Rec.pv)
def Zone.pv (x:Zone):PV:= .a [.s x.origin,Al x.recs]
def Bl (l:List (List UInt8)):PV:= .l 1 (l.map .s)
def Jn (x:Dat):PV:= .a [.b x.v6, .i .u64 x.hi, .i .u64 x.lo]
theorem Fl9 (r:Rec):Jf 0 16 r.pv=some r.pv:=rfl
theorem Gj8 (r:Rec):Sb 16 r.pv=some r.pv:=rfl
theorem Zb (r:Rec):Jf 3 13 r.pv=some r.data.pv:=rfl
theorem Zc (r:Rec):Jf 3 3 r.pv=some (Jn r.data):=rfl
theorem Bb6 (r:Rec):Bp 0 r.pv=some (.s r.name):=rfl
theorem Bb5 (r:Rec):Bp 1 r.pv=some (.i .i64 r.typ):=rfl
theorem Bb4 (r:Rec):Bp 2 r.pv=some (.i .i64 r.ttl):=rfl
theorem Bb3 (r:Rec):Bp 3 r.pv=some (.b r.data.v6):=rfl
theorem Bb2 (r:Rec):Bp 4 r.pv=some (.i .u64 r.data.hi):=rfl
theorem Bb1 (r:Rec):Bp 5 r.pv=some (.i .u64 r.data.lo):=rfl
theorem Bb0 (r:Rec):Bp 6 r.pv=some (.s r.data.host):=rfl
theorem Bz9 (r:Rec):Bp 7 r.pv=some (.s r.data.mail):=rfl
theorem Bz8 (r:Rec):Bp 8 r.pv=some (.s r.data.text):=rfl
theorem Bz7 (r:Rec):Bp 9 r.pv=some (.i .i64 r.data.a):=rfl
theorem Ad6 (r:Rec):Bp 10 r.pv=some (.i .i64 r.data.b):=rfl
theorem Ad5 (r:Rec):Bp 11 r.pv=some (.i .i64 r.data.c):=rfl
theorem Ad4 (r:Rec):Bp 12 r.pv=some (.i .i64 r.data.d):=rfl
theorem Ad3 (r:Rec):Bp 13 r.pv=some (.i .i64 r.data.e):=rfl
theorem Ad2 (r:Rec):Bp 14 r.pv=some (.i .i64 r.data.f):=rfl
theorem Ad1 (r:Rec):Bp 15 r.pv=some (.i .u64 r.data.bits):=rfl
theorem Fm1 (r:Dat):Jf 0 13 r.pv=some r.pv:=rfl
theorem Zd (r:Dat):Jf 0 3 r.pv=some (Jn r):=rfl
theorem Gk0 (r:Dat):Sb 13 r.pv=some r.pv:=rfl
theorem Bd6 (r:Dat):Bp 0 r.pv=some (.b r.v6):=rfl
theorem Bd5 (r:Dat):Bp 1 r.pv=some (.i .u64 r.hi):=rfl
theorem Bd4 (r:Dat):Bp 2 r.pv=some (.i .u64 r.lo):=rfl
theorem Bd3 (r:Dat):Bp 3 r.pv=some (.s r.host):=rfl
theorem Bd2 (r:Dat):Bp 4 r.pv=some (.s r.mail):=rfl
theorem Bd1 (r:Dat):Bp 5 r.pv=some (.s r.text):=rfl
theorem Bd0 (r:Dat):Bp 6 r.pv=some (.i .i64 r.a):=rfl
theorem Bc9 (r:Dat):Bp 7 r.pv=some (.i .i64 r.b):=rfl
theorem Bc8 (r:Dat):Bp 8 r.pv=some (.i .i64 r.c):=rfl
theorem Bc7 (r:Dat):Bp 9 r.pv=some (.i .i64 r.d):=rfl
theorem Af6 (r:Dat):Bp 10 r.pv=some (.i .i64 r.e):=rfl
theorem Af5 (r:Dat):Bp 11 r.pv=some (.i .i64 r.f):=rfl
theorem Af4 (r:Dat):Bp 12 r.pv=some (.i .u64 r.bits):=rfl
theorem Ew4 (r:Dat):Sb 3 (Jn r)=some (Jn r):=rfl
theorem Dn2 (r:Dat):Jf 0 3 (Jn r)=some (Jn r):=rfl
theorem Af9 (r:Dat):Bp 0 (Jn r)=some (.b r.v6):=rfl
theorem Af8 (r:Dat):Bp 1 (Jn r)=some (.i .u64 r.hi):=rfl
theorem Af7 (r:Dat):Bp 2 (Jn r)=some (.i .u64 r.lo):=rfl
theorem Ew3 (r:Zone):Sb 2 r.pv=some r.pv:=rfl
theorem Dn0 (r:Zone):Jf 0 2 r.pv=some r.pv:=rfl
theorem Ad0 (r:Zone):Bp 0 r.pv=some (.s r.origin):=rfl
theorem Ac9 (r:Zone):Bp 1 r.pv=some (Al r.recs):=rfl
theorem Xg (v:Bool) (h l:Int) (s1 s2 s3:List UInt8) (a b c d e f g:Int):PV.a [.b v, .i .u64 h, .i .u64 l, .s s1, .s s2, .s s3, .i .i64 a, .i .i64 b, .i .i64 c, .i .i64 d, .i .i64 e, .i .i64 f, .i .u64 g]=Dat.pv ⟨v,h,l,s1,s2,s3,a,b,c,d,e,f,g⟩:=rfl
theorem Ev7 (n:List UInt8) (t u:Int) (v:Bool) (h l:Int) (s1 s2 s3:List UInt8) (a b c d e f g:Int):PV.a [.s n, .i .i64 t, .i .i64 u, .b v, .i .u64 h, .i .u64 l, .s s1, .s s2, .s s3, .i .i64 a, .i .i64 b, .i .i64 c, .i .i64 d, .i .i64 e, .i .i64 f, .i .u64 g]=Rec.pv ⟨n,t,u,⟨v,h,l,s1,s2,s3,a,b,c,d,e,f,g⟩⟩:=rfl
theorem E3 (x:Dat):(⟨x.v6,x.hi,x.lo,x.host,x.mail,x.text,x.a,x.b,x.c,x.d,x.e,x.f,x.bits⟩:Dat)=x:=rfl
theorem Gq3 (x:Rec):(⟨x.name,x.typ,x.ttl,x.data⟩:Rec)=x:=rfl
theorem Ew1 (x:Dat):PV.flat x.pv=true:=rfl
theorem Ew0 (x:Rec):PV.flat x.pv=true:=rfl
theorem Ck5 (x:Dat):PV.flat (Jn x)=true:=rfl
theorem Ft1 (x:Rec):I1 16 [x.pv]=some (Al [x]):=rfl
theorem Ek7 (l:List Rec):Fp (Al l)=some (.i .i64 (l.length:Int)):=by simp [Al,Fp]
theorem Nt (l:List Rec) (k:IntKind) (z:Int) (h:0≤z):Hc 16 (Al l) (.i k z)=(l[z.toNat]?).map Rec.pv:=by simp [Al,Xb _ _ _ _ h]
theorem Dy9 (l:List Rec) (x:Rec) (h:l.length+1≤1073741824):Ik 16 (Al l) (Al [x])=some (Al (l++[x])):=by have:=S8 16 (l.map Rec.pv) [x.pv] (by simpa using h);simpa [Al] using this
theorem Yy (l m:List Rec) (h:l.length+m.length≤1073741824):Ik 16 (Al l) (Al m)=some (Al (l++m)):=by have:=S8 16 (l.map Rec.pv) (m.map Rec.pv) (by simpa using h);simpa [Al] using this
theorem Dr1:PV.l 16 []=Al []:=rfl
theorem Lr (l:List Rec) (k k':IntKind) (a b:Int) (h1:0≤a) (h2:a≤b) (h3:b≤(l.length:Int)):H8 16 (Al l) (.i k a) (.i k' b)=some (Al ((l.take b.toNat).drop a.toNat)):=by have:=Bn1 16 (l.map Rec.pv) k k' a b h1 h2 (by simpa using h3);simpa [Al] using this
theorem Fn2 (l:List Rec) (k:IntKind) (z:Int) (n:List UInt8) (t u:Int) (v:Bool) (h w:Int) (s1 s2 s3:List UInt8) (a b c d e f g:Int) (h0:0≤z) (h1:z<(l.length:Int)):
  Rj 16 0 [.s n, .i .i64 t, .i .i64 u, .b v, .i .u64 h, .i .u64 w, .s s1, .s s2, .s s3, .i .i64 a, .i .i64 b, .i .i64 c, .i .i64 d, .i .i64 e, .i .i64 f, .i .u64 g] (Al l) (.i k z)=some (Al (l.set z.toNat ⟨n,t,u,⟨v,h,w,s1,s2,s3,a,b,c,d,e,f,g⟩⟩)):=by
 have h2:z.toNat<l.length:=by omega
 have h3:(l.map Rec.pv)[z.toNat]? =some (l[z.toNat].pv):=by simp [h2]
 simp only [Rj,Al,h0,h3,and_self,if_true,Ay];have h4:Om (l[z.toNat].pv) 0 [.s n, .i .i64 t, .i .i64 u, .b v, .i .u64 h, .i .u64 w, .s s1, .s s2, .s s3, .i .i64 a, .i .i64 b, .i .i64 c, .i .i64 d, .i .i64 e, .i .i64 f, .i .u64 g]=some (Rec.pv ⟨n,t,u,⟨v,h,w,s1,s2,s3,a,b,c,d,e,f,g⟩⟩):=rfl;rw [h4];simp [List.map_set]
theorem Bq9 (l:List Rec):Ih (Al l)=some (Al l):=rfl
theorem Ek6 (l:List (List UInt8)):Fp (Bl l)=some (.i .i64 (l.length:Int)):=by simp [Bl,Fp]
theorem L0 (l:List (List UInt8)) (k:IntKind) (z:Int) (h:0≤z):Hc 1 (Bl l) (.i k z)=(l[z.toNat]?).map PV.s:=by simp [Bl,Xb _ _ _ _ h]
theorem Ft0 (x:List UInt8):I1 1 [.s x]=some (Bl [x]):=rfl
theorem Dn5:PV.l 1 []=Bl []:=rfl
theorem Dy8 (l:List (List UInt8)) (x:List UInt8) (h:l.length+1≤1073741824):Ik 1 (Bl l) (Bl [x])=some (Bl (l++[x])):=by have:=S8 1 (l.map PV.s) [.s x] (by simpa using h);simpa [Bl] using this
theorem Ax1 (l m:List (List UInt8)) (h:l.length+m.length≤1073741824):Ik 1 (Bl l) (Bl m)=some (Bl (l++m)):=by have:=S8 1 (l.map PV.s) (m.map PV.s) (by simpa using h);simpa [Bl] using this
theorem Lp (l:List (List UInt8)) (k k':IntKind) (a b:Int) (h1:0≤a) (h2:a≤b) (h3:b≤(l.length:Int)):H8 1 (Bl l) (.i k a) (.i k' b)=some (Bl ((l.take b.toNat).drop a.toNat)):=by have:=Bn1 1 (l.map PV.s) k k' a b h1 h2 (by simpa using h3);simpa [Bl] using this
theorem Dp2 (l:List (List UInt8)) (k:IntKind) (z:Int) (x:List UInt8) (h0:0≤z) (h1:z<(l.length:Int)):Rj 1 0 [.s x] (Bl l) (.i k z)=some (Bl (l.set z.toNat x)):=by
 have h2:z.toNat<l.length:=by omega
 have h3:(l.map PV.s)[z.toNat]? =some (.s l[z.toNat]):=by simp [h2]
 simp only [Rj,Bl,h0,h3,and_self,if_true,Ay];have h4:Om (.s l[z.toNat]) 0 [.s x]=some (.s x):=rfl;rw [h4];simp [List.map_set]
theorem t8 (n:Int) (h0:0≤n) (h1:n≤1073741824):K1 1 (.i .i64 n) (.s [])=some (Bl (List.replicate n.toNat [])):=by
 have h2:n≤(LIM:Int):=by simp only [LIM];omega
 have h3:(PV.s []).cells.length=1:=rfl;simp only [K1,h0,h2,h3,and_self,if_true];simp [Bl]
theorem Bz5 (l:List (List UInt8)):Bp 0 (Bl l)=some (Bl l):=rfl
theorem Bz6 (l:List Rec):Bp 0 (Al l)=some (Al l):=rfl
theorem Bq8 (l:List (List UInt8)):Ih (Bl l)=some (Bl l):=rfl
theorem Hr9 (neg:Bool) (x y:Dat):Km neg true [.b,(.i .u64),(.i .u64), .s, .s, .s,(.i .i64),(.i .i64),(.i .i64),(.i .i64),(.i .i64),(.i .i64),(.i .u64)] x.pv y.pv=some (.b (if neg then decide (x≠y) else decide (x=y))):=by
 have:Gq [.b,(.i .u64),(.i .u64), .s, .s, .s,(.i .i64),(.i .i64),(.i .i64),(.i .i64),(.i .i64),(.i .i64),(.i .u64)] x.cells y.cells=some (decide (x=y)):=by simp only [Dat.cells,Gq,Dc2,if_true,Ak];rw [Cp];cases x;cases y;simp
 simp only [Km,Dat.pv,this,A5];cases neg<;>simp
theorem Hr8 (neg:Bool) (x y:Rec):Km neg true [.s,(.i .i64),(.i .i64), .b,(.i .u64),(.i .u64), .s, .s, .s,(.i .i64),(.i .i64),(.i .i64),(.i .i64),(.i .i64),(.i .i64),(.i .u64)] x.pv y.pv=some (.b (if neg then decide (x≠y) else decide (x=y))):=by
 have:Gq [.s,(.i .i64),(.i .i64), .b,(.i .u64),(.i .u64), .s, .s, .s,(.i .i64),(.i .i64),(.i .i64),(.i .i64),(.i .i64),(.i .i64),(.i .u64)] x.cells y.cells=some (decide (x=y)):=by simp only [Rec.cells,Dat.cells,Gq,Dc2,if_true,Ak];rw [Cp];rcases x with ⟨_,_,_,⟨⟩⟩;rcases y with ⟨_,_,_,⟨⟩⟩;simp [and_assoc]
 simp only [Km,Rec.pv,this,A5];cases neg<;>simp
set_option linter.defProp false in
def EVP:=(And.intro @Dp2 (And.intro @t8 (And.intro @Fn2 (And.intro @Fl9 (And.intro @Gj8 (And.intro @Zb (And.intro @Zc (And.intro @Bb6 (And.intro @Bb5 (And.intro @Bb4 (And.intro @Bb3 (And.intro @Bb2 (And.intro @Bb1 (And.intro @Bb0 (And.intro @Bz9 (And.intro @Bz8 (And.intro @Bz7 (And.intro @Ad6 (And.intro @Ad5 (And.intro @Ad4 (And.intro @Ad3 (And.intro @Ad2 (And.intro @Ad1 (And.intro @Fm1 (And.intro @Zd (And.intro @Gk0 (And.intro @Bd6 (And.intro @Bd5 (And.intro @Bd4 (And.intro @Bd3 (And.intro @Bd2 (And.intro @Bd1 (And.intro @Bd0 (And.intro @Bc9 (And.intro @Bc8 (And.intro @Bc7 (And.intro @Af6 (And.intro @Af5 (And.intro @Af4 (And.intro @Ew4 (And.intro @Dn2 (And.intro @Af9 (And.intro @Af8 (And.intro @Af7 (And.intro @Ew3 (And.intro @Dn0 (And.intro @Ad0 (And.intro @Ac9 (And.intro @Xg (And.intro @Ev7 (And.intro @E3 (And.intro @Gq3 (And.intro @Ew1 (And.intro @Ew0 (And.intro @Ck5 (And.intro @Ft1 (And.intro @Ek7 (And.intro @Nt (And.intro @Dy9 (And.intro @Yy (And.intro @Dr1 (And.intro @Lr (And.intro @Bq9 (And.intro @Ek6 (And.intro @L0 (And.intro @Ft0 (And.intro @Dn5 (And.intro @Dy8 (And.intro @Ax1 (And.intro @Lp (And.intro @Bz5 (And.intro @Bz6 (And.intro @Bq8 (And.intro @Hr9 @Hr8))))))))))))))))))))))))))))))))))))))))))))))))))))))))))))))))))))))))))
end Go.X
