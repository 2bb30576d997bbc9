/- The program's data. -/
import Derived.Test.YtafdmaddhbcppaaGreatDoorProveDenialsG6
open Bool renaming eq_iff_iff→D5
open Option renaming bind_some→B3,map_some→Cd
open Option.some renaming injEq→Bn
set_option maxHeartbeats 1000000
set_option linter.defProp false
set_option linter.unusedVariables false
set_option linter.unusedSimpArgs false
namespace Go.X
open Go
structure Dat where
 v6:Bool
 hi:Int
 lo:Int
 host:List UInt8
 mail:List UInt8
 text:List UInt8
 a:Int
 b:Int
 c:Int
 d:Int
 e:Int
 f:Int
 bits:Int
 deriving DecidableEq
structure Rec where
 name:List UInt8
 typ:Int
 ttl:Int
 data:Dat
 deriving DecidableEq
structure Zone where
 origin:List UInt8
 recs:List Rec
 deriving DecidableEq
def Xz (x:Int):Prop:= -9223372036854775808≤x∧x≤9223372036854775807
def Ep2 (x:Int):Prop:=0≤x∧x≤18446744073709551615
def My (x:List UInt8):Prop:=x.length≤9223372036854775807
structure Dat.wf (x:Dat):Prop where
 hi:Ep2 x.hi
 lo:Ep2 x.lo
 host:My x.host
 mail:My x.mail
 text:My x.text
 a:Xz x.a
 b:Xz x.b
 c:Xz x.c
 d:Xz x.d
 e:Xz x.e
 f:Xz x.f
 bits:Ep2 x.bits
structure Rec.wf (r:Rec):Prop where
 name:My r.name
 typ:Xz r.typ
 ttl:Xz r.ttl
 data:r.data.wf
def Dk0 (l:List Rec):Prop:=l.length≤9223372036854775807∧∀r∈l,r.wf
structure Zone.wf (z:Zone):Prop where
 origin:My z.origin
 recs:Dk0 z.recs
def Dat.cells (x:Dat):List PV:=[.b x.v6,.i .u64 x.hi,.i .u64 x.lo,.s x.host,.s x.mail,.s x.text,.i .i64 x.a,.i .i64 x.b,.i .i64 x.c,.i .i64 x.d,.i .i64 x.e,.i .i64 x.f,.i .u64 x.bits]
def Dat.pv (x:Dat):PV:= .a x.cells
def Rec.cells (x:Rec):List PV:= .s x.name:: .i .i64 x.typ:: .i .i64 x.ttl::x.data.cells
def Rec.pv (x:Rec):PV:= .a x.cells
def B6 (l:List Rec):PV:= .l 16 (l.map Rec.pv)
def Zone.pv (x:Zone):PV:= .a [.s x.origin,B6 x.recs]
def Cn (l:List (List UInt8)):PV:= .l 1 (l.map .s)
def Ll (x:Dat):PV:= .a [.b x.v6,.i .u64 x.hi,.i .u64 x.lo]
def Gl1 (r:Rec):Lp 0 16 r.pv=some r.pv:=rfl
def Gt9 (r:Rec):Vv 16 r.pv=some r.pv:=rfl
def q9 (r:Rec):Lp 3 13 r.pv=some r.data.pv:=rfl
def rj (r:Rec):Lp 3 3 r.pv=some (Ll r.data):=rfl
def Dy5 (r:Rec):Dk 0 r.pv=some (.s r.name):=rfl
def Dy4 (r:Rec):Dk 1 r.pv=some (.i .i64 r.typ):=rfl
def Dy3 (r:Rec):Dk 2 r.pv=some (.i .i64 r.ttl):=rfl
def Dy2 (r:Rec):Dk 3 r.pv=some (.b r.data.v6):=rfl
def Dy1 (r:Rec):Dk 4 r.pv=some (.i .u64 r.data.hi):=rfl
def Dy0 (r:Rec):Dk 5 r.pv=some (.i .u64 r.data.lo):=rfl
def Dx9 (r:Rec):Dk 6 r.pv=some (.s r.data.host):=rfl
def Dx8 (r:Rec):Dk 7 r.pv=some (.s r.data.mail):=rfl
def Dx7 (r:Rec):Dk 8 r.pv=some (.s r.data.text):=rfl
def Dx6 (r:Rec):Dk 9 r.pv=some (.i .i64 r.data.a):=rfl
def Ck9 (r:Rec):Dk 10 r.pv=some (.i .i64 r.data.b):=rfl
def Ck8 (r:Rec):Dk 11 r.pv=some (.i .i64 r.data.c):=rfl
def Ck7 (r:Rec):Dk 12 r.pv=some (.i .i64 r.data.d):=rfl
def Ck6 (r:Rec):Dk 13 r.pv=some (.i .i64 r.data.e):=rfl
def Ck5 (r:Rec):Dk 14 r.pv=some (.i .i64 r.data.f):=rfl
def Ck4 (r:Rec):Dk 15 r.pv=some (.i .u64 r.data.bits):=rfl
def Gl3 (r:Dat):Lp 0 13 r.pv=some r.pv:=rfl
def rk (r:Dat):Lp 0 3 r.pv=some (Ll r):=rfl
def Hj1 (r:Dat):Vv 13 r.pv=some r.pv:=rfl
def Db5 (r:Dat):Dk 0 r.pv=some (.b r.v6):=rfl
def Db4 (r:Dat):Dk 1 r.pv=some (.i .u64 r.hi):=rfl
def Db3 (r:Dat):Dk 2 r.pv=some (.i .u64 r.lo):=rfl
def Db2 (r:Dat):Dk 3 r.pv=some (.s r.host):=rfl
def Db1 (r:Dat):Dk 4 r.pv=some (.s r.mail):=rfl
def Db0 (r:Dat):Dk 5 r.pv=some (.s r.text):=rfl
def Dz9 (r:Dat):Dk 6 r.pv=some (.i .i64 r.a):=rfl
def Dz8 (r:Dat):Dk 7 r.pv=some (.i .i64 r.b):=rfl
def Dz7 (r:Dat):Dk 8 r.pv=some (.i .i64 r.c):=rfl
def Dz6 (r:Dat):Dk 9 r.pv=some (.i .i64 r.d):=rfl
def Cq9 (r:Dat):Dk 10 r.pv=some (.i .i64 r.e):=rfl
def Cq8 (r:Dat):Dk 11 r.pv=some (.i .i64 r.f):=rfl
def Cq7 (r:Dat):Dk 12 r.pv=some (.i .u64 r.bits):=rfl
def Fm7 (r:Dat):Vv 3 (Ll r)=some (Ll r):=rfl
def Fx6 (r:Dat):Lp 0 3 (Ll r)=some (Ll r):=rfl
def Cv2 (r:Dat):Dk 0 (Ll r)=some (.b r.v6):=rfl
def Cv1 (r:Dat):Dk 1 (Ll r)=some (.i .u64 r.hi):=rfl
def Cv0 (r:Dat):Dk 2 (Ll r)=some (.i .u64 r.lo):=rfl
def Fm6 (r:Zone):Vv 2 r.pv=some r.pv:=rfl
def Fx4 (r:Zone):Lp 0 2 r.pv=some r.pv:=rfl
def Ck3 (r:Zone):Dk 0 r.pv=some (.s r.origin):=rfl
def Ck2 (r:Zone):Dk 1 r.pv=some (B6 r.recs):=rfl
def md (v:Bool) (h l:Int) (s1 s2 s3:List UInt8) (a b c d e f g:Int):PV.a [.b v,.i .u64 h,.i .u64 l,.s s1,.s s2,.s s3,.i .i64 a,.i .i64 b,.i .i64 c,.i .i64 d,.i .i64 e,.i .i64 f,.i .u64 g]=Dat.pv ⟨v,h,l,s1,s2,s3,a,b,c,d,e,f,g⟩:=rfl
def Fm0 (n:List UInt8) (t u:Int) (v:Bool) (h l:Int) (s1 s2 s3:List UInt8) (a b c d e f g:Int):PV.a [.s n,.i .i64 t,.i .i64 u,.b v,.i .u64 h,.i .u64 l,.s s1,.s s2,.s s3,.i .i64 a,.i .i64 b,.i .i64 c,.i .i64 d,.i .i64 e,.i .i64 f,.i .u64 g]=Rec.pv ⟨n,t,u,⟨v,h,l,s1,s2,s3,a,b,c,d,e,f,g⟩⟩:=rfl
def Hy (x:Dat):(⟨x.v6,x.hi,x.lo,x.host,x.mail,x.text,x.a,x.b,x.c,x.d,x.e,x.f,x.bits⟩:Dat)=x:=rfl
def Hk5 (x:Rec):(⟨x.name,x.typ,x.ttl,x.data⟩:Rec)=x:=rfl
def Fm4 (x:Dat):PV.flat x.pv=true:=rfl
def Fm3 (x:Rec):PV.flat x.pv=true:=rfl
def Eq0 (x:Dat):PV.flat (Ll x)=true:=rfl
def Gs5 (x:Rec):K4 16 [x.pv]=some (B6 [x]):=rfl
def Fg7 (l:List Rec):Hc (B6 l)=some (.i .i64 (l.length:Int)):=by simp[B6,Hc]
def L9 (l:List Rec) (k:IntKind) (z:Int) (h:0≤z):I7 16 (B6 l) (.i k z)=(l[z.toNat]?).map Rec.pv:=by simp[B6,Zp _ _ _ _ h]
def Ef3 (l:List Rec) (x:Rec) (h:l.length+1≤1073741824):Jn 16 (B6 l) (B6 [x])=some (B6 (l++[x])):=by have:=Vr 16 (l.map Rec.pv) [x.pv] (by simpa using h);simpa [B6] using this
def Xr (l m:List Rec) (h:l.length+m.length≤1073741824):Jn 16 (B6 l) (B6 m)=some (B6 (l++m)):=by have:=Vr 16 (l.map Rec.pv) (m.map Rec.pv) (by simpa using h);simpa [B6] using this
def Fb3:PV.l 16 []=B6 []:=rfl
def Jf (l:List Rec) (k k':IntKind) (a b:Int) (h1:0≤a) (h2:a≤b) (h3:b≤(l.length:Int)):Jv 16 (B6 l) (.i k a) (.i k' b)=some (B6 ((l.take b.toNat).drop a.toNat)):=by have:=Dm7 16 (l.map Rec.pv) k k' a b h1 h2 (by simpa using h3);simpa [B6] using this
def Gm4 (l:List Rec) (k:IntKind) (z:Int) (n:List UInt8) (t u:Int) (v:Bool) (h w:Int) (s1 s2 s3:List UInt8) (a b c d e f g:Int) (h0:0≤z) (h1:z<(l.length:Int)):
  Lr 16 0 [.s n,.i .i64 t,.i .i64 u,.b v,.i .u64 h,.i .u64 w,.s s1,.s s2,.s s3,.i .i64 a,.i .i64 b,.i .i64 c,.i .i64 d,.i .i64 e,.i .i64 f,.i .u64 g] (B6 l) (.i k z)=some (B6 (l.set z.toNat ⟨n,t,u,⟨v,h,w,s1,s2,s3,a,b,c,d,e,f,g⟩⟩)):=by
 have h2:z.toNat<l.length:=by omega
 have h3:(l.map Rec.pv)[z.toNat]? =some (l[z.toNat].pv):=by simp[h2]
 simp only[Lr,B6,h0,h3,and_self,if_true,B3];have h4:Oh (l[z.toNat].pv) 0 [.s n,.i .i64 t,.i .i64 u,.b v,.i .u64 h,.i .u64 w,.s s1,.s s2,.s s3,.i .i64 a,.i .i64 b,.i .i64 c,.i .i64 d,.i .i64 e,.i .i64 f,.i .u64 g]=some (Rec.pv ⟨n,t,u,⟨v,h,w,s1,s2,s3,a,b,c,d,e,f,g⟩⟩):=rfl;rw[h4];simp[List.map_set]
def Ct5 (l:List Rec):Kj (B6 l)=some (B6 l):=rfl
def Fg6 (l:List (List UInt8)):Hc (Cn l)=some (.i .i64 (l.length:Int)):=by simp[Cn,Hc]
def P9 (l:List (List UInt8)) (k:IntKind) (z:Int) (h:0≤z):I7 1 (Cn l) (.i k z)=(l[z.toNat]?).map PV.s:=by simp[Cn,Zp _ _ _ _ h]
def Gs3 (x:List UInt8):K4 1 [.s x]=some (Cn [x]):=rfl
def Fx9:PV.l 1 []=Cn []:=rfl
def Ef1 (l:List (List UInt8)) (x:List UInt8) (h:l.length+1≤1073741824):Jn 1 (Cn l) (Cn [x])=some (Cn (l++[x])):=by have:=Vr 1 (l.map PV.s) [.s x] (by simpa using h);simpa [Cn] using this
def Xp (l m:List (List UInt8)) (h:l.length+m.length≤1073741824):Jn 1 (Cn l) (Cn m)=some (Cn (l++m)):=by have:=Vr 1 (l.map PV.s) (m.map PV.s) (by simpa using h);simpa [Cn] using this
def L6 (l:List (List UInt8)) (k k':IntKind) (a b:Int) (h1:0≤a) (h2:a≤b) (h3:b≤(l.length:Int)):Jv 1 (Cn l) (.i k a) (.i k' b)=some (Cn ((l.take b.toNat).drop a.toNat)):=by have:=Dm7 1 (l.map PV.s) k k' a b h1 h2 (by simpa using h3);simpa [Cn] using this
def Fz2 (l:List (List UInt8)) (k:IntKind) (z:Int) (x:List UInt8) (h0:0≤z) (h1:z<(l.length:Int)):Lr 1 0 [.s x] (Cn l) (.i k z)=some (Cn (l.set z.toNat x)):=by
 have h2:z.toNat<l.length:=by omega
 have h3:(l.map PV.s)[z.toNat]? =some (.s l[z.toNat]):=by simp[h2]
 simp only[Lr,Cn,h0,h3,and_self,if_true,B3];have h4:Oh (.s l[z.toNat]) 0 [.s x]=some (.s x):=rfl;rw[h4];simp[List.map_set]
def Bc0 (n:Int) (h0:0≤n) (h1:n≤1073741824):N4 1 (.i .i64 n) (.s [])=some (Cn (List.replicate n.toNat [])):=by
 have h2:n≤(LIM:Int):=by simp only[LIM];omega
 have h3:(PV.s []).cells.length=1:=rfl;simp only[N4,h0,h2,h3,and_self,if_true];simp[Cn]
def Dw5 (l:List (List UInt8)):Dk 0 (Cn l)=some (Cn l):=rfl
def Dx5 (l:List Rec):Dk 0 (B6 l)=some (B6 l):=rfl
def Ct3 (l:List (List UInt8)):Kj (Cn l)=some (Cn l):=rfl
def It3 (neg:Bool) (x y:Dat):N7 neg true [.b,(.i .u64),(.i .u64),.s,.s,.s,(.i .i64),(.i .i64),(.i .i64),(.i .i64),(.i .i64),(.i .i64),(.i .u64)] x.pv y.pv=some (.b (if neg then decide (x≠y) else decide (x=y))):=by
 have:Ir [.b,(.i .u64),(.i .u64),.s,.s,.s,(.i .i64),(.i .i64),(.i .i64),(.i .i64),(.i .i64),(.i .i64),(.i .u64)] x.cells y.cells=some (decide (x=y)):=by simp only[Dat.cells,Ir,El9,if_true,Bn];rw[D5];cases x;cases y;simp
 simp only[N7,Dat.pv,this,Cd];cases neg<;>simp
def It2 (neg:Bool) (x y:Rec):N7 neg true [.s,(.i .i64),(.i .i64),.b,(.i .u64),(.i .u64),.s,.s,.s,(.i .i64),(.i .i64),(.i .i64),(.i .i64),(.i .i64),(.i .i64),(.i .u64)] x.pv y.pv=some (.b (if neg then decide (x≠y) else decide (x=y))):=by
 have:Ir [.s,(.i .i64),(.i .i64),.b,(.i .u64),(.i .u64),.s,.s,.s,(.i .i64),(.i .i64),(.i .i64),(.i .i64),(.i .i64),(.i .i64),(.i .u64)] x.cells y.cells=some (decide (x=y)):=by simp only[Rec.cells,Dat.cells,Ir,El9,if_true,Bn];rw[D5];rcases x with⟨_,_,_,⟨⟩⟩;rcases y with⟨_,_,_,⟨⟩⟩;simp[and_assoc]
 simp only[N7,Rec.pv,this,Cd];cases neg<;>simp
set_option linter.defProp false in
def EVP:=(And.intro @Fz2 (And.intro @Bc0 (And.intro @Gm4 (And.intro @Gl1 (And.intro @Gt9 (And.intro @q9 (And.intro @rj (And.intro @Dy5 (And.intro @Dy4 (And.intro @Dy3 (And.intro @Dy2 (And.intro @Dy1 (And.intro @Dy0 (And.intro @Dx9 (And.intro @Dx8 (And.intro @Dx7 (And.intro @Dx6 (And.intro @Ck9 (And.intro @Ck8 (And.intro @Ck7 (And.intro @Ck6 (And.intro @Ck5 (And.intro @Ck4 (And.intro @Gl3 (And.intro @rk (And.intro @Hj1 (And.intro @Db5 (And.intro @Db4 (And.intro @Db3 (And.intro @Db2 (And.intro @Db1 (And.intro @Db0 (And.intro @Dz9 (And.intro @Dz8 (And.intro @Dz7 (And.intro @Dz6 (And.intro @Cq9 (And.intro @Cq8 (And.intro @Cq7 (And.intro @Fm7 (And.intro @Fx6 (And.intro @Cv2 (And.intro @Cv1 (And.intro @Cv0 (And.intro @Fm6 (And.intro @Fx4 (And.intro @Ck3 (And.intro @Ck2 (And.intro @md (And.intro @Fm0 (And.intro @Hy (And.intro @Hk5 (And.intro @Fm4 (And.intro @Fm3 (And.intro @Eq0 (And.intro @Gs5 (And.intro @Fg7 (And.intro @L9 (And.intro @Ef3 (And.intro @Xr (And.intro @Fb3 (And.intro @Jf (And.intro @Ct5 (And.intro @Fg6 (And.intro @P9 (And.intro @Gs3 (And.intro @Fx9 (And.intro @Ef1 (And.intro @Xp (And.intro @L6 (And.intro @Dw5 (And.intro @Dx5 (And.intro @Ct3 (And.intro @It3 @It2))))))))))))))))))))))))))))))))))))))))))))))))))))))))))))))))))))))))))
end Go.X
