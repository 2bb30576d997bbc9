/- The program's data. -/
import Derived.Test.YtpnpdfkkjhgkfaaGreatDoorProveSigsG6
open Bool renaming eq_iff_iff→Ds
open Option renaming bind_some→Ax,map_some→A4
open Option.some renaming injEq→Ak
set_option maxHeartbeats 1000000
set_option linter.defProp false
set_option linter.unusedVariables false
set_option linter.unusedSimpArgs false
namespace Go.X
open Go
structure Dat where
 v6:Bool
 hi:Int
 lo:Int
 host:List UInt8
 mail:List UInt8
 text:List UInt8
 a:Int
 b:Int
 c:Int
 d:Int
 e:Int
 f:Int
 bits:Int
 deriving DecidableEq
structure Rec where
 name:List UInt8
 typ:Int
 ttl:Int
 data:Dat
 deriving DecidableEq
structure Zone where
 origin:List UInt8
 recs:List Rec
 deriving DecidableEq
def ez (x:Int):Prop:= -9223372036854775808≤x∧x≤9223372036854775807
def Ex1 (x:Int):Prop:=0≤x∧x≤18446744073709551615
def Mc (x:List UInt8):Prop:=x.length≤9223372036854775807
structure Dat.wf (x:Dat):Prop where
 hi:Ex1 x.hi
 lo:Ex1 x.lo
 host:Mc x.host
 mail:Mc x.mail
 text:Mc x.text
 a:ez x.a
 b:ez x.b
 c:ez x.c
 d:ez x.d
 e:ez x.e
 f:ez x.f
 bits:Ex1 x.bits
structure Rec.wf (r:Rec):Prop where
 name:Mc r.name
 typ:ez r.typ
 ttl:ez r.ttl
 data:r.data.wf
def gf (l:List Rec):Prop:=l.length≤9223372036854775807∧∀r∈l,r.wf
structure Zone.wf (z:Zone):Prop where
 origin:Mc z.origin
 recs:gf z.recs
def Dat.cells (x:Dat):List PV:=[.b x.v6, .i .u64 x.hi, .i .u64 x.lo, .s x.host, .s x.mail, .s x.text, .i .i64 x.a, .i .i64 x.b, .i .i64 x.c, .i .i64 x.d, .i .i64 x.e, .i .i64 x.f, .i .u64 x.bits]
def Dat.pv (x:Dat):PV:= .a x.cells
def Rec.cells (x:Rec):List PV:= .s x.name:: .i .i64 x.typ:: .i .i64 x.ttl::x.data.cells
def Rec.pv (x:Rec):PV:= .a x.cells
def Ag (l:List Rec):PV:= .l 16 (l.map Rec.pv)
def Zone.pv (x:Zone):PV:= .a [.s x.origin,Ag x.recs]
def Bv (l:List (List UInt8)):PV:= .l 1 (l.map .s)
def Il (x:Dat):PV:= .a [.b x.v6, .i .u64 x.hi, .i .u64 x.lo]
def Dh7 (r:Rec):Jn 0 16 r.pv=some r.pv:=rfl
def Ds4 (r:Rec):P4 16 r.pv=some r.pv:=rfl
def Y9 (r:Rec):Jn 3 13 r.pv=some r.data.pv:=rfl
def Zj (r:Rec):Jn 3 3 r.pv=some (Il r.data):=rfl
def An0 (r:Rec):Bh 0 r.pv=some (.s r.name):=rfl
def Am9 (r:Rec):Bh 1 r.pv=some (.i .i64 r.typ):=rfl
def Am8 (r:Rec):Bh 2 r.pv=some (.i .i64 r.ttl):=rfl
def Am7 (r:Rec):Bh 3 r.pv=some (.b r.data.v6):=rfl
def Am6 (r:Rec):Bh 4 r.pv=some (.i .u64 r.data.hi):=rfl
def Am5 (r:Rec):Bh 5 r.pv=some (.i .u64 r.data.lo):=rfl
def Am4 (r:Rec):Bh 6 r.pv=some (.s r.data.host):=rfl
def Am3 (r:Rec):Bh 7 r.pv=some (.s r.data.mail):=rfl
def Am2 (r:Rec):Bh 8 r.pv=some (.s r.data.text):=rfl
def Am1 (r:Rec):Bh 9 r.pv=some (.i .i64 r.data.a):=rfl
def w9 (r:Rec):Bh 10 r.pv=some (.i .i64 r.data.b):=rfl
def w7 (r:Rec):Bh 11 r.pv=some (.i .i64 r.data.c):=rfl
def w6 (r:Rec):Bh 12 r.pv=some (.i .i64 r.data.d):=rfl
def wt (r:Rec):Bh 13 r.pv=some (.i .i64 r.data.e):=rfl
def wn (r:Rec):Bh 14 r.pv=some (.i .i64 r.data.f):=rfl
def wm (r:Rec):Bh 15 r.pv=some (.i .u64 r.data.bits):=rfl
def Dh9 (r:Dat):Jn 0 13 r.pv=some r.pv:=rfl
def Zk (r:Dat):Jn 0 3 r.pv=some (Il r):=rfl
def Ds6 (r:Dat):P4 13 r.pv=some r.pv:=rfl
def Ar0 (r:Dat):Bh 0 r.pv=some (.b r.v6):=rfl
def Ap9 (r:Dat):Bh 1 r.pv=some (.i .u64 r.hi):=rfl
def Ap8 (r:Dat):Bh 2 r.pv=some (.i .u64 r.lo):=rfl
def Ap7 (r:Dat):Bh 3 r.pv=some (.s r.host):=rfl
def Ap6 (r:Dat):Bh 4 r.pv=some (.s r.mail):=rfl
def Ap5 (r:Dat):Bh 5 r.pv=some (.s r.text):=rfl
def Ap4 (r:Dat):Bh 6 r.pv=some (.i .i64 r.a):=rfl
def Ap3 (r:Dat):Bh 7 r.pv=some (.i .i64 r.b):=rfl
def Ap2 (r:Dat):Bh 8 r.pv=some (.i .i64 r.c):=rfl
def Ap1 (r:Dat):Bh 9 r.pv=some (.i .i64 r.d):=rfl
def xg (r:Dat):Bh 10 r.pv=some (.i .i64 r.e):=rfl
def xf (r:Dat):Bh 11 r.pv=some (.i .i64 r.f):=rfl
def xb (r:Dat):Bh 12 r.pv=some (.i .u64 r.bits):=rfl
def Cr2 (r:Dat):P4 3 (Il r)=some (Il r):=rfl
def Cb7 (r:Dat):Jn 0 3 (Il r)=some (Il r):=rfl
def xm (r:Dat):Bh 0 (Il r)=some (.b r.v6):=rfl
def xl (r:Dat):Bh 1 (Il r)=some (.i .u64 r.hi):=rfl
def xh (r:Dat):Bh 2 (Il r)=some (.i .u64 r.lo):=rfl
def Cr1 (r:Zone):P4 2 r.pv=some r.pv:=rfl
def Cb5 (r:Zone):Jn 0 2 r.pv=some r.pv:=rfl
def wl (r:Zone):Bh 0 r.pv=some (.s r.origin):=rfl
def wh (r:Zone):Bh 1 r.pv=some (Ag r.recs):=rfl
def q9 (v:Bool) (h l:Int) (s1 s2 s3:List UInt8) (a b c d e f g:Int):PV.a [.b v, .i .u64 h, .i .u64 l, .s s1, .s s2, .s s3, .i .i64 a, .i .i64 b, .i .i64 c, .i .i64 d, .i .i64 e, .i .i64 f, .i .u64 g]=Dat.pv ⟨v,h,l,s1,s2,s3,a,b,c,d,e,f,g⟩:=rfl
def Cp5 (n:List UInt8) (t u:Int) (v:Bool) (h l:Int) (s1 s2 s3:List UInt8) (a b c d e f g:Int):PV.a [.s n, .i .i64 t, .i .i64 u, .b v, .i .u64 h, .i .u64 l, .s s1, .s s2, .s s3, .i .i64 a, .i .i64 b, .i .i64 c, .i .i64 d, .i .i64 e, .i .i64 f, .i .u64 g]=Rec.pv ⟨n,t,u,⟨v,h,l,s1,s2,s3,a,b,c,d,e,f,g⟩⟩:=rfl
def Fb (x:Dat):(⟨x.v6,x.hi,x.lo,x.host,x.mail,x.text,x.a,x.b,x.c,x.d,x.e,x.f,x.bits⟩:Dat)=x:=rfl
def Dt8 (x:Rec):(⟨x.name,x.typ,x.ttl,x.data⟩:Rec)=x:=rfl
def Cp9 (x:Dat):PV.flat x.pv=true:=rfl
def Cp8 (x:Rec):PV.flat x.pv=true:=rfl
def Bc0 (x:Dat):PV.flat (Il x)=true:=rfl
def Dr1 (x:Rec):L6 16 [x.pv]=some (Ag [x]):=rfl
def Cm5 (l:List Rec):Gd (Ag l)=some (.i .i64 (l.length:Int)):=by simp [Ag,Gd]
def Ns (l:List Rec) (k:IntKind) (z:Int) (h:0≤z):Ht 16 (Ag l) (.i k z)=(l[z.toNat]?).map Rec.pv:=by simp [Ag,jj _ _ _ _ h]
def Bn8 (l:List Rec) (x:Rec) (h:l.length+1≤1073741824):Ij 16 (Ag l) (Ag [x])=some (Ag (l++[x])):=by have:=T9 16 (l.map Rec.pv) [x.pv] (by simpa using h);simpa [Ag] using this
def Q0 (l m:List Rec) (h:l.length+m.length≤1073741824):Ij 16 (Ag l) (Ag m)=some (Ag (l++m)):=by have:=T9 16 (l.map Rec.pv) (m.map Rec.pv) (by simpa using h);simpa [Ag] using this
def Cf2:PV.l 16 []=Ag []:=rfl
def H6 (l:List Rec) (k k':IntKind) (a b:Int) (h1:0≤a) (h2:a≤b) (h3:b≤(l.length:Int)):G4 16 (Ag l) (.i k a) (.i k' b)=some (Ag ((l.take b.toNat).drop a.toNat)):=by have:=Bw5 16 (l.map Rec.pv) k k' a b h1 h2 (by simpa using h3);simpa [Ag] using this
def Dl6 (l:List Rec) (k:IntKind) (z:Int) (n:List UInt8) (t u:Int) (v:Bool) (h w:Int) (s1 s2 s3:List UInt8) (a b c d e f g:Int) (h0:0≤z) (h1:z<(l.length:Int)):
  Kv 16 0 [.s n, .i .i64 t, .i .i64 u, .b v, .i .u64 h, .i .u64 w, .s s1, .s s2, .s s3, .i .i64 a, .i .i64 b, .i .i64 c, .i .i64 d, .i .i64 e, .i .i64 f, .i .u64 g] (Ag l) (.i k z)=some (Ag (l.set z.toNat ⟨n,t,u,⟨v,h,w,s1,s2,s3,a,b,c,d,e,f,g⟩⟩)):=by
 have h2:z.toNat<l.length:=by omega
 have h3:(l.map Rec.pv)[z.toNat]? =some (l[z.toNat].pv):=by simp [h2]
 simp only [Kv,Ag,h0,h3,and_self,if_true,Ax];have h4:Mf (l[z.toNat].pv) 0 [.s n, .i .i64 t, .i .i64 u, .b v, .i .u64 h, .i .u64 w, .s s1, .s s2, .s s3, .i .i64 a, .i .i64 b, .i .i64 c, .i .i64 d, .i .i64 e, .i .i64 f, .i .u64 g]=some (Rec.pv ⟨n,t,u,⟨v,h,w,s1,s2,s3,a,b,c,d,e,f,g⟩⟩):=rfl;rw [h4];simp [List.map_set]
def Ad2 (l:List Rec):H3 (Ag l)=some (Ag l):=rfl
def Cm4 (l:List (List UInt8)):Gd (Bv l)=some (.i .i64 (l.length:Int)):=by simp [Bv,Gd]
def Ln (l:List (List UInt8)) (k:IntKind) (z:Int) (h:0≤z):Ht 1 (Bv l) (.i k z)=(l[z.toNat]?).map PV.s:=by simp [Bv,jj _ _ _ _ h]
def Dp9 (x:List UInt8):L6 1 [.s x]=some (Bv [x]):=rfl
def Cc0:PV.l 1 []=Bv []:=rfl
def Bn6 (l:List (List UInt8)) (x:List UInt8) (h:l.length+1≤1073741824):Ij 1 (Bv l) (Bv [x])=some (Bv (l++[x])):=by have:=T9 1 (l.map PV.s) [.s x] (by simpa using h);simpa [Bv] using this
def td (l m:List (List UInt8)) (h:l.length+m.length≤1073741824):Ij 1 (Bv l) (Bv m)=some (Bv (l++m)):=by have:=T9 1 (l.map PV.s) (m.map PV.s) (by simpa using h);simpa [Bv] using this
def J1 (l:List (List UInt8)) (k k':IntKind) (a b:Int) (h1:0≤a) (h2:a≤b) (h3:b≤(l.length:Int)):G4 1 (Bv l) (.i k a) (.i k' b)=some (Bv ((l.take b.toNat).drop a.toNat)):=by have:=Bw5 1 (l.map PV.s) k k' a b h1 h2 (by simpa using h3);simpa [Bv] using this
def Cd4 (l:List (List UInt8)) (k:IntKind) (z:Int) (x:List UInt8) (h0:0≤z) (h1:z<(l.length:Int)):Kv 1 0 [.s x] (Bv l) (.i k z)=some (Bv (l.set z.toNat x)):=by
 have h2:z.toNat<l.length:=by omega
 have h3:(l.map PV.s)[z.toNat]? =some (.s l[z.toNat]):=by simp [h2]
 simp only [Kv,Bv,h0,h3,and_self,if_true,Ax];have h4:Mf (.s l[z.toNat]) 0 [.s x]=some (.s x):=rfl;rw [h4];simp [List.map_set]
def o2 (n:Int) (h0:0≤n) (h1:n≤1073741824):L5 1 (.i .i64 n) (.s [])=some (Bv (List.replicate n.toNat [])):=by
 have h2:n≤(LIM:Int):=by simp only [LIM];omega
 have h3:(PV.s []).cells.length=1:=rfl;simp only [L5,h0,h2,h3,and_self,if_true];simp [Bv]
def Al5 (l:List (List UInt8)):Bh 0 (Bv l)=some (Bv l):=rfl
def Am0 (l:List Rec):Bh 0 (Ag l)=some (Ag l):=rfl
def Ad0 (l:List (List UInt8)):H3 (Bv l)=some (Bv l):=rfl
def Fx7 (neg:Bool) (x y:Dat):K4 neg true [.b,(.i .u64),(.i .u64), .s, .s, .s,(.i .i64),(.i .i64),(.i .i64),(.i .i64),(.i .i64),(.i .i64),(.i .u64)] x.pv y.pv=some (.b (if neg then decide (x≠y) else decide (x=y))):=by
 have:Gq [.b,(.i .u64),(.i .u64), .s, .s, .s,(.i .i64),(.i .i64),(.i .i64),(.i .i64),(.i .i64),(.i .i64),(.i .u64)] x.cells y.cells=some (decide (x=y)):=by simp only [Dat.cells,Gq,Br8,if_true,Ak];rw [Ds];cases x;cases y;simp
 simp only [K4,Dat.pv,this,A4];cases neg<;>simp
def Fx6 (neg:Bool) (x y:Rec):K4 neg true [.s,(.i .i64),(.i .i64), .b,(.i .u64),(.i .u64), .s, .s, .s,(.i .i64),(.i .i64),(.i .i64),(.i .i64),(.i .i64),(.i .i64),(.i .u64)] x.pv y.pv=some (.b (if neg then decide (x≠y) else decide (x=y))):=by
 have:Gq [.s,(.i .i64),(.i .i64), .b,(.i .u64),(.i .u64), .s, .s, .s,(.i .i64),(.i .i64),(.i .i64),(.i .i64),(.i .i64),(.i .i64),(.i .u64)] x.cells y.cells=some (decide (x=y)):=by simp only [Rec.cells,Dat.cells,Gq,Br8,if_true,Ak];rw [Ds];rcases x with ⟨_,_,_,⟨⟩⟩;rcases y with ⟨_,_,_,⟨⟩⟩;simp [and_assoc]
 simp only [K4,Rec.pv,this,A4];cases neg<;>simp
set_option linter.defProp false in
def EVP:=(And.intro @Cd4 (And.intro @o2 (And.intro @Dl6 (And.intro @Dh7 (And.intro @Ds4 (And.intro @Y9 (And.intro @Zj (And.intro @An0 (And.intro @Am9 (And.intro @Am8 (And.intro @Am7 (And.intro @Am6 (And.intro @Am5 (And.intro @Am4 (And.intro @Am3 (And.intro @Am2 (And.intro @Am1 (And.intro @w9 (And.intro @w7 (And.intro @w6 (And.intro @wt (And.intro @wn (And.intro @wm (And.intro @Dh9 (And.intro @Zk (And.intro @Ds6 (And.intro @Ar0 (And.intro @Ap9 (And.intro @Ap8 (And.intro @Ap7 (And.intro @Ap6 (And.intro @Ap5 (And.intro @Ap4 (And.intro @Ap3 (And.intro @Ap2 (And.intro @Ap1 (And.intro @xg (And.intro @xf (And.intro @xb (And.intro @Cr2 (And.intro @Cb7 (And.intro @xm (And.intro @xl (And.intro @xh (And.intro @Cr1 (And.intro @Cb5 (And.intro @wl (And.intro @wh (And.intro @q9 (And.intro @Cp5 (And.intro @Fb (And.intro @Dt8 (And.intro @Cp9 (And.intro @Cp8 (And.intro @Bc0 (And.intro @Dr1 (And.intro @Cm5 (And.intro @Ns (And.intro @Bn8 (And.intro @Q0 (And.intro @Cf2 (And.intro @H6 (And.intro @Ad2 (And.intro @Cm4 (And.intro @Ln (And.intro @Dp9 (And.intro @Cc0 (And.intro @Bn6 (And.intro @td (And.intro @J1 (And.intro @Al5 (And.intro @Am0 (And.intro @Ad0 (And.intro @Fx7 @Fx6))))))))))))))))))))))))))))))))))))))))))))))))))))))))))))))))))))))))))
end Go.X
