/- The program's data. -/
import Derived.Test.YtkpbcoeiijddpaaDoorRrsetUnpacksG4
open Bool renaming eq_iff_iff→E3
open Option renaming bind_some→Aw,map_some→As
open Option.some renaming injEq→Ak
set_option maxHeartbeats 1000000
set_option linter.unusedVariables false
set_option linter.unusedSimpArgs false
namespace Go.X
open Go
structure Dat where
 v6:Bool
 hi:Int
 lo:Int
 host:List UInt8
 mail:List UInt8
 text:List UInt8
 a:Int
 b:Int
 c:Int
 d:Int
 e:Int
 f:Int
 bits:Int
 deriving DecidableEq
structure Rec where
 name:List UInt8
 typ:Int
 ttl:Int
 data:Dat
 deriving DecidableEq
structure Zone where
 origin:List UInt8
 recs:List Rec
 deriving DecidableEq
def X0 (x:Int):Prop:= -9223372036854775808≤x∧x≤9223372036854775807
def Eq7 (x:Int):Prop:=0≤x∧x≤18446744073709551615
def Av5 (x:List UInt8):Prop:=x.length≤9223372036854775807
structure Dat.wf (x:Dat):Prop where
 hi:Eq7 x.hi
 lo:Eq7 x.lo
 host:Av5 x.host
 mail:Av5 x.mail
 text:Av5 x.text
 a:X0 x.a
 b:X0 x.b
 c:X0 x.c
 d:X0 x.d
 e:X0 x.e
 f:X0 x.f
 bits:Eq7 x.bits
structure Rec.wf (r:Rec):Prop where
 name:Av5 r.name
 typ:X0 r.typ
 ttl:X0 r.ttl
 data:r.data.wf
def Sy (l:List Rec):Prop:=l.length≤9223372036854775807∧∀r∈l,r.wf
structure Zone.wf (z:Zone):Prop where
 origin:Av5 z.origin
 recs:Sy z.recs
def Dat.cells (x:Dat):List PV:=[.b x.v6, .i .u64 x.hi, .i .u64 x.lo, .s x.host, .s x.mail, .s x.text, .i .i64 x.a, .i .i64 x.b, .i .i64 x.c, .i .i64 x.d, .i .i64 x.e, .i .i64 x.f, .i .u64 x.bits]
def Dat.pv (x:Dat):PV:= .a x.cells
def Rec.cells (x:Rec):List PV:= .s x.name:: .i .i64 x.typ:: .i .i64 x.ttl::x.data.cells
def Rec.pv (x:Rec):PV:= .a x.cells
def Al (l:List Rec):PV:= .l 16 (l.map Rec.pv)
def Zone.pv (x:Zone):PV:= .a [.s x.origin,Al x.recs]
def C8 (l:List (List UInt8)):PV:= .l 1 (l.map .s)
def Hg (x:Dat):PV:= .a [.b x.v6, .i .u64 x.hi, .i .u64 x.lo]
theorem Cq1 (r:Rec):Hp 0 16 r.pv=some r.pv:=rfl
theorem Cb8 (r:Rec):Mj 16 r.pv=some r.pv:=rfl
theorem Rs (r:Rec):Hp 3 13 r.pv=some r.data.pv:=rfl
theorem Rt (r:Rec):Hp 3 3 r.pv=some (Hg r.data):=rfl
theorem jm (r:Rec):Bc 0 r.pv=some (.s r.name):=rfl
theorem jl (r:Rec):Bc 1 r.pv=some (.i .i64 r.typ):=rfl
theorem jh (r:Rec):Bc 2 r.pv=some (.i .i64 r.ttl):=rfl
theorem jg (r:Rec):Bc 3 r.pv=some (.b r.data.v6):=rfl
theorem jf (r:Rec):Bc 4 r.pv=some (.i .u64 r.data.hi):=rfl
theorem jd (r:Rec):Bc 5 r.pv=some (.i .u64 r.data.lo):=rfl
theorem jc (r:Rec):Bc 6 r.pv=some (.s r.data.host):=rfl
theorem jb (r:Rec):Bc 7 r.pv=some (.s r.data.mail):=rfl
theorem jz (r:Rec):Bc 8 r.pv=some (.s r.data.text):=rfl
theorem jy (r:Rec):Bc 9 r.pv=some (.i .i64 r.data.a):=rfl
theorem Z2 (r:Rec):Bc 10 r.pv=some (.i .i64 r.data.b):=rfl
theorem Z1 (r:Rec):Bc 11 r.pv=some (.i .i64 r.data.c):=rfl
theorem Z0 (r:Rec):Bc 12 r.pv=some (.i .i64 r.data.d):=rfl
theorem Zt (r:Rec):Bc 13 r.pv=some (.i .i64 r.data.e):=rfl
theorem Zs (r:Rec):Bc 14 r.pv=some (.i .i64 r.data.f):=rfl
theorem Zr (r:Rec):Bc 15 r.pv=some (.i .u64 r.data.bits):=rfl
theorem Cq3 (r:Dat):Hp 0 13 r.pv=some r.pv:=rfl
theorem R3 (r:Dat):Hp 0 3 r.pv=some (Hg r):=rfl
theorem Cc0 (r:Dat):Mj 13 r.pv=some r.pv:=rfl
theorem kg (r:Dat):Bc 0 r.pv=some (.b r.v6):=rfl
theorem kf (r:Dat):Bc 1 r.pv=some (.i .u64 r.hi):=rfl
theorem kd (r:Dat):Bc 2 r.pv=some (.i .u64 r.lo):=rfl
theorem kc (r:Dat):Bc 3 r.pv=some (.s r.host):=rfl
theorem kz (r:Dat):Bc 4 r.pv=some (.s r.mail):=rfl
theorem ky (r:Dat):Bc 5 r.pv=some (.s r.text):=rfl
theorem kx (r:Dat):Bc 6 r.pv=some (.i .i64 r.a):=rfl
theorem kw (r:Dat):Bc 7 r.pv=some (.i .i64 r.b):=rfl
theorem kv (r:Dat):Bc 8 r.pv=some (.i .i64 r.c):=rfl
theorem kq (r:Dat):Bc 9 r.pv=some (.i .i64 r.d):=rfl
theorem av (r:Dat):Bc 10 r.pv=some (.i .i64 r.e):=rfl
theorem ak (r:Dat):Bc 11 r.pv=some (.i .i64 r.f):=rfl
theorem aj (r:Dat):Bc 12 r.pv=some (.i .u64 r.bits):=rfl
theorem Ah1 (r:Dat):Mj 3 (Hg r)=some (Hg r):=rfl
theorem Av1 (r:Dat):Hp 0 3 (Hg r)=some (Hg r):=rfl
theorem az (r:Dat):Bc 0 (Hg r)=some (.b r.v6):=rfl
theorem ay (r:Dat):Bc 1 (Hg r)=some (.i .u64 r.hi):=rfl
theorem ax (r:Dat):Bc 2 (Hg r)=some (.i .u64 r.lo):=rfl
theorem Ah0 (r:Zone):Mj 2 r.pv=some r.pv:=rfl
theorem Aq9 (r:Zone):Hp 0 2 r.pv=some r.pv:=rfl
theorem Zp (r:Zone):Bc 0 r.pv=some (.s r.origin):=rfl
theorem Zn (r:Zone):Bc 1 r.pv=some (Al r.recs):=rfl
theorem Qr (v:Bool) (h l:Int) (s1 s2 s3:List UInt8) (a b c d e f g:Int):PV.a [.b v, .i .u64 h, .i .u64 l, .s s1, .s s2, .s s3, .i .i64 a, .i .i64 b, .i .i64 c, .i .i64 d, .i .i64 e, .i .i64 f, .i .u64 g]=Dat.pv ⟨v,h,l,s1,s2,s3,a,b,c,d,e,f,g⟩:=rfl
theorem Ag4 (n:List UInt8) (t u:Int) (v:Bool) (h l:Int) (s1 s2 s3:List UInt8) (a b c d e f g:Int):PV.a [.s n, .i .i64 t, .i .i64 u, .b v, .i .u64 h, .i .u64 l, .s s1, .s s2, .s s3, .i .i64 a, .i .i64 b, .i .i64 c, .i .i64 d, .i .i64 e, .i .i64 f, .i .u64 g]=Rec.pv ⟨n,t,u,⟨v,h,l,s1,s2,s3,a,b,c,d,e,f,g⟩⟩:=rfl
theorem Ej (x:Dat):(⟨x.v6,x.hi,x.lo,x.host,x.mail,x.text,x.a,x.b,x.c,x.d,x.e,x.f,x.bits⟩:Dat)=x:=rfl
theorem Cd4 (x:Rec):(⟨x.name,x.typ,x.ttl,x.data⟩:Rec)=x:=rfl
theorem Ag8 (x:Dat):PV.flat x.pv=true:=rfl
theorem Ag7 (x:Rec):PV.flat x.pv=true:=rfl
theorem o4 (x:Dat):PV.flat (Hg x)=true:=rfl
theorem Cz7 (x:Rec):Jc 16 [x.pv]=some (Al [x]):=rfl
theorem Ad2 (l:List Rec):Fq (Al l)=some (.i .i64 (l.length:Int)):=by simp [Al,Fq]
theorem Kh (l:List Rec) (k:IntKind) (z:Int) (h:0≤z):Hd 16 (Al l) (.i k z)=(l[z.toNat]?).map Rec.pv:=by simp [Al,Vp _ _ _ _ h]
theorem xb (l:List Rec) (x:Rec) (h:l.length+1≤1073741824):Gs 16 (Al l) (Al [x])=some (Al (l++[x])):=by have:=Ox 16 (l.map Rec.pv) [x.pv] (by simpa using h);simpa [Al] using this
theorem Q5 (l m:List Rec) (h:l.length+m.length≤1073741824):Gs 16 (Al l) (Al m)=some (Al (l++m)):=by have:=Ox 16 (l.map Rec.pv) (m.map Rec.pv) (by simpa using h);simpa [Al] using this
theorem Ax1:PV.l 16 []=Al []:=rfl
theorem Jv (l:List Rec) (k k':IntKind) (a b:Int) (h1:0≤a) (h2:a≤b) (h3:b≤(l.length:Int)):H1 16 (Al l) (.i k a) (.i k' b)=some (Al ((l.take b.toNat).drop a.toNat)):=by have:=nd 16 (l.map Rec.pv) k k' a b h1 h2 (by simpa using h3);simpa [Al] using this
theorem Cq9 (l:List Rec) (k:IntKind) (z:Int) (n:List UInt8) (t u:Int) (v:Bool) (h w:Int) (s1 s2 s3:List UInt8) (a b c d e f g:Int) (h0:0≤z) (h1:z<(l.length:Int)):
  K9 16 0 [.s n, .i .i64 t, .i .i64 u, .b v, .i .u64 h, .i .u64 w, .s s1, .s s2, .s s3, .i .i64 a, .i .i64 b, .i .i64 c, .i .i64 d, .i .i64 e, .i .i64 f, .i .u64 g] (Al l) (.i k z)=some (Al (l.set z.toNat ⟨n,t,u,⟨v,h,w,s1,s2,s3,a,b,c,d,e,f,g⟩⟩)):=by
 have h2:z.toNat<l.length:=by omega
 have h3:(l.map Rec.pv)[z.toNat]? =some (l[z.toNat].pv):=by simp [h2]
 simp only [K9,Al,h0,h3,and_self,if_true,Aw];have h4:Lj (l[z.toNat].pv) 0 [.s n, .i .i64 t, .i .i64 u, .b v, .i .u64 h, .i .u64 w, .s s1, .s s2, .s s3, .i .i64 a, .i .i64 b, .i .i64 c, .i .i64 d, .i .i64 e, .i .i64 f, .i .u64 g]=some (Rec.pv ⟨n,t,u,⟨v,h,w,s1,s2,s3,a,b,c,d,e,f,g⟩⟩):=rfl;rw [h4];simp [List.map_set]
theorem f4 (l:List Rec):Gw (Al l)=some (Al l):=rfl
theorem Ad1 (l:List (List UInt8)):Fq (C8 l)=some (.i .i64 (l.length:Int)):=by simp [C8,Fq]
theorem Af8 (l:List (List UInt8)) (k:IntKind) (z:Int) (h:0≤z):Hd 1 (C8 l) (.i k z)=(l[z.toNat]?).map PV.s:=by simp [C8,Vp _ _ _ _ h]
theorem Cz5 (x:List UInt8):Jc 1 [.s x]=some (C8 [x]):=rfl
theorem Av4:PV.l 1 []=C8 []:=rfl
theorem xy (l:List (List UInt8)) (x:List UInt8) (h:l.length+1≤1073741824):Gs 1 (C8 l) (C8 [x])=some (C8 (l++[x])):=by have:=Ox 1 (l.map PV.s) [.s x] (by simpa using h);simpa [C8] using this
theorem Am4 (l m:List (List UInt8)) (h:l.length+m.length≤1073741824):Gs 1 (C8 l) (C8 m)=some (C8 (l++m)):=by have:=Ox 1 (l.map PV.s) (m.map PV.s) (by simpa using h);simpa [C8] using this
theorem Ac7 (l:List (List UInt8)) (k k':IntKind) (a b:Int) (h1:0≤a) (h2:a≤b) (h3:b≤(l.length:Int)):H1 1 (C8 l) (.i k a) (.i k' b)=some (C8 ((l.take b.toNat).drop a.toNat)):=by have:=nd 1 (l.map PV.s) k k' a b h1 h2 (by simpa using h3);simpa [C8] using this
theorem Aw4 (l:List (List UInt8)) (k:IntKind) (z:Int) (x:List UInt8) (h0:0≤z) (h1:z<(l.length:Int)):K9 1 0 [.s x] (C8 l) (.i k z)=some (C8 (l.set z.toNat x)):=by
 have h2:z.toNat<l.length:=by omega
 have h3:(l.map PV.s)[z.toNat]? =some (.s l[z.toNat]):=by simp [h2]
 simp only [K9,C8,h0,h3,and_self,if_true,Aw];have h4:Lj (.s l[z.toNat]) 0 [.s x]=some (.s x):=rfl;rw [h4];simp [List.map_set]
theorem Aw9 (n:Int) (h0:0≤n) (h1:n≤1073741824):Kw 1 (.i .i64 n) (.s [])=some (C8 (List.replicate n.toNat [])):=by
 have h2:n≤(LIM:Int):=by simp only [LIM];omega
 have h3:(PV.s []).cells.length=1:=rfl;simp only [Kw,h0,h2,h3,and_self,if_true];simp [C8]
theorem jj (l:List (List UInt8)):Bc 0 (C8 l)=some (C8 l):=rfl
theorem jx (l:List Rec):Bc 0 (Al l)=some (Al l):=rfl
theorem fr (l:List (List UInt8)):Gw (C8 l)=some (C8 l):=rfl
theorem Dd1 (neg:Bool) (x y:Dat):Is neg true [.b,(.i .u64),(.i .u64), .s, .s, .s,(.i .i64),(.i .i64),(.i .i64),(.i .i64),(.i .i64),(.i .i64),(.i .u64)] x.pv y.pv=some (.b (if neg then decide (x≠y) else decide (x=y))):=by
 have:E6 [.b,(.i .u64),(.i .u64), .s, .s, .s,(.i .i64),(.i .i64),(.i .i64),(.i .i64),(.i .i64),(.i .i64),(.i .u64)] x.cells y.cells=some (decide (x=y)):=by simp only [Dat.cells,E6,yy,if_true,Ak];rw [E3];cases x;cases y;simp
 simp only [Is,Dat.pv,this,As];cases neg<;>simp
theorem Dd0 (neg:Bool) (x y:Rec):Is neg true [.s,(.i .i64),(.i .i64), .b,(.i .u64),(.i .u64), .s, .s, .s,(.i .i64),(.i .i64),(.i .i64),(.i .i64),(.i .i64),(.i .i64),(.i .u64)] x.pv y.pv=some (.b (if neg then decide (x≠y) else decide (x=y))):=by
 have:E6 [.s,(.i .i64),(.i .i64), .b,(.i .u64),(.i .u64), .s, .s, .s,(.i .i64),(.i .i64),(.i .i64),(.i .i64),(.i .i64),(.i .i64),(.i .u64)] x.cells y.cells=some (decide (x=y)):=by simp only [Rec.cells,Dat.cells,E6,yy,if_true,Ak];rw [E3];rcases x with ⟨_,_,_,⟨⟩⟩;rcases y with ⟨_,_,_,⟨⟩⟩;simp [and_assoc]
 simp only [Is,Rec.pv,this,As];cases neg<;>simp
set_option linter.defProp false in
def EVP:=(And.intro @Aw4 (And.intro @Aw9 (And.intro @Cq9 (And.intro @Cq1 (And.intro @Cb8 (And.intro @Rs (And.intro @Rt (And.intro @jm (And.intro @jl (And.intro @jh (And.intro @jg (And.intro @jf (And.intro @jd (And.intro @jc (And.intro @jb (And.intro @jz (And.intro @jy (And.intro @Z2 (And.intro @Z1 (And.intro @Z0 (And.intro @Zt (And.intro @Zs (And.intro @Zr (And.intro @Cq3 (And.intro @R3 (And.intro @Cc0 (And.intro @kg (And.intro @kf (And.intro @kd (And.intro @kc (And.intro @kz (And.intro @ky (And.intro @kx (And.intro @kw (And.intro @kv (And.intro @kq (And.intro @av (And.intro @ak (And.intro @aj (And.intro @Ah1 (And.intro @Av1 (And.intro @az (And.intro @ay (And.intro @ax (And.intro @Ah0 (And.intro @Aq9 (And.intro @Zp (And.intro @Zn (And.intro @Qr (And.intro @Ag4 (And.intro @Ej (And.intro @Cd4 (And.intro @Ag8 (And.intro @Ag7 (And.intro @o4 (And.intro @Cz7 (And.intro @Ad2 (And.intro @Kh (And.intro @xb (And.intro @Q5 (And.intro @Ax1 (And.intro @Jv (And.intro @f4 (And.intro @Ad1 (And.intro @Af8 (And.intro @Cz5 (And.intro @Av4 (And.intro @xy (And.intro @Am4 (And.intro @Ac7 (And.intro @jj (And.intro @jx (And.intro @fr (And.intro @Dd1 @Dd0))))))))))))))))))))))))))))))))))))))))))))))))))))))))))))))))))))))))))
end Go.X
