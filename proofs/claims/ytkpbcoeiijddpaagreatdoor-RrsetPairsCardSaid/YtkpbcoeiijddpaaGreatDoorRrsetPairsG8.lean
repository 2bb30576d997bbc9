/- The program's data. -/
import Derived.Test.YtkpbcoeiijddpaaGreatDoorRrsetPairsG6
open Bool renaming eq_iff_iff→Ef
open Option renaming bind_some→Aw,map_some→A3
open Option.some renaming injEq→Ak
set_option maxHeartbeats 1000000
set_option linter.unusedVariables false
set_option linter.unusedSimpArgs false
namespace Go.X
open Go
structure Dat where
 v6:Bool
 hi:Int
 lo:Int
 host:List UInt8
 mail:List UInt8
 text:List UInt8
 a:Int
 b:Int
 c:Int
 d:Int
 e:Int
 f:Int
 bits:Int
 deriving DecidableEq
structure Rec where
 name:List UInt8
 typ:Int
 ttl:Int
 data:Dat
 deriving DecidableEq
structure Zone where
 origin:List UInt8
 recs:List Rec
 deriving DecidableEq
def ew (x:Int):Prop:= -9223372036854775808≤x∧x≤9223372036854775807
def Gf0 (x:Int):Prop:=0≤x∧x≤18446744073709551615
def ng (x:List UInt8):Prop:=x.length≤9223372036854775807
structure Dat.wf (x:Dat):Prop where
 hi:Gf0 x.hi
 lo:Gf0 x.lo
 host:ng x.host
 mail:ng x.mail
 text:ng x.text
 a:ew x.a
 b:ew x.b
 c:ew x.c
 d:ew x.d
 e:ew x.e
 f:ew x.f
 bits:Gf0 x.bits
structure Rec.wf (r:Rec):Prop where
 name:ng r.name
 typ:ew r.typ
 ttl:ew r.ttl
 data:r.data.wf
def Rr (l:List Rec):Prop:=l.length≤9223372036854775807∧∀r∈l,r.wf
structure Zone.wf (z:Zone):Prop where
 origin:ng z.origin
 recs:Rr z.recs
def Dat.cells (x:Dat):List PV:=[.b x.v6, .i .u64 x.hi, .i .u64 x.lo, .s x.host, .s x.mail, .s x.text, .i .i64 x.a, .i .i64 x.b, .i .i64 x.c, .i .i64 x.d, .i .i64 x.e, .i .i64 x.f, .i .u64 x.bits]
def Dat.pv (x:Dat):PV:= .a x.cells
def Rec.cells (x:Rec):List PV:= .s x.name:: .i .i64 x.typ:: .i .i64 x.ttl::x.data.cells
def Rec.pv (x:Rec):PV:= .a x.cells
def Af (l:List Rec):PV:= .l 16 (l.map Rec.pv)
def Zone.pv (x:Zone):PV:= .a [.s x.origin,Af x.recs]
def Cr (l:List (List UInt8)):PV:= .l 1 (l.map .s)
def Hk (x:Dat):PV:= .a [.b x.v6, .i .u64 x.hi, .i .u64 x.lo]
theorem Ec8 (r:Rec):Ir 0 16 r.pv=some r.pv:=rfl
theorem Em6 (r:Rec):O9 16 r.pv=some r.pv:=rfl
theorem Uq (r:Rec):Ir 3 13 r.pv=some r.data.pv:=rfl
theorem Uv (r:Rec):Ir 3 3 r.pv=some (Hk r.data):=rfl
theorem tv (r:Rec):Bc 0 r.pv=some (.s r.name):=rfl
theorem tq (r:Rec):Bc 1 r.pv=some (.i .i64 r.typ):=rfl
theorem tj (r:Rec):Bc 2 r.pv=some (.i .i64 r.ttl):=rfl
theorem s9 (r:Rec):Bc 3 r.pv=some (.b r.data.v6):=rfl
theorem s8 (r:Rec):Bc 4 r.pv=some (.i .u64 r.data.hi):=rfl
theorem s7 (r:Rec):Bc 5 r.pv=some (.i .u64 r.data.lo):=rfl
theorem s6 (r:Rec):Bc 6 r.pv=some (.s r.data.host):=rfl
theorem s5 (r:Rec):Bc 7 r.pv=some (.s r.data.mail):=rfl
theorem sr (r:Rec):Bc 8 r.pv=some (.s r.data.text):=rfl
theorem sn (r:Rec):Bc 9 r.pv=some (.i .i64 r.data.a):=rfl
theorem jr (r:Rec):Bc 10 r.pv=some (.i .i64 r.data.b):=rfl
theorem jp (r:Rec):Bc 11 r.pv=some (.i .i64 r.data.c):=rfl
theorem jm (r:Rec):Bc 12 r.pv=some (.i .i64 r.data.d):=rfl
theorem jl (r:Rec):Bc 13 r.pv=some (.i .i64 r.data.e):=rfl
theorem jh (r:Rec):Bc 14 r.pv=some (.i .i64 r.data.f):=rfl
theorem jg (r:Rec):Bc 15 r.pv=some (.i .u64 r.data.bits):=rfl
theorem Ed0 (r:Dat):Ir 0 13 r.pv=some r.pv:=rfl
theorem Uw (r:Dat):Ir 0 3 r.pv=some (Hk r):=rfl
theorem Em8 (r:Dat):O9 13 r.pv=some r.pv:=rfl
theorem uy (r:Dat):Bc 0 r.pv=some (.b r.v6):=rfl
theorem ux (r:Dat):Bc 1 r.pv=some (.i .u64 r.hi):=rfl
theorem uw (r:Dat):Bc 2 r.pv=some (.i .u64 r.lo):=rfl
theorem uv (r:Dat):Bc 3 r.pv=some (.s r.host):=rfl
theorem uq (r:Dat):Bc 4 r.pv=some (.s r.mail):=rfl
theorem uk (r:Dat):Bc 5 r.pv=some (.s r.text):=rfl
theorem uj (r:Dat):Bc 6 r.pv=some (.i .i64 r.a):=rfl
theorem t9 (r:Dat):Bc 7 r.pv=some (.i .i64 r.b):=rfl
theorem t8 (r:Dat):Bc 8 r.pv=some (.i .i64 r.c):=rfl
theorem t7 (r:Dat):Bc 9 r.pv=some (.i .i64 r.d):=rfl
theorem kv (r:Dat):Bc 10 r.pv=some (.i .i64 r.e):=rfl
theorem kq (r:Dat):Bc 11 r.pv=some (.i .i64 r.f):=rfl
theorem kj (r:Dat):Bc 12 r.pv=some (.i .u64 r.bits):=rfl
theorem Cl1 (r:Dat):O9 3 (Hk r)=some (Hk r):=rfl
theorem Cx2 (r:Dat):Ir 0 3 (Hk r)=some (Hk r):=rfl
theorem ky (r:Dat):Bc 0 (Hk r)=some (.b r.v6):=rfl
theorem kx (r:Dat):Bc 1 (Hk r)=some (.i .u64 r.hi):=rfl
theorem kw (r:Dat):Bc 2 (Hk r)=some (.i .u64 r.lo):=rfl
theorem Cl0 (r:Zone):O9 2 r.pv=some r.pv:=rfl
theorem Cx0 (r:Zone):Ir 0 2 r.pv=some r.pv:=rfl
theorem jf (r:Zone):Bc 0 r.pv=some (.s r.origin):=rfl
theorem jd (r:Zone):Bc 1 r.pv=some (Af r.recs):=rfl
theorem eg (v:Bool) (h l:Int) (s1 s2 s3:List UInt8) (a b c d e f g:Int):PV.a [.b v, .i .u64 h, .i .u64 l, .s s1, .s s2, .s s3, .i .i64 a, .i .i64 b, .i .i64 c, .i .i64 d, .i .i64 e, .i .i64 f, .i .u64 g]=Dat.pv ⟨v,h,l,s1,s2,s3,a,b,c,d,e,f,g⟩:=rfl
theorem Ch4 (n:List UInt8) (t u:Int) (v:Bool) (h l:Int) (s1 s2 s3:List UInt8) (a b c d e f g:Int):PV.a [.s n, .i .i64 t, .i .i64 u, .b v, .i .u64 h, .i .u64 l, .s s1, .s s2, .s s3, .i .i64 a, .i .i64 b, .i .i64 c, .i .i64 d, .i .i64 e, .i .i64 f, .i .u64 g]=Rec.pv ⟨n,t,u,⟨v,h,l,s1,s2,s3,a,b,c,d,e,f,g⟩⟩:=rfl
theorem Ep (x:Dat):(⟨x.v6,x.hi,x.lo,x.host,x.mail,x.text,x.a,x.b,x.c,x.d,x.e,x.f,x.bits⟩:Dat)=x:=rfl
theorem En9 (x:Rec):(⟨x.name,x.typ,x.ttl,x.data⟩:Rec)=x:=rfl
theorem Ch8 (x:Dat):PV.flat x.pv=true:=rfl
theorem Ch7 (x:Rec):PV.flat x.pv=true:=rfl
theorem zm (x:Dat):PV.flat (Hk x)=true:=rfl
theorem El1 (x:Rec):Kg 16 [x.pv]=some (Af [x]):=rfl
theorem d3 (l:List Rec):F9 (Af l)=some (.i .i64 (l.length:Int)):=by simp [Af,F9]
theorem Ld (l:List Rec) (k:IntKind) (z:Int) (h:0≤z):Iz 16 (Af l) (.i k z)=(l[z.toNat]?).map Rec.pv:=by simp [Af,zf _ _ _ _ h]
theorem Bm5 (l:List Rec) (x:Rec) (h:l.length+1≤1073741824):Gt 16 (Af l) (Af [x])=some (Af (l++[x])):=by have:=Wr 16 (l.map Rec.pv) [x.pv] (by simpa using h);simpa [Af] using this
theorem Ic (l m:List Rec) (h:l.length+m.length≤1073741824):Gt 16 (Af l) (Af m)=some (Af (l++m)):=by have:=Wr 16 (l.map Rec.pv) (m.map Rec.pv) (by simpa using h);simpa [Af] using this
theorem Cz1:PV.l 16 []=Af []:=rfl
theorem Hg (l:List Rec) (k k':IntKind) (a b:Int) (h1:0≤a) (h2:a≤b) (h3:b≤(l.length:Int)):H0 16 (Af l) (.i k a) (.i k' b)=some (Af ((l.take b.toNat).drop a.toNat)):=by have:=xp 16 (l.map Rec.pv) k k' a b h1 h2 (by simpa using h3);simpa [Af] using this
theorem Ed6 (l:List Rec) (k:IntKind) (z:Int) (n:List UInt8) (t u:Int) (v:Bool) (h w:Int) (s1 s2 s3:List UInt8) (a b c d e f g:Int) (h0:0≤z) (h1:z<(l.length:Int)):
  Rp 16 0 [.s n, .i .i64 t, .i .i64 u, .b v, .i .u64 h, .i .u64 w, .s s1, .s s2, .s s3, .i .i64 a, .i .i64 b, .i .i64 c, .i .i64 d, .i .i64 e, .i .i64 f, .i .u64 g] (Af l) (.i k z)=some (Af (l.set z.toNat ⟨n,t,u,⟨v,h,w,s1,s2,s3,a,b,c,d,e,f,g⟩⟩)):=by
 have h2:z.toNat<l.length:=by omega
 have h3:(l.map Rec.pv)[z.toNat]? =some (l[z.toNat].pv):=by simp [h2]
 simp only [Rp,Af,h0,h3,and_self,if_true,Aw];have h4:N7 (l[z.toNat].pv) 0 [.s n, .i .i64 t, .i .i64 u, .b v, .i .u64 h, .i .u64 w, .s s1, .s s2, .s s3, .i .i64 a, .i .i64 b, .i .i64 c, .i .i64 d, .i .i64 e, .i .i64 f, .i .u64 g]=some (Rec.pv ⟨n,t,u,⟨v,h,w,s1,s2,s3,a,b,c,d,e,f,g⟩⟩):=rfl;rw [h4];simp [List.map_set]
theorem p5 (l:List Rec):Hf (Af l)=some (Af l):=rfl
theorem Cf5 (l:List (List UInt8)):F9 (Cr l)=some (.i .i64 (l.length:Int)):=by simp [Cr,F9]
theorem Cg9 (l:List (List UInt8)) (k:IntKind) (z:Int) (h:0≤z):Iz 1 (Cr l) (.i k z)=(l[z.toNat]?).map PV.s:=by simp [Cr,zf _ _ _ _ h]
theorem El0 (x:List UInt8):Kg 1 [.s x]=some (Cr [x]):=rfl
theorem Cx5:PV.l 1 []=Cr []:=rfl
theorem Bm4 (l:List (List UInt8)) (x:List UInt8) (h:l.length+1≤1073741824):Gt 1 (Cr l) (Cr [x])=some (Cr (l++[x])):=by have:=Wr 1 (l.map PV.s) [.s x] (by simpa using h);simpa [Cr] using this
theorem Cn5 (l m:List (List UInt8)) (h:l.length+m.length≤1073741824):Gt 1 (Cr l) (Cr m)=some (Cr (l++m)):=by have:=Wr 1 (l.map PV.s) (m.map PV.s) (by simpa using h);simpa [Cr] using this
theorem Cf1 (l:List (List UInt8)) (k k':IntKind) (a b:Int) (h1:0≤a) (h2:a≤b) (h3:b≤(l.length:Int)):H0 1 (Cr l) (.i k a) (.i k' b)=some (Cr ((l.take b.toNat).drop a.toNat)):=by have:=xp 1 (l.map PV.s) k k' a b h1 h2 (by simpa using h3);simpa [Cr] using this
theorem Cy3 (l:List (List UInt8)) (k:IntKind) (z:Int) (x:List UInt8) (h0:0≤z) (h1:z<(l.length:Int)):Rp 1 0 [.s x] (Cr l) (.i k z)=some (Cr (l.set z.toNat x)):=by
 have h2:z.toNat<l.length:=by omega
 have h3:(l.map PV.s)[z.toNat]? =some (.s l[z.toNat]):=by simp [h2]
 simp only [Rp,Cr,h0,h3,and_self,if_true,Aw];have h4:N7 (.s l[z.toNat]) 0 [.s x]=some (.s x):=rfl;rw [h4];simp [List.map_set]
theorem Cy9 (n:Int) (h0:0≤n) (h1:n≤1073741824):J8 1 (.i .i64 n) (.s [])=some (Cr (List.replicate n.toNat [])):=by
 have h2:n≤(LIM:Int):=by simp only [LIM];omega
 have h3:(PV.s []).cells.length=1:=rfl;simp only [J8,h0,h2,h3,and_self,if_true];simp [Cr]
theorem sb (l:List (List UInt8)):Bc 0 (Cr l)=some (Cr l):=rfl
theorem sl (l:List Rec):Bc 0 (Af l)=some (Af l):=rfl
theorem pr (l:List (List UInt8)):Hf (Cr l)=some (Cr l):=rfl
theorem Gw7 (neg:Bool) (x y:Dat):Jw neg true [.b,(.i .u64),(.i .u64), .s, .s, .s,(.i .i64),(.i .i64),(.i .i64),(.i .i64),(.i .i64),(.i .i64),(.i .u64)] x.pv y.pv=some (.b (if neg then decide (x≠y) else decide (x=y))):=by
 have:Fx [.b,(.i .u64),(.i .u64), .s, .s, .s,(.i .i64),(.i .i64),(.i .i64),(.i .i64),(.i .i64),(.i .i64),(.i .u64)] x.cells y.cells=some (decide (x=y)):=by simp only [Dat.cells,Fx,Bp9,if_true,Ak];rw [Ef];cases x;cases y;simp
 simp only [Jw,Dat.pv,this,A3];cases neg<;>simp
theorem Gw6 (neg:Bool) (x y:Rec):Jw neg true [.s,(.i .i64),(.i .i64), .b,(.i .u64),(.i .u64), .s, .s, .s,(.i .i64),(.i .i64),(.i .i64),(.i .i64),(.i .i64),(.i .i64),(.i .u64)] x.pv y.pv=some (.b (if neg then decide (x≠y) else decide (x=y))):=by
 have:Fx [.s,(.i .i64),(.i .i64), .b,(.i .u64),(.i .u64), .s, .s, .s,(.i .i64),(.i .i64),(.i .i64),(.i .i64),(.i .i64),(.i .i64),(.i .u64)] x.cells y.cells=some (decide (x=y)):=by simp only [Rec.cells,Dat.cells,Fx,Bp9,if_true,Ak];rw [Ef];rcases x with ⟨_,_,_,⟨⟩⟩;rcases y with ⟨_,_,_,⟨⟩⟩;simp [and_assoc]
 simp only [Jw,Rec.pv,this,A3];cases neg<;>simp
set_option linter.defProp false in
def EVP:=(And.intro @Cy3 (And.intro @Cy9 (And.intro @Ed6 (And.intro @Ec8 (And.intro @Em6 (And.intro @Uq (And.intro @Uv (And.intro @tv (And.intro @tq (And.intro @tj (And.intro @s9 (And.intro @s8 (And.intro @s7 (And.intro @s6 (And.intro @s5 (And.intro @sr (And.intro @sn (And.intro @jr (And.intro @jp (And.intro @jm (And.intro @jl (And.intro @jh (And.intro @jg (And.intro @Ed0 (And.intro @Uw (And.intro @Em8 (And.intro @uy (And.intro @ux (And.intro @uw (And.intro @uv (And.intro @uq (And.intro @uk (And.intro @uj (And.intro @t9 (And.intro @t8 (And.intro @t7 (And.intro @kv (And.intro @kq (And.intro @kj (And.intro @Cl1 (And.intro @Cx2 (And.intro @ky (And.intro @kx (And.intro @kw (And.intro @Cl0 (And.intro @Cx0 (And.intro @jf (And.intro @jd (And.intro @eg (And.intro @Ch4 (And.intro @Ep (And.intro @En9 (And.intro @Ch8 (And.intro @Ch7 (And.intro @zm (And.intro @El1 (And.intro @d3 (And.intro @Ld (And.intro @Bm5 (And.intro @Ic (And.intro @Cz1 (And.intro @Hg (And.intro @p5 (And.intro @Cf5 (And.intro @Cg9 (And.intro @El0 (And.intro @Cx5 (And.intro @Bm4 (And.intro @Cn5 (And.intro @Cf1 (And.intro @sb (And.intro @sl (And.intro @pr (And.intro @Gw7 @Gw6))))))))))))))))))))))))))))))))))))))))))))))))))))))))))))))))))))))))))
end Go.X
