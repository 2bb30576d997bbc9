/- The program's data. -/
import Derived.Test.YtkpbcoeiijddpaaGreatDoorRrsetSetsG6
open Bool renaming eq_iff_iff→Fv
open Option renaming bind_some→Aw,map_some→A3
open Option.some renaming injEq→Ak
set_option maxHeartbeats 1000000
set_option linter.unusedVariables false
set_option linter.unusedSimpArgs false
namespace Go.X
open Go
structure Dat where
 v6:Bool
 hi:Int
 lo:Int
 host:List UInt8
 mail:List UInt8
 text:List UInt8
 a:Int
 b:Int
 c:Int
 d:Int
 e:Int
 f:Int
 bits:Int
 deriving DecidableEq
structure Rec where
 name:List UInt8
 typ:Int
 ttl:Int
 data:Dat
 deriving DecidableEq
structure Zone where
 origin:List UInt8
 recs:List Rec
 deriving DecidableEq
def X0 (x:Int):Prop:= -9223372036854775808≤x∧x≤9223372036854775807
def Gr3 (x:Int):Prop:=0≤x∧x≤18446744073709551615
def d8 (x:List UInt8):Prop:=x.length≤9223372036854775807
structure Dat.wf (x:Dat):Prop where
 hi:Gr3 x.hi
 lo:Gr3 x.lo
 host:d8 x.host
 mail:d8 x.mail
 text:d8 x.text
 a:X0 x.a
 b:X0 x.b
 c:X0 x.c
 d:X0 x.d
 e:X0 x.e
 f:X0 x.f
 bits:Gr3 x.bits
structure Rec.wf (r:Rec):Prop where
 name:d8 r.name
 typ:X0 r.typ
 ttl:X0 r.ttl
 data:r.data.wf
def Vb (l:List Rec):Prop:=l.length≤9223372036854775807∧∀r∈l,r.wf
structure Zone.wf (z:Zone):Prop where
 origin:d8 z.origin
 recs:Vb z.recs
def Dat.cells (x:Dat):List PV:=[.b x.v6, .i .u64 x.hi, .i .u64 x.lo, .s x.host, .s x.mail, .s x.text, .i .i64 x.a, .i .i64 x.b, .i .i64 x.c, .i .i64 x.d, .i .i64 x.e, .i .i64 x.f, .i .u64 x.bits]
def Dat.pv (x:Dat):PV:= .a x.cells
def Rec.cells (x:Rec):List PV:= .s x.name:: .i .i64 x.typ:: .i .i64 x.ttl::x.data.cells
def Rec.pv (x:Rec):PV:= .a x.cells
def Al (l:List Rec):PV:= .l 16 (l.map Rec.pv)
def Zone.pv (x:Zone):PV:= .a [.s x.origin,Al x.recs]
def Cp (l:List (List UInt8)):PV:= .l 1 (l.map .s)
def Hd (x:Dat):PV:= .a [.b x.v6, .i .u64 x.hi, .i .u64 x.lo]
theorem En5 (r:Rec):Iy 0 16 r.pv=some r.pv:=rfl
theorem Fq0 (r:Rec):Nr 16 r.pv=some r.pv:=rfl
theorem Ut (r:Rec):Iy 3 13 r.pv=some r.data.pv:=rfl
theorem U0 (r:Rec):Iy 3 3 r.pv=some (Hd r.data):=rfl
theorem vh (r:Rec):Bz 0 r.pv=some (.s r.name):=rfl
theorem vg (r:Rec):Bz 1 r.pv=some (.i .i64 r.typ):=rfl
theorem vf (r:Rec):Bz 2 r.pv=some (.i .i64 r.ttl):=rfl
theorem vc (r:Rec):Bz 3 r.pv=some (.b r.data.v6):=rfl
theorem vb (r:Rec):Bz 4 r.pv=some (.i .u64 r.data.hi):=rfl
theorem vz (r:Rec):Bz 5 r.pv=some (.i .u64 r.data.lo):=rfl
theorem vw (r:Rec):Bz 6 r.pv=some (.s r.data.host):=rfl
theorem vv (r:Rec):Bz 7 r.pv=some (.s r.data.mail):=rfl
theorem vq (r:Rec):Bz 8 r.pv=some (.s r.data.text):=rfl
theorem vk (r:Rec):Bz 9 r.pv=some (.i .i64 r.data.a):=rfl
theorem lq (r:Rec):Bz 10 r.pv=some (.i .i64 r.data.b):=rfl
theorem lj (r:Rec):Bz 11 r.pv=some (.i .i64 r.data.c):=rfl
theorem kt (r:Rec):Bz 12 r.pv=some (.i .i64 r.data.d):=rfl
theorem kr (r:Rec):Bz 13 r.pv=some (.i .i64 r.data.e):=rfl
theorem km (r:Rec):Bz 14 r.pv=some (.i .i64 r.data.f):=rfl
theorem kg (r:Rec):Bz 15 r.pv=some (.i .u64 r.data.bits):=rfl
theorem En7 (r:Dat):Iy 0 13 r.pv=some r.pv:=rfl
theorem U1 (r:Dat):Iy 0 3 r.pv=some (Hd r):=rfl
theorem Fq2 (r:Dat):Nr 13 r.pv=some r.pv:=rfl
theorem wg (r:Dat):Bz 0 r.pv=some (.b r.v6):=rfl
theorem wd (r:Dat):Bz 1 r.pv=some (.i .u64 r.hi):=rfl
theorem wb (r:Dat):Bz 2 r.pv=some (.i .u64 r.lo):=rfl
theorem wz (r:Dat):Bz 3 r.pv=some (.s r.host):=rfl
theorem wx (r:Dat):Bz 4 r.pv=some (.s r.mail):=rfl
theorem ww (r:Dat):Bz 5 r.pv=some (.s r.text):=rfl
theorem wv (r:Dat):Bz 6 r.pv=some (.i .i64 r.a):=rfl
theorem wq (r:Dat):Bz 7 r.pv=some (.i .i64 r.b):=rfl
theorem wk (r:Dat):Bz 8 r.pv=some (.i .i64 r.c):=rfl
theorem wj (r:Dat):Bz 9 r.pv=some (.i .i64 r.d):=rfl
theorem lp (r:Dat):Bz 10 r.pv=some (.i .i64 r.e):=rfl
theorem ln (r:Dat):Bz 11 r.pv=some (.i .i64 r.f):=rfl
theorem lm (r:Dat):Bz 12 r.pv=some (.i .u64 r.bits):=rfl
theorem Cp8 (r:Dat):Nr 3 (Hd r)=some (Hd r):=rfl
theorem Cb6 (r:Dat):Iy 0 3 (Hd r)=some (Hd r):=rfl
theorem l5 (r:Dat):Bz 0 (Hd r)=some (.b r.v6):=rfl
theorem l4 (r:Dat):Bz 1 (Hd r)=some (.i .u64 r.hi):=rfl
theorem lr (r:Dat):Bz 2 (Hd r)=some (.i .u64 r.lo):=rfl
theorem Cp7 (r:Zone):Nr 2 r.pv=some r.pv:=rfl
theorem Cb4 (r:Zone):Iy 0 2 r.pv=some r.pv:=rfl
theorem kf (r:Zone):Bz 0 r.pv=some (.s r.origin):=rfl
theorem kd (r:Zone):Bz 1 r.pv=some (Al r.recs):=rfl
theorem gq (v:Bool) (h l:Int) (s1 s2 s3:List UInt8) (a b c d e f g:Int):PV.a [.b v, .i .u64 h, .i .u64 l, .s s1, .s s2, .s s3, .i .i64 a, .i .i64 b, .i .i64 c, .i .i64 d, .i .i64 e, .i .i64 f, .i .u64 g]=Dat.pv ⟨v,h,l,s1,s2,s3,a,b,c,d,e,f,g⟩:=rfl
theorem Cp1 (n:List UInt8) (t u:Int) (v:Bool) (h l:Int) (s1 s2 s3:List UInt8) (a b c d e f g:Int):PV.a [.s n, .i .i64 t, .i .i64 u, .b v, .i .u64 h, .i .u64 l, .s s1, .s s2, .s s3, .i .i64 a, .i .i64 b, .i .i64 c, .i .i64 d, .i .i64 e, .i .i64 f, .i .u64 g]=Rec.pv ⟨n,t,u,⟨v,h,l,s1,s2,s3,a,b,c,d,e,f,g⟩⟩:=rfl
theorem Er (x:Dat):(⟨x.v6,x.hi,x.lo,x.host,x.mail,x.text,x.a,x.b,x.c,x.d,x.e,x.f,x.bits⟩:Dat)=x:=rfl
theorem Fv5 (x:Rec):(⟨x.name,x.typ,x.ttl,x.data⟩:Rec)=x:=rfl
theorem Cp5 (x:Dat):PV.flat x.pv=true:=rfl
theorem Cp4 (x:Rec):PV.flat x.pv=true:=rfl
theorem Av3 (x:Dat):PV.flat (Hd x)=true:=rfl
theorem Fj3 (x:Rec):Jx 16 [x.pv]=some (Al [x]):=rfl
theorem Cm0 (l:List Rec):Fy (Al l)=some (.i .i64 (l.length:Int)):=by simp [Al,Fy]
theorem L0 (l:List Rec) (k:IntKind) (z:Int) (h:0≤z):H8 16 (Al l) (.i k z)=(l[z.toNat]?).map Rec.pv:=by simp [Al,Wr _ _ _ _ h]
theorem Bs8 (l:List Rec) (x:Rec) (h:l.length+1≤1073741824):Hc 16 (Al l) (Al [x])=some (Al (l++[x])):=by have:=Pt 16 (l.map Rec.pv) [x.pv] (by simpa using h);simpa [Al] using this
theorem T4 (l m:List Rec) (h:l.length+m.length≤1073741824):Hc 16 (Al l) (Al m)=some (Al (l++m)):=by have:=Pt 16 (l.map Rec.pv) (m.map Rec.pv) (by simpa using h);simpa [Al] using this
theorem Cd7:PV.l 16 []=Al []:=rfl
theorem J8 (l:List Rec) (k k':IntKind) (a b:Int) (h1:0≤a) (h2:a≤b) (h3:b≤(l.length:Int)):Il 16 (Al l) (.i k a) (.i k' b)=some (Al ((l.take b.toNat).drop a.toNat)):=by have:=zl 16 (l.map Rec.pv) k k' a b h1 h2 (by simpa using h3);simpa [Al] using this
theorem Ep3 (l:List Rec) (k:IntKind) (z:Int) (n:List UInt8) (t u:Int) (v:Bool) (h w:Int) (s1 s2 s3:List UInt8) (a b c d e f g:Int) (h0:0≤z) (h1:z<(l.length:Int)):
  Ld 16 0 [.s n, .i .i64 t, .i .i64 u, .b v, .i .u64 h, .i .u64 w, .s s1, .s s2, .s s3, .i .i64 a, .i .i64 b, .i .i64 c, .i .i64 d, .i .i64 e, .i .i64 f, .i .u64 g] (Al l) (.i k z)=some (Al (l.set z.toNat ⟨n,t,u,⟨v,h,w,s1,s2,s3,a,b,c,d,e,f,g⟩⟩)):=by
 have h2:z.toNat<l.length:=by omega
 have h3:(l.map Rec.pv)[z.toNat]? =some (l[z.toNat].pv):=by simp [h2]
 simp only [Ld,Al,h0,h3,and_self,if_true,Aw];have h4:Mf (l[z.toNat].pv) 0 [.s n, .i .i64 t, .i .i64 u, .b v, .i .u64 h, .i .u64 w, .s s1, .s s2, .s s3, .i .i64 a, .i .i64 b, .i .i64 c, .i .i64 d, .i .i64 e, .i .i64 f, .i .u64 g]=some (Rec.pv ⟨n,t,u,⟨v,h,w,s1,s2,s3,a,b,c,d,e,f,g⟩⟩):=rfl;rw [h4];simp [List.map_set]
theorem sj (l:List Rec):G1 (Al l)=some (Al l):=rfl
theorem Cl9 (l:List (List UInt8)):Fy (Cp l)=some (.i .i64 (l.length:Int)):=by simp [Cp,Fy]
theorem Cn5 (l:List (List UInt8)) (k:IntKind) (z:Int) (h:0≤z):H8 1 (Cp l) (.i k z)=(l[z.toNat]?).map PV.s:=by simp [Cp,Wr _ _ _ _ h]
theorem Fj1 (x:List UInt8):Jx 1 [.s x]=some (Cp [x]):=rfl
theorem Cb9:PV.l 1 []=Cp []:=rfl
theorem Bs6 (l:List (List UInt8)) (x:List UInt8) (h:l.length+1≤1073741824):Hc 1 (Cp l) (Cp [x])=some (Cp (l++[x])):=by have:=Pt 1 (l.map PV.s) [.s x] (by simpa using h);simpa [Cp] using this
theorem Ct4 (l m:List (List UInt8)) (h:l.length+m.length≤1073741824):Hc 1 (Cp l) (Cp m)=some (Cp (l++m)):=by have:=Pt 1 (l.map PV.s) (m.map PV.s) (by simpa using h);simpa [Cp] using this
theorem Cl5 (l:List (List UInt8)) (k k':IntKind) (a b:Int) (h1:0≤a) (h2:a≤b) (h3:b≤(l.length:Int)):Il 1 (Cp l) (.i k a) (.i k' b)=some (Cp ((l.take b.toNat).drop a.toNat)):=by have:=zl 1 (l.map PV.s) k k' a b h1 h2 (by simpa using h3);simpa [Cp] using this
theorem Cc9 (l:List (List UInt8)) (k:IntKind) (z:Int) (x:List UInt8) (h0:0≤z) (h1:z<(l.length:Int)):Ld 1 0 [.s x] (Cp l) (.i k z)=some (Cp (l.set z.toNat x)):=by
 have h2:z.toNat<l.length:=by omega
 have h3:(l.map PV.s)[z.toNat]? =some (.s l[z.toNat]):=by simp [h2]
 simp only [Ld,Cp,h0,h3,and_self,if_true,Aw];have h4:Mf (.s l[z.toNat]) 0 [.s x]=some (.s x):=rfl;rw [h4];simp [List.map_set]
theorem Cd5 (n:Int) (h0:0≤n) (h1:n≤1073741824):Ll 1 (.i .i64 n) (.s [])=some (Cp (List.replicate n.toNat [])):=by
 have h2:n≤(LIM:Int):=by simp only [LIM];omega
 have h3:(PV.s []).cells.length=1:=rfl;simp only [Ll,h0,h2,h3,and_self,if_true];simp [Cp]
theorem u4 (l:List (List UInt8)):Bz 0 (Cp l)=some (Cp l):=rfl
theorem vj (l:List Rec):Bz 0 (Al l)=some (Al l):=rfl
theorem rp (l:List (List UInt8)):G1 (Cp l)=some (Cp l):=rfl
theorem Gg0 (neg:Bool) (x y:Dat):Jd neg true [.b,(.i .u64),(.i .u64), .s, .s, .s,(.i .i64),(.i .i64),(.i .i64),(.i .i64),(.i .i64),(.i .i64),(.i .u64)] x.pv y.pv=some (.b (if neg then decide (x≠y) else decide (x=y))):=by
 have:Ff [.b,(.i .u64),(.i .u64), .s, .s, .s,(.i .i64),(.i .i64),(.i .i64),(.i .i64),(.i .i64),(.i .i64),(.i .u64)] x.cells y.cells=some (decide (x=y)):=by simp only [Dat.cells,Ff,Cj6,if_true,Ak];rw [Fv];cases x;cases y;simp
 simp only [Jd,Dat.pv,this,A3];cases neg<;>simp
theorem Gf9 (neg:Bool) (x y:Rec):Jd neg true [.s,(.i .i64),(.i .i64), .b,(.i .u64),(.i .u64), .s, .s, .s,(.i .i64),(.i .i64),(.i .i64),(.i .i64),(.i .i64),(.i .i64),(.i .u64)] x.pv y.pv=some (.b (if neg then decide (x≠y) else decide (x=y))):=by
 have:Ff [.s,(.i .i64),(.i .i64), .b,(.i .u64),(.i .u64), .s, .s, .s,(.i .i64),(.i .i64),(.i .i64),(.i .i64),(.i .i64),(.i .i64),(.i .u64)] x.cells y.cells=some (decide (x=y)):=by simp only [Rec.cells,Dat.cells,Ff,Cj6,if_true,Ak];rw [Fv];rcases x with ⟨_,_,_,⟨⟩⟩;rcases y with ⟨_,_,_,⟨⟩⟩;simp [and_assoc]
 simp only [Jd,Rec.pv,this,A3];cases neg<;>simp
set_option linter.defProp false in
def EVP:=(And.intro @Cc9 (And.intro @Cd5 (And.intro @Ep3 (And.intro @En5 (And.intro @Fq0 (And.intro @Ut (And.intro @U0 (And.intro @vh (And.intro @vg (And.intro @vf (And.intro @vc (And.intro @vb (And.intro @vz (And.intro @vw (And.intro @vv (And.intro @vq (And.intro @vk (And.intro @lq (And.intro @lj (And.intro @kt (And.intro @kr (And.intro @km (And.intro @kg (And.intro @En7 (And.intro @U1 (And.intro @Fq2 (And.intro @wg (And.intro @wd (And.intro @wb (And.intro @wz (And.intro @wx (And.intro @ww (And.intro @wv (And.intro @wq (And.intro @wk (And.intro @wj (And.intro @lp (And.intro @ln (And.intro @lm (And.intro @Cp8 (And.intro @Cb6 (And.intro @l5 (And.intro @l4 (And.intro @lr (And.intro @Cp7 (And.intro @Cb4 (And.intro @kf (And.intro @kd (And.intro @gq (And.intro @Cp1 (And.intro @Er (And.intro @Fv5 (And.intro @Cp5 (And.intro @Cp4 (And.intro @Av3 (And.intro @Fj3 (And.intro @Cm0 (And.intro @L0 (And.intro @Bs8 (And.intro @T4 (And.intro @Cd7 (And.intro @J8 (And.intro @sj (And.intro @Cl9 (And.intro @Cn5 (And.intro @Fj1 (And.intro @Cb9 (And.intro @Bs6 (And.intro @Ct4 (And.intro @Cl5 (And.intro @u4 (And.intro @vj (And.intro @rp (And.intro @Gg0 @Gf9))))))))))))))))))))))))))))))))))))))))))))))))))))))))))))))))))))))))))
end Go.X
