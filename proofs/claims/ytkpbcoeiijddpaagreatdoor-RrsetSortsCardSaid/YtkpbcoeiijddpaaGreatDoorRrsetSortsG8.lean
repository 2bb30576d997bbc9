/- The program's data. -/
import Derived.Test.YtkpbcoeiijddpaaGreatDoorRrsetSortsG6
open Bool renaming eq_iff_iff→Fq
open Option renaming bind_some→Aw,map_some→A0
open Option.some renaming injEq→Ak
set_option maxHeartbeats 1000000
set_option linter.unusedVariables false
set_option linter.unusedSimpArgs false
namespace Go.X
open Go
structure Dat where
 v6:Bool
 hi:Int
 lo:Int
 host:List UInt8
 mail:List UInt8
 text:List UInt8
 a:Int
 b:Int
 c:Int
 d:Int
 e:Int
 f:Int
 bits:Int
 deriving DecidableEq
structure Rec where
 name:List UInt8
 typ:Int
 ttl:Int
 data:Dat
 deriving DecidableEq
structure Zone where
 origin:List UInt8
 recs:List Rec
 deriving DecidableEq
def f7 (x:Int):Prop:= -9223372036854775808≤x∧x≤9223372036854775807
def Gm8 (x:Int):Prop:=0≤x∧x≤18446744073709551615
def pj (x:List UInt8):Prop:=x.length≤9223372036854775807
structure Dat.wf (x:Dat):Prop where
 hi:Gm8 x.hi
 lo:Gm8 x.lo
 host:pj x.host
 mail:pj x.mail
 text:pj x.text
 a:f7 x.a
 b:f7 x.b
 c:f7 x.c
 d:f7 x.d
 e:f7 x.e
 f:f7 x.f
 bits:Gm8 x.bits
structure Rec.wf (r:Rec):Prop where
 name:pj r.name
 typ:f7 r.typ
 ttl:f7 r.ttl
 data:r.data.wf
def Vm (l:List Rec):Prop:=l.length≤9223372036854775807∧∀r∈l,r.wf
structure Zone.wf (z:Zone):Prop where
 origin:pj z.origin
 recs:Vm z.recs
def Dat.cells (x:Dat):List PV:=[.b x.v6, .i .u64 x.hi, .i .u64 x.lo, .s x.host, .s x.mail, .s x.text, .i .i64 x.a, .i .i64 x.b, .i .i64 x.c, .i .i64 x.d, .i .i64 x.e, .i .i64 x.f, .i .u64 x.bits]
def Dat.pv (x:Dat):PV:= .a x.cells
def Rec.cells (x:Rec):List PV:= .s x.name:: .i .i64 x.typ:: .i .i64 x.ttl::x.data.cells
def Rec.pv (x:Rec):PV:= .a x.cells
def Al (l:List Rec):PV:= .l 16 (l.map Rec.pv)
def Zone.pv (x:Zone):PV:= .a [.s x.origin,Al x.recs]
def Bg (l:List (List UInt8)):PV:= .l 1 (l.map .s)
def Hz (x:Dat):PV:= .a [.b x.v6, .i .u64 x.hi, .i .u64 x.lo]
theorem Ef2 (r:Rec):I1 0 16 r.pv=some r.pv:=rfl
theorem Ep5 (r:Rec):Pr 16 r.pv=some r.pv:=rfl
theorem U5 (r:Rec):I1 3 13 r.pv=some r.data.pv:=rfl
theorem U6 (r:Rec):I1 3 3 r.pv=some (Hz r.data):=rfl
theorem vq (r:Rec):Bf 0 r.pv=some (.s r.name):=rfl
theorem vk (r:Rec):Bf 1 r.pv=some (.i .i64 r.typ):=rfl
theorem vj (r:Rec):Bf 2 r.pv=some (.i .i64 r.ttl):=rfl
theorem u9 (r:Rec):Bf 3 r.pv=some (.b r.data.v6):=rfl
theorem u7 (r:Rec):Bf 4 r.pv=some (.i .u64 r.data.hi):=rfl
theorem u6 (r:Rec):Bf 5 r.pv=some (.i .u64 r.data.lo):=rfl
theorem u5 (r:Rec):Bf 6 r.pv=some (.s r.data.host):=rfl
theorem u4 (r:Rec):Bf 7 r.pv=some (.s r.data.mail):=rfl
theorem um (r:Rec):Bf 8 r.pv=some (.s r.data.text):=rfl
theorem ul (r:Rec):Bf 9 r.pv=some (.i .i64 r.data.a):=rfl
theorem lv (r:Rec):Bf 10 r.pv=some (.i .i64 r.data.b):=rfl
theorem lq (r:Rec):Bf 11 r.pv=some (.i .i64 r.data.c):=rfl
theorem lj (r:Rec):Bf 12 r.pv=some (.i .i64 r.data.d):=rfl
theorem kt (r:Rec):Bf 13 r.pv=some (.i .i64 r.data.e):=rfl
theorem kr (r:Rec):Bf 14 r.pv=some (.i .i64 r.data.f):=rfl
theorem km (r:Rec):Bf 15 r.pv=some (.i .u64 r.data.bits):=rfl
theorem Ef4 (r:Dat):I1 0 13 r.pv=some r.pv:=rfl
theorem U7 (r:Dat):I1 0 3 r.pv=some (Hz r):=rfl
theorem Ep7 (r:Dat):Pr 13 r.pv=some r.pv:=rfl
theorem wz (r:Dat):Bf 0 r.pv=some (.b r.v6):=rfl
theorem wx (r:Dat):Bf 1 r.pv=some (.i .u64 r.hi):=rfl
theorem ww (r:Dat):Bf 2 r.pv=some (.i .u64 r.lo):=rfl
theorem wv (r:Dat):Bf 3 r.pv=some (.s r.host):=rfl
theorem wq (r:Dat):Bf 4 r.pv=some (.s r.mail):=rfl
theorem wk (r:Dat):Bf 5 r.pv=some (.s r.text):=rfl
theorem wj (r:Dat):Bf 6 r.pv=some (.i .i64 r.a):=rfl
theorem v8 (r:Dat):Bf 7 r.pv=some (.i .i64 r.b):=rfl
theorem v7 (r:Dat):Bf 8 r.pv=some (.i .i64 r.c):=rfl
theorem vt (r:Dat):Bf 9 r.pv=some (.i .i64 r.d):=rfl
theorem lr (r:Dat):Bf 10 r.pv=some (.i .i64 r.e):=rfl
theorem lp (r:Dat):Bf 11 r.pv=some (.i .i64 r.f):=rfl
theorem ln (r:Dat):Bf 12 r.pv=some (.i .u64 r.bits):=rfl
theorem Cp5 (r:Dat):Pr 3 (Hz r)=some (Hz r):=rfl
theorem Cb0 (r:Dat):I1 0 3 (Hz r)=some (Hz r):=rfl
theorem l6 (r:Dat):Bf 0 (Hz r)=some (.b r.v6):=rfl
theorem l5 (r:Dat):Bf 1 (Hz r)=some (.i .u64 r.hi):=rfl
theorem l4 (r:Dat):Bf 2 (Hz r)=some (.i .u64 r.lo):=rfl
theorem Cp4 (r:Zone):Pr 2 r.pv=some r.pv:=rfl
theorem Cz8 (r:Zone):I1 0 2 r.pv=some r.pv:=rfl
theorem kg (r:Zone):Bf 0 r.pv=some (.s r.origin):=rfl
theorem kf (r:Zone):Bf 1 r.pv=some (Al r.recs):=rfl
theorem gj (v:Bool) (h l:Int) (s1 s2 s3:List UInt8) (a b c d e f g:Int):PV.a [.b v, .i .u64 h, .i .u64 l, .s s1, .s s2, .s s3, .i .i64 a, .i .i64 b, .i .i64 c, .i .i64 d, .i .i64 e, .i .i64 f, .i .u64 g]=Dat.pv ⟨v,h,l,s1,s2,s3,a,b,c,d,e,f,g⟩:=rfl
theorem Cn8 (n:List UInt8) (t u:Int) (v:Bool) (h l:Int) (s1 s2 s3:List UInt8) (a b c d e f g:Int):PV.a [.s n, .i .i64 t, .i .i64 u, .b v, .i .u64 h, .i .u64 l, .s s1, .s s2, .s s3, .i .i64 a, .i .i64 b, .i .i64 c, .i .i64 d, .i .i64 e, .i .i64 f, .i .u64 g]=Rec.pv ⟨n,t,u,⟨v,h,l,s1,s2,s3,a,b,c,d,e,f,g⟩⟩:=rfl
theorem Es (x:Dat):(⟨x.v6,x.hi,x.lo,x.host,x.mail,x.text,x.a,x.b,x.c,x.d,x.e,x.f,x.bits⟩:Dat)=x:=rfl
theorem Er9 (x:Rec):(⟨x.name,x.typ,x.ttl,x.data⟩:Rec)=x:=rfl
theorem Cp2 (x:Dat):PV.flat x.pv=true:=rfl
theorem Cp1 (x:Rec):PV.flat x.pv=true:=rfl
theorem Av1 (x:Dat):PV.flat (Hz x)=true:=rfl
theorem En0 (x:Rec):Lt 16 [x.pv]=some (Al [x]):=rfl
theorem Cl9 (l:List Rec):Gb (Al l)=some (.i .i64 (l.length:Int)):=by simp [Al,Gb]
theorem L4 (l:List Rec) (k:IntKind) (z:Int) (h:0≤z):H6 16 (Al l) (.i k z)=(l[z.toNat]?).map Rec.pv:=by simp [Al,Aq8 _ _ _ _ h]
theorem Bs9 (l:List Rec) (x:Rec) (h:l.length+1≤1073741824):H7 16 (Al l) (Al [x])=some (Al (l++[x])):=by have:=Xf 16 (l.map Rec.pv) [x.pv] (by simpa using h);simpa [Al] using this
theorem Uv (l m:List Rec) (h:l.length+m.length≤1073741824):H7 16 (Al l) (Al m)=some (Al (l++m)):=by have:=Xf 16 (l.map Rec.pv) (m.map Rec.pv) (by simpa using h);simpa [Al] using this
theorem Cd3:PV.l 16 []=Al []:=rfl
theorem J6 (l:List Rec) (k k':IntKind) (a b:Int) (h1:0≤a) (h2:a≤b) (h3:b≤(l.length:Int)):G3 16 (Al l) (.i k a) (.i k' b)=some (Al ((l.take b.toNat).drop a.toNat)):=by have:=zy 16 (l.map Rec.pv) k k' a b h1 h2 (by simpa using h3);simpa [Al] using this
theorem Eg0 (l:List Rec) (k:IntKind) (z:Int) (n:List UInt8) (t u:Int) (v:Bool) (h w:Int) (s1 s2 s3:List UInt8) (a b c d e f g:Int) (h0:0≤z) (h1:z<(l.length:Int)):
  Sg 16 0 [.s n, .i .i64 t, .i .i64 u, .b v, .i .u64 h, .i .u64 w, .s s1, .s s2, .s s3, .i .i64 a, .i .i64 b, .i .i64 c, .i .i64 d, .i .i64 e, .i .i64 f, .i .u64 g] (Al l) (.i k z)=some (Al (l.set z.toNat ⟨n,t,u,⟨v,h,w,s1,s2,s3,a,b,c,d,e,f,g⟩⟩)):=by
 have h2:z.toNat<l.length:=by omega
 have h3:(l.map Rec.pv)[z.toNat]? =some (l[z.toNat].pv):=by simp [h2]
 simp only [Sg,Al,h0,h3,and_self,if_true,Aw];have h4:Ol (l[z.toNat].pv) 0 [.s n, .i .i64 t, .i .i64 u, .b v, .i .u64 h, .i .u64 w, .s s1, .s s2, .s s3, .i .i64 a, .i .i64 b, .i .i64 c, .i .i64 d, .i .i64 e, .i .i64 f, .i .u64 g]=some (Rec.pv ⟨n,t,u,⟨v,h,w,s1,s2,s3,a,b,c,d,e,f,g⟩⟩):=rfl;rw [h4];simp [List.map_set]
theorem rh (l:List Rec):Hr (Al l)=some (Al l):=rfl
theorem Cl8 (l:List (List UInt8)):Gb (Bg l)=some (.i .i64 (l.length:Int)):=by simp [Bg,Gb]
theorem L3 (l:List (List UInt8)) (k:IntKind) (z:Int) (h:0≤z):H6 1 (Bg l) (.i k z)=(l[z.toNat]?).map PV.s:=by simp [Bg,Aq8 _ _ _ _ h]
theorem Em9 (x:List UInt8):Lt 1 [.s x]=some (Bg [x]):=rfl
theorem Cb3:PV.l 1 []=Bg []:=rfl
theorem Bs8 (l:List (List UInt8)) (x:List UInt8) (h:l.length+1≤1073741824):H7 1 (Bg l) (Bg [x])=some (Bg (l++[x])):=by have:=Xf 1 (l.map PV.s) [.s x] (by simpa using h);simpa [Bg] using this
theorem i8 (l m:List (List UInt8)) (h:l.length+m.length≤1073741824):H7 1 (Bg l) (Bg m)=some (Bg (l++m)):=by have:=Xf 1 (l.map PV.s) (m.map PV.s) (by simpa using h);simpa [Bg] using this
theorem J5 (l:List (List UInt8)) (k k':IntKind) (a b:Int) (h1:0≤a) (h2:a≤b) (h3:b≤(l.length:Int)):G3 1 (Bg l) (.i k a) (.i k' b)=some (Bg ((l.take b.toNat).drop a.toNat)):=by have:=zy 1 (l.map PV.s) k k' a b h1 h2 (by simpa using h3);simpa [Bg] using this
theorem Cc3 (l:List (List UInt8)) (k:IntKind) (z:Int) (x:List UInt8) (h0:0≤z) (h1:z<(l.length:Int)):Sg 1 0 [.s x] (Bg l) (.i k z)=some (Bg (l.set z.toNat x)):=by
 have h2:z.toNat<l.length:=by omega
 have h3:(l.map PV.s)[z.toNat]? =some (.s l[z.toNat]):=by simp [h2]
 simp only [Sg,Bg,h0,h3,and_self,if_true,Aw];have h4:Ol (.s l[z.toNat]) 0 [.s x]=some (.s x):=rfl;rw [h4];simp [List.map_set]
theorem d9 (n:Int) (h0:0≤n) (h1:n≤1073741824):K0 1 (.i .i64 n) (.s [])=some (Bg (List.replicate n.toNat [])):=by
 have h2:n≤(LIM:Int):=by simp only [LIM];omega
 have h3:(PV.s []).cells.length=1:=rfl;simp only [K0,h0,h2,h3,and_self,if_true];simp [Bg]
theorem ug (l:List (List UInt8)):Bf 0 (Bg l)=some (Bg l):=rfl
theorem uh (l:List Rec):Bf 0 (Al l)=some (Al l):=rfl
theorem rf (l:List (List UInt8)):Hr (Bg l)=some (Bg l):=rfl
theorem Gz6 (neg:Bool) (x y:Dat):Jc neg true [.b,(.i .u64),(.i .u64), .s, .s, .s,(.i .i64),(.i .i64),(.i .i64),(.i .i64),(.i .i64),(.i .i64),(.i .u64)] x.pv y.pv=some (.b (if neg then decide (x≠y) else decide (x=y))):=by
 have:Fg [.b,(.i .u64),(.i .u64), .s, .s, .s,(.i .i64),(.i .i64),(.i .i64),(.i .i64),(.i .i64),(.i .i64),(.i .u64)] x.cells y.cells=some (decide (x=y)):=by simp only [Dat.cells,Fg,Cj6,if_true,Ak];rw [Fq];cases x;cases y;simp
 simp only [Jc,Dat.pv,this,A0];cases neg<;>simp
theorem Gz5 (neg:Bool) (x y:Rec):Jc neg true [.s,(.i .i64),(.i .i64), .b,(.i .u64),(.i .u64), .s, .s, .s,(.i .i64),(.i .i64),(.i .i64),(.i .i64),(.i .i64),(.i .i64),(.i .u64)] x.pv y.pv=some (.b (if neg then decide (x≠y) else decide (x=y))):=by
 have:Fg [.s,(.i .i64),(.i .i64), .b,(.i .u64),(.i .u64), .s, .s, .s,(.i .i64),(.i .i64),(.i .i64),(.i .i64),(.i .i64),(.i .i64),(.i .u64)] x.cells y.cells=some (decide (x=y)):=by simp only [Rec.cells,Dat.cells,Fg,Cj6,if_true,Ak];rw [Fq];rcases x with ⟨_,_,_,⟨⟩⟩;rcases y with ⟨_,_,_,⟨⟩⟩;simp [and_assoc]
 simp only [Jc,Rec.pv,this,A0];cases neg<;>simp
set_option linter.defProp false in
def EVP:=(And.intro @Cc3 (And.intro @d9 (And.intro @Eg0 (And.intro @Ef2 (And.intro @Ep5 (And.intro @U5 (And.intro @U6 (And.intro @vq (And.intro @vk (And.intro @vj (And.intro @u9 (And.intro @u7 (And.intro @u6 (And.intro @u5 (And.intro @u4 (And.intro @um (And.intro @ul (And.intro @lv (And.intro @lq (And.intro @lj (And.intro @kt (And.intro @kr (And.intro @km (And.intro @Ef4 (And.intro @U7 (And.intro @Ep7 (And.intro @wz (And.intro @wx (And.intro @ww (And.intro @wv (And.intro @wq (And.intro @wk (And.intro @wj (And.intro @v8 (And.intro @v7 (And.intro @vt (And.intro @lr (And.intro @lp (And.intro @ln (And.intro @Cp5 (And.intro @Cb0 (And.intro @l6 (And.intro @l5 (And.intro @l4 (And.intro @Cp4 (And.intro @Cz8 (And.intro @kg (And.intro @kf (And.intro @gj (And.intro @Cn8 (And.intro @Es (And.intro @Er9 (And.intro @Cp2 (And.intro @Cp1 (And.intro @Av1 (And.intro @En0 (And.intro @Cl9 (And.intro @L4 (And.intro @Bs9 (And.intro @Uv (And.intro @Cd3 (And.intro @J6 (And.intro @rh (And.intro @Cl8 (And.intro @L3 (And.intro @Em9 (And.intro @Cb3 (And.intro @Bs8 (And.intro @i8 (And.intro @J5 (And.intro @ug (And.intro @uh (And.intro @rf (And.intro @Gz6 @Gz5))))))))))))))))))))))))))))))))))))))))))))))))))))))))))))))))))))))))))
end Go.X
