/- The program's data. -/
import Derived.Test.YtkpbcoeiijddpaaDoorRrsetTotalG4
open Bool renaming eq_iff_iff→F9
open Option renaming bind_some→Av,map_some→Ap
open Option.some renaming injEq→Ak
set_option maxHeartbeats 1000000
set_option linter.unusedVariables false
set_option linter.unusedSimpArgs false
namespace Go.X
open Go
structure Dat where
 v6:Bool
 hi:Int
 lo:Int
 host:List UInt8
 mail:List UInt8
 text:List UInt8
 a:Int
 b:Int
 c:Int
 d:Int
 e:Int
 f:Int
 bits:Int
 deriving DecidableEq
structure Rec where
 name:List UInt8
 typ:Int
 ttl:Int
 data:Dat
 deriving DecidableEq
structure Zone where
 origin:List UInt8
 recs:List Rec
 deriving DecidableEq
def Vv (x:Int):Prop:= -9223372036854775808≤x∧x≤9223372036854775807
def Bf2 (x:Int):Prop:=0≤x∧x≤18446744073709551615
def rn (x:List UInt8):Prop:=x.length≤9223372036854775807
structure Dat.wf (x:Dat):Prop where
 hi:Bf2 x.hi
 lo:Bf2 x.lo
 host:rn x.host
 mail:rn x.mail
 text:rn x.text
 a:Vv x.a
 b:Vv x.b
 c:Vv x.c
 d:Vv x.d
 e:Vv x.e
 f:Vv x.f
 bits:Bf2 x.bits
structure Rec.wf (r:Rec):Prop where
 name:rn r.name
 typ:Vv r.typ
 ttl:Vv r.ttl
 data:r.data.wf
def s6 (l:List Rec):Prop:=l.length≤9223372036854775807∧∀r∈l,r.wf
structure Zone.wf (z:Zone):Prop where
 origin:rn z.origin
 recs:s6 z.recs
def Dat.cells (x:Dat):List PV:=[.b x.v6, .i .u64 x.hi, .i .u64 x.lo, .s x.host, .s x.mail, .s x.text, .i .i64 x.a, .i .i64 x.b, .i .i64 x.c, .i .i64 x.d, .i .i64 x.e, .i .i64 x.f, .i .u64 x.bits]
def Dat.pv (x:Dat):PV:= .a x.cells
def Rec.cells (x:Rec):List PV:= .s x.name:: .i .i64 x.typ:: .i .i64 x.ttl::x.data.cells
def Rec.pv (x:Rec):PV:= .a x.cells
def Ct (l:List Rec):PV:= .l 16 (l.map Rec.pv)
def Zone.pv (x:Zone):PV:= .a [.s x.origin,Ct x.recs]
def Cn (l:List (List UInt8)):PV:= .l 1 (l.map .s)
def G2 (x:Dat):PV:= .a [.b x.v6, .i .u64 x.hi, .i .u64 x.lo]
theorem Al4 (r:Rec):Mt 0 16 r.pv=some r.pv:=rfl
theorem At9 (r:Rec):Rn 16 r.pv=some r.pv:=rfl
theorem Qq (r:Rec):Mt 3 13 r.pv=some r.data.pv:=rfl
theorem Qv (r:Rec):Mt 3 3 r.pv=some (G2 r.data):=rfl
theorem dv (r:Rec):Bv 0 r.pv=some (.s r.name):=rfl
theorem dq (r:Rec):Bv 1 r.pv=some (.i .i64 r.typ):=rfl
theorem dk (r:Rec):Bv 2 r.pv=some (.i .i64 r.ttl):=rfl
theorem dj (r:Rec):Bv 3 r.pv=some (.b r.data.v6):=rfl
theorem c9 (r:Rec):Bv 4 r.pv=some (.i .u64 r.data.hi):=rfl
theorem c8 (r:Rec):Bv 5 r.pv=some (.i .u64 r.data.lo):=rfl
theorem c7 (r:Rec):Bv 6 r.pv=some (.s r.data.host):=rfl
theorem c6 (r:Rec):Bv 7 r.pv=some (.s r.data.mail):=rfl
theorem c5 (r:Rec):Bv 8 r.pv=some (.s r.data.text):=rfl
theorem ct (r:Rec):Bv 9 r.pv=some (.i .i64 r.data.a):=rfl
theorem Yw (r:Rec):Bv 10 r.pv=some (.i .i64 r.data.b):=rfl
theorem Yv (r:Rec):Bv 11 r.pv=some (.i .i64 r.data.c):=rfl
theorem Yq (r:Rec):Bv 12 r.pv=some (.i .i64 r.data.d):=rfl
theorem Yk (r:Rec):Bv 13 r.pv=some (.i .i64 r.data.e):=rfl
theorem Yj (r:Rec):Bv 14 r.pv=some (.i .i64 r.data.f):=rfl
theorem X9 (r:Rec):Bv 15 r.pv=some (.i .u64 r.data.bits):=rfl
theorem Al5 (r:Dat):Mt 0 13 r.pv=some r.pv:=rfl
theorem Qw (r:Dat):Mt 0 3 r.pv=some (G2 r):=rfl
theorem Bj0 (r:Dat):Rn 13 r.pv=some r.pv:=rfl
theorem dm (r:Dat):Bv 0 r.pv=some (.b r.v6):=rfl
theorem dl (r:Dat):Bv 1 r.pv=some (.i .u64 r.hi):=rfl
theorem dh (r:Dat):Bv 2 r.pv=some (.i .u64 r.lo):=rfl
theorem df (r:Dat):Bv 3 r.pv=some (.s r.host):=rfl
theorem dc (r:Dat):Bv 4 r.pv=some (.s r.mail):=rfl
theorem db (r:Dat):Bv 5 r.pv=some (.s r.text):=rfl
theorem dz (r:Dat):Bv 6 r.pv=some (.i .i64 r.a):=rfl
theorem dy (r:Dat):Bv 7 r.pv=some (.i .i64 r.b):=rfl
theorem dx (r:Dat):Bv 8 r.pv=some (.i .i64 r.c):=rfl
theorem dw (r:Dat):Bv 9 r.pv=some (.i .i64 r.d):=rfl
theorem Yz (r:Dat):Bv 10 r.pv=some (.i .i64 r.e):=rfl
theorem Yy (r:Dat):Bv 11 r.pv=some (.i .i64 r.f):=rfl
theorem Yx (r:Dat):Bv 12 r.pv=some (.i .u64 r.bits):=rfl
theorem wh (r:Dat):Rn 3 (G2 r)=some (G2 r):=rfl
theorem rf (r:Dat):Mt 0 3 (G2 r)=some (G2 r):=rfl
theorem Yd (r:Dat):Bv 0 (G2 r)=some (.b r.v6):=rfl
theorem Yc (r:Dat):Bv 1 (G2 r)=some (.i .u64 r.hi):=rfl
theorem Yb (r:Dat):Bv 2 (G2 r)=some (.i .u64 r.lo):=rfl
theorem wg (r:Zone):Rn 2 r.pv=some r.pv:=rfl
theorem rc (r:Zone):Mt 0 2 r.pv=some r.pv:=rfl
theorem W7 (r:Zone):Bv 0 r.pv=some (.s r.origin):=rfl
theorem W6 (r:Zone):Bv 1 r.pv=some (Ct r.recs):=rfl
theorem Pv (v:Bool) (h l:Int) (s1 s2 s3:List UInt8) (a b c d e f g:Int):PV.a [.b v, .i .u64 h, .i .u64 l, .s s1, .s s2, .s s3, .i .i64 a, .i .i64 b, .i .i64 c, .i .i64 d, .i .i64 e, .i .i64 f, .i .u64 g]=Dat.pv ⟨v,h,l,s1,s2,s3,a,b,c,d,e,f,g⟩:=rfl
theorem wx (n:List UInt8) (t u:Int) (v:Bool) (h l:Int) (s1 s2 s3:List UInt8) (a b c d e f g:Int):PV.a [.s n, .i .i64 t, .i .i64 u, .b v, .i .u64 h, .i .u64 l, .s s1, .s s2, .s s3, .i .i64 a, .i .i64 b, .i .i64 c, .i .i64 d, .i .i64 e, .i .i64 f, .i .u64 g]=Rec.pv ⟨n,t,u,⟨v,h,l,s1,s2,s3,a,b,c,d,e,f,g⟩⟩:=rfl
theorem Dn (x:Dat):(⟨x.v6,x.hi,x.lo,x.host,x.mail,x.text,x.a,x.b,x.c,x.d,x.e,x.f,x.bits⟩:Dat)=x:=rfl
theorem Bk1 (x:Rec):(⟨x.name,x.typ,x.ttl,x.data⟩:Rec)=x:=rfl
theorem wd (x:Dat):PV.flat x.pv=true:=rfl
theorem wz (x:Rec):PV.flat x.pv=true:=rfl
theorem gr (x:Dat):PV.flat (G2 x)=true:=rfl
theorem At1 (x:Rec):J6 16 [x.pv]=some (Ct [x]):=rfl
theorem vh (l:List Rec):Fv (Ct l)=some (.i .i64 (l.length:Int)):=by simp [Ct,Fv]
theorem wj (l:List Rec) (k:IntKind) (z:Int) (h:0≤z):Ks 16 (Ct l) (.i k z)=(l[z.toNat]?).map Rec.pv:=by simp [Ct,wk _ _ _ _ h]
theorem n3 (l:List Rec) (x:Rec) (h:l.length+1≤1073741824):Ij 16 (Ct l) (Ct [x])=some (Ct (l++[x])):=by have:=Zr 16 (l.map Rec.pv) [x.pv] (by simpa using h);simpa [Ct] using this
theorem yw (l m:List Rec) (h:l.length+m.length≤1073741824):Ij 16 (Ct l) (Ct m)=some (Ct (l++m)):=by have:=Zr 16 (l.map Rec.pv) (m.map Rec.pv) (by simpa using h);simpa [Ct] using this
theorem s7:PV.l 16 []=Ct []:=rfl
theorem vv (l:List Rec) (k k':IntKind) (a b:Int) (h1:0≤a) (h2:a≤b) (h3:b≤(l.length:Int)):J5 16 (Ct l) (.i k a) (.i k' b)=some (Ct ((l.take b.toNat).drop a.toNat)):=by have:=vw 16 (l.map Rec.pv) k k' a b h1 h2 (by simpa using h3);simpa [Ct] using this
theorem Am0 (l:List Rec) (k:IntKind) (z:Int) (n:List UInt8) (t u:Int) (v:Bool) (h w:Int) (s1 s2 s3:List UInt8) (a b c d e f g:Int) (h0:0≤z) (h1:z<(l.length:Int)):
  Ob 16 0 [.s n, .i .i64 t, .i .i64 u, .b v, .i .u64 h, .i .u64 w, .s s1, .s s2, .s s3, .i .i64 a, .i .i64 b, .i .i64 c, .i .i64 d, .i .i64 e, .i .i64 f, .i .u64 g] (Ct l) (.i k z)=some (Ct (l.set z.toNat ⟨n,t,u,⟨v,h,w,s1,s2,s3,a,b,c,d,e,f,g⟩⟩)):=by
 have h2:z.toNat<l.length:=by omega
 have h3:(l.map Rec.pv)[z.toNat]? =some (l[z.toNat].pv):=by simp [h2]
 simp only [Ob,Ct,h0,h3,and_self,if_true,Av];have h4:Lm (l[z.toNat].pv) 0 [.s n, .i .i64 t, .i .i64 u, .b v, .i .u64 h, .i .u64 w, .s s1, .s s2, .s s3, .i .i64 a, .i .i64 b, .i .i64 c, .i .i64 d, .i .i64 e, .i .i64 f, .i .u64 g]=some (Rec.pv ⟨n,t,u,⟨v,h,w,s1,s2,s3,a,b,c,d,e,f,g⟩⟩):=rfl;rw [h4];simp [List.map_set]
theorem bh (l:List Rec):Gs (Ct l)=some (Ct l):=rfl
theorem vg (l:List (List UInt8)):Fv (Cn l)=some (.i .i64 (l.length:Int)):=by simp [Cn,Fv]
theorem v9 (l:List (List UInt8)) (k:IntKind) (z:Int) (h:0≤z):Ks 1 (Cn l) (.i k z)=(l[z.toNat]?).map PV.s:=by simp [Cn,wk _ _ _ _ h]
theorem At0 (x:List UInt8):J6 1 [.s x]=some (Cn [x]):=rfl
theorem rm:PV.l 1 []=Cn []:=rfl
theorem n0 (l:List (List UInt8)) (x:List UInt8) (h:l.length+1≤1073741824):Ij 1 (Cn l) (Cn [x])=some (Cn (l++[x])):=by have:=Zr 1 (l.map PV.s) [.s x] (by simpa using h);simpa [Cn] using this
theorem yv (l m:List (List UInt8)) (h:l.length+m.length≤1073741824):Ij 1 (Cn l) (Cn m)=some (Cn (l++m)):=by have:=Zr 1 (l.map PV.s) (m.map PV.s) (by simpa using h);simpa [Cn] using this
theorem vq (l:List (List UInt8)) (k k':IntKind) (a b:Int) (h1:0≤a) (h2:a≤b) (h3:b≤(l.length:Int)):J5 1 (Cn l) (.i k a) (.i k' b)=some (Cn ((l.take b.toNat).drop a.toNat)):=by have:=vw 1 (l.map PV.s) k k' a b h1 h2 (by simpa using h3);simpa [Cn] using this
theorem sy (l:List (List UInt8)) (k:IntKind) (z:Int) (x:List UInt8) (h0:0≤z) (h1:z<(l.length:Int)):Ob 1 0 [.s x] (Cn l) (.i k z)=some (Cn (l.set z.toNat x)):=by
 have h2:z.toNat<l.length:=by omega
 have h3:(l.map PV.s)[z.toNat]? =some (.s l[z.toNat]):=by simp [h2]
 simp only [Ob,Cn,h0,h3,and_self,if_true,Av];have h4:Lm (.s l[z.toNat]) 0 [.s x]=some (.s x):=rfl;rw [h4];simp [List.map_set]
theorem s5 (n:Int) (h0:0≤n) (h1:n≤1073741824):L2 1 (.i .i64 n) (.s [])=some (Cn (List.replicate n.toNat [])):=by
 have h2:n≤(LIM:Int):=by simp only [LIM];omega
 have h3:(PV.s []).cells.length=1:=rfl;simp only [L2,h0,h2,h3,and_self,if_true];simp [Cn]
theorem cp (l:List (List UInt8)):Bv 0 (Cn l)=some (Cn l):=rfl
theorem cr (l:List Rec):Bv 0 (Ct l)=some (Ct l):=rfl
theorem bg (l:List (List UInt8)):Gs (Cn l)=some (Cn l):=rfl
theorem Cq9 (neg:Bool) (x y:Dat):J9 neg true [.b,(.i .u64),(.i .u64), .s, .s, .s,(.i .i64),(.i .i64),(.i .i64),(.i .i64),(.i .i64),(.i .i64),(.i .u64)] x.pv y.pv=some (.b (if neg then decide (x≠y) else decide (x=y))):=by
 have:Ep [.b,(.i .u64),(.i .u64), .s, .s, .s,(.i .i64),(.i .i64),(.i .i64),(.i .i64),(.i .i64),(.i .i64),(.i .u64)] x.cells y.cells=some (decide (x=y)):=by simp only [Dat.cells,Ep,zy,if_true,Ak];rw [F9];cases x;cases y;simp
 simp only [J9,Dat.pv,this,Ap];cases neg<;>simp
theorem Cq8 (neg:Bool) (x y:Rec):J9 neg true [.s,(.i .i64),(.i .i64), .b,(.i .u64),(.i .u64), .s, .s, .s,(.i .i64),(.i .i64),(.i .i64),(.i .i64),(.i .i64),(.i .i64),(.i .u64)] x.pv y.pv=some (.b (if neg then decide (x≠y) else decide (x=y))):=by
 have:Ep [.s,(.i .i64),(.i .i64), .b,(.i .u64),(.i .u64), .s, .s, .s,(.i .i64),(.i .i64),(.i .i64),(.i .i64),(.i .i64),(.i .i64),(.i .u64)] x.cells y.cells=some (decide (x=y)):=by simp only [Rec.cells,Dat.cells,Ep,zy,if_true,Ak];rw [F9];rcases x with ⟨_,_,_,⟨⟩⟩;rcases y with ⟨_,_,_,⟨⟩⟩;simp [and_assoc]
 simp only [J9,Rec.pv,this,Ap];cases neg<;>simp
set_option linter.defProp false in
def EVP:=(And.intro @sy (And.intro @s5 (And.intro @Am0 (And.intro @Al4 (And.intro @At9 (And.intro @Qq (And.intro @Qv (And.intro @dv (And.intro @dq (And.intro @dk (And.intro @dj (And.intro @c9 (And.intro @c8 (And.intro @c7 (And.intro @c6 (And.intro @c5 (And.intro @ct (And.intro @Yw (And.intro @Yv (And.intro @Yq (And.intro @Yk (And.intro @Yj (And.intro @X9 (And.intro @Al5 (And.intro @Qw (And.intro @Bj0 (And.intro @dm (And.intro @dl (And.intro @dh (And.intro @df (And.intro @dc (And.intro @db (And.intro @dz (And.intro @dy (And.intro @dx (And.intro @dw (And.intro @Yz (And.intro @Yy (And.intro @Yx (And.intro @wh (And.intro @rf (And.intro @Yd (And.intro @Yc (And.intro @Yb (And.intro @wg (And.intro @rc (And.intro @W7 (And.intro @W6 (And.intro @Pv (And.intro @wx (And.intro @Dn (And.intro @Bk1 (And.intro @wd (And.intro @wz (And.intro @gr (And.intro @At1 (And.intro @vh (And.intro @wj (And.intro @n3 (And.intro @yw (And.intro @s7 (And.intro @vv (And.intro @bh (And.intro @vg (And.intro @v9 (And.intro @At0 (And.intro @rm (And.intro @n0 (And.intro @yv (And.intro @vq (And.intro @cp (And.intro @cr (And.intro @bg (And.intro @Cq9 @Cq8))))))))))))))))))))))))))))))))))))))))))))))))))))))))))))))))))))))))))
end Go.X
