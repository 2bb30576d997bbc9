/- The program's data. -/
import Derived.Test.YtdljoocpdjbhfaaDoorTrustInsidesG4
open Bool renaming eq_iff_iff→Gt
open Option renaming bind_some→Av,map_some→Am
open Option.some renaming injEq→Ak
set_option maxHeartbeats 1000000
set_option linter.unusedVariables false
set_option linter.unusedSimpArgs false
namespace Go.X
open Go
structure Dat where
 v6:Bool
 hi:Int
 lo:Int
 host:List UInt8
 mail:List UInt8
 text:List UInt8
 a:Int
 b:Int
 c:Int
 d:Int
 e:Int
 f:Int
 bits:Int
 deriving DecidableEq
structure Rec where
 name:List UInt8
 typ:Int
 ttl:Int
 data:Dat
 deriving DecidableEq
structure Zone where
 origin:List UInt8
 recs:List Rec
 deriving DecidableEq
def I1 (x:Int):Prop:= -9223372036854775808≤x∧x≤9223372036854775807
def mq (x:Int):Prop:=0≤x∧x≤18446744073709551615
def Ig (x:List UInt8):Prop:=x.length≤9223372036854775807
structure Dat.wf (x:Dat):Prop where
 hi:mq x.hi
 lo:mq x.lo
 host:Ig x.host
 mail:Ig x.mail
 text:Ig x.text
 a:I1 x.a
 b:I1 x.b
 c:I1 x.c
 d:I1 x.d
 e:I1 x.e
 f:I1 x.f
 bits:mq x.bits
structure Rec.wf (r:Rec):Prop where
 name:Ig r.name
 typ:I1 r.typ
 ttl:I1 r.ttl
 data:r.data.wf
def Pv (l:List Rec):Prop:=l.length≤9223372036854775807∧∀r∈l,r.wf
structure Zone.wf (z:Zone):Prop where
 origin:Ig z.origin
 recs:Pv z.recs
def Dat.cells (x:Dat):List PV:=[.b x.v6, .i .u64 x.hi, .i .u64 x.lo, .s x.host, .s x.mail, .s x.text, .i .i64 x.a, .i .i64 x.b, .i .i64 x.c, .i .i64 x.d, .i .i64 x.e, .i .i64 x.f, .i .u64 x.bits]
def Dat.pv (x:Dat):PV:= .a x.cells
def Rec.cells (x:Rec):List PV:= .s x.name:: .i .i64 x.typ:: .i .i64 x.ttl::x.data.cells
def Rec.pv (x:Rec):PV:= .a x.cells
def Bq (l:List Rec):PV:= .l 16 (l.map Rec.pv)
def Zone.pv (x:Zone):PV:= .a [.s x.origin,Bq x.recs]
def B7 (l:List (List UInt8)):PV:= .l 1 (l.map .s)
def Gl (x:Dat):PV:= .a [.b x.v6, .i .u64 x.hi, .i .u64 x.lo]
theorem mt (r:Rec):I8 0 16 r.pv=some r.pv:=rfl
theorem pf (r:Rec):Oj 16 r.pv=some r.pv:=rfl
theorem M0 (r:Rec):I8 3 13 r.pv=some r.data.pv:=rfl
theorem M1 (r:Rec):I8 3 3 r.pv=some (Gl r.data):=rfl
theorem Vj (r:Rec):Bm 0 r.pv=some (.s r.name):=rfl
theorem U9 (r:Rec):Bm 1 r.pv=some (.i .i64 r.typ):=rfl
theorem U8 (r:Rec):Bm 2 r.pv=some (.i .i64 r.ttl):=rfl
theorem U7 (r:Rec):Bm 3 r.pv=some (.b r.data.v6):=rfl
theorem U6 (r:Rec):Bm 4 r.pv=some (.i .u64 r.data.hi):=rfl
theorem U5 (r:Rec):Bm 5 r.pv=some (.i .u64 r.data.lo):=rfl
theorem U4 (r:Rec):Bm 6 r.pv=some (.s r.data.host):=rfl
theorem U3 (r:Rec):Bm 7 r.pv=some (.s r.data.mail):=rfl
theorem U2 (r:Rec):Bm 8 r.pv=some (.s r.data.text):=rfl
theorem U1 (r:Rec):Bm 9 r.pv=some (.i .i64 r.data.a):=rfl
theorem Sj (r:Rec):Bm 10 r.pv=some (.i .i64 r.data.b):=rfl
theorem R9 (r:Rec):Bm 11 r.pv=some (.i .i64 r.data.c):=rfl
theorem R8 (r:Rec):Bm 12 r.pv=some (.i .i64 r.data.d):=rfl
theorem R7 (r:Rec):Bm 13 r.pv=some (.i .i64 r.data.e):=rfl
theorem R6 (r:Rec):Bm 14 r.pv=some (.i .i64 r.data.f):=rfl
theorem R5 (r:Rec):Bm 15 r.pv=some (.i .u64 r.data.bits):=rfl
theorem m8 (r:Dat):I8 0 13 r.pv=some r.pv:=rfl
theorem M2 (r:Dat):I8 0 3 r.pv=some (Gl r):=rfl
theorem pn (r:Dat):Oj 13 r.pv=some r.pv:=rfl
theorem V2 (r:Dat):Bm 0 r.pv=some (.b r.v6):=rfl
theorem V1 (r:Dat):Bm 1 r.pv=some (.i .u64 r.hi):=rfl
theorem V0 (r:Dat):Bm 2 r.pv=some (.i .u64 r.lo):=rfl
theorem Vt (r:Dat):Bm 3 r.pv=some (.s r.host):=rfl
theorem Vs (r:Dat):Bm 4 r.pv=some (.s r.mail):=rfl
theorem Vr (r:Dat):Bm 5 r.pv=some (.s r.text):=rfl
theorem Vp (r:Dat):Bm 6 r.pv=some (.i .i64 r.a):=rfl
theorem Vn (r:Dat):Bm 7 r.pv=some (.i .i64 r.b):=rfl
theorem Vm (r:Dat):Bm 8 r.pv=some (.i .i64 r.c):=rfl
theorem Vl (r:Dat):Bm 9 r.pv=some (.i .i64 r.d):=rfl
theorem Sf (r:Dat):Bm 10 r.pv=some (.i .i64 r.e):=rfl
theorem Sd (r:Dat):Bm 11 r.pv=some (.i .i64 r.f):=rfl
theorem Sb (r:Dat):Bm 12 r.pv=some (.i .u64 r.bits):=rfl
theorem db (r:Dat):Oj 3 (Gl r)=some (Gl r):=rfl
theorem Z2 (r:Dat):I8 0 3 (Gl r)=some (Gl r):=rfl
theorem Sm (r:Dat):Bm 0 (Gl r)=some (.b r.v6):=rfl
theorem Sl (r:Dat):Bm 1 (Gl r)=some (.i .u64 r.hi):=rfl
theorem Sg (r:Dat):Bm 2 (Gl r)=some (.i .u64 r.lo):=rfl
theorem dz (r:Zone):Oj 2 r.pv=some r.pv:=rfl
theorem Z1 (r:Zone):I8 0 2 r.pv=some r.pv:=rfl
theorem R4 (r:Zone):Bm 0 r.pv=some (.s r.origin):=rfl
theorem R3 (r:Zone):Bm 1 r.pv=some (Bq r.recs):=rfl
theorem dv (v:Bool) (h l:Int) (s1 s2 s3:List UInt8) (a b c d e f g:Int):PV.a [.b v, .i .u64 h, .i .u64 l, .s s1, .s s2, .s s3, .i .i64 a, .i .i64 b, .i .i64 c, .i .i64 d, .i .i64 e, .i .i64 f, .i .u64 g]=Dat.pv ⟨v,h,l,s1,s2,s3,a,b,c,d,e,f,g⟩:=rfl
theorem dk (n:List UInt8) (t u:Int) (v:Bool) (h l:Int) (s1 s2 s3:List UInt8) (a b c d e f g:Int):PV.a [.s n, .i .i64 t, .i .i64 u, .b v, .i .u64 h, .i .u64 l, .s s1, .s s2, .s s3, .i .i64 a, .i .i64 b, .i .i64 c, .i .i64 d, .i .i64 e, .i .i64 f, .i .u64 g]=Rec.pv ⟨n,t,u,⟨v,h,l,s1,s2,s3,a,b,c,d,e,f,g⟩⟩:=rfl
theorem qz (x:Dat):(⟨x.v6,x.hi,x.lo,x.host,x.mail,x.text,x.a,x.b,x.c,x.d,x.e,x.f,x.bits⟩:Dat)=x:=rfl
theorem qw (x:Rec):(⟨x.name,x.typ,x.ttl,x.data⟩:Rec)=x:=rfl
theorem dx (x:Dat):PV.flat x.pv=true:=rfl
theorem dw (x:Rec):PV.flat x.pv=true:=rfl
theorem W9 (x:Dat):PV.flat (Gl x)=true:=rfl
theorem o8 (x:Rec):H7 16 [x.pv]=some (Bq [x]):=rfl
theorem cw (l:List Rec):Ey (Bq l)=some (.i .i64 (l.length:Int)):=by simp [Bq,Ey]
theorem c7 (l:List Rec) (k:IntKind) (z:Int) (h:0≤z):Jt 16 (Bq l) (.i k z)=(l[z.toNat]?).map Rec.pv:=by simp [Bq,pw _ _ _ _ h]
theorem Oz (l:List Rec) (x:Rec) (h:l.length+1≤1073741824):Fz 16 (Bq l) (Bq [x])=some (Bq (l++[x])):=by have:=Tl 16 (l.map Rec.pv) [x.pv] (by simpa using h);simpa [Bq] using this
theorem ej (l m:List Rec) (h:l.length+m.length≤1073741824):Fz 16 (Bq l) (Bq m)=some (Bq (l++m)):=by have:=Tl 16 (l.map Rec.pv) (m.map Rec.pv) (by simpa using h);simpa [Bq] using this
theorem ab:PV.l 16 []=Bq []:=rfl
theorem b8 (l:List Rec) (k k':IntKind) (a b:Int) (h1:0≤a) (h2:a≤b) (h3:b≤(l.length:Int)):Il 16 (Bq l) (.i k a) (.i k' b)=some (Bq ((l.take b.toNat).drop a.toNat)):=by have:=o5 16 (l.map Rec.pv) k k' a b h1 h2 (by simpa using h3);simpa [Bq] using this
theorem nv (l:List Rec) (k:IntKind) (z:Int) (n:List UInt8) (t u:Int) (v:Bool) (h w:Int) (s1 s2 s3:List UInt8) (a b c d e f g:Int) (h0:0≤z) (h1:z<(l.length:Int)):
  O8 16 0 [.s n, .i .i64 t, .i .i64 u, .b v, .i .u64 h, .i .u64 w, .s s1, .s s2, .s s3, .i .i64 a, .i .i64 b, .i .i64 c, .i .i64 d, .i .i64 e, .i .i64 f, .i .u64 g] (Bq l) (.i k z)=some (Bq (l.set z.toNat ⟨n,t,u,⟨v,h,w,s1,s2,s3,a,b,c,d,e,f,g⟩⟩)):=by
 have h2:z.toNat<l.length:=by omega
 have h3:(l.map Rec.pv)[z.toNat]? =some (l[z.toNat].pv):=by simp [h2]
 simp only [O8,Bq,h0,h3,and_self,if_true,Av];have h4:Ll (l[z.toNat].pv) 0 [.s n, .i .i64 t, .i .i64 u, .b v, .i .u64 h, .i .u64 w, .s s1, .s s2, .s s3, .i .i64 a, .i .i64 b, .i .i64 c, .i .i64 d, .i .i64 e, .i .i64 f, .i .u64 g]=some (Rec.pv ⟨n,t,u,⟨v,h,w,s1,s2,s3,a,b,c,d,e,f,g⟩⟩):=rfl;rw [h4];simp [List.map_set]
theorem Ug (l:List Rec):Hj (Bq l)=some (Bq l):=rfl
theorem cq (l:List (List UInt8)):Ey (B7 l)=some (.i .i64 (l.length:Int)):=by simp [B7,Ey]
theorem c6 (l:List (List UInt8)) (k:IntKind) (z:Int) (h:0≤z):Jt 1 (B7 l) (.i k z)=(l[z.toNat]?).map PV.s:=by simp [B7,pw _ _ _ _ h]
theorem o7 (x:List UInt8):H7 1 [.s x]=some (B7 [x]):=rfl
theorem Z5:PV.l 1 []=B7 []:=rfl
theorem X8 (l:List (List UInt8)) (x:List UInt8) (h:l.length+1≤1073741824):Fz 1 (B7 l) (B7 [x])=some (B7 (l++[x])):=by have:=Tl 1 (l.map PV.s) [.s x] (by simpa using h);simpa [B7] using this
theorem d9 (l m:List (List UInt8)) (h:l.length+m.length≤1073741824):Fz 1 (B7 l) (B7 m)=some (B7 (l++m)):=by have:=Tl 1 (l.map PV.s) (m.map PV.s) (by simpa using h);simpa [B7] using this
theorem br (l:List (List UInt8)) (k k':IntKind) (a b:Int) (h1:0≤a) (h2:a≤b) (h3:b≤(l.length:Int)):Il 1 (B7 l) (.i k a) (.i k' b)=some (B7 ((l.take b.toNat).drop a.toNat)):=by have:=o5 1 (l.map PV.s) k k' a b h1 h2 (by simpa using h3);simpa [B7] using this
theorem ak (l:List (List UInt8)) (k:IntKind) (z:Int) (x:List UInt8) (h0:0≤z) (h1:z<(l.length:Int)):O8 1 0 [.s x] (B7 l) (.i k z)=some (B7 (l.set z.toNat x)):=by
 have h2:z.toNat<l.length:=by omega
 have h3:(l.map PV.s)[z.toNat]? =some (.s l[z.toNat]):=by simp [h2]
 simp only [O8,B7,h0,h3,and_self,if_true,Av];have h4:Ll (.s l[z.toNat]) 0 [.s x]=some (.s x):=rfl;rw [h4];simp [List.map_set]
theorem ay (n:Int) (h0:0≤n) (h1:n≤1073741824):Nv 1 (.i .i64 n) (.s [])=some (B7 (List.replicate n.toNat [])):=by
 have h2:n≤(LIM:Int):=by simp only [LIM];omega
 have h3:(PV.s []).cells.length=1:=rfl;simp only [Nv,h0,h2,h3,and_self,if_true];simp [B7]
theorem Ut (l:List (List UInt8)):Bm 0 (B7 l)=some (B7 l):=rfl
theorem U0 (l:List Rec):Bm 0 (Bq l)=some (Bq l):=rfl
theorem Uf (l:List (List UInt8)):Hj (B7 l)=some (B7 l):=rfl
theorem xk (neg:Bool) (x y:Dat):Gs neg true [.b,(.i .u64),(.i .u64), .s, .s, .s,(.i .i64),(.i .i64),(.i .i64),(.i .i64),(.i .i64),(.i .i64),(.i .u64)] x.pv y.pv=some (.b (if neg then decide (x≠y) else decide (x=y))):=by
 have:Dx [.b,(.i .u64),(.i .u64), .s, .s, .s,(.i .i64),(.i .i64),(.i .i64),(.i .i64),(.i .i64),(.i .i64),(.i .u64)] x.cells y.cells=some (decide (x=y)):=by simp only [Dat.cells,Dx,dh,if_true,Ak];rw [Gt];cases x;cases y;simp
 simp only [Gs,Dat.pv,this,Am];cases neg<;>simp
theorem xj (neg:Bool) (x y:Rec):Gs neg true [.s,(.i .i64),(.i .i64), .b,(.i .u64),(.i .u64), .s, .s, .s,(.i .i64),(.i .i64),(.i .i64),(.i .i64),(.i .i64),(.i .i64),(.i .u64)] x.pv y.pv=some (.b (if neg then decide (x≠y) else decide (x=y))):=by
 have:Dx [.s,(.i .i64),(.i .i64), .b,(.i .u64),(.i .u64), .s, .s, .s,(.i .i64),(.i .i64),(.i .i64),(.i .i64),(.i .i64),(.i .i64),(.i .u64)] x.cells y.cells=some (decide (x=y)):=by simp only [Rec.cells,Dat.cells,Dx,dh,if_true,Ak];rw [Gt];rcases x with ⟨_,_,_,⟨⟩⟩;rcases y with ⟨_,_,_,⟨⟩⟩;simp [and_assoc]
 simp only [Gs,Rec.pv,this,Am];cases neg<;>simp
set_option linter.defProp false in
def EVP:=(And.intro @ak (And.intro @ay (And.intro @nv (And.intro @mt (And.intro @pf (And.intro @M0 (And.intro @M1 (And.intro @Vj (And.intro @U9 (And.intro @U8 (And.intro @U7 (And.intro @U6 (And.intro @U5 (And.intro @U4 (And.intro @U3 (And.intro @U2 (And.intro @U1 (And.intro @Sj (And.intro @R9 (And.intro @R8 (And.intro @R7 (And.intro @R6 (And.intro @R5 (And.intro @m8 (And.intro @M2 (And.intro @pn (And.intro @V2 (And.intro @V1 (And.intro @V0 (And.intro @Vt (And.intro @Vs (And.intro @Vr (And.intro @Vp (And.intro @Vn (And.intro @Vm (And.intro @Vl (And.intro @Sf (And.intro @Sd (And.intro @Sb (And.intro @db (And.intro @Z2 (And.intro @Sm (And.intro @Sl (And.intro @Sg (And.intro @dz (And.intro @Z1 (And.intro @R4 (And.intro @R3 (And.intro @dv (And.intro @dk (And.intro @qz (And.intro @qw (And.intro @dx (And.intro @dw (And.intro @W9 (And.intro @o8 (And.intro @cw (And.intro @c7 (And.intro @Oz (And.intro @ej (And.intro @ab (And.intro @b8 (And.intro @Ug (And.intro @cq (And.intro @c6 (And.intro @o7 (And.intro @Z5 (And.intro @X8 (And.intro @d9 (And.intro @br (And.intro @Ut (And.intro @U0 (And.intro @Uf (And.intro @xk @xj))))))))))))))))))))))))))))))))))))))))))))))))))))))))))))))))))))))))))
end Go.X
