/- The program's data. -/
import Derived.Test.YtjakmljndnkplaaGreatDoorProveNegativeG6
open Bool renaming eq_iff_iff->D8
open Option renaming bind_some->B3,map_some->Cc
open Option.some renaming injEq->Bn
set_option maxHeartbeats 1000000
set_option linter.defProp false
set_option linter.unusedVariables false
set_option linter.unusedSimpArgs false
namespace Go.X
open Go
structure Dat where
 v6:Bool
 hi:Int
 lo:Int
 host:List UInt8
 mail:List UInt8
 text:List UInt8
 a:Int
 b:Int
 c:Int
 d:Int
 e:Int
 f:Int
 bits:Int
 deriving DecidableEq
structure Rec where
 name:List UInt8
 typ:Int
 ttl:Int
 data:Dat
 deriving DecidableEq
structure Zone where
 origin:List UInt8
 recs:List Rec
 deriving DecidableEq
def T8 (x:Int):Prop:= -9223372036854775808<=x∧x<=9223372036854775807
def Eq4 (x:Int):Prop:=0<=x∧x<=18446744073709551615
def T6 (x:List UInt8):Prop:=x.length<=9223372036854775807
structure Dat.wf (x:Dat):Prop where
 hi:Eq4 x.hi
 lo:Eq4 x.lo
 host:T6 x.host
 mail:T6 x.mail
 text:T6 x.text
 a:T8 x.a
 b:T8 x.b
 c:T8 x.c
 d:T8 x.d
 e:T8 x.e
 f:T8 x.f
 bits:Eq4 x.bits
structure Rec.wf (r:Rec):Prop where
 name:T6 r.name
 typ:T8 r.typ
 ttl:T8 r.ttl
 data:r.data.wf
def Cl3 (l:List Rec):Prop:=l.length<=9223372036854775807∧∀r∈l,r.wf
structure Zone.wf (z:Zone):Prop where
 origin:T6 z.origin
 recs:Cl3 z.recs
def Dat.cells (x:Dat):List PV:=[.b x.v6,.i .u64 x.hi,.i .u64 x.lo,.s x.host,.s x.mail,.s x.text,.i .i64 x.a,.i .i64 x.b,.i .i64 x.c,.i .i64 x.d,.i .i64 x.e,.i .i64 x.f,.i .u64 x.bits]
def Dat.pv (x:Dat):PV:= .a x.cells
def Rec.cells (x:Rec):List PV:= .s x.name:: .i .i64 x.typ:: .i .i64 x.ttl::x.data.cells
def Rec.pv (x:Rec):PV:= .a x.cells
def B6 (l:List Rec):PV:= .l 16 (l.map Rec.pv)
def Zone.pv (x:Zone):PV:= .a [.s x.origin,B6 x.recs]
def C8 (l:List (List UInt8)):PV:= .l 1 (l.map .s)
def Mn (x:Dat):PV:= .a [.b x.v6,.i .u64 x.hi,.i .u64 x.lo]
def Fs8 (r:Rec):Lz 0 16 r.pv=some r.pv:=rfl
def Gy6 (r:Rec):U6 16 r.pv=some r.pv:=rfl
def o8 (r:Rec):Lz 3 13 r.pv=some r.data.pv:=rfl
def o9 (r:Rec):Lz 3 3 r.pv=some (Mn r.data):=rfl
def Cs8 (r:Rec):Dw 0 r.pv=some (.s r.name):=rfl
def Cs7 (r:Rec):Dw 1 r.pv=some (.i .i64 r.typ):=rfl
def Cs6 (r:Rec):Dw 2 r.pv=some (.i .i64 r.ttl):=rfl
def Cs5 (r:Rec):Dw 3 r.pv=some (.b r.data.v6):=rfl
def Cs4 (r:Rec):Dw 4 r.pv=some (.i .u64 r.data.hi):=rfl
def Cs3 (r:Rec):Dw 5 r.pv=some (.i .u64 r.data.lo):=rfl
def Cs2 (r:Rec):Dw 6 r.pv=some (.s r.data.host):=rfl
def Cs1 (r:Rec):Dw 7 r.pv=some (.s r.data.mail):=rfl
def Cs0 (r:Rec):Dw 8 r.pv=some (.s r.data.text):=rfl
def Cr9 (r:Rec):Dw 9 r.pv=some (.i .i64 r.data.a):=rfl
def Bd0 (r:Rec):Dw 10 r.pv=some (.i .i64 r.data.b):=rfl
def Bc9 (r:Rec):Dw 11 r.pv=some (.i .i64 r.data.c):=rfl
def Bc8 (r:Rec):Dw 12 r.pv=some (.i .i64 r.data.d):=rfl
def Bc7 (r:Rec):Dw 13 r.pv=some (.i .i64 r.data.e):=rfl
def Bc6 (r:Rec):Dw 14 r.pv=some (.i .i64 r.data.f):=rfl
def Bc5 (r:Rec):Dw 15 r.pv=some (.i .u64 r.data.bits):=rfl
def Ft0 (r:Dat):Lz 0 13 r.pv=some r.pv:=rfl
def pj (r:Dat):Lz 0 3 r.pv=some (Mn r):=rfl
def Gy8 (r:Dat):U6 13 r.pv=some r.pv:=rfl
def Dj8 (r:Dat):Dw 0 r.pv=some (.b r.v6):=rfl
def Dj7 (r:Dat):Dw 1 r.pv=some (.i .u64 r.hi):=rfl
def Dj6 (r:Dat):Dw 2 r.pv=some (.i .u64 r.lo):=rfl
def Dj5 (r:Dat):Dw 3 r.pv=some (.s r.host):=rfl
def Dj4 (r:Dat):Dw 4 r.pv=some (.s r.mail):=rfl
def Dj3 (r:Dat):Dw 5 r.pv=some (.s r.text):=rfl
def Dj2 (r:Dat):Dw 6 r.pv=some (.i .i64 r.a):=rfl
def Dj1 (r:Dat):Dw 7 r.pv=some (.i .i64 r.b):=rfl
def Dj0 (r:Dat):Dw 8 r.pv=some (.i .i64 r.c):=rfl
def Ct9 (r:Dat):Dw 9 r.pv=some (.i .i64 r.d):=rfl
def Bf0 (r:Dat):Dw 10 r.pv=some (.i .i64 r.e):=rfl
def Bd9 (r:Dat):Dw 11 r.pv=some (.i .i64 r.f):=rfl
def Bd8 (r:Dat):Dw 12 r.pv=some (.i .u64 r.bits):=rfl
def Er7 (r:Dat):U6 3 (Mn r)=some (Mn r):=rfl
def Ey0 (r:Dat):Lz 0 3 (Mn r)=some (Mn r):=rfl
def Bf3 (r:Dat):Dw 0 (Mn r)=some (.b r.v6):=rfl
def Bf2 (r:Dat):Dw 1 (Mn r)=some (.i .u64 r.hi):=rfl
def Bf1 (r:Dat):Dw 2 (Mn r)=some (.i .u64 r.lo):=rfl
def Er6 (r:Zone):U6 2 r.pv=some r.pv:=rfl
def Ex8 (r:Zone):Lz 0 2 r.pv=some r.pv:=rfl
def Bc4 (r:Zone):Dw 0 r.pv=some (.s r.origin):=rfl
def Bc3 (r:Zone):Dw 1 r.pv=some (B6 r.recs):=rfl
def kz (v:Bool) (h l:Int) (s1 s2 s3:List UInt8) (a b c d e f g:Int):PV.a [.b v,.i .u64 h,.i .u64 l,.s s1,.s s2,.s s3,.i .i64 a,.i .i64 b,.i .i64 c,.i .i64 d,.i .i64 e,.i .i64 f,.i .u64 g]=Dat.pv ⟨v,h,l,s1,s2,s3,a,b,c,d,e,f,g⟩:=rfl
def Er0 (n:List UInt8) (t u:Int) (v:Bool) (h l:Int) (s1 s2 s3:List UInt8) (a b c d e f g:Int):PV.a [.s n,.i .i64 t,.i .i64 u,.b v,.i .u64 h,.i .u64 l,.s s1,.s s2,.s s3,.i .i64 a,.i .i64 b,.i .i64 c,.i .i64 d,.i .i64 e,.i .i64 f,.i .u64 g]=Rec.pv ⟨n,t,u,⟨v,h,l,s1,s2,s3,a,b,c,d,e,f,g⟩⟩:=rfl
def Hj (x:Dat):(⟨x.v6,x.hi,x.lo,x.host,x.mail,x.text,x.a,x.b,x.c,x.d,x.e,x.f,x.bits⟩:Dat)=x:=rfl
def Gb2 (x:Rec):(⟨x.name,x.typ,x.ttl,x.data⟩:Rec)=x:=rfl
def Er4 (x:Dat):PV.flat x.pv=true:=rfl
def Er3 (x:Rec):PV.flat x.pv=true:=rfl
def Dg4 (x:Dat):PV.flat (Mn x)=true:=rfl
def Gw7 (x:Rec):Kf 16 [x.pv]=some (B6 [x]):=rfl
def Em5 (l:List Rec):G2 (B6 l)=some (.i .i64 (l.length:Int)):=by simp[B6,G2]
def L0 (l:List Rec) (k:IntKind) (z:Int) (h:0<=z):H6 16 (B6 l) (.i k z)=(l[z.toNat]?).map Rec.pv:=by simp[B6,Wz _ _ _ _ h]
def Ej0 (l:List Rec) (x:Rec) (h:l.length+1<=1073741824):Jh 16 (B6 l) (B6 [x])=some (B6 (l++[x])):=by have:=Ts 16 (l.map Rec.pv) [x.pv] (by simpa using h);simpa [B6] using this
def J4 (l m:List Rec) (h:l.length+m.length<=1073741824):Jh 16 (B6 l) (B6 m)=some (B6 (l++m)):=by have:=Ts 16 (l.map Rec.pv) (m.map Rec.pv) (by simpa using h);simpa [B6] using this
def Eb4:PV.l 16 []=B6 []:=rfl
def Jw (l:List Rec) (k k':IntKind) (a b:Int) (h1:0<=a) (h2:a<=b) (h3:b<=(l.length:Int)):Jx 16 (B6 l) (.i k a) (.i k' b)=some (B6 ((l.take b.toNat).drop a.toNat)):=by have:=Dx7 16 (l.map Rec.pv) k k' a b h1 h2 (by simpa using h3);simpa [B6] using this
def Gj4 (l:List Rec) (k:IntKind) (z:Int) (n:List UInt8) (t u:Int) (v:Bool) (h w:Int) (s1 s2 s3:List UInt8) (a b c d e f g:Int) (h0:0<=z) (h1:z<(l.length:Int)):
  M8 16 0 [.s n,.i .i64 t,.i .i64 u,.b v,.i .u64 h,.i .u64 w,.s s1,.s s2,.s s3,.i .i64 a,.i .i64 b,.i .i64 c,.i .i64 d,.i .i64 e,.i .i64 f,.i .u64 g] (B6 l) (.i k z)=some (B6 (l.set z.toNat ⟨n,t,u,⟨v,h,w,s1,s2,s3,a,b,c,d,e,f,g⟩⟩)):=by
 have h2:z.toNat<l.length:=by omega
 have h3:(l.map Rec.pv)[z.toNat]? =some (l[z.toNat].pv):=by simp[h2]
 simp only[M8,B6,h0,h3,and_self,if_true,B3];have h4:O2 (l[z.toNat].pv) 0 [.s n,.i .i64 t,.i .i64 u,.b v,.i .u64 h,.i .u64 w,.s s1,.s s2,.s s3,.i .i64 a,.i .i64 b,.i .i64 c,.i .i64 d,.i .i64 e,.i .i64 f,.i .u64 g]=some (Rec.pv ⟨n,t,u,⟨v,h,w,s1,s2,s3,a,b,c,d,e,f,g⟩⟩):=rfl;rw[h4];simp[List.map_set]
def Cg5 (l:List Rec):Jl (B6 l)=some (B6 l):=rfl
def Em3 (l:List (List UInt8)):G2 (C8 l)=some (.i .i64 (l.length:Int)):=by simp[C8,G2]
def Qx (l:List (List UInt8)) (k:IntKind) (z:Int) (h:0<=z):H6 1 (C8 l) (.i k z)=(l[z.toNat]?).map PV.s:=by simp[C8,Wz _ _ _ _ h]
def Gw4 (x:List UInt8):Kf 1 [.s x]=some (C8 [x]):=rfl
def Ey3:PV.l 1 []=C8 []:=rfl
def Dt7 (l:List (List UInt8)) (x:List UInt8) (h:l.length+1<=1073741824):Jh 1 (C8 l) (C8 [x])=some (C8 (l++[x])):=by have:=Ts 1 (l.map PV.s) [.s x] (by simpa using h);simpa [C8] using this
def Bv9 (l m:List (List UInt8)) (h:l.length+m.length<=1073741824):Jh 1 (C8 l) (C8 m)=some (C8 (l++m)):=by have:=Ts 1 (l.map PV.s) (m.map PV.s) (by simpa using h);simpa [C8] using this
def Qq (l:List (List UInt8)) (k k':IntKind) (a b:Int) (h1:0<=a) (h2:a<=b) (h3:b<=(l.length:Int)):Jx 1 (C8 l) (.i k a) (.i k' b)=some (C8 ((l.take b.toNat).drop a.toNat)):=by have:=Dx7 1 (l.map PV.s) k k' a b h1 h2 (by simpa using h3);simpa [C8] using this
def Ez4 (l:List (List UInt8)) (k:IntKind) (z:Int) (x:List UInt8) (h0:0<=z) (h1:z<(l.length:Int)):M8 1 0 [.s x] (C8 l) (.i k z)=some (C8 (l.set z.toNat x)):=by
 have h2:z.toNat<l.length:=by omega
 have h3:(l.map PV.s)[z.toNat]? =some (.s l[z.toNat]):=by simp[h2]
 simp only[M8,C8,h0,h3,and_self,if_true,B3];have h4:O2 (.s l[z.toNat]) 0 [.s x]=some (.s x):=rfl;rw[h4];simp[List.map_set]
def Am0 (n:Int) (h0:0<=n) (h1:n<=1073741824):Ov 1 (.i .i64 n) (.s [])=some (C8 (List.replicate n.toNat [])):=by
 have h2:n<=(LIM:Int):=by simp only[LIM];omega
 have h3:(PV.s []).cells.length=1:=rfl;simp only[Ov,h0,h2,h3,and_self,if_true];simp[C8]
def Cp7 (l:List (List UInt8)):Dw 0 (C8 l)=some (C8 l):=rfl
def Cr8 (l:List Rec):Dw 0 (B6 l)=some (B6 l):=rfl
def Cg2 (l:List (List UInt8)):Jl (C8 l)=some (C8 l):=rfl
def Hp3 (neg:Bool) (x y:Dat):Oy neg true [.b,(.i .u64),(.i .u64),.s,.s,.s,(.i .i64),(.i .i64),(.i .i64),(.i .i64),(.i .i64),(.i .i64),(.i .u64)] x.pv y.pv=some (.b (if neg then decide (x≠y) else decide (x=y))):=by
 have:Ig [.b,(.i .u64),(.i .u64),.s,.s,.s,(.i .i64),(.i .i64),(.i .i64),(.i .i64),(.i .i64),(.i .i64),(.i .u64)] x.cells y.cells=some (decide (x=y)):=by simp only[Dat.cells,Ig,Eq9,if_true,Bn];rw[D8];cases x;cases y;simp
 simp only[Oy,Dat.pv,this,Cc];cases neg<;>simp
def Hp2 (neg:Bool) (x y:Rec):Oy neg true [.s,(.i .i64),(.i .i64),.b,(.i .u64),(.i .u64),.s,.s,.s,(.i .i64),(.i .i64),(.i .i64),(.i .i64),(.i .i64),(.i .i64),(.i .u64)] x.pv y.pv=some (.b (if neg then decide (x≠y) else decide (x=y))):=by
 have:Ig [.s,(.i .i64),(.i .i64),.b,(.i .u64),(.i .u64),.s,.s,.s,(.i .i64),(.i .i64),(.i .i64),(.i .i64),(.i .i64),(.i .i64),(.i .u64)] x.cells y.cells=some (decide (x=y)):=by simp only[Rec.cells,Dat.cells,Ig,Eq9,if_true,Bn];rw[D8];rcases x with⟨_,_,_,⟨⟩⟩;rcases y with⟨_,_,_,⟨⟩⟩;simp[and_assoc]
 simp only[Oy,Rec.pv,this,Cc];cases neg<;>simp
set_option linter.defProp false in
def EVP:=(And.intro @Ez4 (And.intro @Am0 (And.intro @Gj4 (And.intro @Fs8 (And.intro @Gy6 (And.intro @o8 (And.intro @o9 (And.intro @Cs8 (And.intro @Cs7 (And.intro @Cs6 (And.intro @Cs5 (And.intro @Cs4 (And.intro @Cs3 (And.intro @Cs2 (And.intro @Cs1 (And.intro @Cs0 (And.intro @Cr9 (And.intro @Bd0 (And.intro @Bc9 (And.intro @Bc8 (And.intro @Bc7 (And.intro @Bc6 (And.intro @Bc5 (And.intro @Ft0 (And.intro @pj (And.intro @Gy8 (And.intro @Dj8 (And.intro @Dj7 (And.intro @Dj6 (And.intro @Dj5 (And.intro @Dj4 (And.intro @Dj3 (And.intro @Dj2 (And.intro @Dj1 (And.intro @Dj0 (And.intro @Ct9 (And.intro @Bf0 (And.intro @Bd9 (And.intro @Bd8 (And.intro @Er7 (And.intro @Ey0 (And.intro @Bf3 (And.intro @Bf2 (And.intro @Bf1 (And.intro @Er6 (And.intro @Ex8 (And.intro @Bc4 (And.intro @Bc3 (And.intro @kz (And.intro @Er0 (And.intro @Hj (And.intro @Gb2 (And.intro @Er4 (And.intro @Er3 (And.intro @Dg4 (And.intro @Gw7 (And.intro @Em5 (And.intro @L0 (And.intro @Ej0 (And.intro @J4 (And.intro @Eb4 (And.intro @Jw (And.intro @Cg5 (And.intro @Em3 (And.intro @Qx (And.intro @Gw4 (And.intro @Ey3 (And.intro @Dt7 (And.intro @Bv9 (And.intro @Qq (And.intro @Cp7 (And.intro @Cr8 (And.intro @Cg2 (And.intro @Hp3 @Hp2))))))))))))))))))))))))))))))))))))))))))))))))))))))))))))))))))))))))))
end Go.X
