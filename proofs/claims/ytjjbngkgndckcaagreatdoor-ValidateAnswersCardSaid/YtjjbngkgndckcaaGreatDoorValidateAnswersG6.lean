/- The program's data. -/
import Derived.Test.YtjjbngkgndckcaaGreatDoorValidateAnswersG2
open Bool renaming eq_iff_iff->G3
open Option renaming bind_some->B0,map_some->Cc
open Option.some renaming injEq->Bn
set_option maxHeartbeats 1000000
set_option linter.defProp false
set_option linter.unusedVariables false
set_option linter.unusedSimpArgs false
namespace Go.X
open Go
structure Dat where
 v6:Bool
 hi:Int
 lo:Int
 host:List UInt8
 mail:List UInt8
 text:List UInt8
 a:Int
 b:Int
 c:Int
 d:Int
 e:Int
 f:Int
 bits:Int
 deriving DecidableEq
structure Rec where
 name:List UInt8
 typ:Int
 ttl:Int
 data:Dat
 deriving DecidableEq
structure Zone where
 origin:List UInt8
 recs:List Rec
 deriving DecidableEq
def g9 (x:Int):Prop:= -9223372036854775808<=x∧x<=9223372036854775807
def jf (x:Int):Prop:=0<=x∧x<=18446744073709551615
def Td (x:List UInt8):Prop:=x.length<=9223372036854775807
structure Dat.wf (x:Dat):Prop where
 hi:jf x.hi
 lo:jf x.lo
 host:Td x.host
 mail:Td x.mail
 text:Td x.text
 a:g9 x.a
 b:g9 x.b
 c:g9 x.c
 d:g9 x.d
 e:g9 x.e
 f:g9 x.f
 bits:jf x.bits
structure Rec.wf (r:Rec):Prop where
 name:Td r.name
 typ:g9 r.typ
 ttl:g9 r.ttl
 data:r.data.wf
def Cx8 (l:List Rec):Prop:=l.length<=9223372036854775807∧∀r∈l,r.wf
structure Zone.wf (z:Zone):Prop where
 origin:Td z.origin
 recs:Cx8 z.recs
def Dat.cells (x:Dat):List PV:=[.b x.v6,.i .u64 x.hi,.i .u64 x.lo,.s x.host,.s x.mail,.s x.text,.i .i64 x.a,.i .i64 x.b,.i .i64 x.c,.i .i64 x.d,.i .i64 x.e,.i .i64 x.f,.i .u64 x.bits]
def Dat.pv (x:Dat):PV:= .a x.cells
def Rec.cells (x:Rec):List PV:= .s x.name:: .i .i64 x.typ:: .i .i64 x.ttl::x.data.cells
def Rec.pv (x:Rec):PV:= .a x.cells
def B8 (l:List Rec):PV:= .l 16 (l.map Rec.pv)
def Zone.pv (x:Zone):PV:= .a [.s x.origin,B8 x.recs]
def Dq (l:List (List UInt8)):PV:= .l 1 (l.map .s)
def Kn (x:Dat):PV:= .a [.b x.v6,.i .u64 x.hi,.i .u64 x.lo]
def Fm3 (r:Rec):Lw 0 16 r.pv=some r.pv:=rfl
def Gk4 (r:Rec):Sy 16 r.pv=some r.pv:=rfl
def jr (r:Rec):Lw 3 13 r.pv=some r.data.pv:=rfl
def js (r:Rec):Lw 3 3 r.pv=some (Kn r.data):=rfl
def Cd5 (r:Rec):C3 0 r.pv=some (.s r.name):=rfl
def Cd4 (r:Rec):C3 1 r.pv=some (.i .i64 r.typ):=rfl
def Cd3 (r:Rec):C3 2 r.pv=some (.i .i64 r.ttl):=rfl
def Cd2 (r:Rec):C3 3 r.pv=some (.b r.data.v6):=rfl
def Cd1 (r:Rec):C3 4 r.pv=some (.i .u64 r.data.hi):=rfl
def Cd0 (r:Rec):C3 5 r.pv=some (.i .u64 r.data.lo):=rfl
def Cc9 (r:Rec):C3 6 r.pv=some (.s r.data.host):=rfl
def Cc8 (r:Rec):C3 7 r.pv=some (.s r.data.mail):=rfl
def Cc7 (r:Rec):C3 8 r.pv=some (.s r.data.text):=rfl
def Cc6 (r:Rec):C3 9 r.pv=some (.i .i64 r.data.a):=rfl
def As8 (r:Rec):C3 10 r.pv=some (.i .i64 r.data.b):=rfl
def As7 (r:Rec):C3 11 r.pv=some (.i .i64 r.data.c):=rfl
def As6 (r:Rec):C3 12 r.pv=some (.i .i64 r.data.d):=rfl
def As5 (r:Rec):C3 13 r.pv=some (.i .i64 r.data.e):=rfl
def As4 (r:Rec):C3 14 r.pv=some (.i .i64 r.data.f):=rfl
def As3 (r:Rec):C3 15 r.pv=some (.i .u64 r.data.bits):=rfl
def Fm5 (r:Dat):Lw 0 13 r.pv=some r.pv:=rfl
def jt (r:Dat):Lw 0 3 r.pv=some (Kn r):=rfl
def Gk6 (r:Dat):Sy 13 r.pv=some r.pv:=rfl
def Cg5 (r:Dat):C3 0 r.pv=some (.b r.v6):=rfl
def Cg4 (r:Dat):C3 1 r.pv=some (.i .u64 r.hi):=rfl
def Cg3 (r:Dat):C3 2 r.pv=some (.i .u64 r.lo):=rfl
def Cg2 (r:Dat):C3 3 r.pv=some (.s r.host):=rfl
def Cg1 (r:Dat):C3 4 r.pv=some (.s r.mail):=rfl
def Cg0 (r:Dat):C3 5 r.pv=some (.s r.text):=rfl
def Cf9 (r:Dat):C3 6 r.pv=some (.i .i64 r.a):=rfl
def Cf8 (r:Dat):C3 7 r.pv=some (.i .i64 r.b):=rfl
def Cf7 (r:Dat):C3 8 r.pv=some (.i .i64 r.c):=rfl
def Cf6 (r:Dat):C3 9 r.pv=some (.i .i64 r.d):=rfl
def At8 (r:Dat):C3 10 r.pv=some (.i .i64 r.e):=rfl
def At7 (r:Dat):C3 11 r.pv=some (.i .i64 r.f):=rfl
def At6 (r:Dat):C3 12 r.pv=some (.i .u64 r.bits):=rfl
def Ec4 (r:Dat):Sy 3 (Kn r)=some (Kn r):=rfl
def Dp4 (r:Dat):Lw 0 3 (Kn r)=some (Kn r):=rfl
def Bj1 (r:Dat):C3 0 (Kn r)=some (.b r.v6):=rfl
def Bj0 (r:Dat):C3 1 (Kn r)=some (.i .u64 r.hi):=rfl
def At9 (r:Dat):C3 2 (Kn r)=some (.i .u64 r.lo):=rfl
def Ec3 (r:Zone):Sy 2 r.pv=some r.pv:=rfl
def Dp1 (r:Zone):Lw 0 2 r.pv=some r.pv:=rfl
def As2 (r:Zone):C3 0 r.pv=some (.s r.origin):=rfl
def As1 (r:Zone):C3 1 r.pv=some (B8 r.recs):=rfl
def ep (v:Bool) (h l:Int) (s1 s2 s3:List UInt8) (a b c d e f g:Int):PV.a [.b v,.i .u64 h,.i .u64 l,.s s1,.s s2,.s s3,.i .i64 a,.i .i64 b,.i .i64 c,.i .i64 d,.i .i64 e,.i .i64 f,.i .u64 g]=Dat.pv ⟨v,h,l,s1,s2,s3,a,b,c,d,e,f,g⟩:=rfl
def Eb7 (n:List UInt8) (t u:Int) (v:Bool) (h l:Int) (s1 s2 s3:List UInt8) (a b c d e f g:Int):PV.a [.s n,.i .i64 t,.i .i64 u,.b v,.i .u64 h,.i .u64 l,.s s1,.s s2,.s s3,.i .i64 a,.i .i64 b,.i .i64 c,.i .i64 d,.i .i64 e,.i .i64 f,.i .u64 g]=Rec.pv ⟨n,t,u,⟨v,h,l,s1,s2,s3,a,b,c,d,e,f,g⟩⟩:=rfl
def Gt (x:Dat):(⟨x.v6,x.hi,x.lo,x.host,x.mail,x.text,x.a,x.b,x.c,x.d,x.e,x.f,x.bits⟩:Dat)=x:=rfl
def Gv0 (x:Rec):(⟨x.name,x.typ,x.ttl,x.data⟩:Rec)=x:=rfl
def Ec1 (x:Dat):PV.flat x.pv=true:=rfl
def Ec0 (x:Rec):PV.flat x.pv=true:=rfl
def Dw6 (x:Dat):PV.flat (Kn x)=true:=rfl
def Ft4 (x:Rec):Lf 16 [x.pv]=some (B8 [x]):=rfl
def Ey3 (l:List Rec):H7 (B8 l)=some (.i .i64 (l.length:Int)):=by simp[B8,H7]
def Qr (l:List Rec) (k:IntKind) (z:Int) (h:0<=z):Lg 16 (B8 l) (.i k z)=(l[z.toNat]?).map Rec.pv:=by simp[B8,vl _ _ _ _ h]
def Dg1 (l:List Rec) (x:Rec) (h:l.length+1<=1073741824):Jm 16 (B8 l) (B8 [x])=some (B8 (l++[x])):=by have:=T6 16 (l.map Rec.pv) [x.pv] (by simpa using h);simpa [B8] using this
def Uh (l m:List Rec) (h:l.length+m.length<=1073741824):Jm 16 (B8 l) (B8 m)=some (B8 (l++m)):=by have:=T6 16 (l.map Rec.pv) (m.map Rec.pv) (by simpa using h);simpa [B8] using this
def Ds7:PV.l 16 []=B8 []:=rfl
def Ox (l:List Rec) (k k':IntKind) (a b:Int) (h1:0<=a) (h2:a<=b) (h3:b<=(l.length:Int)):Kt 16 (B8 l) (.i k a) (.i k' b)=some (B8 ((l.take b.toNat).drop a.toNat)):=by have:=Cp9 16 (l.map Rec.pv) k k' a b h1 h2 (by simpa using h3);simpa [B8] using this
def Fn2 (l:List Rec) (k:IntKind) (z:Int) (n:List UInt8) (t u:Int) (v:Bool) (h w:Int) (s1 s2 s3:List UInt8) (a b c d e f g:Int) (h0:0<=z) (h1:z<(l.length:Int)):
  Pw 16 0 [.s n,.i .i64 t,.i .i64 u,.b v,.i .u64 h,.i .u64 w,.s s1,.s s2,.s s3,.i .i64 a,.i .i64 b,.i .i64 c,.i .i64 d,.i .i64 e,.i .i64 f,.i .u64 g] (B8 l) (.i k z)=some (B8 (l.set z.toNat ⟨n,t,u,⟨v,h,w,s1,s2,s3,a,b,c,d,e,f,g⟩⟩)):=by
 have h2:z.toNat<l.length:=by omega
 have h3:(l.map Rec.pv)[z.toNat]? =some (l[z.toNat].pv):=by simp[h2]
 simp only[Pw,B8,h0,h3,and_self,if_true,B0];have h4:R4 (l[z.toNat].pv) 0 [.s n,.i .i64 t,.i .i64 u,.b v,.i .u64 h,.i .u64 w,.s s1,.s s2,.s s3,.i .i64 a,.i .i64 b,.i .i64 c,.i .i64 d,.i .i64 e,.i .i64 f,.i .u64 g]=some (Rec.pv ⟨n,t,u,⟨v,h,w,s1,s2,s3,a,b,c,d,e,f,g⟩⟩):=rfl;rw[h4];simp[List.map_set]
def Cw6 (l:List Rec):Jf (B8 l)=some (B8 l):=rfl
def Ey2 (l:List (List UInt8)):H7 (Dq l)=some (.i .i64 (l.length:Int)):=by simp[Dq,H7]
def Eb1 (l:List (List UInt8)) (k:IntKind) (z:Int) (h:0<=z):Lg 1 (Dq l) (.i k z)=(l[z.toNat]?).map PV.s:=by simp[Dq,vl _ _ _ _ h]
def Ft2 (x:List UInt8):Lf 1 [.s x]=some (Dq [x]):=rfl
def Dp7:PV.l 1 []=Dq []:=rfl
def Df9 (l:List (List UInt8)) (x:List UInt8) (h:l.length+1<=1073741824):Jm 1 (Dq l) (Dq [x])=some (Dq (l++[x])):=by have:=T6 1 (l.map PV.s) [.s x] (by simpa using h);simpa [Dq] using this
def gw (l m:List (List UInt8)) (h:l.length+m.length<=1073741824):Jm 1 (Dq l) (Dq m)=some (Dq (l++m)):=by have:=T6 1 (l.map PV.s) (m.map PV.s) (by simpa using h);simpa [Dq] using this
def Ux (l:List (List UInt8)) (k k':IntKind) (a b:Int) (h1:0<=a) (h2:a<=b) (h3:b<=(l.length:Int)):Kt 1 (Dq l) (.i k a) (.i k' b)=some (Dq ((l.take b.toNat).drop a.toNat)):=by have:=Cp9 1 (l.map PV.s) k k' a b h1 h2 (by simpa using h3);simpa [Dq] using this
def Dr9 (l:List (List UInt8)) (k:IntKind) (z:Int) (x:List UInt8) (h0:0<=z) (h1:z<(l.length:Int)):Pw 1 0 [.s x] (Dq l) (.i k z)=some (Dq (l.set z.toNat x)):=by
 have h2:z.toNat<l.length:=by omega
 have h3:(l.map PV.s)[z.toNat]? =some (.s l[z.toNat]):=by simp[h2]
 simp only[Pw,Dq,h0,h3,and_self,if_true,B0];have h4:R4 (.s l[z.toNat]) 0 [.s x]=some (.s x):=rfl;rw[h4];simp[List.map_set]
def Ds4 (n:Int) (h0:0<=n) (h1:n<=1073741824):M6 1 (.i .i64 n) (.s [])=some (Dq (List.replicate n.toNat [])):=by
 have h2:n<=(LIM:Int):=by simp only[LIM];omega
 have h3:(PV.s []).cells.length=1:=rfl;simp only[M6,h0,h2,h3,and_self,if_true];simp[Dq]
def Cc0 (l:List (List UInt8)):C3 0 (Dq l)=some (Dq l):=rfl
def Cc5 (l:List Rec):C3 0 (B8 l)=some (B8 l):=rfl
def Cw4 (l:List (List UInt8)):Jf (Dq l)=some (Dq l):=rfl
def Hp2 (neg:Bool) (x y:Dat):Nf neg true [.b,(.i .u64),(.i .u64),.s,.s,.s,(.i .i64),(.i .i64),(.i .i64),(.i .i64),(.i .i64),(.i .i64),(.i .u64)] x.pv y.pv=some (.b (if neg then decide (x≠y) else decide (x=y))):=by
 have:Hs [.b,(.i .u64),(.i .u64),.s,.s,.s,(.i .i64),(.i .i64),(.i .i64),(.i .i64),(.i .i64),(.i .i64),(.i .u64)] x.cells y.cells=some (decide (x=y)):=by simp only[Dat.cells,Hs,Dl3,if_true,Bn];rw[G3];cases x;cases y;simp
 simp only[Nf,Dat.pv,this,Cc];cases neg<;>simp
def Hp1 (neg:Bool) (x y:Rec):Nf neg true [.s,(.i .i64),(.i .i64),.b,(.i .u64),(.i .u64),.s,.s,.s,(.i .i64),(.i .i64),(.i .i64),(.i .i64),(.i .i64),(.i .i64),(.i .u64)] x.pv y.pv=some (.b (if neg then decide (x≠y) else decide (x=y))):=by
 have:Hs [.s,(.i .i64),(.i .i64),.b,(.i .u64),(.i .u64),.s,.s,.s,(.i .i64),(.i .i64),(.i .i64),(.i .i64),(.i .i64),(.i .i64),(.i .u64)] x.cells y.cells=some (decide (x=y)):=by simp only[Rec.cells,Dat.cells,Hs,Dl3,if_true,Bn];rw[G3];rcases x with⟨_,_,_,⟨⟩⟩;rcases y with⟨_,_,_,⟨⟩⟩;simp[and_assoc]
 simp only[Nf,Rec.pv,this,Cc];cases neg<;>simp
set_option linter.defProp false in
def EVP:=(And.intro @Dr9 (And.intro @Ds4 (And.intro @Fn2 (And.intro @Fm3 (And.intro @Gk4 (And.intro @jr (And.intro @js (And.intro @Cd5 (And.intro @Cd4 (And.intro @Cd3 (And.intro @Cd2 (And.intro @Cd1 (And.intro @Cd0 (And.intro @Cc9 (And.intro @Cc8 (And.intro @Cc7 (And.intro @Cc6 (And.intro @As8 (And.intro @As7 (And.intro @As6 (And.intro @As5 (And.intro @As4 (And.intro @As3 (And.intro @Fm5 (And.intro @jt (And.intro @Gk6 (And.intro @Cg5 (And.intro @Cg4 (And.intro @Cg3 (And.intro @Cg2 (And.intro @Cg1 (And.intro @Cg0 (And.intro @Cf9 (And.intro @Cf8 (And.intro @Cf7 (And.intro @Cf6 (And.intro @At8 (And.intro @At7 (And.intro @At6 (And.intro @Ec4 (And.intro @Dp4 (And.intro @Bj1 (And.intro @Bj0 (And.intro @At9 (And.intro @Ec3 (And.intro @Dp1 (And.intro @As2 (And.intro @As1 (And.intro @ep (And.intro @Eb7 (And.intro @Gt (And.intro @Gv0 (And.intro @Ec1 (And.intro @Ec0 (And.intro @Dw6 (And.intro @Ft4 (And.intro @Ey3 (And.intro @Qr (And.intro @Dg1 (And.intro @Uh (And.intro @Ds7 (And.intro @Ox (And.intro @Cw6 (And.intro @Ey2 (And.intro @Eb1 (And.intro @Ft2 (And.intro @Dp7 (And.intro @Df9 (And.intro @gw (And.intro @Ux (And.intro @Cc0 (And.intro @Cc5 (And.intro @Cw4 (And.intro @Hp2 @Hp1))))))))))))))))))))))))))))))))))))))))))))))))))))))))))))))))))))))))))
end Go.X
