/- The program's data. -/
import Derived.Test.YtfhbgkahambahaaGreatDoorIterateServerG4
open Bool renaming eq_iff_iff→D6
open Option renaming bind_some→Bt,map_some→Cb
open Option.some renaming injEq→Bn
set_option maxHeartbeats 1000000
set_option linter.defProp false
set_option linter.unusedVariables false
set_option linter.unusedSimpArgs false
namespace Go.X
open Go
structure Dat where
 v6:Bool
 hi:Int
 lo:Int
 host:List UInt8
 mail:List UInt8
 text:List UInt8
 a:Int
 b:Int
 c:Int
 d:Int
 e:Int
 f:Int
 bits:Int
 deriving DecidableEq
structure Rec where
 name:List UInt8
 typ:Int
 ttl:Int
 data:Dat
 deriving DecidableEq
structure Zone where
 origin:List UInt8
 recs:List Rec
 deriving DecidableEq
def Im (x:Int):Prop:= -9223372036854775808≤x∧x≤9223372036854775807
def Ff0 (x:Int):Prop:=0≤x∧x≤18446744073709551615
def Hv (x:List UInt8):Prop:=x.length≤9223372036854775807
structure Dat.wf (x:Dat):Prop where
 hi:Ff0 x.hi
 lo:Ff0 x.lo
 host:Hv x.host
 mail:Hv x.mail
 text:Hv x.text
 a:Im x.a
 b:Im x.b
 c:Im x.c
 d:Im x.d
 e:Im x.e
 f:Im x.f
 bits:Ff0 x.bits
structure Rec.wf (r:Rec):Prop where
 name:Hv r.name
 typ:Im r.typ
 ttl:Im r.ttl
 data:r.data.wf
def Qs (l:List Rec):Prop:=l.length≤9223372036854775807∧∀r∈l,r.wf
structure Zone.wf (z:Zone):Prop where
 origin:Hv z.origin
 recs:Qs z.recs
def Dat.cells (x:Dat):List PV:=[.b x.v6,.i .u64 x.hi,.i .u64 x.lo,.s x.host,.s x.mail,.s x.text,.i .i64 x.a,.i .i64 x.b,.i .i64 x.c,.i .i64 x.d,.i .i64 x.e,.i .i64 x.f,.i .u64 x.bits]
def Dat.pv (x:Dat):PV:= .a x.cells
def Rec.cells (x:Rec):List PV:= .s x.name:: .i .i64 x.typ:: .i .i64 x.ttl::x.data.cells
def Rec.pv (x:Rec):PV:= .a x.cells
def B6 (l:List Rec):PV:= .l 16 (l.map Rec.pv)
def Zone.pv (x:Zone):PV:= .a [.s x.origin,B6 x.recs]
def Cs (l:List (List UInt8)):PV:= .l 1 (l.map .s)
def L2 (x:Dat):PV:= .a [.b x.v6,.i .u64 x.hi,.i .u64 x.lo]
def Fg2 (r:Rec):Jt 0 16 r.pv=some r.pv:=rfl
def Fs3 (r:Rec):Rx 16 r.pv=some r.pv:=rfl
def mb (r:Rec):Jt 3 13 r.pv=some r.data.pv:=rfl
def mc (r:Rec):Jt 3 3 r.pv=some (L2 r.data):=rfl
def Cb3 (r:Rec):C2 0 r.pv=some (.s r.name):=rfl
def Cb2 (r:Rec):C2 1 r.pv=some (.i .i64 r.typ):=rfl
def Cb1 (r:Rec):C2 2 r.pv=some (.i .i64 r.ttl):=rfl
def Cb0 (r:Rec):C2 3 r.pv=some (.b r.data.v6):=rfl
def Cz9 (r:Rec):C2 4 r.pv=some (.i .u64 r.data.hi):=rfl
def Cz8 (r:Rec):C2 5 r.pv=some (.i .u64 r.data.lo):=rfl
def Cz7 (r:Rec):C2 6 r.pv=some (.s r.data.host):=rfl
def Cz6 (r:Rec):C2 7 r.pv=some (.s r.data.mail):=rfl
def Cz5 (r:Rec):C2 8 r.pv=some (.s r.data.text):=rfl
def Cz4 (r:Rec):C2 9 r.pv=some (.i .i64 r.data.a):=rfl
def Bv8 (r:Rec):C2 10 r.pv=some (.i .i64 r.data.b):=rfl
def Bv7 (r:Rec):C2 11 r.pv=some (.i .i64 r.data.c):=rfl
def Bv6 (r:Rec):C2 12 r.pv=some (.i .i64 r.data.d):=rfl
def Bv5 (r:Rec):C2 13 r.pv=some (.i .i64 r.data.e):=rfl
def Bv4 (r:Rec):C2 14 r.pv=some (.i .i64 r.data.f):=rfl
def Bv3 (r:Rec):C2 15 r.pv=some (.i .u64 r.data.bits):=rfl
def Fg4 (r:Dat):Jt 0 13 r.pv=some r.pv:=rfl
def md (r:Dat):Jt 0 3 r.pv=some (L2 r):=rfl
def Fs5 (r:Dat):Rx 13 r.pv=some r.pv:=rfl
def Cd3 (r:Dat):C2 0 r.pv=some (.b r.v6):=rfl
def Cd2 (r:Dat):C2 1 r.pv=some (.i .u64 r.hi):=rfl
def Cd1 (r:Dat):C2 2 r.pv=some (.i .u64 r.lo):=rfl
def Cd0 (r:Dat):C2 3 r.pv=some (.s r.host):=rfl
def Cc9 (r:Dat):C2 4 r.pv=some (.s r.mail):=rfl
def Cc8 (r:Dat):C2 5 r.pv=some (.s r.text):=rfl
def Cc7 (r:Dat):C2 6 r.pv=some (.i .i64 r.a):=rfl
def Cc6 (r:Dat):C2 7 r.pv=some (.i .i64 r.b):=rfl
def Cc5 (r:Dat):C2 8 r.pv=some (.i .i64 r.c):=rfl
def Cc4 (r:Dat):C2 9 r.pv=some (.i .i64 r.d):=rfl
def Bw8 (r:Dat):C2 10 r.pv=some (.i .i64 r.e):=rfl
def Bw7 (r:Dat):C2 11 r.pv=some (.i .i64 r.f):=rfl
def Bw6 (r:Dat):C2 12 r.pv=some (.i .u64 r.bits):=rfl
def En5 (r:Dat):Rx 3 (L2 r)=some (L2 r):=rfl
def Ey7 (r:Dat):Jt 0 3 (L2 r)=some (L2 r):=rfl
def Bx1 (r:Dat):C2 0 (L2 r)=some (.b r.v6):=rfl
def Bx0 (r:Dat):C2 1 (L2 r)=some (.i .u64 r.hi):=rfl
def Bw9 (r:Dat):C2 2 (L2 r)=some (.i .u64 r.lo):=rfl
def En4 (r:Zone):Rx 2 r.pv=some r.pv:=rfl
def Ey5 (r:Zone):Jt 0 2 r.pv=some r.pv:=rfl
def Bv2 (r:Zone):C2 0 r.pv=some (.s r.origin):=rfl
def Bv1 (r:Zone):C2 1 r.pv=some (B6 r.recs):=rfl
def g7 (v:Bool) (h l:Int) (s1 s2 s3:List UInt8) (a b c d e f g:Int):PV.a [.b v,.i .u64 h,.i .u64 l,.s s1,.s s2,.s s3,.i .i64 a,.i .i64 b,.i .i64 c,.i .i64 d,.i .i64 e,.i .i64 f,.i .u64 g]=Dat.pv ⟨v,h,l,s1,s2,s3,a,b,c,d,e,f,g⟩:=rfl
def Em8 (n:List UInt8) (t u:Int) (v:Bool) (h l:Int) (s1 s2 s3:List UInt8) (a b c d e f g:Int):PV.a [.s n,.i .i64 t,.i .i64 u,.b v,.i .u64 h,.i .u64 l,.s s1,.s s2,.s s3,.i .i64 a,.i .i64 b,.i .i64 c,.i .i64 d,.i .i64 e,.i .i64 f,.i .u64 g]=Rec.pv ⟨n,t,u,⟨v,h,l,s1,s2,s3,a,b,c,d,e,f,g⟩⟩:=rfl
def G0 (x:Dat):(⟨x.v6,x.hi,x.lo,x.host,x.mail,x.text,x.a,x.b,x.c,x.d,x.e,x.f,x.bits⟩:Dat)=x:=rfl
def Gj1 (x:Rec):(⟨x.name,x.typ,x.ttl,x.data⟩:Rec)=x:=rfl
def En2 (x:Dat):PV.flat x.pv=true:=rfl
def En1 (x:Rec):PV.flat x.pv=true:=rfl
def Dv1 (x:Dat):PV.flat (L2 x)=true:=rfl
def Fp9 (x:Rec):Lz 16 [x.pv]=some (B6 [x]):=rfl
def Al9 (l:List Rec):G8 (B6 l)=some (.i .i64 (l.length:Int)):=by simp[B6,G8]
def K8 (l:List Rec) (k:IntKind) (z:Int) (h:0≤z):Hy 16 (B6 l) (.i k z)=(l[z.toNat]?).map Rec.pv:=by simp[B6,Xj _ _ _ _ h]
def Dh3 (l:List Rec) (x:Rec) (h:l.length+1≤1073741824):Ip 16 (B6 l) (B6 [x])=some (B6 (l++[x])):=by have:=X6 16 (l.map Rec.pv) [x.pv] (by simpa using h);simpa [B6] using this
def Ic (l m:List Rec) (h:l.length+m.length≤1073741824):Ip 16 (B6 l) (B6 m)=some (B6 (l++m)):=by have:=X6 16 (l.map Rec.pv) (m.map Rec.pv) (by simpa using h);simpa [B6] using this
def Eb7:PV.l 16 []=B6 []:=rfl
def Hm (l:List Rec) (k k':IntKind) (a b:Int) (h1:0≤a) (h2:a≤b) (h3:b≤(l.length:Int)):Ix 16 (B6 l) (.i k a) (.i k' b)=some (B6 ((l.take b.toNat).drop a.toNat)):=by have:=Cr2 16 (l.map Rec.pv) k k' a b h1 h2 (by simpa using h3);simpa [B6] using this
def Fh7 (l:List Rec) (k:IntKind) (z:Int) (n:List UInt8) (t u:Int) (v:Bool) (h w:Int) (s1 s2 s3:List UInt8) (a b c d e f g:Int) (h0:0≤z) (h1:z<(l.length:Int)):
  Uc 16 0 [.s n,.i .i64 t,.i .i64 u,.b v,.i .u64 h,.i .u64 w,.s s1,.s s2,.s s3,.i .i64 a,.i .i64 b,.i .i64 c,.i .i64 d,.i .i64 e,.i .i64 f,.i .u64 g] (B6 l) (.i k z)=some (B6 (l.set z.toNat ⟨n,t,u,⟨v,h,w,s1,s2,s3,a,b,c,d,e,f,g⟩⟩)):=by
 have h2:z.toNat<l.length:=by omega
 have h3:(l.map Rec.pv)[z.toNat]? =some (l[z.toNat].pv):=by simp[h2]
 simp only[Uc,B6,h0,h3,and_self,if_true,Bt];have h4:S1 (l[z.toNat].pv) 0 [.s n,.i .i64 t,.i .i64 u,.b v,.i .u64 h,.i .u64 w,.s s1,.s s2,.s s3,.i .i64 a,.i .i64 b,.i .i64 c,.i .i64 d,.i .i64 e,.i .i64 f,.i .u64 g]=some (Rec.pv ⟨n,t,u,⟨v,h,w,s1,s2,s3,a,b,c,d,e,f,g⟩⟩):=rfl;rw[h4];simp[List.map_set]
def Ck5 (l:List Rec):J4 (B6 l)=some (B6 l):=rfl
def Eg9 (l:List (List UInt8)):G8 (Cs l)=some (.i .i64 (l.length:Int)):=by simp[Cs,G8]
def On (l:List (List UInt8)) (k:IntKind) (z:Int) (h:0≤z):Hy 1 (Cs l) (.i k z)=(l[z.toNat]?).map PV.s:=by simp[Cs,Xj _ _ _ _ h]
def Fp7 (x:List UInt8):Lz 1 [.s x]=some (Cs [x]):=rfl
def Ez0:PV.l 1 []=Cs []:=rfl
def Dh1 (l:List (List UInt8)) (x:List UInt8) (h:l.length+1≤1073741824):Ip 1 (Cs l) (Cs [x])=some (Cs (l++[x])):=by have:=X6 1 (l.map PV.s) [.s x] (by simpa using h);simpa [Cs] using this
def jm (l m:List (List UInt8)) (h:l.length+m.length≤1073741824):Ip 1 (Cs l) (Cs m)=some (Cs (l++m)):=by have:=X6 1 (l.map PV.s) (m.map PV.s) (by simpa using h);simpa [Cs] using this
def J8 (l:List (List UInt8)) (k k':IntKind) (a b:Int) (h1:0≤a) (h2:a≤b) (h3:b≤(l.length:Int)):Ix 1 (Cs l) (.i k a) (.i k' b)=some (Cs ((l.take b.toNat).drop a.toNat)):=by have:=Cr2 1 (l.map PV.s) k k' a b h1 h2 (by simpa using h3);simpa [Cs] using this
def Ez7 (l:List (List UInt8)) (k:IntKind) (z:Int) (x:List UInt8) (h0:0≤z) (h1:z<(l.length:Int)):Uc 1 0 [.s x] (Cs l) (.i k z)=some (Cs (l.set z.toNat x)):=by
 have h2:z.toNat<l.length:=by omega
 have h3:(l.map PV.s)[z.toNat]? =some (.s l[z.toNat]):=by simp[h2]
 simp only[Uc,Cs,h0,h3,and_self,if_true,Bt];have h4:S1 (.s l[z.toNat]) 0 [.s x]=some (.s x):=rfl;rw[h4];simp[List.map_set]
def Ag9 (n:Int) (h0:0≤n) (h1:n≤1073741824):Lg 1 (.i .i64 n) (.s [])=some (Cs (List.replicate n.toNat [])):=by
 have h2:n≤(LIM:Int):=by simp only[LIM];omega
 have h3:(PV.s []).cells.length=1:=rfl;simp only[Lg,h0,h2,h3,and_self,if_true];simp[Cs]
def Cy6 (l:List (List UInt8)):C2 0 (Cs l)=some (Cs l):=rfl
def Cz3 (l:List Rec):C2 0 (B6 l)=some (B6 l):=rfl
def Ck3 (l:List (List UInt8)):J4 (Cs l)=some (Cs l):=rfl
def Hh7 (neg:Bool) (x y:Dat):M9 neg true [.b,(.i .u64),(.i .u64),.s,.s,.s,(.i .i64),(.i .i64),(.i .i64),(.i .i64),(.i .i64),(.i .i64),(.i .u64)] x.pv y.pv=some (.b (if neg then decide (x≠y) else decide (x=y))):=by
 have:H5 [.b,(.i .u64),(.i .u64),.s,.s,.s,(.i .i64),(.i .i64),(.i .i64),(.i .i64),(.i .i64),(.i .i64),(.i .u64)] x.cells y.cells=some (decide (x=y)):=by simp only[Dat.cells,H5,Dm6,if_true,Bn];rw[D6];cases x;cases y;simp
 simp only[M9,Dat.pv,this,Cb];cases neg<;>simp
def Hh6 (neg:Bool) (x y:Rec):M9 neg true [.s,(.i .i64),(.i .i64),.b,(.i .u64),(.i .u64),.s,.s,.s,(.i .i64),(.i .i64),(.i .i64),(.i .i64),(.i .i64),(.i .i64),(.i .u64)] x.pv y.pv=some (.b (if neg then decide (x≠y) else decide (x=y))):=by
 have:H5 [.s,(.i .i64),(.i .i64),.b,(.i .u64),(.i .u64),.s,.s,.s,(.i .i64),(.i .i64),(.i .i64),(.i .i64),(.i .i64),(.i .i64),(.i .u64)] x.cells y.cells=some (decide (x=y)):=by simp only[Rec.cells,Dat.cells,H5,Dm6,if_true,Bn];rw[D6];rcases x with⟨_,_,_,⟨⟩⟩;rcases y with⟨_,_,_,⟨⟩⟩;simp[and_assoc]
 simp only[M9,Rec.pv,this,Cb];cases neg<;>simp
set_option linter.defProp false in
def EVP:=(And.intro @Ez7 (And.intro @Ag9 (And.intro @Fh7 (And.intro @Fg2 (And.intro @Fs3 (And.intro @mb (And.intro @mc (And.intro @Cb3 (And.intro @Cb2 (And.intro @Cb1 (And.intro @Cb0 (And.intro @Cz9 (And.intro @Cz8 (And.intro @Cz7 (And.intro @Cz6 (And.intro @Cz5 (And.intro @Cz4 (And.intro @Bv8 (And.intro @Bv7 (And.intro @Bv6 (And.intro @Bv5 (And.intro @Bv4 (And.intro @Bv3 (And.intro @Fg4 (And.intro @md (And.intro @Fs5 (And.intro @Cd3 (And.intro @Cd2 (And.intro @Cd1 (And.intro @Cd0 (And.intro @Cc9 (And.intro @Cc8 (And.intro @Cc7 (And.intro @Cc6 (And.intro @Cc5 (And.intro @Cc4 (And.intro @Bw8 (And.intro @Bw7 (And.intro @Bw6 (And.intro @En5 (And.intro @Ey7 (And.intro @Bx1 (And.intro @Bx0 (And.intro @Bw9 (And.intro @En4 (And.intro @Ey5 (And.intro @Bv2 (And.intro @Bv1 (And.intro @g7 (And.intro @Em8 (And.intro @G0 (And.intro @Gj1 (And.intro @En2 (And.intro @En1 (And.intro @Dv1 (And.intro @Fp9 (And.intro @Al9 (And.intro @K8 (And.intro @Dh3 (And.intro @Ic (And.intro @Eb7 (And.intro @Hm (And.intro @Ck5 (And.intro @Eg9 (And.intro @On (And.intro @Fp7 (And.intro @Ez0 (And.intro @Dh1 (And.intro @jm (And.intro @J8 (And.intro @Cy6 (And.intro @Cz3 (And.intro @Ck3 (And.intro @Hh7 @Hh6))))))))))))))))))))))))))))))))))))))))))))))))))))))))))))))))))))))))))
end Go.X
