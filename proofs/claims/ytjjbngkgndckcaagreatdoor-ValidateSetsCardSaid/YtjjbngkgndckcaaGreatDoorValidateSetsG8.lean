/- The program's data. -/
import Derived.Test.YtjjbngkgndckcaaGreatDoorValidateSetsG4
open Bool renaming eq_iff_iff->Gw
open Option renaming bind_some->Bs,map_some->Cc
open Option.some renaming injEq->Bm
set_option maxHeartbeats 1000000
set_option linter.defProp false
set_option linter.unusedVariables false
set_option linter.unusedSimpArgs false
namespace Go.X
open Go
structure Dat where
 v6:Bool
 hi:Int
 lo:Int
 host:List UInt8
 mail:List UInt8
 text:List UInt8
 a:Int
 b:Int
 c:Int
 d:Int
 e:Int
 f:Int
 bits:Int
 deriving DecidableEq
structure Rec where
 name:List UInt8
 typ:Int
 ttl:Int
 data:Dat
 deriving DecidableEq
structure Zone where
 origin:List UInt8
 recs:List Rec
 deriving DecidableEq
def cw (x:Int):Prop:= -9223372036854775808<=x∧x<=9223372036854775807
def Y7 (x:Int):Prop:=0<=x∧x<=18446744073709551615
def d4 (x:List UInt8):Prop:=x.length<=9223372036854775807
structure Dat.wf (x:Dat):Prop where
 hi:Y7 x.hi
 lo:Y7 x.lo
 host:d4 x.host
 mail:d4 x.mail
 text:d4 x.text
 a:cw x.a
 b:cw x.b
 c:cw x.c
 d:cw x.d
 e:cw x.e
 f:cw x.f
 bits:Y7 x.bits
structure Rec.wf (r:Rec):Prop where
 name:d4 r.name
 typ:cw r.typ
 ttl:cw r.ttl
 data:r.data.wf
def gj (l:List Rec):Prop:=l.length<=9223372036854775807∧∀r∈l,r.wf
structure Zone.wf (z:Zone):Prop where
 origin:d4 z.origin
 recs:gj z.recs
def Dat.cells (x:Dat):List PV:=[.b x.v6,.i .u64 x.hi,.i .u64 x.lo,.s x.host,.s x.mail,.s x.text,.i .i64 x.a,.i .i64 x.b,.i .i64 x.c,.i .i64 x.d,.i .i64 x.e,.i .i64 x.f,.i .u64 x.bits]
def Dat.pv (x:Dat):PV:= .a x.cells
def Rec.cells (x:Rec):List PV:= .s x.name:: .i .i64 x.typ:: .i .i64 x.ttl::x.data.cells
def Rec.pv (x:Rec):PV:= .a x.cells
def B9 (l:List Rec):PV:= .l 16 (l.map Rec.pv)
def Zone.pv (x:Zone):PV:= .a [.s x.origin,B9 x.recs]
def Dv (l:List (List UInt8)):PV:= .l 1 (l.map .s)
def Jf (x:Dat):PV:= .a [.b x.v6,.i .u64 x.hi,.i .u64 x.lo]
def Dz7 (r:Rec):J6 0 16 r.pv=some r.pv:=rfl
def Dm4 (r:Rec):Pb 16 r.pv=some r.pv:=rfl
def Zk (r:Rec):J6 3 13 r.pv=some r.data.pv:=rfl
def Zq (r:Rec):J6 3 3 r.pv=some (Jf r.data):=rfl
def An2 (r:Rec):C0 0 r.pv=some (.s r.name):=rfl
def An1 (r:Rec):C0 1 r.pv=some (.i .i64 r.typ):=rfl
def An0 (r:Rec):C0 2 r.pv=some (.i .i64 r.ttl):=rfl
def Am9 (r:Rec):C0 3 r.pv=some (.b r.data.v6):=rfl
def Am8 (r:Rec):C0 4 r.pv=some (.i .u64 r.data.hi):=rfl
def Am7 (r:Rec):C0 5 r.pv=some (.i .u64 r.data.lo):=rfl
def Am6 (r:Rec):C0 6 r.pv=some (.s r.data.host):=rfl
def Am5 (r:Rec):C0 7 r.pv=some (.s r.data.mail):=rfl
def Am4 (r:Rec):C0 8 r.pv=some (.s r.data.text):=rfl
def Am3 (r:Rec):C0 9 r.pv=some (.i .i64 r.data.a):=rfl
def vz (r:Rec):C0 10 r.pv=some (.i .i64 r.data.b):=rfl
def vw (r:Rec):C0 11 r.pv=some (.i .i64 r.data.c):=rfl
def vv (r:Rec):C0 12 r.pv=some (.i .i64 r.data.d):=rfl
def vq (r:Rec):C0 13 r.pv=some (.i .i64 r.data.e):=rfl
def vk (r:Rec):C0 14 r.pv=some (.i .i64 r.data.f):=rfl
def vj (r:Rec):C0 15 r.pv=some (.i .u64 r.data.bits):=rfl
def Dz9 (r:Dat):J6 0 13 r.pv=some r.pv:=rfl
def Zv (r:Dat):J6 0 3 r.pv=some (Jf r):=rfl
def Dm6 (r:Dat):Pb 13 r.pv=some r.pv:=rfl
def Ar2 (r:Dat):C0 0 r.pv=some (.b r.v6):=rfl
def Ar1 (r:Dat):C0 1 r.pv=some (.i .u64 r.hi):=rfl
def Ar0 (r:Dat):C0 2 r.pv=some (.i .u64 r.lo):=rfl
def Ap9 (r:Dat):C0 3 r.pv=some (.s r.host):=rfl
def Ap8 (r:Dat):C0 4 r.pv=some (.s r.mail):=rfl
def Ap7 (r:Dat):C0 5 r.pv=some (.s r.text):=rfl
def Ap6 (r:Dat):C0 6 r.pv=some (.i .i64 r.a):=rfl
def Ap5 (r:Dat):C0 7 r.pv=some (.i .i64 r.b):=rfl
def Ap4 (r:Dat):C0 8 r.pv=some (.i .i64 r.c):=rfl
def Ap3 (r:Dat):C0 9 r.pv=some (.i .i64 r.d):=rfl
def v3 (r:Dat):C0 10 r.pv=some (.i .i64 r.e):=rfl
def vt (r:Dat):C0 11 r.pv=some (.i .i64 r.f):=rfl
def vn (r:Dat):C0 12 r.pv=some (.i .u64 r.bits):=rfl
def Cb3 (r:Dat):Pb 3 (Jf r)=some (Jf r):=rfl
def Br0 (r:Dat):J6 0 3 (Jf r)=some (Jf r):=rfl
def v7 (r:Dat):C0 0 (Jf r)=some (.b r.v6):=rfl
def v5 (r:Dat):C0 1 (Jf r)=some (.i .u64 r.hi):=rfl
def v4 (r:Dat):C0 2 (Jf r)=some (.i .u64 r.lo):=rfl
def Cb2 (r:Zone):Pb 2 r.pv=some r.pv:=rfl
def Bp8 (r:Zone):J6 0 2 r.pv=some r.pv:=rfl
def u9 (r:Zone):C0 0 r.pv=some (.s r.origin):=rfl
def u7 (r:Zone):C0 1 r.pv=some (B9 r.recs):=rfl
def Xc (v:Bool) (h l:Int) (s1 s2 s3:List UInt8) (a b c d e f g:Int):PV.a [.b v,.i .u64 h,.i .u64 l,.s s1,.s s2,.s s3,.i .i64 a,.i .i64 b,.i .i64 c,.i .i64 d,.i .i64 e,.i .i64 f,.i .u64 g]=Dat.pv ⟨v,h,l,s1,s2,s3,a,b,c,d,e,f,g⟩:=rfl
def Cz4 (n:List UInt8) (t u:Int) (v:Bool) (h l:Int) (s1 s2 s3:List UInt8) (a b c d e f g:Int):PV.a [.s n,.i .i64 t,.i .i64 u,.b v,.i .u64 h,.i .u64 l,.s s1,.s s2,.s s3,.i .i64 a,.i .i64 b,.i .i64 c,.i .i64 d,.i .i64 e,.i .i64 f,.i .u64 g]=Rec.pv ⟨n,t,u,⟨v,h,l,s1,s2,s3,a,b,c,d,e,f,g⟩⟩:=rfl
def Gj (x:Dat):(⟨x.v6,x.hi,x.lo,x.host,x.mail,x.text,x.a,x.b,x.c,x.d,x.e,x.f,x.bits⟩:Dat)=x:=rfl
def Dn9 (x:Rec):(⟨x.name,x.typ,x.ttl,x.data⟩:Rec)=x:=rfl
def Cz9 (x:Dat):PV.flat x.pv=true:=rfl
def Cz7 (x:Rec):PV.flat x.pv=true:=rfl
def Bz7 (x:Dat):PV.flat (Jf x)=true:=rfl
def Dg9 (x:Rec):K1 16 [x.pv]=some (B9 [x]):=rfl
def Cx0 (l:List Rec):Hg (B9 l)=some (.i .i64 (l.length:Int)):=by simp[B9,Hg]
def N7 (l:List Rec) (k:IntKind) (z:Int) (h:0<=z):Kf 16 (B9 l) (.i k z)=(l[z.toNat]?).map Rec.pv:=by simp[B9,iy _ _ _ _ h]
def Bh5 (l:List Rec) (x:Rec) (h:l.length+1<=1073741824):I0 16 (B9 l) (B9 [x])=some (B9 (l++[x])):=by have:=Qr 16 (l.map Rec.pv) [x.pv] (by simpa using h);simpa [B9] using this
def X9 (l m:List Rec) (h:l.length+m.length<=1073741824):I0 16 (B9 l) (B9 m)=some (B9 (l++m)):=by have:=Qr 16 (l.map Rec.pv) (m.map Rec.pv) (by simpa using h);simpa [B9] using this
def Bt1:PV.l 16 []=B9 []:=rfl
def My (l:List Rec) (k k':IntKind) (a b:Int) (h1:0<=a) (h2:a<=b) (h3:b<=(l.length:Int)):J3 16 (B9 l) (.i k a) (.i k' b)=some (B9 ((l.take b.toNat).drop a.toNat)):=by have:=Bk7 16 (l.map Rec.pv) k k' a b h1 h2 (by simpa using h3);simpa [B9] using this
def Db6 (l:List Rec) (k:IntKind) (z:Int) (n:List UInt8) (t u:Int) (v:Bool) (h w:Int) (s1 s2 s3:List UInt8) (a b c d e f g:Int) (h0:0<=z) (h1:z<(l.length:Int)):
  T2 16 0 [.s n,.i .i64 t,.i .i64 u,.b v,.i .u64 h,.i .u64 w,.s s1,.s s2,.s s3,.i .i64 a,.i .i64 b,.i .i64 c,.i .i64 d,.i .i64 e,.i .i64 f,.i .u64 g] (B9 l) (.i k z)=some (B9 (l.set z.toNat ⟨n,t,u,⟨v,h,w,s1,s2,s3,a,b,c,d,e,f,g⟩⟩)):=by
 have h2:z.toNat<l.length:=by omega
 have h3:(l.map Rec.pv)[z.toNat]? =some (l[z.toNat].pv):=by simp[h2]
 simp only[T2,B9,h0,h3,and_self,if_true,Bs];have h4:Rp (l[z.toNat].pv) 0 [.s n,.i .i64 t,.i .i64 u,.b v,.i .u64 h,.i .u64 w,.s s1,.s s2,.s s3,.i .i64 a,.i .i64 b,.i .i64 c,.i .i64 d,.i .i64 e,.i .i64 f,.i .u64 g]=some (Rec.pv ⟨n,t,u,⟨v,h,w,s1,s2,s3,a,b,c,d,e,f,g⟩⟩):=rfl;rw[h4];simp[List.map_set]
def Ad6 (l:List Rec):I3 (B9 l)=some (B9 l):=rfl
def Cw8 (l:List (List UInt8)):Hg (Dv l)=some (.i .i64 (l.length:Int)):=by simp[Dv,Hg]
def Cy7 (l:List (List UInt8)) (k:IntKind) (z:Int) (h:0<=z):Kf 1 (Dv l) (.i k z)=(l[z.toNat]?).map PV.s:=by simp[Dv,iy _ _ _ _ h]
def Dg7 (x:List UInt8):K1 1 [.s x]=some (Dv [x]):=rfl
def Br3:PV.l 1 []=Dv []:=rfl
def Bh3 (l:List (List UInt8)) (x:List UInt8) (h:l.length+1<=1073741824):I0 1 (Dv l) (Dv [x])=some (Dv (l++[x])):=by have:=Qr 1 (l.map PV.s) [.s x] (by simpa using h);simpa [Dv] using this
def Cf2 (l m:List (List UInt8)) (h:l.length+m.length<=1073741824):I0 1 (Dv l) (Dv m)=some (Dv (l++m)):=by have:=Qr 1 (l.map PV.s) (m.map PV.s) (by simpa using h);simpa [Dv] using this
def Xv (l:List (List UInt8)) (k k':IntKind) (a b:Int) (h1:0<=a) (h2:a<=b) (h3:b<=(l.length:Int)):J3 1 (Dv l) (.i k a) (.i k' b)=some (Dv ((l.take b.toNat).drop a.toNat)):=by have:=Bk7 1 (l.map PV.s) k k' a b h1 h2 (by simpa using h3);simpa [Dv] using this
def Bs3 (l:List (List UInt8)) (k:IntKind) (z:Int) (x:List UInt8) (h0:0<=z) (h1:z<(l.length:Int)):T2 1 0 [.s x] (Dv l) (.i k z)=some (Dv (l.set z.toNat x)):=by
 have h2:z.toNat<l.length:=by omega
 have h3:(l.map PV.s)[z.toNat]? =some (.s l[z.toNat]):=by simp[h2]
 simp only[T2,Dv,h0,h3,and_self,if_true,Bs];have h4:Rp (.s l[z.toNat]) 0 [.s x]=some (.s x):=rfl;rw[h4];simp[List.map_set]
def Bs9 (n:Int) (h0:0<=n) (h1:n<=1073741824):Lx 1 (.i .i64 n) (.s [])=some (Dv (List.replicate n.toNat [])):=by
 have h2:n<=(LIM:Int):=by simp only[LIM];omega
 have h3:(PV.s []).cells.length=1:=rfl;simp only[Lx,h0,h2,h3,and_self,if_true];simp[Dv]
def Al7 (l:List (List UInt8)):C0 0 (Dv l)=some (Dv l):=rfl
def Am2 (l:List Rec):C0 0 (B9 l)=some (B9 l):=rfl
def Ad4 (l:List (List UInt8)):I3 (Dv l)=some (Dv l):=rfl
def Ff9 (neg:Bool) (x y:Dat):Ln neg true [.b,(.i .u64),(.i .u64),.s,.s,.s,(.i .i64),(.i .i64),(.i .i64),(.i .i64),(.i .i64),(.i .i64),(.i .u64)] x.pv y.pv=some (.b (if neg then decide (x≠y) else decide (x=y))):=by
 have:G9 [.b,(.i .u64),(.i .u64),.s,.s,.s,(.i .i64),(.i .i64),(.i .i64),(.i .i64),(.i .i64),(.i .i64),(.i .u64)] x.cells y.cells=some (decide (x=y)):=by simp only[Dat.cells,G9,Bm4,if_true,Bm];rw[Gw];cases x;cases y;simp
 simp only[Ln,Dat.pv,this,Cc];cases neg<;>simp
def Ff8 (neg:Bool) (x y:Rec):Ln neg true [.s,(.i .i64),(.i .i64),.b,(.i .u64),(.i .u64),.s,.s,.s,(.i .i64),(.i .i64),(.i .i64),(.i .i64),(.i .i64),(.i .i64),(.i .u64)] x.pv y.pv=some (.b (if neg then decide (x≠y) else decide (x=y))):=by
 have:G9 [.s,(.i .i64),(.i .i64),.b,(.i .u64),(.i .u64),.s,.s,.s,(.i .i64),(.i .i64),(.i .i64),(.i .i64),(.i .i64),(.i .i64),(.i .u64)] x.cells y.cells=some (decide (x=y)):=by simp only[Rec.cells,Dat.cells,G9,Bm4,if_true,Bm];rw[Gw];rcases x with⟨_,_,_,⟨⟩⟩;rcases y with⟨_,_,_,⟨⟩⟩;simp[and_assoc]
 simp only[Ln,Rec.pv,this,Cc];cases neg<;>simp
set_option linter.defProp false in
def EVP:=(And.intro @Bs3 (And.intro @Bs9 (And.intro @Db6 (And.intro @Dz7 (And.intro @Dm4 (And.intro @Zk (And.intro @Zq (And.intro @An2 (And.intro @An1 (And.intro @An0 (And.intro @Am9 (And.intro @Am8 (And.intro @Am7 (And.intro @Am6 (And.intro @Am5 (And.intro @Am4 (And.intro @Am3 (And.intro @vz (And.intro @vw (And.intro @vv (And.intro @vq (And.intro @vk (And.intro @vj (And.intro @Dz9 (And.intro @Zv (And.intro @Dm6 (And.intro @Ar2 (And.intro @Ar1 (And.intro @Ar0 (And.intro @Ap9 (And.intro @Ap8 (And.intro @Ap7 (And.intro @Ap6 (And.intro @Ap5 (And.intro @Ap4 (And.intro @Ap3 (And.intro @v3 (And.intro @vt (And.intro @vn (And.intro @Cb3 (And.intro @Br0 (And.intro @v7 (And.intro @v5 (And.intro @v4 (And.intro @Cb2 (And.intro @Bp8 (And.intro @u9 (And.intro @u7 (And.intro @Xc (And.intro @Cz4 (And.intro @Gj (And.intro @Dn9 (And.intro @Cz9 (And.intro @Cz7 (And.intro @Bz7 (And.intro @Dg9 (And.intro @Cx0 (And.intro @N7 (And.intro @Bh5 (And.intro @X9 (And.intro @Bt1 (And.intro @My (And.intro @Ad6 (And.intro @Cw8 (And.intro @Cy7 (And.intro @Dg7 (And.intro @Br3 (And.intro @Bh3 (And.intro @Cf2 (And.intro @Xv (And.intro @Al7 (And.intro @Am2 (And.intro @Ad4 (And.intro @Ff9 @Ff8))))))))))))))))))))))))))))))))))))))))))))))))))))))))))))))))))))))))))
end Go.X
