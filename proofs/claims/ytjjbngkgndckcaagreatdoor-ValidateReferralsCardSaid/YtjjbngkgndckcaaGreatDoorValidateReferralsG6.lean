/- The program's data. -/
import Derived.Test.YtjjbngkgndckcaaGreatDoorValidateReferralsG2
open Bool renaming eq_iff_iff->Gf
open Option renaming bind_some->Bt,map_some->Cb
open Option.some renaming injEq->Bm
set_option maxHeartbeats 1000000
set_option linter.defProp false
set_option linter.unusedVariables false
set_option linter.unusedSimpArgs false
namespace Go.X
open Go
structure Dat where
 v6:Bool
 hi:Int
 lo:Int
 host:List UInt8
 mail:List UInt8
 text:List UInt8
 a:Int
 b:Int
 c:Int
 d:Int
 e:Int
 f:Int
 bits:Int
 deriving DecidableEq
structure Rec where
 name:List UInt8
 typ:Int
 ttl:Int
 data:Dat
 deriving DecidableEq
structure Zone where
 origin:List UInt8
 recs:List Rec
 deriving DecidableEq
def Zw (x:Int):Prop:= -9223372036854775808<=x∧x<=9223372036854775807
def aj (x:Int):Prop:=0<=x∧x<=18446744073709551615
def gk (x:List UInt8):Prop:=x.length<=9223372036854775807
structure Dat.wf (x:Dat):Prop where
 hi:aj x.hi
 lo:aj x.lo
 host:gk x.host
 mail:gk x.mail
 text:gk x.text
 a:Zw x.a
 b:Zw x.b
 c:Zw x.c
 d:Zw x.d
 e:Zw x.e
 f:Zw x.f
 bits:aj x.bits
structure Rec.wf (r:Rec):Prop where
 name:gk r.name
 typ:Zw r.typ
 ttl:Zw r.ttl
 data:r.data.wf
def At3 (l:List Rec):Prop:=l.length<=9223372036854775807∧∀r∈l,r.wf
structure Zone.wf (z:Zone):Prop where
 origin:gk z.origin
 recs:At3 z.recs
def Dat.cells (x:Dat):List PV:=[.b x.v6,.i .u64 x.hi,.i .u64 x.lo,.s x.host,.s x.mail,.s x.text,.i .i64 x.a,.i .i64 x.b,.i .i64 x.c,.i .i64 x.d,.i .i64 x.e,.i .i64 x.f,.i .u64 x.bits]
def Dat.pv (x:Dat):PV:= .a x.cells
def Rec.cells (x:Rec):List PV:= .s x.name:: .i .i64 x.typ:: .i .i64 x.ttl::x.data.cells
def Rec.pv (x:Rec):PV:= .a x.cells
def B9 (l:List Rec):PV:= .l 16 (l.map Rec.pv)
def Zone.pv (x:Zone):PV:= .a [.s x.origin,B9 x.recs]
def Dd (l:List (List UInt8)):PV:= .l 1 (l.map .s)
def Jt (x:Dat):PV:= .a [.b x.v6,.i .u64 x.hi,.i .u64 x.lo]
def Ek3 (r:Rec):Kk 0 16 r.pv=some r.pv:=rfl
def Ec3 (r:Rec):P1 16 r.pv=some r.pv:=rfl
def ay (r:Rec):Kk 3 13 r.pv=some r.data.pv:=rfl
def az (r:Rec):Kk 3 3 r.pv=some (Jt r.data):=rfl
def Bw1 (r:Rec):C0 0 r.pv=some (.s r.name):=rfl
def Bw0 (r:Rec):C0 1 r.pv=some (.i .i64 r.typ):=rfl
def Bv9 (r:Rec):C0 2 r.pv=some (.i .i64 r.ttl):=rfl
def Bv8 (r:Rec):C0 3 r.pv=some (.b r.data.v6):=rfl
def Bv7 (r:Rec):C0 4 r.pv=some (.i .u64 r.data.hi):=rfl
def Bv6 (r:Rec):C0 5 r.pv=some (.i .u64 r.data.lo):=rfl
def Bv5 (r:Rec):C0 6 r.pv=some (.s r.data.host):=rfl
def Bv4 (r:Rec):C0 7 r.pv=some (.s r.data.mail):=rfl
def Bv3 (r:Rec):C0 8 r.pv=some (.s r.data.text):=rfl
def Bv2 (r:Rec):C0 9 r.pv=some (.i .i64 r.data.a):=rfl
def zj (r:Rec):C0 10 r.pv=some (.i .i64 r.data.b):=rfl
def y9 (r:Rec):C0 11 r.pv=some (.i .i64 r.data.c):=rfl
def y8 (r:Rec):C0 12 r.pv=some (.i .i64 r.data.d):=rfl
def y7 (r:Rec):C0 13 r.pv=some (.i .i64 r.data.e):=rfl
def y6 (r:Rec):C0 14 r.pv=some (.i .i64 r.data.f):=rfl
def y5 (r:Rec):C0 15 r.pv=some (.i .u64 r.data.bits):=rfl
def Ek5 (r:Dat):Kk 0 13 r.pv=some r.pv:=rfl
def ab (r:Dat):Kk 0 3 r.pv=some (Jt r):=rfl
def Ec5 (r:Dat):P1 13 r.pv=some r.pv:=rfl
def By1 (r:Dat):C0 0 r.pv=some (.b r.v6):=rfl
def By0 (r:Dat):C0 1 r.pv=some (.i .u64 r.hi):=rfl
def Bx9 (r:Dat):C0 2 r.pv=some (.i .u64 r.lo):=rfl
def Bx8 (r:Dat):C0 3 r.pv=some (.s r.host):=rfl
def Bx7 (r:Dat):C0 4 r.pv=some (.s r.mail):=rfl
def Bx6 (r:Dat):C0 5 r.pv=some (.s r.text):=rfl
def Bx5 (r:Dat):C0 6 r.pv=some (.i .i64 r.a):=rfl
def Bx4 (r:Dat):C0 7 r.pv=some (.i .i64 r.b):=rfl
def Bx3 (r:Dat):C0 8 r.pv=some (.i .i64 r.c):=rfl
def Bx2 (r:Dat):C0 9 r.pv=some (.i .i64 r.d):=rfl
def zf (r:Dat):C0 10 r.pv=some (.i .i64 r.e):=rfl
def zd (r:Dat):C0 11 r.pv=some (.i .i64 r.f):=rfl
def zc (r:Dat):C0 12 r.pv=some (.i .u64 r.bits):=rfl
def Cs1 (r:Dat):P1 3 (Jt r)=some (Jt r):=rfl
def Cy8 (r:Dat):Kk 0 3 (Jt r)=some (Jt r):=rfl
def zl (r:Dat):C0 0 (Jt r)=some (.b r.v6):=rfl
def zh (r:Dat):C0 1 (Jt r)=some (.i .u64 r.hi):=rfl
def zg (r:Dat):C0 2 (Jt r)=some (.i .u64 r.lo):=rfl
def Cs0 (r:Zone):P1 2 r.pv=some r.pv:=rfl
def Cy5 (r:Zone):Kk 0 2 r.pv=some r.pv:=rfl
def y4 (r:Zone):C0 0 r.pv=some (.s r.origin):=rfl
def y3 (r:Zone):C0 1 r.pv=some (B9 r.recs):=rfl
def Yj (v:Bool) (h l:Int) (s1 s2 s3:List UInt8) (a b c d e f g:Int):PV.a [.b v,.i .u64 h,.i .u64 l,.s s1,.s s2,.s s3,.i .i64 a,.i .i64 b,.i .i64 c,.i .i64 d,.i .i64 e,.i .i64 f,.i .u64 g]=Dat.pv ⟨v,h,l,s1,s2,s3,a,b,c,d,e,f,g⟩:=rfl
def Cr2 (n:List UInt8) (t u:Int) (v:Bool) (h l:Int) (s1 s2 s3:List UInt8) (a b c d e f g:Int):PV.a [.s n,.i .i64 t,.i .i64 u,.b v,.i .u64 h,.i .u64 l,.s s1,.s s2,.s s3,.i .i64 a,.i .i64 b,.i .i64 c,.i .i64 d,.i .i64 e,.i .i64 f,.i .u64 g]=Rec.pv ⟨n,t,u,⟨v,h,l,s1,s2,s3,a,b,c,d,e,f,g⟩⟩:=rfl
def Gz (x:Dat):(⟨x.v6,x.hi,x.lo,x.host,x.mail,x.text,x.a,x.b,x.c,x.d,x.e,x.f,x.bits⟩:Dat)=x:=rfl
def Ed7 (x:Rec):(⟨x.name,x.typ,x.ttl,x.data⟩:Rec)=x:=rfl
def Cr7 (x:Dat):PV.flat x.pv=true:=rfl
def Cr5 (x:Rec):PV.flat x.pv=true:=rfl
def Bp5 (x:Dat):PV.flat (Jt x)=true:=rfl
def Ey8 (x:Rec):Lk 16 [x.pv]=some (B9 [x]):=rfl
def Cm7 (l:List Rec):Hf (B9 l)=some (.i .i64 (l.length:Int)):=by simp[B9,Hf]
def Oh (l:List Rec) (k:IntKind) (z:Int) (h:0<=z):Ky 16 (B9 l) (.i k z)=(l[z.toNat]?).map Rec.pv:=by simp[B9,kw _ _ _ _ h]
def Cq6 (l:List Rec) (x:Rec) (h:l.length+1<=1073741824):I9 16 (B9 l) (B9 [x])=some (B9 (l++[x])):=by have:=P6 16 (l.map Rec.pv) [x.pv] (by simpa using h);simpa [B9] using this
def Rc (l m:List Rec) (h:l.length+m.length<=1073741824):I9 16 (B9 l) (B9 m)=some (B9 (l++m)):=by have:=P6 16 (l.map Rec.pv) (m.map Rec.pv) (by simpa using h);simpa [B9] using this
def Cc1:PV.l 16 []=B9 []:=rfl
def Mp (l:List Rec) (k k':IntKind) (a b:Int) (h1:0<=a) (h2:a<=b) (h3:b<=(l.length:Int)):Kv 16 (B9 l) (.i k a) (.i k' b)=some (B9 ((l.take b.toNat).drop a.toNat)):=by have:=Bf5 16 (l.map Rec.pv) k k' a b h1 h2 (by simpa using h3);simpa [B9] using this
def Eq2 (l:List Rec) (k:IntKind) (z:Int) (n:List UInt8) (t u:Int) (v:Bool) (h w:Int) (s1 s2 s3:List UInt8) (a b c d e f g:Int) (h0:0<=z) (h1:z<(l.length:Int)):
  Nx 16 0 [.s n,.i .i64 t,.i .i64 u,.b v,.i .u64 h,.i .u64 w,.s s1,.s s2,.s s3,.i .i64 a,.i .i64 b,.i .i64 c,.i .i64 d,.i .i64 e,.i .i64 f,.i .u64 g] (B9 l) (.i k z)=some (B9 (l.set z.toNat ⟨n,t,u,⟨v,h,w,s1,s2,s3,a,b,c,d,e,f,g⟩⟩)):=by
 have h2:z.toNat<l.length:=by omega
 have h3:(l.map Rec.pv)[z.toNat]? =some (l[z.toNat].pv):=by simp[h2]
 simp only[Nx,B9,h0,h3,and_self,if_true,Bt];have h4:Pf (l[z.toNat].pv) 0 [.s n,.i .i64 t,.i .i64 u,.b v,.i .u64 h,.i .u64 w,.s s1,.s s2,.s s3,.i .i64 a,.i .i64 b,.i .i64 c,.i .i64 d,.i .i64 e,.i .i64 f,.i .u64 g]=some (Rec.pv ⟨n,t,u,⟨v,h,w,s1,s2,s3,a,b,c,d,e,f,g⟩⟩):=rfl;rw[h4];simp[List.map_set]
def As2 (l:List Rec):It (B9 l)=some (B9 l):=rfl
def Cm6 (l:List (List UInt8)):Hf (Dd l)=some (.i .i64 (l.length:Int)):=by simp[Dd,Hf]
def Cp6 (l:List (List UInt8)) (k:IntKind) (z:Int) (h:0<=z):Ky 1 (Dd l) (.i k z)=(l[z.toNat]?).map PV.s:=by simp[Dd,kw _ _ _ _ h]
def Ey6 (x:List UInt8):Lk 1 [.s x]=some (Dd [x]):=rfl
def Cz1:PV.l 1 []=Dd []:=rfl
def Cq4 (l:List (List UInt8)) (x:List UInt8) (h:l.length+1<=1073741824):I9 1 (Dd l) (Dd [x])=some (Dd (l++[x])):=by have:=P6 1 (l.map PV.s) [.s x] (by simpa using h);simpa [Dd] using this
def Dk2 (l m:List (List UInt8)) (h:l.length+m.length<=1073741824):I9 1 (Dd l) (Dd m)=some (Dd (l++m)):=by have:=P6 1 (l.map PV.s) (m.map PV.s) (by simpa using h);simpa [Dd] using this
def X2 (l:List (List UInt8)) (k k':IntKind) (a b:Int) (h1:0<=a) (h2:a<=b) (h3:b<=(l.length:Int)):Kv 1 (Dd l) (.i k a) (.i k' b)=some (Dd ((l.take b.toNat).drop a.toNat)):=by have:=Bf5 1 (l.map PV.s) k k' a b h1 h2 (by simpa using h3);simpa [Dd] using this
def Cb2 (l:List (List UInt8)) (k:IntKind) (z:Int) (x:List UInt8) (h0:0<=z) (h1:z<(l.length:Int)):Nx 1 0 [.s x] (Dd l) (.i k z)=some (Dd (l.set z.toNat x)):=by
 have h2:z.toNat<l.length:=by omega
 have h3:(l.map PV.s)[z.toNat]? =some (.s l[z.toNat]):=by simp[h2]
 simp only[Nx,Dd,h0,h3,and_self,if_true,Bt];have h4:Pf (.s l[z.toNat]) 0 [.s x]=some (.s x):=rfl;rw[h4];simp[List.map_set]
def Cb8 (n:Int) (h0:0<=n) (h1:n<=1073741824):Ll 1 (.i .i64 n) (.s [])=some (Dd (List.replicate n.toNat [])):=by
 have h2:n<=(LIM:Int):=by simp only[LIM];omega
 have h3:(PV.s []).cells.length=1:=rfl;simp only[Ll,h0,h2,h3,and_self,if_true];simp[Dd]
def Bq6 (l:List (List UInt8)):C0 0 (Dd l)=some (Dd l):=rfl
def Bv1 (l:List Rec):C0 0 (B9 l)=some (B9 l):=rfl
def As0 (l:List (List UInt8)):It (Dd l)=some (Dd l):=rfl
def Gw8 (neg:Bool) (x y:Dat):L4 neg true [.b,(.i .u64),(.i .u64),.s,.s,.s,(.i .i64),(.i .i64),(.i .i64),(.i .i64),(.i .i64),(.i .i64),(.i .u64)] x.pv y.pv=some (.b (if neg then decide (x≠y) else decide (x=y))):=by
 have:Hq [.b,(.i .u64),(.i .u64),.s,.s,.s,(.i .i64),(.i .i64),(.i .i64),(.i .i64),(.i .i64),(.i .i64),(.i .u64)] x.cells y.cells=some (decide (x=y)):=by simp only[Dat.cells,Hq,Cw3,if_true,Bm];rw[Gf];cases x;cases y;simp
 simp only[L4,Dat.pv,this,Cb];cases neg<;>simp
def Gw7 (neg:Bool) (x y:Rec):L4 neg true [.s,(.i .i64),(.i .i64),.b,(.i .u64),(.i .u64),.s,.s,.s,(.i .i64),(.i .i64),(.i .i64),(.i .i64),(.i .i64),(.i .i64),(.i .u64)] x.pv y.pv=some (.b (if neg then decide (x≠y) else decide (x=y))):=by
 have:Hq [.s,(.i .i64),(.i .i64),.b,(.i .u64),(.i .u64),.s,.s,.s,(.i .i64),(.i .i64),(.i .i64),(.i .i64),(.i .i64),(.i .i64),(.i .u64)] x.cells y.cells=some (decide (x=y)):=by simp only[Rec.cells,Dat.cells,Hq,Cw3,if_true,Bm];rw[Gf];rcases x with⟨_,_,_,⟨⟩⟩;rcases y with⟨_,_,_,⟨⟩⟩;simp[and_assoc]
 simp only[L4,Rec.pv,this,Cb];cases neg<;>simp
set_option linter.defProp false in
def EVP:=(And.intro @Cb2 (And.intro @Cb8 (And.intro @Eq2 (And.intro @Ek3 (And.intro @Ec3 (And.intro @ay (And.intro @az (And.intro @Bw1 (And.intro @Bw0 (And.intro @Bv9 (And.intro @Bv8 (And.intro @Bv7 (And.intro @Bv6 (And.intro @Bv5 (And.intro @Bv4 (And.intro @Bv3 (And.intro @Bv2 (And.intro @zj (And.intro @y9 (And.intro @y8 (And.intro @y7 (And.intro @y6 (And.intro @y5 (And.intro @Ek5 (And.intro @ab (And.intro @Ec5 (And.intro @By1 (And.intro @By0 (And.intro @Bx9 (And.intro @Bx8 (And.intro @Bx7 (And.intro @Bx6 (And.intro @Bx5 (And.intro @Bx4 (And.intro @Bx3 (And.intro @Bx2 (And.intro @zf (And.intro @zd (And.intro @zc (And.intro @Cs1 (And.intro @Cy8 (And.intro @zl (And.intro @zh (And.intro @zg (And.intro @Cs0 (And.intro @Cy5 (And.intro @y4 (And.intro @y3 (And.intro @Yj (And.intro @Cr2 (And.intro @Gz (And.intro @Ed7 (And.intro @Cr7 (And.intro @Cr5 (And.intro @Bp5 (And.intro @Ey8 (And.intro @Cm7 (And.intro @Oh (And.intro @Cq6 (And.intro @Rc (And.intro @Cc1 (And.intro @Mp (And.intro @As2 (And.intro @Cm6 (And.intro @Cp6 (And.intro @Ey6 (And.intro @Cz1 (And.intro @Cq4 (And.intro @Dk2 (And.intro @X2 (And.intro @Bq6 (And.intro @Bv1 (And.intro @As0 (And.intro @Gw8 @Gw7))))))))))))))))))))))))))))))))))))))))))))))))))))))))))))))))))))))))))
end Go.X
