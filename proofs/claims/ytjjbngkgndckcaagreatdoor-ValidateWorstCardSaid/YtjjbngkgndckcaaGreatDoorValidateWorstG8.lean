/- The program's data. -/
import Derived.Test.YtjjbngkgndckcaaGreatDoorValidateWorstG4
open Option renaming bind_some->Bm,map_some->B9
open Option.some renaming injEq->Bh
set_option maxHeartbeats 1000000
set_option linter.defProp false
set_option linter.unusedVariables false
set_option linter.unusedSimpArgs false
namespace Go.X
open Go
structure Dat where
 v6:Bool
 hi:Int
 lo:Int
 host:List UInt8
 mail:List UInt8
 text:List UInt8
 a:Int
 b:Int
 c:Int
 d:Int
 e:Int
 f:Int
 bits:Int
 deriving DecidableEq
structure Rec where
 name:List UInt8
 typ:Int
 ttl:Int
 data:Dat
 deriving DecidableEq
structure Zone where
 origin:List UInt8
 recs:List Rec
 deriving DecidableEq
def Nc (x:Int):Prop:= -9223372036854775808<=x∧x<=9223372036854775807
def Af7 (x:Int):Prop:=0<=x∧x<=18446744073709551615
def tz (x:List UInt8):Prop:=x.length<=9223372036854775807
structure Dat.wf (x:Dat):Prop where
 hi:Af7 x.hi
 lo:Af7 x.lo
 host:tz x.host
 mail:tz x.mail
 text:tz x.text
 a:Nc x.a
 b:Nc x.b
 c:Nc x.c
 d:Nc x.d
 e:Nc x.e
 f:Nc x.f
 bits:Af7 x.bits
structure Rec.wf (r:Rec):Prop where
 name:tz r.name
 typ:Nc r.typ
 ttl:Nc r.ttl
 data:r.data.wf
def Zh (l:List Rec):Prop:=l.length<=9223372036854775807∧∀r∈l,r.wf
structure Zone.wf (z:Zone):Prop where
 origin:tz z.origin
 recs:Zh z.recs
def Dat.cells (x:Dat):List PV:=[.b x.v6,.i .u64 x.hi,.i .u64 x.lo,.s x.host,.s x.mail,.s x.text,.i .i64 x.a,.i .i64 x.b,.i .i64 x.c,.i .i64 x.d,.i .i64 x.e,.i .i64 x.f,.i .u64 x.bits]
def Dat.pv (x:Dat):PV:= .a x.cells
def Rec.cells (x:Rec):List PV:= .s x.name:: .i .i64 x.typ:: .i .i64 x.ttl::x.data.cells
def Rec.pv (x:Rec):PV:= .a x.cells
def Dp (l:List Rec):PV:= .l 16 (l.map Rec.pv)
def Zone.pv (x:Zone):PV:= .a [.s x.origin,Dp x.recs]
def D4 (l:List (List UInt8)):PV:= .l 1 (l.map .s)
def Hm (x:Dat):PV:= .a [.b x.v6,.i .u64 x.hi,.i .u64 x.lo]
def jh (r:Rec):N6 0 16 r.pv=some r.pv:=rfl
def oz (r:Rec):Ts 16 r.pv=some r.pv:=rfl
def N3 (r:Rec):N6 3 13 r.pv=some r.data.pv:=rfl
def N4 (r:Rec):N6 3 3 r.pv=some (Hm r.data):=rfl
def V4 (r:Rec):Dv 0 r.pv=some (.s r.name):=rfl
def V3 (r:Rec):Dv 1 r.pv=some (.i .i64 r.typ):=rfl
def V2 (r:Rec):Dv 2 r.pv=some (.i .i64 r.ttl):=rfl
def V1 (r:Rec):Dv 3 r.pv=some (.b r.data.v6):=rfl
def V0 (r:Rec):Dv 4 r.pv=some (.i .u64 r.data.hi):=rfl
def Vt (r:Rec):Dv 5 r.pv=some (.i .u64 r.data.lo):=rfl
def Vs (r:Rec):Dv 6 r.pv=some (.s r.data.host):=rfl
def Vr (r:Rec):Dv 7 r.pv=some (.s r.data.mail):=rfl
def Vp (r:Rec):Dv 8 r.pv=some (.s r.data.text):=rfl
def Vn (r:Rec):Dv 9 r.pv=some (.i .i64 r.data.a):=rfl
def Tk (r:Rec):Dv 10 r.pv=some (.i .i64 r.data.b):=rfl
def Tj (r:Rec):Dv 11 r.pv=some (.i .i64 r.data.c):=rfl
def S9 (r:Rec):Dv 12 r.pv=some (.i .i64 r.data.d):=rfl
def S8 (r:Rec):Dv 13 r.pv=some (.i .i64 r.data.e):=rfl
def S7 (r:Rec):Dv 14 r.pv=some (.i .i64 r.data.f):=rfl
def S6 (r:Rec):Dv 15 r.pv=some (.i .u64 r.data.bits):=rfl
def jl (r:Dat):N6 0 13 r.pv=some r.pv:=rfl
def N5 (r:Dat):N6 0 3 r.pv=some (Hm r):=rfl
def ob (r:Dat):Ts 13 r.pv=some r.pv:=rfl
def Ww (r:Dat):Dv 0 r.pv=some (.b r.v6):=rfl
def Wv (r:Dat):Dv 1 r.pv=some (.i .u64 r.hi):=rfl
def Wq (r:Dat):Dv 2 r.pv=some (.i .u64 r.lo):=rfl
def Wk (r:Dat):Dv 3 r.pv=some (.s r.host):=rfl
def Wj (r:Dat):Dv 4 r.pv=some (.s r.mail):=rfl
def V9 (r:Dat):Dv 5 r.pv=some (.s r.text):=rfl
def V8 (r:Dat):Dv 6 r.pv=some (.i .i64 r.a):=rfl
def V7 (r:Dat):Dv 7 r.pv=some (.i .i64 r.b):=rfl
def V6 (r:Dat):Dv 8 r.pv=some (.i .i64 r.c):=rfl
def V5 (r:Dat):Dv 9 r.pv=some (.i .i64 r.d):=rfl
def Tw (r:Dat):Dv 10 r.pv=some (.i .i64 r.e):=rfl
def Tv (r:Dat):Dv 11 r.pv=some (.i .i64 r.f):=rfl
def Tq (r:Dat):Dv 12 r.pv=some (.i .u64 r.bits):=rfl
def bf (r:Dat):Ts 3 (Hm r)=some (Hm r):=rfl
def Zk (r:Dat):N6 0 3 (Hm r)=some (Hm r):=rfl
def Tz (r:Dat):Dv 0 (Hm r)=some (.b r.v6):=rfl
def Ty (r:Dat):Dv 1 (Hm r)=some (.i .u64 r.hi):=rfl
def Tx (r:Dat):Dv 2 (Hm r)=some (.i .u64 r.lo):=rfl
def bd (r:Zone):Ts 2 r.pv=some r.pv:=rfl
def Zj (r:Zone):N6 0 2 r.pv=some r.pv:=rfl
def S5 (r:Zone):Dv 0 r.pv=some (.s r.origin):=rfl
def S4 (r:Zone):Dv 1 r.pv=some (Dp r.recs):=rfl
def bw (v:Bool) (h l:Int) (s1 s2 s3:List UInt8) (a b c d e f g:Int):PV.a [.b v,.i .u64 h,.i .u64 l,.s s1,.s s2,.s s3,.i .i64 a,.i .i64 b,.i .i64 c,.i .i64 d,.i .i64 e,.i .i64 f,.i .u64 g]=Dat.pv ⟨v,h,l,s1,s2,s3,a,b,c,d,e,f,g⟩:=rfl
def bv (n:List UInt8) (t u:Int) (v:Bool) (h l:Int) (s1 s2 s3:List UInt8) (a b c d e f g:Int):PV.a [.s n,.i .i64 t,.i .i64 u,.b v,.i .u64 h,.i .u64 l,.s s1,.s s2,.s s3,.i .i64 a,.i .i64 b,.i .i64 c,.i .i64 d,.i .i64 e,.i .i64 f,.i .u64 g]=Rec.pv ⟨n,t,u,⟨v,h,l,s1,s2,s3,a,b,c,d,e,f,g⟩⟩:=rfl
def o5 (x:Dat):(⟨x.v6,x.hi,x.lo,x.host,x.mail,x.text,x.a,x.b,x.c,x.d,x.e,x.f,x.bits⟩:Dat)=x:=rfl
def o4 (x:Rec):(⟨x.name,x.typ,x.ttl,x.data⟩:Rec)=x:=rfl
def bc (x:Dat):PV.flat x.pv=true:=rfl
def bz (x:Rec):PV.flat x.pv=true:=rfl
def Xn (x:Dat):PV.flat (Hm x)=true:=rfl
def ls (x:Rec):I4 16 [x.pv]=some (Dp [x]):=rfl
def ab (l:List Rec):F2 (Dp l)=some (.i .i64 (l.length:Int)):=by simp[Dp,F2]
def a9 (l:List Rec) (k:IntKind) (z:Int) (h:0<=z):Kn 16 (Dp l) (.i k z)=(l[z.toNat]?).map Rec.pv:=by simp[Dp,ov _ _ _ _ h]
def Yf (l:List Rec) (x:Rec) (h:l.length+1<=1073741824):Hg 16 (Dp l) (Dp [x])=some (Dp (l++[x])):=by have:=Ux 16 (l.map Rec.pv) [x.pv] (by simpa using h);simpa [Dp] using this
def df (l m:List Rec) (h:l.length+m.length<=1073741824):Hg 16 (Dp l) (Dp m)=some (Dp (l++m)):=by have:=Ux 16 (l.map Rec.pv) (m.map Rec.pv) (by simpa using h);simpa [Dp] using this
def Zl:PV.l 16 []=Dp []:=rfl
def aw (l:List Rec) (k k':IntKind) (a b:Int) (h1:0<=a) (h2:a<=b) (h3:b<=(l.length:Int)):Jg 16 (Dp l) (.i k a) (.i k' b)=some (Dp ((l.take b.toNat).drop a.toNat)):=by have:=ln 16 (l.map Rec.pv) k k' a b h1 h2 (by simpa using h3);simpa [Dp] using this
def js (l:List Rec) (k:IntKind) (z:Int) (n:List UInt8) (t u:Int) (v:Bool) (h w:Int) (s1 s2 s3:List UInt8) (a b c d e f g:Int) (h0:0<=z) (h1:z<(l.length:Int)):
  P3 16 0 [.s n,.i .i64 t,.i .i64 u,.b v,.i .u64 h,.i .u64 w,.s s1,.s s2,.s s3,.i .i64 a,.i .i64 b,.i .i64 c,.i .i64 d,.i .i64 e,.i .i64 f,.i .u64 g] (Dp l) (.i k z)=some (Dp (l.set z.toNat ⟨n,t,u,⟨v,h,w,s1,s2,s3,a,b,c,d,e,f,g⟩⟩)):=by
 have h2:z.toNat<l.length:=by omega
 have h3:(l.map Rec.pv)[z.toNat]? =some (l[z.toNat].pv):=by simp[h2]
 simp only[P3,Dp,h0,h3,and_self,if_true,Bm];have h4:Mg (l[z.toNat].pv) 0 [.s n,.i .i64 t,.i .i64 u,.b v,.i .u64 h,.i .u64 w,.s s1,.s s2,.s s3,.i .i64 a,.i .i64 b,.i .i64 c,.i .i64 d,.i .i64 e,.i .i64 f,.i .u64 g]=some (Rec.pv ⟨n,t,u,⟨v,h,w,s1,s2,s3,a,b,c,d,e,f,g⟩⟩):=rfl;rw[h4];simp[List.map_set]
def Vv (l:List Rec):Kj (Dp l)=some (Dp l):=rfl
def az (l:List (List UInt8)):F2 (D4 l)=some (.i .i64 (l.length:Int)):=by simp[D4,F2]
def a8 (l:List (List UInt8)) (k:IntKind) (z:Int) (h:0<=z):Kn 1 (D4 l) (.i k z)=(l[z.toNat]?).map PV.s:=by simp[D4,ov _ _ _ _ h]
def lr (x:List UInt8):I4 1 [.s x]=some (D4 [x]):=rfl
def Zw:PV.l 1 []=D4 []:=rfl
def Yd (l:List (List UInt8)) (x:List UInt8) (h:l.length+1<=1073741824):Hg 1 (D4 l) (D4 [x])=some (D4 (l++[x])):=by have:=Ux 1 (l.map PV.s) [.s x] (by simpa using h);simpa [D4] using this
def dc (l m:List (List UInt8)) (h:l.length+m.length<=1073741824):Hg 1 (D4 l) (D4 m)=some (D4 (l++m)):=by have:=Ux 1 (l.map PV.s) (m.map PV.s) (by simpa using h);simpa [D4] using this
def av (l:List (List UInt8)) (k k':IntKind) (a b:Int) (h1:0<=a) (h2:a<=b) (h3:b<=(l.length:Int)):Jg 1 (D4 l) (.i k a) (.i k' b)=some (D4 ((l.take b.toNat).drop a.toNat)):=by have:=ln 1 (l.map PV.s) k k' a b h1 h2 (by simpa using h3);simpa [D4] using this
def Zb (l:List (List UInt8)) (k:IntKind) (z:Int) (x:List UInt8) (h0:0<=z) (h1:z<(l.length:Int)):P3 1 0 [.s x] (D4 l) (.i k z)=some (D4 (l.set z.toNat x)):=by
 have h2:z.toNat<l.length:=by omega
 have h3:(l.map PV.s)[z.toNat]? =some (.s l[z.toNat]):=by simp[h2]
 simp only[P3,D4,h0,h3,and_self,if_true,Bm];have h4:Mg (.s l[z.toNat]) 0 [.s x]=some (.s x):=rfl;rw[h4];simp[List.map_set]
def Zg (n:Int) (h0:0<=n) (h1:n<=1073741824):Oy 1 (.i .i64 n) (.s [])=some (D4 (List.replicate n.toNat [])):=by
 have h2:n<=(LIM:Int):=by simp only[LIM];omega
 have h3:(PV.s []).cells.length=1:=rfl;simp only[Oy,h0,h2,h3,and_self,if_true];simp[D4]
def Vl (l:List (List UInt8)):Dv 0 (D4 l)=some (D4 l):=rfl
def Vm (l:List Rec):Dv 0 (Dp l)=some (Dp l):=rfl
def Vq (l:List (List UInt8)):Kj (D4 l)=some (D4 l):=rfl
def Ay4 (neg:Bool) (x y:Dat):I6 neg true [.b,(.i .u64),(.i .u64),.s,.s,.s,(.i .i64),(.i .i64),(.i .i64),(.i .i64),(.i .i64),(.i .i64),(.i .u64)] x.pv y.pv=some (.b (if neg then decide (x≠y) else decide (x=y))):=by
 have:Es [.b,(.i .u64),(.i .u64),.s,.s,.s,(.i .i64),(.i .i64),(.i .i64),(.i .i64),(.i .i64),(.i .i64),(.i .u64)] x.cells y.cells=some (decide (x=y)):=by simp only[Dat.cells,Es,il,if_true,Bh];rw[Bool.eq_iff_iff];cases x;cases y;simp
 simp only[I6,Dat.pv,this,B9];cases neg<;>simp
def Ay3 (neg:Bool) (x y:Rec):I6 neg true [.s,(.i .i64),(.i .i64),.b,(.i .u64),(.i .u64),.s,.s,.s,(.i .i64),(.i .i64),(.i .i64),(.i .i64),(.i .i64),(.i .i64),(.i .u64)] x.pv y.pv=some (.b (if neg then decide (x≠y) else decide (x=y))):=by
 have:Es [.s,(.i .i64),(.i .i64),.b,(.i .u64),(.i .u64),.s,.s,.s,(.i .i64),(.i .i64),(.i .i64),(.i .i64),(.i .i64),(.i .i64),(.i .u64)] x.cells y.cells=some (decide (x=y)):=by simp only[Rec.cells,Dat.cells,Es,il,if_true,Bh];rw[Bool.eq_iff_iff];rcases x with⟨_,_,_,⟨⟩⟩;rcases y with⟨_,_,_,⟨⟩⟩;simp[and_assoc]
 simp only[I6,Rec.pv,this,B9];cases neg<;>simp
set_option linter.defProp false in
def EVP:=(And.intro @Zb (And.intro @Zg (And.intro @js (And.intro @jh (And.intro @oz (And.intro @N3 (And.intro @N4 (And.intro @V4 (And.intro @V3 (And.intro @V2 (And.intro @V1 (And.intro @V0 (And.intro @Vt (And.intro @Vs (And.intro @Vr (And.intro @Vp (And.intro @Vn (And.intro @Tk (And.intro @Tj (And.intro @S9 (And.intro @S8 (And.intro @S7 (And.intro @S6 (And.intro @jl (And.intro @N5 (And.intro @ob (And.intro @Ww (And.intro @Wv (And.intro @Wq (And.intro @Wk (And.intro @Wj (And.intro @V9 (And.intro @V8 (And.intro @V7 (And.intro @V6 (And.intro @V5 (And.intro @Tw (And.intro @Tv (And.intro @Tq (And.intro @bf (And.intro @Zk (And.intro @Tz (And.intro @Ty (And.intro @Tx (And.intro @bd (And.intro @Zj (And.intro @S5 (And.intro @S4 (And.intro @bw (And.intro @bv (And.intro @o5 (And.intro @o4 (And.intro @bc (And.intro @bz (And.intro @Xn (And.intro @ls (And.intro @ab (And.intro @a9 (And.intro @Yf (And.intro @df (And.intro @Zl (And.intro @aw (And.intro @Vv (And.intro @az (And.intro @a8 (And.intro @lr (And.intro @Zw (And.intro @Yd (And.intro @dc (And.intro @av (And.intro @Vl (And.intro @Vm (And.intro @Vq (And.intro @Ay4 @Ay3))))))))))))))))))))))))))))))))))))))))))))))))))))))))))))))))))))))))))
end Go.X
