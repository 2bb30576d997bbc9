/- The program's data. -/
import Derived.Test.YtjjbngkgndckcaaGreatDoorValidateKeysG2
open Bool renaming eq_iff_iff->Gx
open Option renaming bind_some->Bt,map_some->Cz
open Option.some renaming injEq->Bm
set_option maxHeartbeats 1000000
set_option linter.defProp false
set_option linter.unusedVariables false
set_option linter.unusedSimpArgs false
namespace Go.X
open Go
structure Dat where
 v6:Bool
 hi:Int
 lo:Int
 host:List UInt8
 mail:List UInt8
 text:List UInt8
 a:Int
 b:Int
 c:Int
 d:Int
 e:Int
 f:Int
 bits:Int
 deriving DecidableEq
structure Rec where
 name:List UInt8
 typ:Int
 ttl:Int
 data:Dat
 deriving DecidableEq
structure Zone where
 origin:List UInt8
 recs:List Rec
 deriving DecidableEq
def Yf (x:Int):Prop:= -9223372036854775808<=x∧x<=9223372036854775807
def Zv (x:Int):Prop:=0<=x∧x<=18446744073709551615
def d4 (x:List UInt8):Prop:=x.length<=9223372036854775807
structure Dat.wf (x:Dat):Prop where
 hi:Zv x.hi
 lo:Zv x.lo
 host:d4 x.host
 mail:d4 x.mail
 text:d4 x.text
 a:Yf x.a
 b:Yf x.b
 c:Yf x.c
 d:Yf x.d
 e:Yf x.e
 f:Yf x.f
 bits:Zv x.bits
structure Rec.wf (r:Rec):Prop where
 name:d4 r.name
 typ:Yf r.typ
 ttl:Yf r.ttl
 data:r.data.wf
def gk (l:List Rec):Prop:=l.length<=9223372036854775807∧∀r∈l,r.wf
structure Zone.wf (z:Zone):Prop where
 origin:d4 z.origin
 recs:gk z.recs
def Dat.cells (x:Dat):List PV:=[.b x.v6,.i .u64 x.hi,.i .u64 x.lo,.s x.host,.s x.mail,.s x.text,.i .i64 x.a,.i .i64 x.b,.i .i64 x.c,.i .i64 x.d,.i .i64 x.e,.i .i64 x.f,.i .u64 x.bits]
def Dat.pv (x:Dat):PV:= .a x.cells
def Rec.cells (x:Rec):List PV:= .s x.name:: .i .i64 x.typ:: .i .i64 x.ttl::x.data.cells
def Rec.pv (x:Rec):PV:= .a x.cells
def B9 (l:List Rec):PV:= .l 16 (l.map Rec.pv)
def Zone.pv (x:Zone):PV:= .a [.s x.origin,B9 x.recs]
def Dy (l:List (List UInt8)):PV:= .l 1 (l.map .s)
def Jh (x:Dat):PV:= .a [.b x.v6,.i .u64 x.hi,.i .u64 x.lo]
def Dl8 (r:Rec):J7 0 16 r.pv=some r.pv:=rfl
def Ek4 (r:Rec):Pf 16 r.pv=some r.pv:=rfl
def Zz (r:Rec):J7 3 13 r.pv=some r.data.pv:=rfl
def Zb (r:Rec):J7 3 3 r.pv=some (Jh r.data):=rfl
def Ar8 (r:Rec):C2 0 r.pv=some (.s r.name):=rfl
def Ar7 (r:Rec):C2 1 r.pv=some (.i .i64 r.typ):=rfl
def Ar6 (r:Rec):C2 2 r.pv=some (.i .i64 r.ttl):=rfl
def Ar5 (r:Rec):C2 3 r.pv=some (.b r.data.v6):=rfl
def Ar4 (r:Rec):C2 4 r.pv=some (.i .u64 r.data.hi):=rfl
def Ar3 (r:Rec):C2 5 r.pv=some (.i .u64 r.data.lo):=rfl
def Ar2 (r:Rec):C2 6 r.pv=some (.s r.data.host):=rfl
def Ar1 (r:Rec):C2 7 r.pv=some (.s r.data.mail):=rfl
def Ar0 (r:Rec):C2 8 r.pv=some (.s r.data.text):=rfl
def Ap9 (r:Rec):C2 9 r.pv=some (.i .i64 r.data.a):=rfl
def wg (r:Rec):C2 10 r.pv=some (.i .i64 r.data.b):=rfl
def wb (r:Rec):C2 11 r.pv=some (.i .i64 r.data.c):=rfl
def wz (r:Rec):C2 12 r.pv=some (.i .i64 r.data.d):=rfl
def wx (r:Rec):C2 13 r.pv=some (.i .i64 r.data.e):=rfl
def ww (r:Rec):C2 14 r.pv=some (.i .i64 r.data.f):=rfl
def wv (r:Rec):C2 15 r.pv=some (.i .u64 r.data.bits):=rfl
def Dm0 (r:Dat):J7 0 13 r.pv=some r.pv:=rfl
def Zc (r:Dat):J7 0 3 r.pv=some (Jh r):=rfl
def Ek6 (r:Dat):Pf 13 r.pv=some r.pv:=rfl
def At8 (r:Dat):C2 0 r.pv=some (.b r.v6):=rfl
def At7 (r:Dat):C2 1 r.pv=some (.i .u64 r.hi):=rfl
def At6 (r:Dat):C2 2 r.pv=some (.i .u64 r.lo):=rfl
def At5 (r:Dat):C2 3 r.pv=some (.s r.host):=rfl
def At4 (r:Dat):C2 4 r.pv=some (.s r.mail):=rfl
def At3 (r:Dat):C2 5 r.pv=some (.s r.text):=rfl
def At2 (r:Dat):C2 6 r.pv=some (.i .i64 r.a):=rfl
def At1 (r:Dat):C2 7 r.pv=some (.i .i64 r.b):=rfl
def At0 (r:Dat):C2 8 r.pv=some (.i .i64 r.c):=rfl
def As9 (r:Dat):C2 9 r.pv=some (.i .i64 r.d):=rfl
def xk (r:Dat):C2 10 r.pv=some (.i .i64 r.e):=rfl
def xj (r:Dat):C2 11 r.pv=some (.i .i64 r.f):=rfl
def w9 (r:Dat):C2 12 r.pv=some (.i .u64 r.bits):=rfl
def Ch1 (r:Dat):Pf 3 (Jh r)=some (Jh r):=rfl
def Cj8 (r:Dat):J7 0 3 (Jh r)=some (Jh r):=rfl
def xw (r:Dat):C2 0 (Jh r)=some (.b r.v6):=rfl
def xv (r:Dat):C2 1 (Jh r)=some (.i .u64 r.hi):=rfl
def xq (r:Dat):C2 2 (Jh r)=some (.i .u64 r.lo):=rfl
def Ch0 (r:Zone):Pf 2 r.pv=some r.pv:=rfl
def Cj6 (r:Zone):J7 0 2 r.pv=some r.pv:=rfl
def wq (r:Zone):C2 0 r.pv=some (.s r.origin):=rfl
def wk (r:Zone):C2 1 r.pv=some (B9 r.recs):=rfl
def Xf (v:Bool) (h l:Int) (s1 s2 s3:List UInt8) (a b c d e f g:Int):PV.a [.b v,.i .u64 h,.i .u64 l,.s s1,.s s2,.s s3,.i .i64 a,.i .i64 b,.i .i64 c,.i .i64 d,.i .i64 e,.i .i64 f,.i .u64 g]=Dat.pv ⟨v,h,l,s1,s2,s3,a,b,c,d,e,f,g⟩:=rfl
def Cg2 (n:List UInt8) (t u:Int) (v:Bool) (h l:Int) (s1 s2 s3:List UInt8) (a b c d e f g:Int):PV.a [.s n,.i .i64 t,.i .i64 u,.b v,.i .u64 h,.i .u64 l,.s s1,.s s2,.s s3,.i .i64 a,.i .i64 b,.i .i64 c,.i .i64 d,.i .i64 e,.i .i64 f,.i .u64 g]=Rec.pv ⟨n,t,u,⟨v,h,l,s1,s2,s3,a,b,c,d,e,f,g⟩⟩:=rfl
def Gq (x:Dat):(⟨x.v6,x.hi,x.lo,x.host,x.mail,x.text,x.a,x.b,x.c,x.d,x.e,x.f,x.bits⟩:Dat)=x:=rfl
def Eq8 (x:Rec):(⟨x.name,x.typ,x.ttl,x.data⟩:Rec)=x:=rfl
def Cg7 (x:Dat):PV.flat x.pv=true:=rfl
def Cg5 (x:Rec):PV.flat x.pv=true:=rfl
def Bd9 (x:Dat):PV.flat (Jh x)=true:=rfl
def Ds8 (x:Rec):K2 16 [x.pv]=some (B9 [x]):=rfl
def Cc7 (l:List Rec):Hz (B9 l)=some (.i .i64 (l.length:Int)):=by simp[B9,Hz]
def Ox (l:List Rec) (k:IntKind) (z:Int) (h:0<=z):J8 16 (B9 l) (.i k z)=(l[z.toNat]?).map Rec.pv:=by simp[B9,ic _ _ _ _ h]
def Bp1 (l:List Rec) (x:Rec) (h:l.length+1<=1073741824):I1 16 (B9 l) (B9 [x])=some (B9 (l++[x])):=by have:=Pp 16 (l.map Rec.pv) [x.pv] (by simpa using h);simpa [B9] using this
def Yq (l m:List Rec) (h:l.length+m.length<=1073741824):I1 16 (B9 l) (B9 m)=some (B9 (l++m)):=by have:=Pp 16 (l.map Rec.pv) (m.map Rec.pv) (by simpa using h);simpa [B9] using this
def Cv0:PV.l 16 []=B9 []:=rfl
def Mz (l:List Rec) (k k':IntKind) (a b:Int) (h1:0<=a) (h2:a<=b) (h3:b<=(l.length:Int)):J4 16 (B9 l) (.i k a) (.i k' b)=some (B9 ((l.take b.toNat).drop a.toNat)):=by have:=Bw7 16 (l.map Rec.pv) k k' a b h1 h2 (by simpa using h3);simpa [B9] using this
def Dm7 (l:List Rec) (k:IntKind) (z:Int) (n:List UInt8) (t u:Int) (v:Bool) (h w:Int) (s1 s2 s3:List UInt8) (a b c d e f g:Int) (h0:0<=z) (h1:z<(l.length:Int)):
  M6 16 0 [.s n,.i .i64 t,.i .i64 u,.b v,.i .u64 h,.i .u64 w,.s s1,.s s2,.s s3,.i .i64 a,.i .i64 b,.i .i64 c,.i .i64 d,.i .i64 e,.i .i64 f,.i .u64 g] (B9 l) (.i k z)=some (B9 (l.set z.toNat ⟨n,t,u,⟨v,h,w,s1,s2,s3,a,b,c,d,e,f,g⟩⟩)):=by
 have h2:z.toNat<l.length:=by omega
 have h3:(l.map Rec.pv)[z.toNat]? =some (l[z.toNat].pv):=by simp[h2]
 simp only[M6,B9,h0,h3,and_self,if_true,Bt];have h4:O9 (l[z.toNat].pv) 0 [.s n,.i .i64 t,.i .i64 u,.b v,.i .u64 h,.i .u64 w,.s s1,.s s2,.s s3,.i .i64 a,.i .i64 b,.i .i64 c,.i .i64 d,.i .i64 e,.i .i64 f,.i .u64 g]=some (Rec.pv ⟨n,t,u,⟨v,h,w,s1,s2,s3,a,b,c,d,e,f,g⟩⟩):=rfl;rw[h4];simp[List.map_set]
def Ah2 (l:List Rec):I4 (B9 l)=some (B9 l):=rfl
def Cc6 (l:List (List UInt8)):Hz (Dy l)=some (.i .i64 (l.length:Int)):=by simp[Dy,Hz]
def Cf6 (l:List (List UInt8)) (k:IntKind) (z:Int) (h:0<=z):J8 1 (Dy l) (.i k z)=(l[z.toNat]?).map PV.s:=by simp[Dy,ic _ _ _ _ h]
def Ds6 (x:List UInt8):K2 1 [.s x]=some (Dy [x]):=rfl
def Ck1:PV.l 1 []=Dy []:=rfl
def Bn9 (l:List (List UInt8)) (x:List UInt8) (h:l.length+1<=1073741824):I1 1 (Dy l) (Dy [x])=some (Dy (l++[x])):=by have:=Pp 1 (l.map PV.s) [.s x] (by simpa using h);simpa [Dy] using this
def Cn0 (l m:List (List UInt8)) (h:l.length+m.length<=1073741824):I1 1 (Dy l) (Dy m)=some (Dy (l++m)):=by have:=Pp 1 (l.map PV.s) (m.map PV.s) (by simpa using h);simpa [Dy] using this
def Xx (l:List (List UInt8)) (k k':IntKind) (a b:Int) (h1:0<=a) (h2:a<=b) (h3:b<=(l.length:Int)):J4 1 (Dy l) (.i k a) (.i k' b)=some (Dy ((l.take b.toNat).drop a.toNat)):=by have:=Bw7 1 (l.map PV.s) k k' a b h1 h2 (by simpa using h3);simpa [Dy] using this
def Cq2 (l:List (List UInt8)) (k:IntKind) (z:Int) (x:List UInt8) (h0:0<=z) (h1:z<(l.length:Int)):M6 1 0 [.s x] (Dy l) (.i k z)=some (Dy (l.set z.toNat x)):=by
 have h2:z.toNat<l.length:=by omega
 have h3:(l.map PV.s)[z.toNat]? =some (.s l[z.toNat]):=by simp[h2]
 simp only[M6,Dy,h0,h3,and_self,if_true,Bt];have h4:O9 (.s l[z.toNat]) 0 [.s x]=some (.s x):=rfl;rw[h4];simp[List.map_set]
def Cq8 (n:Int) (h0:0<=n) (h1:n<=1073741824):Ly 1 (.i .i64 n) (.s [])=some (Dy (List.replicate n.toNat [])):=by
 have h2:n<=(LIM:Int):=by simp only[LIM];omega
 have h3:(PV.s []).cells.length=1:=rfl;simp only[Ly,h0,h2,h3,and_self,if_true];simp[Dy]
def Ap3 (l:List (List UInt8)):C2 0 (Dy l)=some (Dy l):=rfl
def Ap8 (l:List Rec):C2 0 (B9 l)=some (B9 l):=rfl
def Ah0 (l:List (List UInt8)):I4 (Dy l)=some (Dy l):=rfl
def Fr3 (neg:Bool) (x y:Dat):Lp neg true [.b,(.i .u64),(.i .u64),.s,.s,.s,(.i .i64),(.i .i64),(.i .i64),(.i .i64),(.i .i64),(.i .i64),(.i .u64)] x.pv y.pv=some (.b (if neg then decide (x≠y) else decide (x=y))):=by
 have:G8 [.b,(.i .u64),(.i .u64),.s,.s,.s,(.i .i64),(.i .i64),(.i .i64),(.i .i64),(.i .i64),(.i .i64),(.i .u64)] x.cells y.cells=some (decide (x=y)):=by simp only[Dat.cells,G8,Bs4,if_true,Bm];rw[Gx];cases x;cases y;simp
 simp only[Lp,Dat.pv,this,Cz];cases neg<;>simp
def Fr2 (neg:Bool) (x y:Rec):Lp neg true [.s,(.i .i64),(.i .i64),.b,(.i .u64),(.i .u64),.s,.s,.s,(.i .i64),(.i .i64),(.i .i64),(.i .i64),(.i .i64),(.i .i64),(.i .u64)] x.pv y.pv=some (.b (if neg then decide (x≠y) else decide (x=y))):=by
 have:G8 [.s,(.i .i64),(.i .i64),.b,(.i .u64),(.i .u64),.s,.s,.s,(.i .i64),(.i .i64),(.i .i64),(.i .i64),(.i .i64),(.i .i64),(.i .u64)] x.cells y.cells=some (decide (x=y)):=by simp only[Rec.cells,Dat.cells,G8,Bs4,if_true,Bm];rw[Gx];rcases x with⟨_,_,_,⟨⟩⟩;rcases y with⟨_,_,_,⟨⟩⟩;simp[and_assoc]
 simp only[Lp,Rec.pv,this,Cz];cases neg<;>simp
set_option linter.defProp false in
def EVP:=(And.intro @Cq2 (And.intro @Cq8 (And.intro @Dm7 (And.intro @Dl8 (And.intro @Ek4 (And.intro @Zz (And.intro @Zb (And.intro @Ar8 (And.intro @Ar7 (And.intro @Ar6 (And.intro @Ar5 (And.intro @Ar4 (And.intro @Ar3 (And.intro @Ar2 (And.intro @Ar1 (And.intro @Ar0 (And.intro @Ap9 (And.intro @wg (And.intro @wb (And.intro @wz (And.intro @wx (And.intro @ww (And.intro @wv (And.intro @Dm0 (And.intro @Zc (And.intro @Ek6 (And.intro @At8 (And.intro @At7 (And.intro @At6 (And.intro @At5 (And.intro @At4 (And.intro @At3 (And.intro @At2 (And.intro @At1 (And.intro @At0 (And.intro @As9 (And.intro @xk (And.intro @xj (And.intro @w9 (And.intro @Ch1 (And.intro @Cj8 (And.intro @xw (And.intro @xv (And.intro @xq (And.intro @Ch0 (And.intro @Cj6 (And.intro @wq (And.intro @wk (And.intro @Xf (And.intro @Cg2 (And.intro @Gq (And.intro @Eq8 (And.intro @Cg7 (And.intro @Cg5 (And.intro @Bd9 (And.intro @Ds8 (And.intro @Cc7 (And.intro @Ox (And.intro @Bp1 (And.intro @Yq (And.intro @Cv0 (And.intro @Mz (And.intro @Ah2 (And.intro @Cc6 (And.intro @Cf6 (And.intro @Ds6 (And.intro @Ck1 (And.intro @Bn9 (And.intro @Cn0 (And.intro @Xx (And.intro @Ap3 (And.intro @Ap8 (And.intro @Ah0 (And.intro @Fr3 @Fr2))))))))))))))))))))))))))))))))))))))))))))))))))))))))))))))))))))))))))
end Go.X
