/- The program's data. -/
import Derived.Test.YtjjbngkgndckcaaGreatDoorValidateMissingG2
open Bool renaming eq_iff_iff->Gv
open Option renaming bind_some->B0,map_some->Cb
open Option.some renaming injEq->Bm
set_option maxHeartbeats 1000000
set_option linter.defProp false
set_option linter.unusedVariables false
set_option linter.unusedSimpArgs false
namespace Go.X
open Go
structure Dat where
 v6:Bool
 hi:Int
 lo:Int
 host:List UInt8
 mail:List UInt8
 text:List UInt8
 a:Int
 b:Int
 c:Int
 d:Int
 e:Int
 f:Int
 bits:Int
 deriving DecidableEq
structure Rec where
 name:List UInt8
 typ:Int
 ttl:Int
 data:Dat
 deriving DecidableEq
structure Zone where
 origin:List UInt8
 recs:List Rec
 deriving DecidableEq
def Yj (x:Int):Prop:= -9223372036854775808<=x∧x<=9223372036854775807
def zt (x:Int):Prop:=0<=x∧x<=18446744073709551615
def d8 (x:List UInt8):Prop:=x.length<=9223372036854775807
structure Dat.wf (x:Dat):Prop where
 hi:zt x.hi
 lo:zt x.lo
 host:d8 x.host
 mail:d8 x.mail
 text:d8 x.text
 a:Yj x.a
 b:Yj x.b
 c:Yj x.c
 d:Yj x.d
 e:Yj x.e
 f:Yj x.f
 bits:zt x.bits
structure Rec.wf (r:Rec):Prop where
 name:d8 r.name
 typ:Yj r.typ
 ttl:Yj r.ttl
 data:r.data.wf
def Ah5 (l:List Rec):Prop:=l.length<=9223372036854775807∧∀r∈l,r.wf
structure Zone.wf (z:Zone):Prop where
 origin:d8 z.origin
 recs:Ah5 z.recs
def Dat.cells (x:Dat):List PV:=[.b x.v6,.i .u64 x.hi,.i .u64 x.lo,.s x.host,.s x.mail,.s x.text,.i .i64 x.a,.i .i64 x.b,.i .i64 x.c,.i .i64 x.d,.i .i64 x.e,.i .i64 x.f,.i .u64 x.bits]
def Dat.pv (x:Dat):PV:= .a x.cells
def Rec.cells (x:Rec):List PV:= .s x.name:: .i .i64 x.typ:: .i .i64 x.ttl::x.data.cells
def Rec.pv (x:Rec):PV:= .a x.cells
def B9 (l:List Rec):PV:= .l 16 (l.map Rec.pv)
def Zone.pv (x:Zone):PV:= .a [.s x.origin,B9 x.recs]
def Dh (l:List (List UInt8)):PV:= .l 1 (l.map .s)
def Kw (x:Dat):PV:= .a [.b x.v6,.i .u64 x.hi,.i .u64 x.lo]
def Dc3 (r:Rec):J2 0 16 r.pv=some r.pv:=rfl
def Dn5 (r:Rec):O8 16 r.pv=some r.pv:=rfl
def Y5 (r:Rec):J2 3 13 r.pv=some r.data.pv:=rfl
def Y6 (r:Rec):J2 3 3 r.pv=some (Kw r.data):=rfl
def Ar2 (r:Rec):C0 0 r.pv=some (.s r.name):=rfl
def Ar1 (r:Rec):C0 1 r.pv=some (.i .i64 r.typ):=rfl
def Ar0 (r:Rec):C0 2 r.pv=some (.i .i64 r.ttl):=rfl
def Ap9 (r:Rec):C0 3 r.pv=some (.b r.data.v6):=rfl
def Ap8 (r:Rec):C0 4 r.pv=some (.i .u64 r.data.hi):=rfl
def Ap7 (r:Rec):C0 5 r.pv=some (.i .u64 r.data.lo):=rfl
def Ap6 (r:Rec):C0 6 r.pv=some (.s r.data.host):=rfl
def Ap5 (r:Rec):C0 7 r.pv=some (.s r.data.mail):=rfl
def Ap4 (r:Rec):C0 8 r.pv=some (.s r.data.text):=rfl
def Ap3 (r:Rec):C0 9 r.pv=some (.i .i64 r.data.a):=rfl
def wg (r:Rec):C0 10 r.pv=some (.i .i64 r.data.b):=rfl
def wb (r:Rec):C0 11 r.pv=some (.i .i64 r.data.c):=rfl
def wz (r:Rec):C0 12 r.pv=some (.i .i64 r.data.d):=rfl
def wx (r:Rec):C0 13 r.pv=some (.i .i64 r.data.e):=rfl
def ww (r:Rec):C0 14 r.pv=some (.i .i64 r.data.f):=rfl
def wv (r:Rec):C0 15 r.pv=some (.i .u64 r.data.bits):=rfl
def Dc5 (r:Dat):J2 0 13 r.pv=some r.pv:=rfl
def Y7 (r:Dat):J2 0 3 r.pv=some (Kw r):=rfl
def Dn7 (r:Dat):O8 13 r.pv=some r.pv:=rfl
def At2 (r:Dat):C0 0 r.pv=some (.b r.v6):=rfl
def At1 (r:Dat):C0 1 r.pv=some (.i .u64 r.hi):=rfl
def At0 (r:Dat):C0 2 r.pv=some (.i .u64 r.lo):=rfl
def As9 (r:Dat):C0 3 r.pv=some (.s r.host):=rfl
def As8 (r:Dat):C0 4 r.pv=some (.s r.mail):=rfl
def As7 (r:Dat):C0 5 r.pv=some (.s r.text):=rfl
def As6 (r:Dat):C0 6 r.pv=some (.i .i64 r.a):=rfl
def As5 (r:Dat):C0 7 r.pv=some (.i .i64 r.b):=rfl
def As4 (r:Dat):C0 8 r.pv=some (.i .i64 r.c):=rfl
def As3 (r:Dat):C0 9 r.pv=some (.i .i64 r.d):=rfl
def xk (r:Dat):C0 10 r.pv=some (.i .i64 r.e):=rfl
def xj (r:Dat):C0 11 r.pv=some (.i .i64 r.f):=rfl
def w9 (r:Dat):C0 12 r.pv=some (.i .u64 r.bits):=rfl
def Cd7 (r:Dat):O8 3 (Kw r)=some (Kw r):=rfl
def Bs8 (r:Dat):J2 0 3 (Kw r)=some (Kw r):=rfl
def xw (r:Dat):C0 0 (Kw r)=some (.b r.v6):=rfl
def xv (r:Dat):C0 1 (Kw r)=some (.i .u64 r.hi):=rfl
def xq (r:Dat):C0 2 (Kw r)=some (.i .u64 r.lo):=rfl
def Cd6 (r:Zone):O8 2 r.pv=some r.pv:=rfl
def Bs5 (r:Zone):J2 0 2 r.pv=some r.pv:=rfl
def wq (r:Zone):C0 0 r.pv=some (.s r.origin):=rfl
def wk (r:Zone):C0 1 r.pv=some (B9 r.recs):=rfl
def W6 (v:Bool) (h l:Int) (s1 s2 s3:List UInt8) (a b c d e f g:Int):PV.a [.b v,.i .u64 h,.i .u64 l,.s s1,.s s2,.s s3,.i .i64 a,.i .i64 b,.i .i64 c,.i .i64 d,.i .i64 e,.i .i64 f,.i .u64 g]=Dat.pv ⟨v,h,l,s1,s2,s3,a,b,c,d,e,f,g⟩:=rfl
def Cd0 (n:List UInt8) (t u:Int) (v:Bool) (h l:Int) (s1 s2 s3:List UInt8) (a b c d e f g:Int):PV.a [.s n,.i .i64 t,.i .i64 u,.b v,.i .u64 h,.i .u64 l,.s s1,.s s2,.s s3,.i .i64 a,.i .i64 b,.i .i64 c,.i .i64 d,.i .i64 e,.i .i64 f,.i .u64 g]=Rec.pv ⟨n,t,u,⟨v,h,l,s1,s2,s3,a,b,c,d,e,f,g⟩⟩:=rfl
def Gk (x:Dat):(⟨x.v6,x.hi,x.lo,x.host,x.mail,x.text,x.a,x.b,x.c,x.d,x.e,x.f,x.bits⟩:Dat)=x:=rfl
def Dr0 (x:Rec):(⟨x.name,x.typ,x.ttl,x.data⟩:Rec)=x:=rfl
def Cd4 (x:Dat):PV.flat x.pv=true:=rfl
def Cd3 (x:Rec):PV.flat x.pv=true:=rfl
def Bc4 (x:Dat):PV.flat (Kw x)=true:=rfl
def Dl3 (x:Rec):K5 16 [x.pv]=some (B9 [x]):=rfl
def Cz5 (l:List Rec):Hv (B9 l)=some (.i .i64 (l.length:Int)):=by simp[B9,Hv]
def Nt (l:List Rec) (k:IntKind) (z:Int) (h:0<=z):Kj 16 (B9 l) (.i k z)=(l[z.toNat]?).map Rec.pv:=by simp[B9,ir _ _ _ _ h]
def Bm4 (l:List Rec) (x:Rec) (h:l.length+1<=1073741824):Ip 16 (B9 l) (B9 [x])=some (B9 (l++[x])):=by have:=Pk 16 (l.map Rec.pv) [x.pv] (by simpa using h);simpa [B9] using this
def Qy (l m:List Rec) (h:l.length+m.length<=1073741824):Ip 16 (B9 l) (B9 m)=some (B9 (l++m)):=by have:=Pk 16 (l.map Rec.pv) (m.map Rec.pv) (by simpa using h);simpa [B9] using this
def Ck3:PV.l 16 []=B9 []:=rfl
def Mq (l:List Rec) (k k':IntKind) (a b:Int) (h1:0<=a) (h2:a<=b) (h3:b<=(l.length:Int)):J3 16 (B9 l) (.i k a) (.i k' b)=some (B9 ((l.take b.toNat).drop a.toNat)):=by have:=Bw2 16 (l.map Rec.pv) k k' a b h1 h2 (by simpa using h3);simpa [B9] using this
def Dd4 (l:List Rec) (k:IntKind) (z:Int) (n:List UInt8) (t u:Int) (v:Bool) (h w:Int) (s1 s2 s3:List UInt8) (a b c d e f g:Int) (h0:0<=z) (h1:z<(l.length:Int)):
  Nx 16 0 [.s n,.i .i64 t,.i .i64 u,.b v,.i .u64 h,.i .u64 w,.s s1,.s s2,.s s3,.i .i64 a,.i .i64 b,.i .i64 c,.i .i64 d,.i .i64 e,.i .i64 f,.i .u64 g] (B9 l) (.i k z)=some (B9 (l.set z.toNat ⟨n,t,u,⟨v,h,w,s1,s2,s3,a,b,c,d,e,f,g⟩⟩)):=by
 have h2:z.toNat<l.length:=by omega
 have h3:(l.map Rec.pv)[z.toNat]? =some (l[z.toNat].pv):=by simp[h2]
 simp only[Nx,B9,h0,h3,and_self,if_true,B0];have h4:Om (l[z.toNat].pv) 0 [.s n,.i .i64 t,.i .i64 u,.b v,.i .u64 h,.i .u64 w,.s s1,.s s2,.s s3,.i .i64 a,.i .i64 b,.i .i64 c,.i .i64 d,.i .i64 e,.i .i64 f,.i .u64 g]=some (Rec.pv ⟨n,t,u,⟨v,h,w,s1,s2,s3,a,b,c,d,e,f,g⟩⟩):=rfl;rw[h4];simp[List.map_set]
def Ag3 (l:List Rec):Iz (B9 l)=some (B9 l):=rfl
def Cz4 (l:List (List UInt8)):Hv (Dh l)=some (.i .i64 (l.length:Int)):=by simp[Dh,Hv]
def Cc2 (l:List (List UInt8)) (k:IntKind) (z:Int) (h:0<=z):Kj 1 (Dh l) (.i k z)=(l[z.toNat]?).map PV.s:=by simp[Dh,ir _ _ _ _ h]
def Dl1 (x:List UInt8):K5 1 [.s x]=some (Dh [x]):=rfl
def Bt1:PV.l 1 []=Dh []:=rfl
def Bm2 (l:List (List UInt8)) (x:List UInt8) (h:l.length+1<=1073741824):Ip 1 (Dh l) (Dh [x])=some (Dh (l++[x])):=by have:=Pk 1 (l.map PV.s) [.s x] (by simpa using h);simpa [Dh] using this
def Ch2 (l m:List (List UInt8)) (h:l.length+m.length<=1073741824):Ip 1 (Dh l) (Dh m)=some (Dh (l++m)):=by have:=Pk 1 (l.map PV.s) (m.map PV.s) (by simpa using h);simpa [Dh] using this
def Ws (l:List (List UInt8)) (k k':IntKind) (a b:Int) (h1:0<=a) (h2:a<=b) (h3:b<=(l.length:Int)):J3 1 (Dh l) (.i k a) (.i k' b)=some (Dh ((l.take b.toNat).drop a.toNat)):=by have:=Bw2 1 (l.map PV.s) k k' a b h1 h2 (by simpa using h3);simpa [Dh] using this
def Cj2 (l:List (List UInt8)) (k:IntKind) (z:Int) (x:List UInt8) (h0:0<=z) (h1:z<(l.length:Int)):Nx 1 0 [.s x] (Dh l) (.i k z)=some (Dh (l.set z.toNat x)):=by
 have h2:z.toNat<l.length:=by omega
 have h3:(l.map PV.s)[z.toNat]? =some (.s l[z.toNat]):=by simp[h2]
 simp only[Nx,Dh,h0,h3,and_self,if_true,B0];have h4:Om (.s l[z.toNat]) 0 [.s x]=some (.s x):=rfl;rw[h4];simp[List.map_set]
def Cj9 (n:Int) (h0:0<=n) (h1:n<=1073741824):Mc 1 (.i .i64 n) (.s [])=some (Dh (List.replicate n.toNat [])):=by
 have h2:n<=(LIM:Int):=by simp only[LIM];omega
 have h3:(PV.s []).cells.length=1:=rfl;simp only[Mc,h0,h2,h3,and_self,if_true];simp[Dh]
def An7 (l:List (List UInt8)):C0 0 (Dh l)=some (Dh l):=rfl
def Ap2 (l:List Rec):C0 0 (B9 l)=some (B9 l):=rfl
def Ag1 (l:List (List UInt8)):Iz (Dh l)=some (Dh l):=rfl
def Fy1 (neg:Bool) (x y:Dat):Lh neg true [.b,(.i .u64),(.i .u64),.s,.s,.s,(.i .i64),(.i .i64),(.i .i64),(.i .i64),(.i .i64),(.i .i64),(.i .u64)] x.pv y.pv=some (.b (if neg then decide (x≠y) else decide (x=y))):=by
 have:G4 [.b,(.i .u64),(.i .u64),.s,.s,.s,(.i .i64),(.i .i64),(.i .i64),(.i .i64),(.i .i64),(.i .i64),(.i .u64)] x.cells y.cells=some (decide (x=y)):=by simp only[Dat.cells,G4,Bp3,if_true,Bm];rw[Gv];cases x;cases y;simp
 simp only[Lh,Dat.pv,this,Cb];cases neg<;>simp
def Fy0 (neg:Bool) (x y:Rec):Lh neg true [.s,(.i .i64),(.i .i64),.b,(.i .u64),(.i .u64),.s,.s,.s,(.i .i64),(.i .i64),(.i .i64),(.i .i64),(.i .i64),(.i .i64),(.i .u64)] x.pv y.pv=some (.b (if neg then decide (x≠y) else decide (x=y))):=by
 have:G4 [.s,(.i .i64),(.i .i64),.b,(.i .u64),(.i .u64),.s,.s,.s,(.i .i64),(.i .i64),(.i .i64),(.i .i64),(.i .i64),(.i .i64),(.i .u64)] x.cells y.cells=some (decide (x=y)):=by simp only[Rec.cells,Dat.cells,G4,Bp3,if_true,Bm];rw[Gv];rcases x with⟨_,_,_,⟨⟩⟩;rcases y with⟨_,_,_,⟨⟩⟩;simp[and_assoc]
 simp only[Lh,Rec.pv,this,Cb];cases neg<;>simp
set_option linter.defProp false in
def EVP:=(And.intro @Cj2 (And.intro @Cj9 (And.intro @Dd4 (And.intro @Dc3 (And.intro @Dn5 (And.intro @Y5 (And.intro @Y6 (And.intro @Ar2 (And.intro @Ar1 (And.intro @Ar0 (And.intro @Ap9 (And.intro @Ap8 (And.intro @Ap7 (And.intro @Ap6 (And.intro @Ap5 (And.intro @Ap4 (And.intro @Ap3 (And.intro @wg (And.intro @wb (And.intro @wz (And.intro @wx (And.intro @ww (And.intro @wv (And.intro @Dc5 (And.intro @Y7 (And.intro @Dn7 (And.intro @At2 (And.intro @At1 (And.intro @At0 (And.intro @As9 (And.intro @As8 (And.intro @As7 (And.intro @As6 (And.intro @As5 (And.intro @As4 (And.intro @As3 (And.intro @xk (And.intro @xj (And.intro @w9 (And.intro @Cd7 (And.intro @Bs8 (And.intro @xw (And.intro @xv (And.intro @xq (And.intro @Cd6 (And.intro @Bs5 (And.intro @wq (And.intro @wk (And.intro @W6 (And.intro @Cd0 (And.intro @Gk (And.intro @Dr0 (And.intro @Cd4 (And.intro @Cd3 (And.intro @Bc4 (And.intro @Dl3 (And.intro @Cz5 (And.intro @Nt (And.intro @Bm4 (And.intro @Qy (And.intro @Ck3 (And.intro @Mq (And.intro @Ag3 (And.intro @Cz4 (And.intro @Cc2 (And.intro @Dl1 (And.intro @Bt1 (And.intro @Bm2 (And.intro @Ch2 (And.intro @Ws (And.intro @An7 (And.intro @Ap2 (And.intro @Ag1 (And.intro @Fy1 @Fy0))))))))))))))))))))))))))))))))))))))))))))))))))))))))))))))))))))))))))
end Go.X
