/- The program's data. -/
import Derived.Test.YtjakmljndnkplaaGreatDoorProveSignedG6
open Bool renaming eq_iff_iff->D6
open Option renaming bind_some->B0,map_some->Cc
open Option.some renaming injEq->Bm
set_option maxHeartbeats 1000000
set_option linter.defProp false
set_option linter.unusedVariables false
set_option linter.unusedSimpArgs false
namespace Go.X
open Go
structure Dat where
 v6:Bool
 hi:Int
 lo:Int
 host:List UInt8
 mail:List UInt8
 text:List UInt8
 a:Int
 b:Int
 c:Int
 d:Int
 e:Int
 f:Int
 bits:Int
 deriving DecidableEq
structure Rec where
 name:List UInt8
 typ:Int
 ttl:Int
 data:Dat
 deriving DecidableEq
structure Zone where
 origin:List UInt8
 recs:List Rec
 deriving DecidableEq
def R6 (x:Int):Prop:= -9223372036854775808<=x∧x<=9223372036854775807
def Dd4 (x:Int):Prop:=0<=x∧x<=18446744073709551615
def Uw (x:List UInt8):Prop:=x.length<=9223372036854775807
structure Dat.wf (x:Dat):Prop where
 hi:Dd4 x.hi
 lo:Dd4 x.lo
 host:Uw x.host
 mail:Uw x.mail
 text:Uw x.text
 a:R6 x.a
 b:R6 x.b
 c:R6 x.c
 d:R6 x.d
 e:R6 x.e
 f:R6 x.f
 bits:Dd4 x.bits
structure Rec.wf (r:Rec):Prop where
 name:Uw r.name
 typ:R6 r.typ
 ttl:R6 r.ttl
 data:r.data.wf
def Ck9 (l:List Rec):Prop:=l.length<=9223372036854775807∧∀r∈l,r.wf
structure Zone.wf (z:Zone):Prop where
 origin:Uw z.origin
 recs:Ck9 z.recs
def Dat.cells (x:Dat):List PV:=[.b x.v6,.i .u64 x.hi,.i .u64 x.lo,.s x.host,.s x.mail,.s x.text,.i .i64 x.a,.i .i64 x.b,.i .i64 x.c,.i .i64 x.d,.i .i64 x.e,.i .i64 x.f,.i .u64 x.bits]
def Dat.pv (x:Dat):PV:= .a x.cells
def Rec.cells (x:Rec):List PV:= .s x.name:: .i .i64 x.typ:: .i .i64 x.ttl::x.data.cells
def Rec.pv (x:Rec):PV:= .a x.cells
def B6 (l:List Rec):PV:= .l 16 (l.map Rec.pv)
def Zone.pv (x:Zone):PV:= .a [.s x.origin,B6 x.recs]
def C6 (l:List (List UInt8)):PV:= .l 1 (l.map .s)
def Lt (x:Dat):PV:= .a [.b x.v6,.i .u64 x.hi,.i .u64 x.lo]
def Fv4 (r:Rec):K1 0 16 r.pv=some r.pv:=rfl
def Fd6 (r:Rec):S3 16 r.pv=some r.pv:=rfl
def jg (r:Rec):K1 3 13 r.pv=some r.data.pv:=rfl
def jh (r:Rec):K1 3 3 r.pv=some (Lt r.data):=rfl
def Cz6 (r:Rec):Dj 0 r.pv=some (.s r.name):=rfl
def Cz5 (r:Rec):Dj 1 r.pv=some (.i .i64 r.typ):=rfl
def Cz4 (r:Rec):Dj 2 r.pv=some (.i .i64 r.ttl):=rfl
def Cz3 (r:Rec):Dj 3 r.pv=some (.b r.data.v6):=rfl
def Cz2 (r:Rec):Dj 4 r.pv=some (.i .u64 r.data.hi):=rfl
def Cz1 (r:Rec):Dj 5 r.pv=some (.i .u64 r.data.lo):=rfl
def Cz0 (r:Rec):Dj 6 r.pv=some (.s r.data.host):=rfl
def Cy9 (r:Rec):Dj 7 r.pv=some (.s r.data.mail):=rfl
def Cy8 (r:Rec):Dj 8 r.pv=some (.s r.data.text):=rfl
def Cy7 (r:Rec):Dj 9 r.pv=some (.i .i64 r.data.a):=rfl
def As9 (r:Rec):Dj 10 r.pv=some (.i .i64 r.data.b):=rfl
def As8 (r:Rec):Dj 11 r.pv=some (.i .i64 r.data.c):=rfl
def As7 (r:Rec):Dj 12 r.pv=some (.i .i64 r.data.d):=rfl
def As6 (r:Rec):Dj 13 r.pv=some (.i .i64 r.data.e):=rfl
def As5 (r:Rec):Dj 14 r.pv=some (.i .i64 r.data.f):=rfl
def As4 (r:Rec):Dj 15 r.pv=some (.i .u64 r.data.bits):=rfl
def Fv6 (r:Dat):K1 0 13 r.pv=some r.pv:=rfl
def jl (r:Dat):K1 0 3 r.pv=some (Lt r):=rfl
def Fd8 (r:Dat):S3 13 r.pv=some r.pv:=rfl
def Cc6 (r:Dat):Dj 0 r.pv=some (.b r.v6):=rfl
def Cc5 (r:Dat):Dj 1 r.pv=some (.i .u64 r.hi):=rfl
def Cc4 (r:Dat):Dj 2 r.pv=some (.i .u64 r.lo):=rfl
def Cc3 (r:Dat):Dj 3 r.pv=some (.s r.host):=rfl
def Cc2 (r:Dat):Dj 4 r.pv=some (.s r.mail):=rfl
def Cc1 (r:Dat):Dj 5 r.pv=some (.s r.text):=rfl
def Cc0 (r:Dat):Dj 6 r.pv=some (.i .i64 r.a):=rfl
def Cb9 (r:Dat):Dj 7 r.pv=some (.i .i64 r.b):=rfl
def Cb8 (r:Dat):Dj 8 r.pv=some (.i .i64 r.c):=rfl
def Cb7 (r:Dat):Dj 9 r.pv=some (.i .i64 r.d):=rfl
def At9 (r:Dat):Dj 10 r.pv=some (.i .i64 r.e):=rfl
def At8 (r:Dat):Dj 11 r.pv=some (.i .i64 r.f):=rfl
def At7 (r:Dat):Dj 12 r.pv=some (.i .u64 r.bits):=rfl
def Ew8 (r:Dat):S3 3 (Lt r)=some (Lt r):=rfl
def Dh6 (r:Dat):K1 0 3 (Lt r)=some (Lt r):=rfl
def Bj2 (r:Dat):Dj 0 (Lt r)=some (.b r.v6):=rfl
def Bj1 (r:Dat):Dj 1 (Lt r)=some (.i .u64 r.hi):=rfl
def Bj0 (r:Dat):Dj 2 (Lt r)=some (.i .u64 r.lo):=rfl
def Ew7 (r:Zone):S3 2 r.pv=some r.pv:=rfl
def Dh4 (r:Zone):K1 0 2 r.pv=some r.pv:=rfl
def As3 (r:Zone):Dj 0 r.pv=some (.s r.origin):=rfl
def As2 (r:Zone):Dj 1 r.pv=some (B6 r.recs):=rfl
def ew (v:Bool) (h l:Int) (s1 s2 s3:List UInt8) (a b c d e f g:Int):PV.a [.b v,.i .u64 h,.i .u64 l,.s s1,.s s2,.s s3,.i .i64 a,.i .i64 b,.i .i64 c,.i .i64 d,.i .i64 e,.i .i64 f,.i .u64 g]=Dat.pv ⟨v,h,l,s1,s2,s3,a,b,c,d,e,f,g⟩:=rfl
def Ew1 (n:List UInt8) (t u:Int) (v:Bool) (h l:Int) (s1 s2 s3:List UInt8) (a b c d e f g:Int):PV.a [.s n,.i .i64 t,.i .i64 u,.b v,.i .u64 h,.i .u64 l,.s s1,.s s2,.s s3,.i .i64 a,.i .i64 b,.i .i64 c,.i .i64 d,.i .i64 e,.i .i64 f,.i .u64 g]=Rec.pv ⟨n,t,u,⟨v,h,l,s1,s2,s3,a,b,c,d,e,f,g⟩⟩:=rfl
def G2 (x:Dat):(⟨x.v6,x.hi,x.lo,x.host,x.mail,x.text,x.a,x.b,x.c,x.d,x.e,x.f,x.bits⟩:Dat)=x:=rfl
def Fg2 (x:Rec):(⟨x.name,x.typ,x.ttl,x.data⟩:Rec)=x:=rfl
def Ew5 (x:Dat):PV.flat x.pv=true:=rfl
def Ew4 (x:Rec):PV.flat x.pv=true:=rfl
def Ct5 (x:Dat):PV.flat (Lt x)=true:=rfl
def Fc1 (x:Rec):J2 16 [x.pv]=some (B6 [x]):=rfl
def Ek7 (l:List Rec):Gl (B6 l)=some (.i .i64 (l.length:Int)):=by simp[B6,Gl]
def Lw (l:List Rec) (k:IntKind) (z:Int) (h:0<=z):Hm 16 (B6 l) (.i k z)=(l[z.toNat]?).map Rec.pv:=by simp[B6,Uz _ _ _ _ h]
def Db2 (l:List Rec) (x:Rec) (h:l.length+1<=1073741824):I4 16 (B6 l) (B6 [x])=some (B6 (l++[x])):=by have:=Rr 16 (l.map Rec.pv) [x.pv] (by simpa using h);simpa [B6] using this
def Jy (l m:List Rec) (h:l.length+m.length<=1073741824):I4 16 (B6 l) (B6 m)=some (B6 (l++m)):=by have:=Rr 16 (l.map Rec.pv) (m.map Rec.pv) (by simpa using h);simpa [B6] using this
def Dn0:PV.l 16 []=B6 []:=rfl
def Ir (l:List Rec) (k k':IntKind) (a b:Int) (h1:0<=a) (h2:a<=b) (h3:b<=(l.length:Int)):Is 16 (B6 l) (.i k a) (.i k' b)=some (B6 ((l.take b.toNat).drop a.toNat)):=by have:=Ch9 16 (l.map Rec.pv) k k' a b h1 h2 (by simpa using h3);simpa [B6] using this
def Fw8 (l:List Rec) (k:IntKind) (z:Int) (n:List UInt8) (t u:Int) (v:Bool) (h w:Int) (s1 s2 s3:List UInt8) (a b c d e f g:Int) (h0:0<=z) (h1:z<(l.length:Int)):
  Mj 16 0 [.s n,.i .i64 t,.i .i64 u,.b v,.i .u64 h,.i .u64 w,.s s1,.s s2,.s s3,.i .i64 a,.i .i64 b,.i .i64 c,.i .i64 d,.i .i64 e,.i .i64 f,.i .u64 g] (B6 l) (.i k z)=some (B6 (l.set z.toNat ⟨n,t,u,⟨v,h,w,s1,s2,s3,a,b,c,d,e,f,g⟩⟩)):=by
 have h2:z.toNat<l.length:=by omega
 have h3:(l.map Rec.pv)[z.toNat]? =some (l[z.toNat].pv):=by simp[h2]
 simp only[Mj,B6,h0,h3,and_self,if_true,B0];have h4:Nf (l[z.toNat].pv) 0 [.s n,.i .i64 t,.i .i64 u,.b v,.i .u64 h,.i .u64 w,.s s1,.s s2,.s s3,.i .i64 a,.i .i64 b,.i .i64 c,.i .i64 d,.i .i64 e,.i .i64 f,.i .u64 g]=some (Rec.pv ⟨n,t,u,⟨v,h,w,s1,s2,s3,a,b,c,d,e,f,g⟩⟩):=rfl;rw[h4];simp[List.map_set]
def Cj2 (l:List Rec):I5 (B6 l)=some (B6 l):=rfl
def Ek5 (l:List (List UInt8)):Gl (C6 l)=some (.i .i64 (l.length:Int)):=by simp[C6,Gl]
def O5 (l:List (List UInt8)) (k:IntKind) (z:Int) (h:0<=z):Hm 1 (C6 l) (.i k z)=(l[z.toNat]?).map PV.s:=by simp[C6,Uz _ _ _ _ h]
def Fb8 (x:List UInt8):J2 1 [.s x]=some (C6 [x]):=rfl
def Dh9:PV.l 1 []=C6 []:=rfl
def Dz9 (l:List (List UInt8)) (x:List UInt8) (h:l.length+1<=1073741824):I4 1 (C6 l) (C6 [x])=some (C6 (l++[x])):=by have:=Rr 1 (l.map PV.s) [.s x] (by simpa using h);simpa [C6] using this
def Al1 (l m:List (List UInt8)) (h:l.length+m.length<=1073741824):I4 1 (C6 l) (C6 m)=some (C6 (l++m)):=by have:=Rr 1 (l.map PV.s) (m.map PV.s) (by simpa using h);simpa [C6] using this
def O0 (l:List (List UInt8)) (k k':IntKind) (a b:Int) (h1:0<=a) (h2:a<=b) (h3:b<=(l.length:Int)):Is 1 (C6 l) (.i k a) (.i k' b)=some (C6 ((l.take b.toNat).drop a.toNat)):=by have:=Ch9 1 (l.map PV.s) k k' a b h1 h2 (by simpa using h3);simpa [C6] using this
def Dm1 (l:List (List UInt8)) (k:IntKind) (z:Int) (x:List UInt8) (h0:0<=z) (h1:z<(l.length:Int)):Mj 1 0 [.s x] (C6 l) (.i k z)=some (C6 (l.set z.toNat x)):=by
 have h2:z.toNat<l.length:=by omega
 have h3:(l.map PV.s)[z.toNat]? =some (.s l[z.toNat]):=by simp[h2]
 simp only[Mj,C6,h0,h3,and_self,if_true,B0];have h4:Nf (.s l[z.toNat]) 0 [.s x]=some (.s x):=rfl;rw[h4];simp[List.map_set]
def Aw9 (n:Int) (h0:0<=n) (h1:n<=1073741824):M7 1 (.i .i64 n) (.s [])=some (C6 (List.replicate n.toNat [])):=by
 have h2:n<=(LIM:Int):=by simp only[LIM];omega
 have h3:(PV.s []).cells.length=1:=rfl;simp only[M7,h0,h2,h3,and_self,if_true];simp[C6]
def Cx5 (l:List (List UInt8)):Dj 0 (C6 l)=some (C6 l):=rfl
def Cy6 (l:List Rec):Dj 0 (B6 l)=some (B6 l):=rfl
def Bt9 (l:List (List UInt8)):I5 (C6 l)=some (C6 l):=rfl
def Gt6 (neg:Bool) (x y:Dat):M9 neg true [.b,(.i .u64),(.i .u64),.s,.s,.s,(.i .i64),(.i .i64),(.i .i64),(.i .i64),(.i .i64),(.i .i64),(.i .u64)] x.pv y.pv=some (.b (if neg then decide (x≠y) else decide (x=y))):=by
 have:H9 [.b,(.i .u64),(.i .u64),.s,.s,.s,(.i .i64),(.i .i64),(.i .i64),(.i .i64),(.i .i64),(.i .i64),(.i .u64)] x.cells y.cells=some (decide (x=y)):=by simp only[Dat.cells,H9,Dd7,if_true,Bm];rw[D6];cases x;cases y;simp
 simp only[M9,Dat.pv,this,Cc];cases neg<;>simp
def Gt5 (neg:Bool) (x y:Rec):M9 neg true [.s,(.i .i64),(.i .i64),.b,(.i .u64),(.i .u64),.s,.s,.s,(.i .i64),(.i .i64),(.i .i64),(.i .i64),(.i .i64),(.i .i64),(.i .u64)] x.pv y.pv=some (.b (if neg then decide (x≠y) else decide (x=y))):=by
 have:H9 [.s,(.i .i64),(.i .i64),.b,(.i .u64),(.i .u64),.s,.s,.s,(.i .i64),(.i .i64),(.i .i64),(.i .i64),(.i .i64),(.i .i64),(.i .u64)] x.cells y.cells=some (decide (x=y)):=by simp only[Rec.cells,Dat.cells,H9,Dd7,if_true,Bm];rw[D6];rcases x with⟨_,_,_,⟨⟩⟩;rcases y with⟨_,_,_,⟨⟩⟩;simp[and_assoc]
 simp only[M9,Rec.pv,this,Cc];cases neg<;>simp
set_option linter.defProp false in
def EVP:=(And.intro @Dm1 (And.intro @Aw9 (And.intro @Fw8 (And.intro @Fv4 (And.intro @Fd6 (And.intro @jg (And.intro @jh (And.intro @Cz6 (And.intro @Cz5 (And.intro @Cz4 (And.intro @Cz3 (And.intro @Cz2 (And.intro @Cz1 (And.intro @Cz0 (And.intro @Cy9 (And.intro @Cy8 (And.intro @Cy7 (And.intro @As9 (And.intro @As8 (And.intro @As7 (And.intro @As6 (And.intro @As5 (And.intro @As4 (And.intro @Fv6 (And.intro @jl (And.intro @Fd8 (And.intro @Cc6 (And.intro @Cc5 (And.intro @Cc4 (And.intro @Cc3 (And.intro @Cc2 (And.intro @Cc1 (And.intro @Cc0 (And.intro @Cb9 (And.intro @Cb8 (And.intro @Cb7 (And.intro @At9 (And.intro @At8 (And.intro @At7 (And.intro @Ew8 (And.intro @Dh6 (And.intro @Bj2 (And.intro @Bj1 (And.intro @Bj0 (And.intro @Ew7 (And.intro @Dh4 (And.intro @As3 (And.intro @As2 (And.intro @ew (And.intro @Ew1 (And.intro @G2 (And.intro @Fg2 (And.intro @Ew5 (And.intro @Ew4 (And.intro @Ct5 (And.intro @Fc1 (And.intro @Ek7 (And.intro @Lw (And.intro @Db2 (And.intro @Jy (And.intro @Dn0 (And.intro @Ir (And.intro @Cj2 (And.intro @Ek5 (And.intro @O5 (And.intro @Fb8 (And.intro @Dh9 (And.intro @Dz9 (And.intro @Al1 (And.intro @O0 (And.intro @Cx5 (And.intro @Cy6 (And.intro @Bt9 (And.intro @Gt6 @Gt5))))))))))))))))))))))))))))))))))))))))))))))))))))))))))))))))))))))))))
end Go.X
