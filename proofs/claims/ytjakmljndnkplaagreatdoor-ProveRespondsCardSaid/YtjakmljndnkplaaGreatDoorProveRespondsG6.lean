/- The program's data. -/
import Derived.Test.YtjakmljndnkplaaGreatDoorProveRespondsG4
open Bool renaming eq_iff_iff->D7
open Option renaming bind_some->B3,map_some->Cf
open Option.some renaming injEq->Bn
set_option maxHeartbeats 1000000
set_option linter.defProp false
set_option linter.unusedVariables false
set_option linter.unusedSimpArgs false
namespace Go.X
open Go
structure Dat where
 v6:Bool
 hi:Int
 lo:Int
 host:List UInt8
 mail:List UInt8
 text:List UInt8
 a:Int
 b:Int
 c:Int
 d:Int
 e:Int
 f:Int
 bits:Int
 deriving DecidableEq
structure Rec where
 name:List UInt8
 typ:Int
 ttl:Int
 data:Dat
 deriving DecidableEq
structure Zone where
 origin:List UInt8
 recs:List Rec
 deriving DecidableEq
def Wy (x:Int):Prop:= -9223372036854775808<=x∧x<=9223372036854775807
def Fh4 (x:Int):Prop:=0<=x∧x<=18446744073709551615
def Mw (x:List UInt8):Prop:=x.length<=9223372036854775807
structure Dat.wf (x:Dat):Prop where
 hi:Fh4 x.hi
 lo:Fh4 x.lo
 host:Mw x.host
 mail:Mw x.mail
 text:Mw x.text
 a:Wy x.a
 b:Wy x.b
 c:Wy x.c
 d:Wy x.d
 e:Wy x.e
 f:Wy x.f
 bits:Fh4 x.bits
structure Rec.wf (r:Rec):Prop where
 name:Mw r.name
 typ:Wy r.typ
 ttl:Wy r.ttl
 data:r.data.wf
def Ds0 (l:List Rec):Prop:=l.length<=9223372036854775807∧∀r∈l,r.wf
structure Zone.wf (z:Zone):Prop where
 origin:Mw z.origin
 recs:Ds0 z.recs
def Dat.cells (x:Dat):List PV:=[.b x.v6,.i .u64 x.hi,.i .u64 x.lo,.s x.host,.s x.mail,.s x.text,.i .i64 x.a,.i .i64 x.b,.i .i64 x.c,.i .i64 x.d,.i .i64 x.e,.i .i64 x.f,.i .u64 x.bits]
def Dat.pv (x:Dat):PV:= .a x.cells
def Rec.cells (x:Rec):List PV:= .s x.name:: .i .i64 x.typ:: .i .i64 x.ttl::x.data.cells
def Rec.pv (x:Rec):PV:= .a x.cells
def B4 (l:List Rec):PV:= .l 16 (l.map Rec.pv)
def Zone.pv (x:Zone):PV:= .a [.s x.origin,B4 x.recs]
def Ch (l:List (List UInt8)):PV:= .l 1 (l.map .s)
def Mk (x:Dat):PV:= .a [.b x.v6,.i .u64 x.hi,.i .u64 x.lo]
def Hl8 (r:Rec):Mq 0 16 r.pv=some r.pv:=rfl
def Ij5 (r:Rec):W9 16 r.pv=some r.pv:=rfl
def xg (r:Rec):Mq 3 13 r.pv=some r.data.pv:=rfl
def xh (r:Rec):Mq 3 3 r.pv=some (Mk r.data):=rfl
def Ev8 (r:Rec):Dj 0 r.pv=some (.s r.name):=rfl
def Ev7 (r:Rec):Dj 1 r.pv=some (.i .i64 r.typ):=rfl
def Ev6 (r:Rec):Dj 2 r.pv=some (.i .i64 r.ttl):=rfl
def Ev5 (r:Rec):Dj 3 r.pv=some (.b r.data.v6):=rfl
def Ev4 (r:Rec):Dj 4 r.pv=some (.i .u64 r.data.hi):=rfl
def Ev3 (r:Rec):Dj 5 r.pv=some (.i .u64 r.data.lo):=rfl
def Ev2 (r:Rec):Dj 6 r.pv=some (.s r.data.host):=rfl
def Ev1 (r:Rec):Dj 7 r.pv=some (.s r.data.mail):=rfl
def Eq9 (r:Rec):Dj 8 r.pv=some (.s r.data.text):=rfl
def Eq8 (r:Rec):Dj 9 r.pv=some (.i .i64 r.data.a):=rfl
def Cb9 (r:Rec):Dj 10 r.pv=some (.i .i64 r.data.b):=rfl
def Cb8 (r:Rec):Dj 11 r.pv=some (.i .i64 r.data.c):=rfl
def Cb7 (r:Rec):Dj 12 r.pv=some (.i .i64 r.data.d):=rfl
def Cb6 (r:Rec):Dj 13 r.pv=some (.i .i64 r.data.e):=rfl
def Cb5 (r:Rec):Dj 14 r.pv=some (.i .i64 r.data.f):=rfl
def Cb4 (r:Rec):Dj 15 r.pv=some (.i .u64 r.data.bits):=rfl
def Hm0 (r:Dat):Mq 0 13 r.pv=some r.pv:=rfl
def xl (r:Dat):Mq 0 3 r.pv=some (Mk r):=rfl
def Ij7 (r:Dat):W9 13 r.pv=some r.pv:=rfl
def Ex8 (r:Dat):Dj 0 r.pv=some (.b r.v6):=rfl
def Ex7 (r:Dat):Dj 1 r.pv=some (.i .u64 r.hi):=rfl
def Ex6 (r:Dat):Dj 2 r.pv=some (.i .u64 r.lo):=rfl
def Ex5 (r:Dat):Dj 3 r.pv=some (.s r.host):=rfl
def Ex4 (r:Dat):Dj 4 r.pv=some (.s r.mail):=rfl
def Ex3 (r:Dat):Dj 5 r.pv=some (.s r.text):=rfl
def Ex2 (r:Dat):Dj 6 r.pv=some (.i .i64 r.a):=rfl
def Ex1 (r:Dat):Dj 7 r.pv=some (.i .i64 r.b):=rfl
def Ex0 (r:Dat):Dj 8 r.pv=some (.i .i64 r.c):=rfl
def Ew9 (r:Dat):Dj 9 r.pv=some (.i .i64 r.d):=rfl
def Cc9 (r:Dat):Dj 10 r.pv=some (.i .i64 r.e):=rfl
def Cc8 (r:Dat):Dj 11 r.pv=some (.i .i64 r.f):=rfl
def Cc7 (r:Dat):Dj 12 r.pv=some (.i .u64 r.bits):=rfl
def Gd6 (r:Dat):W9 3 (Mk r)=some (Mk r):=rfl
def Fn7 (r:Dat):Mq 0 3 (Mk r)=some (Mk r):=rfl
def Cd2 (r:Dat):Dj 0 (Mk r)=some (.b r.v6):=rfl
def Cd1 (r:Dat):Dj 1 (Mk r)=some (.i .u64 r.hi):=rfl
def Cd0 (r:Dat):Dj 2 (Mk r)=some (.i .u64 r.lo):=rfl
def Gd5 (r:Zone):W9 2 r.pv=some r.pv:=rfl
def Fn5 (r:Zone):Mq 0 2 r.pv=some r.pv:=rfl
def Cb3 (r:Zone):Dj 0 r.pv=some (.s r.origin):=rfl
def Cb2 (r:Zone):Dj 1 r.pv=some (B4 r.recs):=rfl
def qp (v:Bool) (h l:Int) (s1 s2 s3:List UInt8) (a b c d e f g:Int):PV.a [.b v,.i .u64 h,.i .u64 l,.s s1,.s s2,.s s3,.i .i64 a,.i .i64 b,.i .i64 c,.i .i64 d,.i .i64 e,.i .i64 f,.i .u64 g]=Dat.pv ⟨v,h,l,s1,s2,s3,a,b,c,d,e,f,g⟩:=rfl
def Gc9 (n:List UInt8) (t u:Int) (v:Bool) (h l:Int) (s1 s2 s3:List UInt8) (a b c d e f g:Int):PV.a [.s n,.i .i64 t,.i .i64 u,.b v,.i .u64 h,.i .u64 l,.s s1,.s s2,.s s3,.i .i64 a,.i .i64 b,.i .i64 c,.i .i64 d,.i .i64 e,.i .i64 f,.i .u64 g]=Rec.pv ⟨n,t,u,⟨v,h,l,s1,s2,s3,a,b,c,d,e,f,g⟩⟩:=rfl
def Hf (x:Dat):(⟨x.v6,x.hi,x.lo,x.host,x.mail,x.text,x.a,x.b,x.c,x.d,x.e,x.f,x.bits⟩:Dat)=x:=rfl
def Ik9 (x:Rec):(⟨x.name,x.typ,x.ttl,x.data⟩:Rec)=x:=rfl
def Gd3 (x:Dat):PV.flat x.pv=true:=rfl
def Gd2 (x:Rec):PV.flat x.pv=true:=rfl
def Et6 (x:Dat):PV.flat (Mk x)=true:=rfl
def Ht1 (x:Rec):L4 16 [x.pv]=some (B4 [x]):=rfl
def Gz3 (l:List Rec):Hj (B4 l)=some (.i .i64 (l.length:Int)):=by simp[B4,Hj]
def Kc (l:List Rec) (k:IntKind) (z:Int) (h:0<=z):H3 16 (B4 l) (.i k z)=(l[z.toNat]?).map Rec.pv:=by simp[B4,Yn _ _ _ _ h]
def Fd3 (l:List Rec) (x:Rec) (h:l.length+1<=1073741824):Jz 16 (B4 l) (B4 [x])=some (B4 (l++[x])):=by have:=V5 16 (l.map Rec.pv) [x.pv] (by simpa using h);simpa [B4] using this
def Gr (l m:List Rec) (h:l.length+m.length<=1073741824):Jz 16 (B4 l) (B4 m)=some (B4 (l++m)):=by have:=V5 16 (l.map Rec.pv) (m.map Rec.pv) (by simpa using h);simpa [B4] using this
def Ft0:PV.l 16 []=B4 []:=rfl
def J1 (l:List Rec) (k k':IntKind) (a b:Int) (h1:0<=a) (h2:a<=b) (h3:b<=(l.length:Int)):Jx 16 (B4 l) (.i k a) (.i k' b)=some (B4 ((l.take b.toNat).drop a.toNat)):=by have:=Ef2 16 (l.map Rec.pv) k k' a b h1 h2 (by simpa using h3);simpa [B4] using this
def Hm9 (l:List Rec) (k:IntKind) (z:Int) (n:List UInt8) (t u:Int) (v:Bool) (h w:Int) (s1 s2 s3:List UInt8) (a b c d e f g:Int) (h0:0<=z) (h1:z<(l.length:Int)):
  Mx 16 0 [.s n,.i .i64 t,.i .i64 u,.b v,.i .u64 h,.i .u64 w,.s s1,.s s2,.s s3,.i .i64 a,.i .i64 b,.i .i64 c,.i .i64 d,.i .i64 e,.i .i64 f,.i .u64 g] (B4 l) (.i k z)=some (B4 (l.set z.toNat ⟨n,t,u,⟨v,h,w,s1,s2,s3,a,b,c,d,e,f,g⟩⟩)):=by
 have h2:z.toNat<l.length:=by omega
 have h3:(l.map Rec.pv)[z.toNat]? =some (l[z.toNat].pv):=by simp[h2]
 simp only[Mx,B4,h0,h3,and_self,if_true,B3];have h4:P1 (l[z.toNat].pv) 0 [.s n,.i .i64 t,.i .i64 u,.b v,.i .u64 h,.i .u64 w,.s s1,.s s2,.s s3,.i .i64 a,.i .i64 b,.i .i64 c,.i .i64 d,.i .i64 e,.i .i64 f,.i .u64 g]=some (Rec.pv ⟨n,t,u,⟨v,h,w,s1,s2,s3,a,b,c,d,e,f,g⟩⟩):=rfl;rw[h4];simp[List.map_set]
def Dp1 (l:List Rec):J8 (B4 l)=some (B4 l):=rfl
def Gz1 (l:List (List UInt8)):Hj (Ch l)=some (.i .i64 (l.length:Int)):=by simp[Ch,Hj]
def Rc (l:List (List UInt8)) (k:IntKind) (z:Int) (h:0<=z):H3 1 (Ch l) (.i k z)=(l[z.toNat]?).map PV.s:=by simp[Ch,Yn _ _ _ _ h]
def Hs8 (x:List UInt8):L4 1 [.s x]=some (Ch [x]):=rfl
def Fp0:PV.l 1 []=Ch []:=rfl
def Fd0 (l:List (List UInt8)) (x:List UInt8) (h:l.length+1<=1073741824):Jz 1 (Ch l) (Ch [x])=some (Ch (l++[x])):=by have:=V5 1 (l.map PV.s) [.s x] (by simpa using h);simpa [Ch] using this
def Zn (l m:List (List UInt8)) (h:l.length+m.length<=1073741824):Jz 1 (Ch l) (Ch m)=some (Ch (l++m)):=by have:=V5 1 (l.map PV.s) (m.map PV.s) (by simpa using h);simpa [Ch] using this
def Ms (l:List (List UInt8)) (k k':IntKind) (a b:Int) (h1:0<=a) (h2:a<=b) (h3:b<=(l.length:Int)):Jx 1 (Ch l) (.i k a) (.i k' b)=some (Ch ((l.take b.toNat).drop a.toNat)):=by have:=Ef2 1 (l.map PV.s) k k' a b h1 h2 (by simpa using h3);simpa [Ch] using this
def Fr8 (l:List (List UInt8)) (k:IntKind) (z:Int) (x:List UInt8) (h0:0<=z) (h1:z<(l.length:Int)):Mx 1 0 [.s x] (Ch l) (.i k z)=some (Ch (l.set z.toNat x)):=by
 have h2:z.toNat<l.length:=by omega
 have h3:(l.map PV.s)[z.toNat]? =some (.s l[z.toNat]):=by simp[h2]
 simp only[Mx,Ch,h0,h3,and_self,if_true,B3];have h4:P1 (.s l[z.toNat]) 0 [.s x]=some (.s x):=rfl;rw[h4];simp[List.map_set]
def Bd4 (n:Int) (h0:0<=n) (h1:n<=1073741824):O8 1 (.i .i64 n) (.s [])=some (Ch (List.replicate n.toNat [])):=by
 have h2:n<=(LIM:Int):=by simp only[LIM];omega
 have h3:(PV.s []).cells.length=1:=rfl;simp only[O8,h0,h2,h3,and_self,if_true];simp[Ch]
def Ek6 (l:List (List UInt8)):Dj 0 (Ch l)=some (Ch l):=rfl
def Eq7 (l:List Rec):Dj 0 (B4 l)=some (B4 l):=rfl
def Dn8 (l:List (List UInt8)):J8 (Ch l)=some (Ch l):=rfl
def Jn1 (neg:Bool) (x y:Dat):Pq neg true [.b,(.i .u64),(.i .u64),.s,.s,.s,(.i .i64),(.i .i64),(.i .i64),(.i .i64),(.i .i64),(.i .i64),(.i .u64)] x.pv y.pv=some (.b (if neg then decide (x≠y) else decide (x=y))):=by
 have:I3 [.b,(.i .u64),(.i .u64),.s,.s,.s,(.i .i64),(.i .i64),(.i .i64),(.i .i64),(.i .i64),(.i .i64),(.i .u64)] x.cells y.cells=some (decide (x=y)):=by simp only[Dat.cells,I3,Fh8,if_true,Bn];rw[D7];cases x;cases y;simp
 simp only[Pq,Dat.pv,this,Cf];cases neg<;>simp
def Jn0 (neg:Bool) (x y:Rec):Pq neg true [.s,(.i .i64),(.i .i64),.b,(.i .u64),(.i .u64),.s,.s,.s,(.i .i64),(.i .i64),(.i .i64),(.i .i64),(.i .i64),(.i .i64),(.i .u64)] x.pv y.pv=some (.b (if neg then decide (x≠y) else decide (x=y))):=by
 have:I3 [.s,(.i .i64),(.i .i64),.b,(.i .u64),(.i .u64),.s,.s,.s,(.i .i64),(.i .i64),(.i .i64),(.i .i64),(.i .i64),(.i .i64),(.i .u64)] x.cells y.cells=some (decide (x=y)):=by simp only[Rec.cells,Dat.cells,I3,Fh8,if_true,Bn];rw[D7];rcases x with⟨_,_,_,⟨⟩⟩;rcases y with⟨_,_,_,⟨⟩⟩;simp[and_assoc]
 simp only[Pq,Rec.pv,this,Cf];cases neg<;>simp
set_option linter.defProp false in
def EVP:=(And.intro @Fr8 (And.intro @Bd4 (And.intro @Hm9 (And.intro @Hl8 (And.intro @Ij5 (And.intro @xg (And.intro @xh (And.intro @Ev8 (And.intro @Ev7 (And.intro @Ev6 (And.intro @Ev5 (And.intro @Ev4 (And.intro @Ev3 (And.intro @Ev2 (And.intro @Ev1 (And.intro @Eq9 (And.intro @Eq8 (And.intro @Cb9 (And.intro @Cb8 (And.intro @Cb7 (And.intro @Cb6 (And.intro @Cb5 (And.intro @Cb4 (And.intro @Hm0 (And.intro @xl (And.intro @Ij7 (And.intro @Ex8 (And.intro @Ex7 (And.intro @Ex6 (And.intro @Ex5 (And.intro @Ex4 (And.intro @Ex3 (And.intro @Ex2 (And.intro @Ex1 (And.intro @Ex0 (And.intro @Ew9 (And.intro @Cc9 (And.intro @Cc8 (And.intro @Cc7 (And.intro @Gd6 (And.intro @Fn7 (And.intro @Cd2 (And.intro @Cd1 (And.intro @Cd0 (And.intro @Gd5 (And.intro @Fn5 (And.intro @Cb3 (And.intro @Cb2 (And.intro @qp (And.intro @Gc9 (And.intro @Hf (And.intro @Ik9 (And.intro @Gd3 (And.intro @Gd2 (And.intro @Et6 (And.intro @Ht1 (And.intro @Gz3 (And.intro @Kc (And.intro @Fd3 (And.intro @Gr (And.intro @Ft0 (And.intro @J1 (And.intro @Dp1 (And.intro @Gz1 (And.intro @Rc (And.intro @Hs8 (And.intro @Fp0 (And.intro @Fd0 (And.intro @Zn (And.intro @Ms (And.intro @Ek6 (And.intro @Eq7 (And.intro @Dn8 (And.intro @Jn1 @Jn0))))))))))))))))))))))))))))))))))))))))))))))))))))))))))))))))))))))))))
end Go.X
