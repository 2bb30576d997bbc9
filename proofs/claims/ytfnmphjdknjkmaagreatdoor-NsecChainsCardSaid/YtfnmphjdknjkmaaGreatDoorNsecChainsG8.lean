/- The program's data. -/
import Derived.Test.YtfnmphjdknjkmaaGreatDoorNsecChainsG6
open Bool renaming eq_iff_iff→D9
open Option renaming bind_some→B0,map_some→Cf
open Option.some renaming injEq→Bn
set_option maxHeartbeats 1000000
set_option linter.defProp false
set_option linter.unusedVariables false
set_option linter.unusedSimpArgs false
namespace Go.X
open Go
structure Dat where
 v6:Bool
 hi:Int
 lo:Int
 host:List UInt8
 mail:List UInt8
 text:List UInt8
 a:Int
 b:Int
 c:Int
 d:Int
 e:Int
 f:Int
 bits:Int
 deriving DecidableEq
structure Rec where
 name:List UInt8
 typ:Int
 ttl:Int
 data:Dat
 deriving DecidableEq
structure Zone where
 origin:List UInt8
 recs:List Rec
 deriving DecidableEq
def Wc (x:Int):Prop:= -9223372036854775808≤x∧x≤9223372036854775807
def El3 (x:Int):Prop:=0≤x∧x≤18446744073709551615
def Lh (x:List UInt8):Prop:=x.length≤9223372036854775807
structure Dat.wf (x:Dat):Prop where
 hi:El3 x.hi
 lo:El3 x.lo
 host:Lh x.host
 mail:Lh x.mail
 text:Lh x.text
 a:Wc x.a
 b:Wc x.b
 c:Wc x.c
 d:Wc x.d
 e:Wc x.e
 f:Wc x.f
 bits:El3 x.bits
structure Rec.wf (r:Rec):Prop where
 name:Lh r.name
 typ:Wc r.typ
 ttl:Wc r.ttl
 data:r.data.wf
def Dq7 (l:List Rec):Prop:=l.length≤9223372036854775807∧∀r∈l,r.wf
structure Zone.wf (z:Zone):Prop where
 origin:Lh z.origin
 recs:Dq7 z.recs
def Dat.cells (x:Dat):List PV:=[.b x.v6,.i .u64 x.hi,.i .u64 x.lo,.s x.host,.s x.mail,.s x.text,.i .i64 x.a,.i .i64 x.b,.i .i64 x.c,.i .i64 x.d,.i .i64 x.e,.i .i64 x.f,.i .u64 x.bits]
def Dat.pv (x:Dat):PV:= .a x.cells
def Rec.cells (x:Rec):List PV:= .s x.name:: .i .i64 x.typ:: .i .i64 x.ttl::x.data.cells
def Rec.pv (x:Rec):PV:= .a x.cells
def B6 (l:List Rec):PV:= .l 16 (l.map Rec.pv)
def Zone.pv (x:Zone):PV:= .a [.s x.origin,B6 x.recs]
def Cn (l:List (List UInt8)):PV:= .l 1 (l.map .s)
def Lg (x:Dat):PV:= .a [.b x.v6,.i .u64 x.hi,.i .u64 x.lo]
def Gc4 (r:Rec):My 0 16 r.pv=some r.pv:=rfl
def Gn1 (r:Rec):Wd 16 r.pv=some r.pv:=rfl
def rj (r:Rec):My 3 13 r.pv=some r.data.pv:=rfl
def rk (r:Rec):My 3 3 r.pv=some (Lg r.data):=rfl
def Dz8 (r:Rec):Dk 0 r.pv=some (.s r.name):=rfl
def Dz7 (r:Rec):Dk 1 r.pv=some (.i .i64 r.typ):=rfl
def Dz6 (r:Rec):Dk 2 r.pv=some (.i .i64 r.ttl):=rfl
def Dz5 (r:Rec):Dk 3 r.pv=some (.b r.data.v6):=rfl
def Dz4 (r:Rec):Dk 4 r.pv=some (.i .u64 r.data.hi):=rfl
def Dz3 (r:Rec):Dk 5 r.pv=some (.i .u64 r.data.lo):=rfl
def Dz2 (r:Rec):Dk 6 r.pv=some (.s r.data.host):=rfl
def Dz1 (r:Rec):Dk 7 r.pv=some (.s r.data.mail):=rfl
def Dz0 (r:Rec):Dk 8 r.pv=some (.s r.data.text):=rfl
def Dy9 (r:Rec):Dk 9 r.pv=some (.i .i64 r.data.a):=rfl
def Cw4 (r:Rec):Dk 10 r.pv=some (.i .i64 r.data.b):=rfl
def Cw3 (r:Rec):Dk 11 r.pv=some (.i .i64 r.data.c):=rfl
def Cw2 (r:Rec):Dk 12 r.pv=some (.i .i64 r.data.d):=rfl
def Cw1 (r:Rec):Dk 13 r.pv=some (.i .i64 r.data.e):=rfl
def Cw0 (r:Rec):Dk 14 r.pv=some (.i .i64 r.data.f):=rfl
def Cv9 (r:Rec):Dk 15 r.pv=some (.i .u64 r.data.bits):=rfl
def Gc6 (r:Dat):My 0 13 r.pv=some r.pv:=rfl
def rq (r:Dat):My 0 3 r.pv=some (Lg r):=rfl
def Gn3 (r:Dat):Wd 13 r.pv=some r.pv:=rfl
def Dc8 (r:Dat):Dk 0 r.pv=some (.b r.v6):=rfl
def Dc7 (r:Dat):Dk 1 r.pv=some (.i .u64 r.hi):=rfl
def Dc6 (r:Dat):Dk 2 r.pv=some (.i .u64 r.lo):=rfl
def Dc5 (r:Dat):Dk 3 r.pv=some (.s r.host):=rfl
def Dc4 (r:Dat):Dk 4 r.pv=some (.s r.mail):=rfl
def Dc3 (r:Dat):Dk 5 r.pv=some (.s r.text):=rfl
def Dc2 (r:Dat):Dk 6 r.pv=some (.i .i64 r.a):=rfl
def Dc1 (r:Dat):Dk 7 r.pv=some (.i .i64 r.b):=rfl
def Dc0 (r:Dat):Dk 8 r.pv=some (.i .i64 r.c):=rfl
def Db9 (r:Dat):Dk 9 r.pv=some (.i .i64 r.d):=rfl
def Cx4 (r:Dat):Dk 10 r.pv=some (.i .i64 r.e):=rfl
def Cx3 (r:Dat):Dk 11 r.pv=some (.i .i64 r.f):=rfl
def Cx2 (r:Dat):Dk 12 r.pv=some (.i .u64 r.bits):=rfl
def Fh0 (r:Dat):Wd 3 (Lg r)=some (Lg r):=rfl
def Fv7 (r:Dat):My 0 3 (Lg r)=some (Lg r):=rfl
def Cx7 (r:Dat):Dk 0 (Lg r)=some (.b r.v6):=rfl
def Cx6 (r:Dat):Dk 1 (Lg r)=some (.i .u64 r.hi):=rfl
def Cx5 (r:Dat):Dk 2 (Lg r)=some (.i .u64 r.lo):=rfl
def Fg9 (r:Zone):Wd 2 r.pv=some r.pv:=rfl
def Fv5 (r:Zone):My 0 2 r.pv=some r.pv:=rfl
def Cv8 (r:Zone):Dk 0 r.pv=some (.s r.origin):=rfl
def Cv7 (r:Zone):Dk 1 r.pv=some (B6 r.recs):=rfl
def mb (v:Bool) (h l:Int) (s1 s2 s3:List UInt8) (a b c d e f g:Int):PV.a [.b v,.i .u64 h,.i .u64 l,.s s1,.s s2,.s s3,.i .i64 a,.i .i64 b,.i .i64 c,.i .i64 d,.i .i64 e,.i .i64 f,.i .u64 g]=Dat.pv ⟨v,h,l,s1,s2,s3,a,b,c,d,e,f,g⟩:=rfl
def Fg3 (n:List UInt8) (t u:Int) (v:Bool) (h l:Int) (s1 s2 s3:List UInt8) (a b c d e f g:Int):PV.a [.s n,.i .i64 t,.i .i64 u,.b v,.i .u64 h,.i .u64 l,.s s1,.s s2,.s s3,.i .i64 a,.i .i64 b,.i .i64 c,.i .i64 d,.i .i64 e,.i .i64 f,.i .u64 g]=Rec.pv ⟨n,t,u,⟨v,h,l,s1,s2,s3,a,b,c,d,e,f,g⟩⟩:=rfl
def Hj (x:Dat):(⟨x.v6,x.hi,x.lo,x.host,x.mail,x.text,x.a,x.b,x.c,x.d,x.e,x.f,x.bits⟩:Dat)=x:=rfl
def Gp6 (x:Rec):(⟨x.name,x.typ,x.ttl,x.data⟩:Rec)=x:=rfl
def Fg7 (x:Dat):PV.flat x.pv=true:=rfl
def Fg6 (x:Rec):PV.flat x.pv=true:=rfl
def Ev2 (x:Dat):PV.flat (Lg x)=true:=rfl
def Gl9 (x:Rec):Lr 16 [x.pv]=some (B6 [x]):=rfl
def Fd2 (l:List Rec):H6 (B6 l)=some (.i .i64 (l.length:Int)):=by simp[B6,H6]
def L8 (l:List Rec) (k:IntKind) (z:Int) (h:0≤z):Jf 16 (B6 l) (.i k z)=(l[z.toNat]?).map Rec.pv:=by simp[B6,mw _ _ _ _ h]
def Ef3 (l:List Rec) (x:Rec) (h:l.length+1≤1073741824):J1 16 (B6 l) (B6 [x])=some (B6 (l++[x])):=by have:=aj 16 (l.map Rec.pv) [x.pv] (by simpa using h);simpa [B6] using this
def Xd (l m:List Rec) (h:l.length+m.length≤1073741824):J1 16 (B6 l) (B6 m)=some (B6 (l++m)):=by have:=aj 16 (l.map Rec.pv) (m.map Rec.pv) (by simpa using h);simpa [B6] using this
def Fx8:PV.l 16 []=B6 []:=rfl
def Jb (l:List Rec) (k k':IntKind) (a b:Int) (h1:0≤a) (h2:a≤b) (h3:b≤(l.length:Int)):I7 16 (B6 l) (.i k a) (.i k' b)=some (B6 ((l.take b.toNat).drop a.toNat)):=by have:=Dm8 16 (l.map Rec.pv) k k' a b h1 h2 (by simpa using h3);simpa [B6] using this
def Gd7 (l:List Rec) (k:IntKind) (z:Int) (n:List UInt8) (t u:Int) (v:Bool) (h w:Int) (s1 s2 s3:List UInt8) (a b c d e f g:Int) (h0:0≤z) (h1:z<(l.length:Int)):
  Q7 16 0 [.s n,.i .i64 t,.i .i64 u,.b v,.i .u64 h,.i .u64 w,.s s1,.s s2,.s s3,.i .i64 a,.i .i64 b,.i .i64 c,.i .i64 d,.i .i64 e,.i .i64 f,.i .u64 g] (B6 l) (.i k z)=some (B6 (l.set z.toNat ⟨n,t,u,⟨v,h,w,s1,s2,s3,a,b,c,d,e,f,g⟩⟩)):=by
 have h2:z.toNat<l.length:=by omega
 have h3:(l.map Rec.pv)[z.toNat]? =some (l[z.toNat].pv):=by simp[h2]
 simp only[Q7,B6,h0,h3,and_self,if_true,B0];have h4:Q9 (l[z.toNat].pv) 0 [.s n,.i .i64 t,.i .i64 u,.b v,.i .u64 h,.i .u64 w,.s s1,.s s2,.s s3,.i .i64 a,.i .i64 b,.i .i64 c,.i .i64 d,.i .i64 e,.i .i64 f,.i .u64 g]=some (Rec.pv ⟨n,t,u,⟨v,h,w,s1,s2,s3,a,b,c,d,e,f,g⟩⟩):=rfl;rw[h4];simp[List.map_set]
def Dk3 (l:List Rec):Lw (B6 l)=some (B6 l):=rfl
def Fd1 (l:List (List UInt8)):H6 (Cn l)=some (.i .i64 (l.length:Int)):=by simp[Cn,H6]
def P6 (l:List (List UInt8)) (k:IntKind) (z:Int) (h:0≤z):Jf 1 (Cn l) (.i k z)=(l[z.toNat]?).map PV.s:=by simp[Cn,mw _ _ _ _ h]
def Gl8 (x:List UInt8):Lr 1 [.s x]=some (Cn [x]):=rfl
def Fw0:PV.l 1 []=Cn []:=rfl
def Ef2 (l:List (List UInt8)) (x:List UInt8) (h:l.length+1≤1073741824):J1 1 (Cn l) (Cn [x])=some (Cn (l++[x])):=by have:=aj 1 (l.map PV.s) [.s x] (by simpa using h);simpa [Cn] using this
def Xc (l m:List (List UInt8)) (h:l.length+m.length≤1073741824):J1 1 (Cn l) (Cn m)=some (Cn (l++m)):=by have:=aj 1 (l.map PV.s) (m.map PV.s) (by simpa using h);simpa [Cn] using this
def L5 (l:List (List UInt8)) (k k':IntKind) (a b:Int) (h1:0≤a) (h2:a≤b) (h3:b≤(l.length:Int)):I7 1 (Cn l) (.i k a) (.i k' b)=some (Cn ((l.take b.toNat).drop a.toNat)):=by have:=Dm8 1 (l.map PV.s) k k' a b h1 h2 (by simpa using h3);simpa [Cn] using this
def Fw8 (l:List (List UInt8)) (k:IntKind) (z:Int) (x:List UInt8) (h0:0≤z) (h1:z<(l.length:Int)):Q7 1 0 [.s x] (Cn l) (.i k z)=some (Cn (l.set z.toNat x)):=by
 have h2:z.toNat<l.length:=by omega
 have h3:(l.map PV.s)[z.toNat]? =some (.s l[z.toNat]):=by simp[h2]
 simp only[Q7,Cn,h0,h3,and_self,if_true,B0];have h4:Q9 (.s l[z.toNat]) 0 [.s x]=some (.s x):=rfl;rw[h4];simp[List.map_set]
def Bf1 (n:Int) (h0:0≤n) (h1:n≤1073741824):N2 1 (.i .i64 n) (.s [])=some (Cn (List.replicate n.toNat [])):=by
 have h2:n≤(LIM:Int):=by simp only[LIM];omega
 have h3:(PV.s []).cells.length=1:=rfl;simp only[N2,h0,h2,h3,and_self,if_true];simp[Cn]
def Dy2 (l:List (List UInt8)):Dk 0 (Cn l)=some (Cn l):=rfl
def Dy8 (l:List Rec):Dk 0 (B6 l)=some (B6 l):=rfl
def Dk2 (l:List (List UInt8)):Lw (Cn l)=some (Cn l):=rfl
def Ir0 (neg:Bool) (x y:Dat):N4 neg true [.b,(.i .u64),(.i .u64),.s,.s,.s,(.i .i64),(.i .i64),(.i .i64),(.i .i64),(.i .i64),(.i .i64),(.i .u64)] x.pv y.pv=some (.b (if neg then decide (x≠y) else decide (x=y))):=by
 have:Ih [.b,(.i .u64),(.i .u64),.s,.s,.s,(.i .i64),(.i .i64),(.i .i64),(.i .i64),(.i .i64),(.i .i64),(.i .u64)] x.cells y.cells=some (decide (x=y)):=by simp only[Dat.cells,Ih,El8,if_true,Bn];rw[D9];cases x;cases y;simp
 simp only[N4,Dat.pv,this,Cf];cases neg<;>simp
def Ip9 (neg:Bool) (x y:Rec):N4 neg true [.s,(.i .i64),(.i .i64),.b,(.i .u64),(.i .u64),.s,.s,.s,(.i .i64),(.i .i64),(.i .i64),(.i .i64),(.i .i64),(.i .i64),(.i .u64)] x.pv y.pv=some (.b (if neg then decide (x≠y) else decide (x=y))):=by
 have:Ih [.s,(.i .i64),(.i .i64),.b,(.i .u64),(.i .u64),.s,.s,.s,(.i .i64),(.i .i64),(.i .i64),(.i .i64),(.i .i64),(.i .i64),(.i .u64)] x.cells y.cells=some (decide (x=y)):=by simp only[Rec.cells,Dat.cells,Ih,El8,if_true,Bn];rw[D9];rcases x with⟨_,_,_,⟨⟩⟩;rcases y with⟨_,_,_,⟨⟩⟩;simp[and_assoc]
 simp only[N4,Rec.pv,this,Cf];cases neg<;>simp
set_option linter.defProp false in
def EVP:=(And.intro @Fw8 (And.intro @Bf1 (And.intro @Gd7 (And.intro @Gc4 (And.intro @Gn1 (And.intro @rj (And.intro @rk (And.intro @Dz8 (And.intro @Dz7 (And.intro @Dz6 (And.intro @Dz5 (And.intro @Dz4 (And.intro @Dz3 (And.intro @Dz2 (And.intro @Dz1 (And.intro @Dz0 (And.intro @Dy9 (And.intro @Cw4 (And.intro @Cw3 (And.intro @Cw2 (And.intro @Cw1 (And.intro @Cw0 (And.intro @Cv9 (And.intro @Gc6 (And.intro @rq (And.intro @Gn3 (And.intro @Dc8 (And.intro @Dc7 (And.intro @Dc6 (And.intro @Dc5 (And.intro @Dc4 (And.intro @Dc3 (And.intro @Dc2 (And.intro @Dc1 (And.intro @Dc0 (And.intro @Db9 (And.intro @Cx4 (And.intro @Cx3 (And.intro @Cx2 (And.intro @Fh0 (And.intro @Fv7 (And.intro @Cx7 (And.intro @Cx6 (And.intro @Cx5 (And.intro @Fg9 (And.intro @Fv5 (And.intro @Cv8 (And.intro @Cv7 (And.intro @mb (And.intro @Fg3 (And.intro @Hj (And.intro @Gp6 (And.intro @Fg7 (And.intro @Fg6 (And.intro @Ev2 (And.intro @Gl9 (And.intro @Fd2 (And.intro @L8 (And.intro @Ef3 (And.intro @Xd (And.intro @Fx8 (And.intro @Jb (And.intro @Dk3 (And.intro @Fd1 (And.intro @P6 (And.intro @Gl8 (And.intro @Fw0 (And.intro @Ef2 (And.intro @Xc (And.intro @L5 (And.intro @Dy2 (And.intro @Dy8 (And.intro @Dk2 (And.intro @Ir0 @Ip9))))))))))))))))))))))))))))))))))))))))))))))))))))))))))))))))))))))))))
end Go.X
