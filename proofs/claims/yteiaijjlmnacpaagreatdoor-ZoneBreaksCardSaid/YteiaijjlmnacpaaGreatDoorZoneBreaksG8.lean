/- The program's data. -/
import Derived.Test.YteiaijjlmnacpaaGreatDoorZoneBreaksG6
open Bool renaming eq_iff_iff→Ct
open Option renaming bind_some→Ay,map_some→A4
open Option.some renaming injEq→Ak
set_option maxHeartbeats 1000000
set_option linter.unusedVariables false
set_option linter.unusedSimpArgs false
namespace Go.X
open Go
structure Dat where
 v6:Bool
 hi:Int
 lo:Int
 host:List UInt8
 mail:List UInt8
 text:List UInt8
 a:Int
 b:Int
 c:Int
 d:Int
 e:Int
 f:Int
 bits:Int
 deriving DecidableEq
structure Rec where
 name:List UInt8
 typ:Int
 ttl:Int
 data:Dat
 deriving DecidableEq
structure Zone where
 origin:List UInt8
 recs:List Rec
 deriving DecidableEq
def Tb (x:Int):Prop:= -9223372036854775808≤x∧x≤9223372036854775807
def Ag5 (x:Int):Prop:=0≤x∧x≤18446744073709551615
def Mm (x:List UInt8):Prop:=x.length≤9223372036854775807
structure Dat.wf (x:Dat):Prop where
 hi:Ag5 x.hi
 lo:Ag5 x.lo
 host:Mm x.host
 mail:Mm x.mail
 text:Mm x.text
 a:Tb x.a
 b:Tb x.b
 c:Tb x.c
 d:Tb x.d
 e:Tb x.e
 f:Tb x.f
 bits:Ag5 x.bits
structure Rec.wf (r:Rec):Prop where
 name:Mm r.name
 typ:Tb r.typ
 ttl:Tb r.ttl
 data:r.data.wf
def An0 (l:List Rec):Prop:=l.length≤9223372036854775807∧∀r∈l,r.wf
structure Zone.wf (z:Zone):Prop where
 origin:Mm z.origin
 recs:An0 z.recs
def Dat.cells (x:Dat):List PV:=[.b x.v6, .i .u64 x.hi, .i .u64 x.lo, .s x.host, .s x.mail, .s x.text, .i .i64 x.a, .i .i64 x.b, .i .i64 x.c, .i .i64 x.d, .i .i64 x.e, .i .i64 x.f, .i .u64 x.bits]
def Dat.pv (x:Dat):PV:= .a x.cells
def Rec.cells (x:Rec):List PV:= .s x.name:: .i .i64 x.typ:: .i .i64 x.ttl::x.data.cells
def Rec.pv (x:Rec):PV:= .a x.cells
def Al (l:List Rec):PV:= .l 16 (l.map Rec.pv)
def Zone.pv (x:Zone):PV:= .a [.s x.origin,Al x.recs]
def Bm (l:List (List UInt8)):PV:= .l 1 (l.map .s)
def Js (x:Dat):PV:= .a [.b x.v6, .i .u64 x.hi, .i .u64 x.lo]
theorem Fh8 (r:Rec):Jl 0 16 r.pv=some r.pv:=rfl
theorem Fs9 (r:Rec):Ss 16 r.pv=some r.pv:=rfl
theorem Zj (r:Rec):Jl 3 13 r.pv=some r.data.pv:=rfl
theorem Zk (r:Rec):Jl 3 3 r.pv=some (Js r.data):=rfl
theorem At5 (r:Rec):Bt 0 r.pv=some (.s r.name):=rfl
theorem At4 (r:Rec):Bt 1 r.pv=some (.i .i64 r.typ):=rfl
theorem At3 (r:Rec):Bt 2 r.pv=some (.i .i64 r.ttl):=rfl
theorem At2 (r:Rec):Bt 3 r.pv=some (.b r.data.v6):=rfl
theorem At1 (r:Rec):Bt 4 r.pv=some (.i .u64 r.data.hi):=rfl
theorem At0 (r:Rec):Bt 5 r.pv=some (.i .u64 r.data.lo):=rfl
theorem As9 (r:Rec):Bt 6 r.pv=some (.s r.data.host):=rfl
theorem As8 (r:Rec):Bt 7 r.pv=some (.s r.data.mail):=rfl
theorem As7 (r:Rec):Bt 8 r.pv=some (.s r.data.text):=rfl
theorem As6 (r:Rec):Bt 9 r.pv=some (.i .i64 r.data.a):=rfl
theorem Ak2 (r:Rec):Bt 10 r.pv=some (.i .i64 r.data.b):=rfl
theorem Ak1 (r:Rec):Bt 11 r.pv=some (.i .i64 r.data.c):=rfl
theorem Ak0 (r:Rec):Bt 12 r.pv=some (.i .i64 r.data.d):=rfl
theorem Aj9 (r:Rec):Bt 13 r.pv=some (.i .i64 r.data.e):=rfl
theorem Aj8 (r:Rec):Bt 14 r.pv=some (.i .i64 r.data.f):=rfl
theorem Aj7 (r:Rec):Bt 15 r.pv=some (.i .u64 r.data.bits):=rfl
theorem Fl0 (r:Dat):Jl 0 13 r.pv=some r.pv:=rfl
theorem Zq (r:Dat):Jl 0 3 r.pv=some (Js r):=rfl
theorem Ft1 (r:Dat):Ss 13 r.pv=some r.pv:=rfl
theorem Bk6 (r:Dat):Bt 0 r.pv=some (.b r.v6):=rfl
theorem Bk5 (r:Dat):Bt 1 r.pv=some (.i .u64 r.hi):=rfl
theorem Bk4 (r:Dat):Bt 2 r.pv=some (.i .u64 r.lo):=rfl
theorem Bk3 (r:Dat):Bt 3 r.pv=some (.s r.host):=rfl
theorem Bk1 (r:Dat):Bt 4 r.pv=some (.s r.mail):=rfl
theorem Bk0 (r:Dat):Bt 5 r.pv=some (.s r.text):=rfl
theorem Bj9 (r:Dat):Bt 6 r.pv=some (.i .i64 r.a):=rfl
theorem Bj8 (r:Dat):Bt 7 r.pv=some (.i .i64 r.b):=rfl
theorem Bj7 (r:Dat):Bt 8 r.pv=some (.i .i64 r.c):=rfl
theorem Bj6 (r:Dat):Bt 9 r.pv=some (.i .i64 r.d):=rfl
theorem Aq2 (r:Dat):Bt 10 r.pv=some (.i .i64 r.e):=rfl
theorem Aq1 (r:Dat):Bt 11 r.pv=some (.i .i64 r.f):=rfl
theorem Aq0 (r:Dat):Bt 12 r.pv=some (.i .u64 r.bits):=rfl
theorem Dt7 (r:Dat):Ss 3 (Js r)=some (Js r):=rfl
theorem Df9 (r:Dat):Jl 0 3 (Js r)=some (Js r):=rfl
theorem Aq5 (r:Dat):Bt 0 (Js r)=some (.b r.v6):=rfl
theorem Aq4 (r:Dat):Bt 1 (Js r)=some (.i .u64 r.hi):=rfl
theorem Aq3 (r:Dat):Bt 2 (Js r)=some (.i .u64 r.lo):=rfl
theorem Dt6 (r:Zone):Ss 2 r.pv=some r.pv:=rfl
theorem Df7 (r:Zone):Jl 0 2 r.pv=some r.pv:=rfl
theorem Aj6 (r:Zone):Bt 0 r.pv=some (.s r.origin):=rfl
theorem Aj5 (r:Zone):Bt 1 r.pv=some (Al r.recs):=rfl
theorem Xd (v:Bool) (h l:Int) (s1 s2 s3:List UInt8) (a b c d e f g:Int):PV.a [.b v, .i .u64 h, .i .u64 l, .s s1, .s s2, .s s3, .i .i64 a, .i .i64 b, .i .i64 c, .i .i64 d, .i .i64 e, .i .i64 f, .i .u64 g]=Dat.pv ⟨v,h,l,s1,s2,s3,a,b,c,d,e,f,g⟩:=rfl
theorem Dt0 (n:List UInt8) (t u:Int) (v:Bool) (h l:Int) (s1 s2 s3:List UInt8) (a b c d e f g:Int):PV.a [.s n, .i .i64 t, .i .i64 u, .b v, .i .u64 h, .i .u64 l, .s s1, .s s2, .s s3, .i .i64 a, .i .i64 b, .i .i64 c, .i .i64 d, .i .i64 e, .i .i64 f, .i .u64 g]=Rec.pv ⟨n,t,u,⟨v,h,l,s1,s2,s3,a,b,c,d,e,f,g⟩⟩:=rfl
theorem Fb (x:Dat):(⟨x.v6,x.hi,x.lo,x.host,x.mail,x.text,x.a,x.b,x.c,x.d,x.e,x.f,x.bits⟩:Dat)=x:=rfl
theorem Gk2 (x:Rec):(⟨x.name,x.typ,x.ttl,x.data⟩:Rec)=x:=rfl
theorem Dt4 (x:Dat):PV.flat x.pv=true:=rfl
theorem Dt3 (x:Rec):PV.flat x.pv=true:=rfl
theorem Bg6 (x:Dat):PV.flat (Js x)=true:=rfl
theorem Fr3 (x:Rec):Jc 16 [x.pv]=some (Al [x]):=rfl
theorem Dr2 (l:List Rec):Gy (Al l)=some (.i .i64 (l.length:Int)):=by simp [Al,Gy]
theorem N4 (l:List Rec) (k:IntKind) (z:Int) (h:0≤z):H6 16 (Al l) (.i k z)=(l[z.toNat]?).map Rec.pv:=by simp [Al,ct _ _ _ _ h]
theorem d4 (l:List Rec) (x:Rec) (h:l.length+1≤1073741824):H8 16 (Al l) (Al [x])=some (Al (l++[x])):=by have:=T6 16 (l.map Rec.pv) [x.pv] (by simpa using h);simpa [Al] using this
theorem Q2 (l m:List Rec) (h:l.length+m.length≤1073741824):H8 16 (Al l) (Al m)=some (Al (l++m)):=by have:=T6 16 (l.map Rec.pv) (m.map Rec.pv) (by simpa using h);simpa [Al] using this
theorem Dh9:PV.l 16 []=Al []:=rfl
theorem L2 (l:List Rec) (k k':IntKind) (a b:Int) (h1:0≤a) (h2:a≤b) (h3:b≤(l.length:Int)):Iv 16 (Al l) (.i k a) (.i k' b)=some (Al ((l.take b.toNat).drop a.toNat)):=by have:=Bz1 16 (l.map Rec.pv) k k' a b h1 h2 (by simpa using h3);simpa [Al] using this
theorem Fl8 (l:List Rec) (k:IntKind) (z:Int) (n:List UInt8) (t u:Int) (v:Bool) (h w:Int) (s1 s2 s3:List UInt8) (a b c d e f g:Int) (h0:0≤z) (h1:z<(l.length:Int)):
  Wd 16 0 [.s n, .i .i64 t, .i .i64 u, .b v, .i .u64 h, .i .u64 w, .s s1, .s s2, .s s3, .i .i64 a, .i .i64 b, .i .i64 c, .i .i64 d, .i .i64 e, .i .i64 f, .i .u64 g] (Al l) (.i k z)=some (Al (l.set z.toNat ⟨n,t,u,⟨v,h,w,s1,s2,s3,a,b,c,d,e,f,g⟩⟩)):=by
 have h2:z.toNat<l.length:=by omega
 have h3:(l.map Rec.pv)[z.toNat]? =some (l[z.toNat].pv):=by simp [h2]
 simp only [Wd,Al,h0,h3,and_self,if_true,Ay];have h4:Rc (l[z.toNat].pv) 0 [.s n, .i .i64 t, .i .i64 u, .b v, .i .u64 h, .i .u64 w, .s s1, .s s2, .s s3, .i .i64 a, .i .i64 b, .i .i64 c, .i .i64 d, .i .i64 e, .i .i64 f, .i .u64 g]=some (Rec.pv ⟨n,t,u,⟨v,h,w,s1,s2,s3,a,b,c,d,e,f,g⟩⟩):=rfl;rw [h4];simp [List.map_set]
theorem Am0 (l:List Rec):Ip (Al l)=some (Al l):=rfl
theorem Dr1 (l:List (List UInt8)):Gy (Bm l)=some (.i .i64 (l.length:Int)):=by simp [Bm,Gy]
theorem L5 (l:List (List UInt8)) (k:IntKind) (z:Int) (h:0≤z):H6 1 (Bm l) (.i k z)=(l[z.toNat]?).map PV.s:=by simp [Bm,ct _ _ _ _ h]
theorem Fr2 (x:List UInt8):Jc 1 [.s x]=some (Bm [x]):=rfl
theorem Dg2:PV.l 1 []=Bm []:=rfl
theorem Dk5 (l:List (List UInt8)) (x:List UInt8) (h:l.length+1≤1073741824):H8 1 (Bm l) (Bm [x])=some (Bm (l++[x])):=by have:=T6 1 (l.map PV.s) [.s x] (by simpa using h);simpa [Bm] using this
theorem xp (l m:List (List UInt8)) (h:l.length+m.length≤1073741824):H8 1 (Bm l) (Bm m)=some (Bm (l++m)):=by have:=T6 1 (l.map PV.s) (m.map PV.s) (by simpa using h);simpa [Bm] using this
theorem L1 (l:List (List UInt8)) (k k':IntKind) (a b:Int) (h1:0≤a) (h2:a≤b) (h3:b≤(l.length:Int)):Iv 1 (Bm l) (.i k a) (.i k' b)=some (Bm ((l.take b.toNat).drop a.toNat)):=by have:=Bz1 1 (l.map PV.s) k k' a b h1 h2 (by simpa using h3);simpa [Bm] using this
theorem Dh1 (l:List (List UInt8)) (k:IntKind) (z:Int) (x:List UInt8) (h0:0≤z) (h1:z<(l.length:Int)):Wd 1 0 [.s x] (Bm l) (.i k z)=some (Bm (l.set z.toNat x)):=by
 have h2:z.toNat<l.length:=by omega
 have h3:(l.map PV.s)[z.toNat]? =some (.s l[z.toNat]):=by simp [h2]
 simp only [Wd,Bm,h0,h3,and_self,if_true,Ay];have h4:Rc (.s l[z.toNat]) 0 [.s x]=some (.s x):=rfl;rw [h4];simp [List.map_set]
theorem qp (n:Int) (h0:0≤n) (h1:n≤1073741824):K2 1 (.i .i64 n) (.s [])=some (Bm (List.replicate n.toNat [])):=by
 have h2:n≤(LIM:Int):=by simp only [LIM];omega
 have h3:(PV.s []).cells.length=1:=rfl;simp only [K2,h0,h2,h3,and_self,if_true];simp [Bm]
theorem As4 (l:List (List UInt8)):Bt 0 (Bm l)=some (Bm l):=rfl
theorem As5 (l:List Rec):Bt 0 (Al l)=some (Al l):=rfl
theorem Al9 (l:List (List UInt8)):Ip (Bm l)=some (Bm l):=rfl
theorem Hm1 (neg:Bool) (x y:Dat):Kl neg true [.b,(.i .u64),(.i .u64), .s, .s, .s,(.i .i64),(.i .i64),(.i .i64),(.i .i64),(.i .i64),(.i .i64),(.i .u64)] x.pv y.pv=some (.b (if neg then decide (x≠y) else decide (x=y))):=by
 have:Gz [.b,(.i .u64),(.i .u64), .s, .s, .s,(.i .i64),(.i .i64),(.i .i64),(.i .i64),(.i .i64),(.i .i64),(.i .u64)] x.cells y.cells=some (decide (x=y)):=by simp only [Dat.cells,Gz,Dv6,if_true,Ak];rw [Ct];cases x;cases y;simp
 simp only [Kl,Dat.pv,this,A4];cases neg<;>simp
theorem Hm0 (neg:Bool) (x y:Rec):Kl neg true [.s,(.i .i64),(.i .i64), .b,(.i .u64),(.i .u64), .s, .s, .s,(.i .i64),(.i .i64),(.i .i64),(.i .i64),(.i .i64),(.i .i64),(.i .u64)] x.pv y.pv=some (.b (if neg then decide (x≠y) else decide (x=y))):=by
 have:Gz [.s,(.i .i64),(.i .i64), .b,(.i .u64),(.i .u64), .s, .s, .s,(.i .i64),(.i .i64),(.i .i64),(.i .i64),(.i .i64),(.i .i64),(.i .u64)] x.cells y.cells=some (decide (x=y)):=by simp only [Rec.cells,Dat.cells,Gz,Dv6,if_true,Ak];rw [Ct];rcases x with ⟨_,_,_,⟨⟩⟩;rcases y with ⟨_,_,_,⟨⟩⟩;simp [and_assoc]
 simp only [Kl,Rec.pv,this,A4];cases neg<;>simp
set_option linter.defProp false in
def EVP:=(And.intro @Dh1 (And.intro @qp (And.intro @Fl8 (And.intro @Fh8 (And.intro @Fs9 (And.intro @Zj (And.intro @Zk (And.intro @At5 (And.intro @At4 (And.intro @At3 (And.intro @At2 (And.intro @At1 (And.intro @At0 (And.intro @As9 (And.intro @As8 (And.intro @As7 (And.intro @As6 (And.intro @Ak2 (And.intro @Ak1 (And.intro @Ak0 (And.intro @Aj9 (And.intro @Aj8 (And.intro @Aj7 (And.intro @Fl0 (And.intro @Zq (And.intro @Ft1 (And.intro @Bk6 (And.intro @Bk5 (And.intro @Bk4 (And.intro @Bk3 (And.intro @Bk1 (And.intro @Bk0 (And.intro @Bj9 (And.intro @Bj8 (And.intro @Bj7 (And.intro @Bj6 (And.intro @Aq2 (And.intro @Aq1 (And.intro @Aq0 (And.intro @Dt7 (And.intro @Df9 (And.intro @Aq5 (And.intro @Aq4 (And.intro @Aq3 (And.intro @Dt6 (And.intro @Df7 (And.intro @Aj6 (And.intro @Aj5 (And.intro @Xd (And.intro @Dt0 (And.intro @Fb (And.intro @Gk2 (And.intro @Dt4 (And.intro @Dt3 (And.intro @Bg6 (And.intro @Fr3 (And.intro @Dr2 (And.intro @N4 (And.intro @d4 (And.intro @Q2 (And.intro @Dh9 (And.intro @L2 (And.intro @Am0 (And.intro @Dr1 (And.intro @L5 (And.intro @Fr2 (And.intro @Dg2 (And.intro @Dk5 (And.intro @xp (And.intro @L1 (And.intro @As4 (And.intro @As5 (And.intro @Al9 (And.intro @Hm1 @Hm0))))))))))))))))))))))))))))))))))))))))))))))))))))))))))))))))))))))))))
end Go.X
