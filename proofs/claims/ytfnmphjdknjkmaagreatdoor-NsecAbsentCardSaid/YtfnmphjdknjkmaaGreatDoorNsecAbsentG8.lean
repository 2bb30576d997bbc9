/- The program's data. -/
import Derived.Test.YtfnmphjdknjkmaaGreatDoorNsecAbsentG6
open Bool renaming eq_iff_iff→C2
open Option renaming bind_some→Ay,map_some→A5
open Option.some renaming injEq→Aq
set_option maxHeartbeats 1000000
set_option linter.unusedVariables false
set_option linter.unusedSimpArgs false
namespace Go.X
open Go
structure Dat where
 v6:Bool
 hi:Int
 lo:Int
 host:List UInt8
 mail:List UInt8
 text:List UInt8
 a:Int
 b:Int
 c:Int
 d:Int
 e:Int
 f:Int
 bits:Int
 deriving DecidableEq
structure Rec where
 name:List UInt8
 typ:Int
 ttl:Int
 data:Dat
 deriving DecidableEq
structure Zone where
 origin:List UInt8
 recs:List Rec
 deriving DecidableEq
def gy (x:Int):Prop:= -9223372036854775808≤x∧x≤9223372036854775807
def Hw3 (x:Int):Prop:=0≤x∧x≤18446744073709551615
def Qh (x:List UInt8):Prop:=x.length≤9223372036854775807
structure Dat.wf (x:Dat):Prop where
 hi:Hw3 x.hi
 lo:Hw3 x.lo
 host:Qh x.host
 mail:Qh x.mail
 text:Qh x.text
 a:gy x.a
 b:gy x.b
 c:gy x.c
 d:gy x.d
 e:gy x.e
 f:gy x.f
 bits:Hw3 x.bits
structure Rec.wf (r:Rec):Prop where
 name:Qh r.name
 typ:gy r.typ
 ttl:gy r.ttl
 data:r.data.wf
def jy (l:List Rec):Prop:=l.length≤9223372036854775807∧∀r∈l,r.wf
structure Zone.wf (z:Zone):Prop where
 origin:Qh z.origin
 recs:jy z.recs
def Dat.cells (x:Dat):List PV:=[.b x.v6, .i .u64 x.hi, .i .u64 x.lo, .s x.host, .s x.mail, .s x.text, .i .i64 x.a, .i .i64 x.b, .i .i64 x.c, .i .i64 x.d, .i .i64 x.e, .i .i64 x.f, .i .u64 x.bits]
def Dat.pv (x:Dat):PV:= .a x.cells
def Rec.cells (x:Rec):List PV:= .s x.name:: .i .i64 x.typ:: .i .i64 x.ttl::x.data.cells
def Rec.pv (x:Rec):PV:= .a x.cells
def Al (l:List Rec):PV:= .l 16 (l.map Rec.pv)
def Zone.pv (x:Zone):PV:= .a [.s x.origin,Al x.recs]
def Bd (l:List (List UInt8)):PV:= .l 1 (l.map .s)
def J0 (x:Dat):PV:= .a [.b x.v6, .i .u64 x.hi, .i .u64 x.lo]
theorem Gz3 (r:Rec):Jp 0 16 r.pv=some r.pv:=rfl
theorem Gl2 (r:Rec):Sp 16 r.pv=some r.pv:=rfl
theorem Zs (r:Rec):Jp 3 13 r.pv=some r.data.pv:=rfl
theorem Zt (r:Rec):Jp 3 3 r.pv=some (J0 r.data):=rfl
theorem Bf0 (r:Rec):Bn 0 r.pv=some (.s r.name):=rfl
theorem Bd9 (r:Rec):Bn 1 r.pv=some (.i .i64 r.typ):=rfl
theorem Bd8 (r:Rec):Bn 2 r.pv=some (.i .i64 r.ttl):=rfl
theorem Bd7 (r:Rec):Bn 3 r.pv=some (.b r.data.v6):=rfl
theorem Bd6 (r:Rec):Bn 4 r.pv=some (.i .u64 r.data.hi):=rfl
theorem Bd5 (r:Rec):Bn 5 r.pv=some (.i .u64 r.data.lo):=rfl
theorem Bd4 (r:Rec):Bn 6 r.pv=some (.s r.data.host):=rfl
theorem Bd3 (r:Rec):Bn 7 r.pv=some (.s r.data.mail):=rfl
theorem Bd2 (r:Rec):Bn 8 r.pv=some (.s r.data.text):=rfl
theorem Bd1 (r:Rec):Bn 9 r.pv=some (.i .i64 r.data.a):=rfl
theorem Ag0 (r:Rec):Bn 10 r.pv=some (.i .i64 r.data.b):=rfl
theorem Af9 (r:Rec):Bn 11 r.pv=some (.i .i64 r.data.c):=rfl
theorem Af8 (r:Rec):Bn 12 r.pv=some (.i .i64 r.data.d):=rfl
theorem Af7 (r:Rec):Bn 13 r.pv=some (.i .i64 r.data.e):=rfl
theorem Af6 (r:Rec):Bn 14 r.pv=some (.i .i64 r.data.f):=rfl
theorem Af5 (r:Rec):Bn 15 r.pv=some (.i .u64 r.data.bits):=rfl
theorem Gz5 (r:Dat):Jp 0 13 r.pv=some r.pv:=rfl
theorem Z0 (r:Dat):Jp 0 3 r.pv=some (J0 r):=rfl
theorem Gl4 (r:Dat):Sp 13 r.pv=some r.pv:=rfl
theorem Bh0 (r:Dat):Bn 0 r.pv=some (.b r.v6):=rfl
theorem Bg9 (r:Dat):Bn 1 r.pv=some (.i .u64 r.hi):=rfl
theorem Bg8 (r:Dat):Bn 2 r.pv=some (.i .u64 r.lo):=rfl
theorem Bg7 (r:Dat):Bn 3 r.pv=some (.s r.host):=rfl
theorem Bg6 (r:Dat):Bn 4 r.pv=some (.s r.mail):=rfl
theorem Bg5 (r:Dat):Bn 5 r.pv=some (.s r.text):=rfl
theorem Bg4 (r:Dat):Bn 6 r.pv=some (.i .i64 r.a):=rfl
theorem Bg3 (r:Dat):Bn 7 r.pv=some (.i .i64 r.b):=rfl
theorem Bg2 (r:Dat):Bn 8 r.pv=some (.i .i64 r.c):=rfl
theorem Bg1 (r:Dat):Bn 9 r.pv=some (.i .i64 r.d):=rfl
theorem Ah0 (r:Dat):Bn 10 r.pv=some (.i .i64 r.e):=rfl
theorem Ag9 (r:Dat):Bn 11 r.pv=some (.i .i64 r.f):=rfl
theorem Ag8 (r:Dat):Bn 12 r.pv=some (.i .u64 r.bits):=rfl
theorem Ef1 (r:Dat):Sp 3 (J0 r)=some (J0 r):=rfl
theorem Ek9 (r:Dat):Jp 0 3 (J0 r)=some (J0 r):=rfl
theorem Ah3 (r:Dat):Bn 0 (J0 r)=some (.b r.v6):=rfl
theorem Ah2 (r:Dat):Bn 1 (J0 r)=some (.i .u64 r.hi):=rfl
theorem Ah1 (r:Dat):Bn 2 (J0 r)=some (.i .u64 r.lo):=rfl
theorem Ef0 (r:Zone):Sp 2 r.pv=some r.pv:=rfl
theorem Ek7 (r:Zone):Jp 0 2 r.pv=some r.pv:=rfl
theorem Af4 (r:Zone):Bn 0 r.pv=some (.s r.origin):=rfl
theorem Af3 (r:Zone):Bn 1 r.pv=some (Al r.recs):=rfl
theorem X1 (v:Bool) (h l:Int) (s1 s2 s3:List UInt8) (a b c d e f g:Int):PV.a [.b v, .i .u64 h, .i .u64 l, .s s1, .s s2, .s s3, .i .i64 a, .i .i64 b, .i .i64 c, .i .i64 d, .i .i64 e, .i .i64 f, .i .u64 g]=Dat.pv ⟨v,h,l,s1,s2,s3,a,b,c,d,e,f,g⟩:=rfl
theorem Ed4 (n:List UInt8) (t u:Int) (v:Bool) (h l:Int) (s1 s2 s3:List UInt8) (a b c d e f g:Int):PV.a [.s n, .i .i64 t, .i .i64 u, .b v, .i .u64 h, .i .u64 l, .s s1, .s s2, .s s3, .i .i64 a, .i .i64 b, .i .i64 c, .i .i64 d, .i .i64 e, .i .i64 f, .i .u64 g]=Rec.pv ⟨n,t,u,⟨v,h,l,s1,s2,s3,a,b,c,d,e,f,g⟩⟩:=rfl
theorem E5 (x:Dat):(⟨x.v6,x.hi,x.lo,x.host,x.mail,x.text,x.a,x.b,x.c,x.d,x.e,x.f,x.bits⟩:Dat)=x:=rfl
theorem Gm7 (x:Rec):(⟨x.name,x.typ,x.ttl,x.data⟩:Rec)=x:=rfl
theorem Ed8 (x:Dat):PV.flat x.pv=true:=rfl
theorem Ed7 (x:Rec):PV.flat x.pv=true:=rfl
theorem Cx2 (x:Dat):PV.flat (J0 x)=true:=rfl
theorem Gg5 (x:Rec):I8 16 [x.pv]=some (Al [x]):=rfl
theorem Eb3 (l:List Rec):F1 (Al l)=some (.i .i64 (l.length:Int)):=by simp [Al,F1]
theorem N6 (l:List Rec) (k:IntKind) (z:Int) (h:0≤z):Hs 16 (Al l) (.i k z)=(l[z.toNat]?).map Rec.pv:=by simp [Al,Xs _ _ _ _ h]
theorem Df6 (l:List Rec) (x:Rec) (h:l.length+1≤1073741824):Ib 16 (Al l) (Al [x])=some (Al (l++[x])):=by have:=Tx 16 (l.map Rec.pv) [x.pv] (by simpa using h);simpa [Al] using this
theorem Yn (l m:List Rec) (h:l.length+m.length≤1073741824):Ib 16 (Al l) (Al m)=some (Al (l++m)):=by have:=Tx 16 (l.map Rec.pv) (m.map Rec.pv) (by simpa using h);simpa [Al] using this
theorem Ev9:PV.l 16 []=Al []:=rfl
theorem L3 (l:List Rec) (k k':IntKind) (a b:Int) (h1:0≤a) (h2:a≤b) (h3:b≤(l.length:Int)):Iw 16 (Al l) (.i k a) (.i k' b)=some (Al ((l.take b.toNat).drop a.toNat)):=by have:=Bs7 16 (l.map Rec.pv) k k' a b h1 h2 (by simpa using h3);simpa [Al] using this
theorem Gb6 (l:List Rec) (k:IntKind) (z:Int) (n:List UInt8) (t u:Int) (v:Bool) (h w:Int) (s1 s2 s3:List UInt8) (a b c d e f g:Int) (h0:0≤z) (h1:z<(l.length:Int)):
  Rz 16 0 [.s n, .i .i64 t, .i .i64 u, .b v, .i .u64 h, .i .u64 w, .s s1, .s s2, .s s3, .i .i64 a, .i .i64 b, .i .i64 c, .i .i64 d, .i .i64 e, .i .i64 f, .i .u64 g] (Al l) (.i k z)=some (Al (l.set z.toNat ⟨n,t,u,⟨v,h,w,s1,s2,s3,a,b,c,d,e,f,g⟩⟩)):=by
 have h2:z.toNat<l.length:=by omega
 have h3:(l.map Rec.pv)[z.toNat]? =some (l[z.toNat].pv):=by simp [h2]
 simp only [Rz,Al,h0,h3,and_self,if_true,Ay];have h4:O0 (l[z.toNat].pv) 0 [.s n, .i .i64 t, .i .i64 u, .b v, .i .u64 h, .i .u64 w, .s s1, .s s2, .s s3, .i .i64 a, .i .i64 b, .i .i64 c, .i .i64 d, .i .i64 e, .i .i64 f, .i .u64 g]=some (Rec.pv ⟨n,t,u,⟨v,h,w,s1,s2,s3,a,b,c,d,e,f,g⟩⟩):=rfl;rw [h4];simp [List.map_set]
theorem Bx4 (l:List Rec):It (Al l)=some (Al l):=rfl
theorem Eb2 (l:List (List UInt8)):F1 (Bd l)=some (.i .i64 (l.length:Int)):=by simp [Bd,F1]
theorem L6 (l:List (List UInt8)) (k:IntKind) (z:Int) (h:0≤z):Hs 1 (Bd l) (.i k z)=(l[z.toNat]?).map PV.s:=by simp [Bd,Xs _ _ _ _ h]
theorem Gg4 (x:List UInt8):I8 1 [.s x]=some (Bd [x]):=rfl
theorem Eq2:PV.l 1 []=Bd []:=rfl
theorem Df5 (l:List (List UInt8)) (x:List UInt8) (h:l.length+1≤1073741824):Ib 1 (Bd l) (Bd [x])=some (Bd (l++[x])):=by have:=Tx 1 (l.map PV.s) [.s x] (by simpa using h);simpa [Bd] using this
theorem Ay8 (l m:List (List UInt8)) (h:l.length+m.length≤1073741824):Ib 1 (Bd l) (Bd m)=some (Bd (l++m)):=by have:=Tx 1 (l.map PV.s) (m.map PV.s) (by simpa using h);simpa [Bd] using this
theorem L2 (l:List (List UInt8)) (k k':IntKind) (a b:Int) (h1:0≤a) (h2:a≤b) (h3:b≤(l.length:Int)):Iw 1 (Bd l) (.i k a) (.i k' b)=some (Bd ((l.take b.toNat).drop a.toNat)):=by have:=Bs7 1 (l.map PV.s) k k' a b h1 h2 (by simpa using h3);simpa [Bd] using this
theorem Ev1 (l:List (List UInt8)) (k:IntKind) (z:Int) (x:List UInt8) (h0:0≤z) (h1:z<(l.length:Int)):Rz 1 0 [.s x] (Bd l) (.i k z)=some (Bd (l.set z.toNat x)):=by
 have h2:z.toNat<l.length:=by omega
 have h3:(l.map PV.s)[z.toNat]? =some (.s l[z.toNat]):=by simp [h2]
 simp only [Rz,Bd,h0,h3,and_self,if_true,Ay];have h4:O0 (.s l[z.toNat]) 0 [.s x]=some (.s x):=rfl;rw [h4];simp [List.map_set]
theorem vw (n:Int) (h0:0≤n) (h1:n≤1073741824):K6 1 (.i .i64 n) (.s [])=some (Bd (List.replicate n.toNat [])):=by
 have h2:n≤(LIM:Int):=by simp only [LIM];omega
 have h3:(PV.s []).cells.length=1:=rfl;simp only [K6,h0,h2,h3,and_self,if_true];simp [Bd]
theorem Bc9 (l:List (List UInt8)):Bn 0 (Bd l)=some (Bd l):=rfl
theorem Bd0 (l:List Rec):Bn 0 (Al l)=some (Al l):=rfl
theorem Bx3 (l:List (List UInt8)):It (Bd l)=some (Bd l):=rfl
theorem If9 (neg:Bool) (x y:Dat):Kr neg true [.b,(.i .u64),(.i .u64), .s, .s, .s,(.i .i64),(.i .i64),(.i .i64),(.i .i64),(.i .i64),(.i .i64),(.i .u64)] x.pv y.pv=some (.b (if neg then decide (x≠y) else decide (x=y))):=by
 have:Gw [.b,(.i .u64),(.i .u64), .s, .s, .s,(.i .i64),(.i .i64),(.i .i64),(.i .i64),(.i .i64),(.i .i64),(.i .u64)] x.cells y.cells=some (decide (x=y)):=by simp only [Dat.cells,Gw,Dl1,if_true,Aq];rw [C2];cases x;cases y;simp
 simp only [Kr,Dat.pv,this,A5];cases neg<;>simp
theorem If8 (neg:Bool) (x y:Rec):Kr neg true [.s,(.i .i64),(.i .i64), .b,(.i .u64),(.i .u64), .s, .s, .s,(.i .i64),(.i .i64),(.i .i64),(.i .i64),(.i .i64),(.i .i64),(.i .u64)] x.pv y.pv=some (.b (if neg then decide (x≠y) else decide (x=y))):=by
 have:Gw [.s,(.i .i64),(.i .i64), .b,(.i .u64),(.i .u64), .s, .s, .s,(.i .i64),(.i .i64),(.i .i64),(.i .i64),(.i .i64),(.i .i64),(.i .u64)] x.cells y.cells=some (decide (x=y)):=by simp only [Rec.cells,Dat.cells,Gw,Dl1,if_true,Aq];rw [C2];rcases x with ⟨_,_,_,⟨⟩⟩;rcases y with ⟨_,_,_,⟨⟩⟩;simp [and_assoc]
 simp only [Kr,Rec.pv,this,A5];cases neg<;>simp
set_option linter.defProp false in
def EVP:=(And.intro @Ev1 (And.intro @vw (And.intro @Gb6 (And.intro @Gz3 (And.intro @Gl2 (And.intro @Zs (And.intro @Zt (And.intro @Bf0 (And.intro @Bd9 (And.intro @Bd8 (And.intro @Bd7 (And.intro @Bd6 (And.intro @Bd5 (And.intro @Bd4 (And.intro @Bd3 (And.intro @Bd2 (And.intro @Bd1 (And.intro @Ag0 (And.intro @Af9 (And.intro @Af8 (And.intro @Af7 (And.intro @Af6 (And.intro @Af5 (And.intro @Gz5 (And.intro @Z0 (And.intro @Gl4 (And.intro @Bh0 (And.intro @Bg9 (And.intro @Bg8 (And.intro @Bg7 (And.intro @Bg6 (And.intro @Bg5 (And.intro @Bg4 (And.intro @Bg3 (And.intro @Bg2 (And.intro @Bg1 (And.intro @Ah0 (And.intro @Ag9 (And.intro @Ag8 (And.intro @Ef1 (And.intro @Ek9 (And.intro @Ah3 (And.intro @Ah2 (And.intro @Ah1 (And.intro @Ef0 (And.intro @Ek7 (And.intro @Af4 (And.intro @Af3 (And.intro @X1 (And.intro @Ed4 (And.intro @E5 (And.intro @Gm7 (And.intro @Ed8 (And.intro @Ed7 (And.intro @Cx2 (And.intro @Gg5 (And.intro @Eb3 (And.intro @N6 (And.intro @Df6 (And.intro @Yn (And.intro @Ev9 (And.intro @L3 (And.intro @Bx4 (And.intro @Eb2 (And.intro @L6 (And.intro @Gg4 (And.intro @Eq2 (And.intro @Df5 (And.intro @Ay8 (And.intro @L2 (And.intro @Bc9 (And.intro @Bd0 (And.intro @Bx3 (And.intro @If9 @If8))))))))))))))))))))))))))))))))))))))))))))))))))))))))))))))))))))))))))
end Go.X
