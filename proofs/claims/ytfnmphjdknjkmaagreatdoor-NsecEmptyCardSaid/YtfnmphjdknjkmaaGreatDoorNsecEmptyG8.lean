/- The program's data. -/
import Derived.Test.YtfnmphjdknjkmaaGreatDoorNsecEmptyG6
open Bool renaming eq_iff_iff→C2
open Option renaming bind_some→Ay,map_some→A5
open Option.some renaming injEq→Aq
set_option maxHeartbeats 1000000
set_option linter.unusedVariables false
set_option linter.unusedSimpArgs false
namespace Go.X
open Go
structure Dat where
 v6:Bool
 hi:Int
 lo:Int
 host:List UInt8
 mail:List UInt8
 text:List UInt8
 a:Int
 b:Int
 c:Int
 d:Int
 e:Int
 f:Int
 bits:Int
 deriving DecidableEq
structure Rec where
 name:List UInt8
 typ:Int
 ttl:Int
 data:Dat
 deriving DecidableEq
structure Zone where
 origin:List UInt8
 recs:List Rec
 deriving DecidableEq
def ik (x:Int):Prop:= -9223372036854775808≤x∧x≤9223372036854775807
def Hy3 (x:Int):Prop:=0≤x∧x≤18446744073709551615
def Qm (x:List UInt8):Prop:=x.length≤9223372036854775807
structure Dat.wf (x:Dat):Prop where
 hi:Hy3 x.hi
 lo:Hy3 x.lo
 host:Qm x.host
 mail:Qm x.mail
 text:Qm x.text
 a:ik x.a
 b:ik x.b
 c:ik x.c
 d:ik x.d
 e:ik x.e
 f:ik x.f
 bits:Hy3 x.bits
structure Rec.wf (r:Rec):Prop where
 name:Qm r.name
 typ:ik r.typ
 ttl:ik r.ttl
 data:r.data.wf
def jp (l:List Rec):Prop:=l.length≤9223372036854775807∧∀r∈l,r.wf
structure Zone.wf (z:Zone):Prop where
 origin:Qm z.origin
 recs:jp z.recs
def Dat.cells (x:Dat):List PV:=[.b x.v6, .i .u64 x.hi, .i .u64 x.lo, .s x.host, .s x.mail, .s x.text, .i .i64 x.a, .i .i64 x.b, .i .i64 x.c, .i .i64 x.d, .i .i64 x.e, .i .i64 x.f, .i .u64 x.bits]
def Dat.pv (x:Dat):PV:= .a x.cells
def Rec.cells (x:Rec):List PV:= .s x.name:: .i .i64 x.typ:: .i .i64 x.ttl::x.data.cells
def Rec.pv (x:Rec):PV:= .a x.cells
def Al (l:List Rec):PV:= .l 16 (l.map Rec.pv)
def Zone.pv (x:Zone):PV:= .a [.s x.origin,Al x.recs]
def Bd (l:List (List UInt8)):PV:= .l 1 (l.map .s)
def J1 (x:Dat):PV:= .a [.b x.v6, .i .u64 x.hi, .i .u64 x.lo]
theorem Gc1 (r:Rec):Jp 0 16 r.pv=some r.pv:=rfl
theorem Gn2 (r:Rec):S2 16 r.pv=some r.pv:=rfl
theorem Z7 (r:Rec):Jp 3 13 r.pv=some r.data.pv:=rfl
theorem Z8 (r:Rec):Jp 3 3 r.pv=some (J1 r.data):=rfl
theorem Bg3 (r:Rec):Bn 0 r.pv=some (.s r.name):=rfl
theorem Bg2 (r:Rec):Bn 1 r.pv=some (.i .i64 r.typ):=rfl
theorem Bg1 (r:Rec):Bn 2 r.pv=some (.i .i64 r.ttl):=rfl
theorem Bg0 (r:Rec):Bn 3 r.pv=some (.b r.data.v6):=rfl
theorem Bf9 (r:Rec):Bn 4 r.pv=some (.i .u64 r.data.hi):=rfl
theorem Bf8 (r:Rec):Bn 5 r.pv=some (.i .u64 r.data.lo):=rfl
theorem Bf7 (r:Rec):Bn 6 r.pv=some (.s r.data.host):=rfl
theorem Bf6 (r:Rec):Bn 7 r.pv=some (.s r.data.mail):=rfl
theorem Bf5 (r:Rec):Bn 8 r.pv=some (.s r.data.text):=rfl
theorem Bf4 (r:Rec):Bn 9 r.pv=some (.i .i64 r.data.a):=rfl
theorem Ag7 (r:Rec):Bn 10 r.pv=some (.i .i64 r.data.b):=rfl
theorem Ag6 (r:Rec):Bn 11 r.pv=some (.i .i64 r.data.c):=rfl
theorem Ag5 (r:Rec):Bn 12 r.pv=some (.i .i64 r.data.d):=rfl
theorem Ag4 (r:Rec):Bn 13 r.pv=some (.i .i64 r.data.e):=rfl
theorem Ag3 (r:Rec):Bn 14 r.pv=some (.i .i64 r.data.f):=rfl
theorem Ag2 (r:Rec):Bn 15 r.pv=some (.i .u64 r.data.bits):=rfl
theorem Gc3 (r:Dat):Jp 0 13 r.pv=some r.pv:=rfl
theorem Z9 (r:Dat):Jp 0 3 r.pv=some (J1 r):=rfl
theorem Gn4 (r:Dat):S2 13 r.pv=some r.pv:=rfl
theorem Bl3 (r:Dat):Bn 0 r.pv=some (.b r.v6):=rfl
theorem Bl2 (r:Dat):Bn 1 r.pv=some (.i .u64 r.hi):=rfl
theorem Bl1 (r:Dat):Bn 2 r.pv=some (.i .u64 r.lo):=rfl
theorem Bl0 (r:Dat):Bn 3 r.pv=some (.s r.host):=rfl
theorem Bh9 (r:Dat):Bn 4 r.pv=some (.s r.mail):=rfl
theorem Bh8 (r:Dat):Bn 5 r.pv=some (.s r.text):=rfl
theorem Bh7 (r:Dat):Bn 6 r.pv=some (.i .i64 r.a):=rfl
theorem Bh6 (r:Dat):Bn 7 r.pv=some (.i .i64 r.b):=rfl
theorem Bh5 (r:Dat):Bn 8 r.pv=some (.i .i64 r.c):=rfl
theorem Bh4 (r:Dat):Bn 9 r.pv=some (.i .i64 r.d):=rfl
theorem Ah7 (r:Dat):Bn 10 r.pv=some (.i .i64 r.e):=rfl
theorem Ah6 (r:Dat):Bn 11 r.pv=some (.i .i64 r.f):=rfl
theorem Ah5 (r:Dat):Bn 12 r.pv=some (.i .u64 r.bits):=rfl
theorem Ef8 (r:Dat):S2 3 (J1 r)=some (J1 r):=rfl
theorem Eq6 (r:Dat):Jp 0 3 (J1 r)=some (J1 r):=rfl
theorem Al0 (r:Dat):Bn 0 (J1 r)=some (.b r.v6):=rfl
theorem Ah9 (r:Dat):Bn 1 (J1 r)=some (.i .u64 r.hi):=rfl
theorem Ah8 (r:Dat):Bn 2 (J1 r)=some (.i .u64 r.lo):=rfl
theorem Ef7 (r:Zone):S2 2 r.pv=some r.pv:=rfl
theorem Eq4 (r:Zone):Jp 0 2 r.pv=some r.pv:=rfl
theorem Ag1 (r:Zone):Bn 0 r.pv=some (.s r.origin):=rfl
theorem Ag0 (r:Zone):Bn 1 r.pv=some (Al r.recs):=rfl
theorem X6 (v:Bool) (h l:Int) (s1 s2 s3:List UInt8) (a b c d e f g:Int):PV.a [.b v, .i .u64 h, .i .u64 l, .s s1, .s s2, .s s3, .i .i64 a, .i .i64 b, .i .i64 c, .i .i64 d, .i .i64 e, .i .i64 f, .i .u64 g]=Dat.pv ⟨v,h,l,s1,s2,s3,a,b,c,d,e,f,g⟩:=rfl
theorem Ef1 (n:List UInt8) (t u:Int) (v:Bool) (h l:Int) (s1 s2 s3:List UInt8) (a b c d e f g:Int):PV.a [.s n, .i .i64 t, .i .i64 u, .b v, .i .u64 h, .i .u64 l, .s s1, .s s2, .s s3, .i .i64 a, .i .i64 b, .i .i64 c, .i .i64 d, .i .i64 e, .i .i64 f, .i .u64 g]=Rec.pv ⟨n,t,u,⟨v,h,l,s1,s2,s3,a,b,c,d,e,f,g⟩⟩:=rfl
theorem E6 (x:Dat):(⟨x.v6,x.hi,x.lo,x.host,x.mail,x.text,x.a,x.b,x.c,x.d,x.e,x.f,x.bits⟩:Dat)=x:=rfl
theorem Gp7 (x:Rec):(⟨x.name,x.typ,x.ttl,x.data⟩:Rec)=x:=rfl
theorem Ef5 (x:Dat):PV.flat x.pv=true:=rfl
theorem Ef4 (x:Rec):PV.flat x.pv=true:=rfl
theorem Cy0 (x:Dat):PV.flat (J1 x)=true:=rfl
theorem Gl5 (x:Rec):Jj 16 [x.pv]=some (Al [x]):=rfl
theorem Ec0 (l:List Rec):F2 (Al l)=some (.i .i64 (l.length:Int)):=by simp [Al,F2]
theorem N8 (l:List Rec) (k:IntKind) (z:Int) (h:0≤z):Ht 16 (Al l) (.i k z)=(l[z.toNat]?).map Rec.pv:=by simp [Al,X3 _ _ _ _ h]
theorem Dg5 (l:List Rec) (x:Rec) (h:l.length+1≤1073741824):Ic 16 (Al l) (Al [x])=some (Al (l++[x])):=by have:=Tf 16 (l.map Rec.pv) [x.pv] (by simpa using h);simpa [Al] using this
theorem Y1 (l m:List Rec) (h:l.length+m.length≤1073741824):Ic 16 (Al l) (Al m)=some (Al (l++m)):=by have:=Tf 16 (l.map Rec.pv) (m.map Rec.pv) (by simpa using h);simpa [Al] using this
theorem Ew6:PV.l 16 []=Al []:=rfl
theorem L3 (l:List Rec) (k k':IntKind) (a b:Int) (h1:0≤a) (h2:a≤b) (h3:b≤(l.length:Int)):Ix 16 (Al l) (.i k a) (.i k' b)=some (Al ((l.take b.toNat).drop a.toNat)):=by have:=Bt5 16 (l.map Rec.pv) k k' a b h1 h2 (by simpa using h3);simpa [Al] using this
theorem Gd4 (l:List Rec) (k:IntKind) (z:Int) (n:List UInt8) (t u:Int) (v:Bool) (h w:Int) (s1 s2 s3:List UInt8) (a b c d e f g:Int) (h0:0≤z) (h1:z<(l.length:Int)):
  Rh 16 0 [.s n, .i .i64 t, .i .i64 u, .b v, .i .u64 h, .i .u64 w, .s s1, .s s2, .s s3, .i .i64 a, .i .i64 b, .i .i64 c, .i .i64 d, .i .i64 e, .i .i64 f, .i .u64 g] (Al l) (.i k z)=some (Al (l.set z.toNat ⟨n,t,u,⟨v,h,w,s1,s2,s3,a,b,c,d,e,f,g⟩⟩)):=by
 have h2:z.toNat<l.length:=by omega
 have h3:(l.map Rec.pv)[z.toNat]? =some (l[z.toNat].pv):=by simp [h2]
 simp only [Rh,Al,h0,h3,and_self,if_true,Ay];have h4:O4 (l[z.toNat].pv) 0 [.s n, .i .i64 t, .i .i64 u, .b v, .i .u64 h, .i .u64 w, .s s1, .s s2, .s s3, .i .i64 a, .i .i64 b, .i .i64 c, .i .i64 d, .i .i64 e, .i .i64 f, .i .u64 g]=some (Rec.pv ⟨n,t,u,⟨v,h,w,s1,s2,s3,a,b,c,d,e,f,g⟩⟩):=rfl;rw [h4];simp [List.map_set]
theorem By7 (l:List Rec):I0 (Al l)=some (Al l):=rfl
theorem Eb9 (l:List (List UInt8)):F2 (Bd l)=some (.i .i64 (l.length:Int)):=by simp [Bd,F2]
theorem L6 (l:List (List UInt8)) (k:IntKind) (z:Int) (h:0≤z):Ht 1 (Bd l) (.i k z)=(l[z.toNat]?).map PV.s:=by simp [Bd,X3 _ _ _ _ h]
theorem Gl4 (x:List UInt8):Jj 1 [.s x]=some (Bd [x]):=rfl
theorem Eq9:PV.l 1 []=Bd []:=rfl
theorem Dg4 (l:List (List UInt8)) (x:List UInt8) (h:l.length+1≤1073741824):Ic 1 (Bd l) (Bd [x])=some (Bd (l++[x])):=by have:=Tf 1 (l.map PV.s) [.s x] (by simpa using h);simpa [Bd] using this
theorem Az4 (l m:List (List UInt8)) (h:l.length+m.length≤1073741824):Ic 1 (Bd l) (Bd m)=some (Bd (l++m)):=by have:=Tf 1 (l.map PV.s) (m.map PV.s) (by simpa using h);simpa [Bd] using this
theorem L2 (l:List (List UInt8)) (k k':IntKind) (a b:Int) (h1:0≤a) (h2:a≤b) (h3:b≤(l.length:Int)):Ix 1 (Bd l) (.i k a) (.i k' b)=some (Bd ((l.take b.toNat).drop a.toNat)):=by have:=Bt5 1 (l.map PV.s) k k' a b h1 h2 (by simpa using h3);simpa [Bd] using this
theorem Ev8 (l:List (List UInt8)) (k:IntKind) (z:Int) (x:List UInt8) (h0:0≤z) (h1:z<(l.length:Int)):Rh 1 0 [.s x] (Bd l) (.i k z)=some (Bd (l.set z.toNat x)):=by
 have h2:z.toNat<l.length:=by omega
 have h3:(l.map PV.s)[z.toNat]? =some (.s l[z.toNat]):=by simp [h2]
 simp only [Rh,Bd,h0,h3,and_self,if_true,Ay];have h4:O4 (.s l[z.toNat]) 0 [.s x]=some (.s x):=rfl;rw [h4];simp [List.map_set]
theorem vm (n:Int) (h0:0≤n) (h1:n≤1073741824):K9 1 (.i .i64 n) (.s [])=some (Bd (List.replicate n.toNat [])):=by
 have h2:n≤(LIM:Int):=by simp only [LIM];omega
 have h3:(PV.s []).cells.length=1:=rfl;simp only [K9,h0,h2,h3,and_self,if_true];simp [Bd]
theorem Bf2 (l:List (List UInt8)):Bn 0 (Bd l)=some (Bd l):=rfl
theorem Bf3 (l:List Rec):Bn 0 (Al l)=some (Al l):=rfl
theorem By6 (l:List (List UInt8)):I0 (Bd l)=some (Bd l):=rfl
theorem Ih9 (neg:Bool) (x y:Dat):K0 neg true [.b,(.i .u64),(.i .u64), .s, .s, .s,(.i .i64),(.i .i64),(.i .i64),(.i .i64),(.i .i64),(.i .i64),(.i .u64)] x.pv y.pv=some (.b (if neg then decide (x≠y) else decide (x=y))):=by
 have:Gx [.b,(.i .u64),(.i .u64), .s, .s, .s,(.i .i64),(.i .i64),(.i .i64),(.i .i64),(.i .i64),(.i .i64),(.i .u64)] x.cells y.cells=some (decide (x=y)):=by simp only [Dat.cells,Gx,Dl9,if_true,Aq];rw [C2];cases x;cases y;simp
 simp only [K0,Dat.pv,this,A5];cases neg<;>simp
theorem Ih8 (neg:Bool) (x y:Rec):K0 neg true [.s,(.i .i64),(.i .i64), .b,(.i .u64),(.i .u64), .s, .s, .s,(.i .i64),(.i .i64),(.i .i64),(.i .i64),(.i .i64),(.i .i64),(.i .u64)] x.pv y.pv=some (.b (if neg then decide (x≠y) else decide (x=y))):=by
 have:Gx [.s,(.i .i64),(.i .i64), .b,(.i .u64),(.i .u64), .s, .s, .s,(.i .i64),(.i .i64),(.i .i64),(.i .i64),(.i .i64),(.i .i64),(.i .u64)] x.cells y.cells=some (decide (x=y)):=by simp only [Rec.cells,Dat.cells,Gx,Dl9,if_true,Aq];rw [C2];rcases x with ⟨_,_,_,⟨⟩⟩;rcases y with ⟨_,_,_,⟨⟩⟩;simp [and_assoc]
 simp only [K0,Rec.pv,this,A5];cases neg<;>simp
set_option linter.defProp false in
def EVP:=(And.intro @Ev8 (And.intro @vm (And.intro @Gd4 (And.intro @Gc1 (And.intro @Gn2 (And.intro @Z7 (And.intro @Z8 (And.intro @Bg3 (And.intro @Bg2 (And.intro @Bg1 (And.intro @Bg0 (And.intro @Bf9 (And.intro @Bf8 (And.intro @Bf7 (And.intro @Bf6 (And.intro @Bf5 (And.intro @Bf4 (And.intro @Ag7 (And.intro @Ag6 (And.intro @Ag5 (And.intro @Ag4 (And.intro @Ag3 (And.intro @Ag2 (And.intro @Gc3 (And.intro @Z9 (And.intro @Gn4 (And.intro @Bl3 (And.intro @Bl2 (And.intro @Bl1 (And.intro @Bl0 (And.intro @Bh9 (And.intro @Bh8 (And.intro @Bh7 (And.intro @Bh6 (And.intro @Bh5 (And.intro @Bh4 (And.intro @Ah7 (And.intro @Ah6 (And.intro @Ah5 (And.intro @Ef8 (And.intro @Eq6 (And.intro @Al0 (And.intro @Ah9 (And.intro @Ah8 (And.intro @Ef7 (And.intro @Eq4 (And.intro @Ag1 (And.intro @Ag0 (And.intro @X6 (And.intro @Ef1 (And.intro @E6 (And.intro @Gp7 (And.intro @Ef5 (And.intro @Ef4 (And.intro @Cy0 (And.intro @Gl5 (And.intro @Ec0 (And.intro @N8 (And.intro @Dg5 (And.intro @Y1 (And.intro @Ew6 (And.intro @L3 (And.intro @By7 (And.intro @Eb9 (And.intro @L6 (And.intro @Gl4 (And.intro @Eq9 (And.intro @Dg4 (And.intro @Az4 (And.intro @L2 (And.intro @Bf2 (And.intro @Bf3 (And.intro @By6 (And.intro @Ih9 @Ih8))))))))))))))))))))))))))))))))))))))))))))))))))))))))))))))))))))))))))
end Go.X
