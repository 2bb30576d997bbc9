/- The program's data. -/
import Derived.Test.YteiaijjlmnacpaaGreatDoorZoneShufflesG6
open Bool renaming eq_iff_iff→Cf
open Option renaming bind_some→Ay,map_some→A0
set_option maxHeartbeats 1000000
set_option linter.unusedVariables false
set_option linter.unusedSimpArgs false
namespace Go.X
open Go
structure Dat where
 v6:Bool
 hi:Int
 lo:Int
 host:List UInt8
 mail:List UInt8
 text:List UInt8
 a:Int
 b:Int
 c:Int
 d:Int
 e:Int
 f:Int
 bits:Int
 deriving DecidableEq
structure Rec where
 name:List UInt8
 typ:Int
 ttl:Int
 data:Dat
 deriving DecidableEq
structure Zone where
 origin:List UInt8
 recs:List Rec
 deriving DecidableEq
def gj (x:Int):Prop:= -9223372036854775808≤x∧x≤9223372036854775807
def Gk2 (x:Int):Prop:=0≤x∧x≤18446744073709551615
def Py (x:List UInt8):Prop:=x.length≤9223372036854775807
structure Dat.wf (x:Dat):Prop where
 hi:Gk2 x.hi
 lo:Gk2 x.lo
 host:Py x.host
 mail:Py x.mail
 text:Py x.text
 a:gj x.a
 b:gj x.b
 c:gj x.c
 d:gj x.d
 e:gj x.e
 f:gj x.f
 bits:Gk2 x.bits
structure Rec.wf (r:Rec):Prop where
 name:Py r.name
 typ:gj r.typ
 ttl:gj r.ttl
 data:r.data.wf
def Az8 (l:List Rec):Prop:=l.length≤9223372036854775807∧∀r∈l,r.wf
structure Zone.wf (z:Zone):Prop where
 origin:Py z.origin
 recs:Az8 z.recs
def Dat.cells (x:Dat):List PV:=[.b x.v6, .i .u64 x.hi, .i .u64 x.lo, .s x.host, .s x.mail, .s x.text, .i .i64 x.a, .i .i64 x.b, .i .i64 x.c, .i .i64 x.d, .i .i64 x.e, .i .i64 x.f, .i .u64 x.bits]
def Dat.pv (x:Dat):PV:= .a x.cells
def Rec.cells (x:Rec):List PV:= .s x.name:: .i .i64 x.typ:: .i .i64 x.ttl::x.data.cells
def Rec.pv (x:Rec):PV:= .a x.cells
def Af (l:List Rec):PV:= .l 16 (l.map Rec.pv)
def Zone.pv (x:Zone):PV:= .a [.s x.origin,Af x.recs]
def Bc (l:List (List UInt8)):PV:= .l 1 (l.map .s)
def Jq (x:Dat):PV:= .a [.b x.v6, .i .u64 x.hi, .i .u64 x.lo]
theorem Es7 (r:Rec):I6 0 16 r.pv=some r.pv:=rfl
theorem Fw8 (r:Rec):Rx 16 r.pv=some r.pv:=rfl
theorem Xt (r:Rec):I6 3 13 r.pv=some r.data.pv:=rfl
theorem X0 (r:Rec):I6 3 3 r.pv=some (Jq r.data):=rfl
theorem Ag3 (r:Rec):Bm 0 r.pv=some (.s r.name):=rfl
theorem Ag2 (r:Rec):Bm 1 r.pv=some (.i .i64 r.typ):=rfl
theorem Ag1 (r:Rec):Bm 2 r.pv=some (.i .i64 r.ttl):=rfl
theorem Ag0 (r:Rec):Bm 3 r.pv=some (.b r.data.v6):=rfl
theorem Af9 (r:Rec):Bm 4 r.pv=some (.i .u64 r.data.hi):=rfl
theorem Af8 (r:Rec):Bm 5 r.pv=some (.i .u64 r.data.lo):=rfl
theorem Af7 (r:Rec):Bm 6 r.pv=some (.s r.data.host):=rfl
theorem Af6 (r:Rec):Bm 7 r.pv=some (.s r.data.mail):=rfl
theorem Af5 (r:Rec):Bm 8 r.pv=some (.s r.data.text):=rfl
theorem Af4 (r:Rec):Bm 9 r.pv=some (.i .i64 r.data.a):=rfl
theorem w7 (r:Rec):Bm 10 r.pv=some (.i .i64 r.data.b):=rfl
theorem w6 (r:Rec):Bm 11 r.pv=some (.i .i64 r.data.c):=rfl
theorem wt (r:Rec):Bm 12 r.pv=some (.i .i64 r.data.d):=rfl
theorem wn (r:Rec):Bm 13 r.pv=some (.i .i64 r.data.e):=rfl
theorem wm (r:Rec):Bm 14 r.pv=some (.i .i64 r.data.f):=rfl
theorem wl (r:Rec):Bm 15 r.pv=some (.i .u64 r.data.bits):=rfl
theorem Es9 (r:Dat):I6 0 13 r.pv=some r.pv:=rfl
theorem X1 (r:Dat):I6 0 3 r.pv=some (Jq r):=rfl
theorem Fx0 (r:Dat):Rx 13 r.pv=some r.pv:=rfl
theorem Al3 (r:Dat):Bm 0 r.pv=some (.b r.v6):=rfl
theorem Al2 (r:Dat):Bm 1 r.pv=some (.i .u64 r.hi):=rfl
theorem Al1 (r:Dat):Bm 2 r.pv=some (.i .u64 r.lo):=rfl
theorem Al0 (r:Dat):Bm 3 r.pv=some (.s r.host):=rfl
theorem Ah9 (r:Dat):Bm 4 r.pv=some (.s r.mail):=rfl
theorem Ah8 (r:Dat):Bm 5 r.pv=some (.s r.text):=rfl
theorem Ah7 (r:Dat):Bm 6 r.pv=some (.i .i64 r.a):=rfl
theorem Ah6 (r:Dat):Bm 7 r.pv=some (.i .i64 r.b):=rfl
theorem Ah5 (r:Dat):Bm 8 r.pv=some (.i .i64 r.c):=rfl
theorem Ah4 (r:Dat):Bm 9 r.pv=some (.i .i64 r.d):=rfl
theorem xg (r:Dat):Bm 10 r.pv=some (.i .i64 r.e):=rfl
theorem xf (r:Dat):Bm 11 r.pv=some (.i .i64 r.f):=rfl
theorem xz (r:Dat):Bm 12 r.pv=some (.i .u64 r.bits):=rfl
theorem Dz1 (r:Dat):Rx 3 (Jq r)=some (Jq r):=rfl
theorem Cs6 (r:Dat):I6 0 3 (Jq r)=some (Jq r):=rfl
theorem xm (r:Dat):Bm 0 (Jq r)=some (.b r.v6):=rfl
theorem xl (r:Dat):Bm 1 (Jq r)=some (.i .u64 r.hi):=rfl
theorem xh (r:Dat):Bm 2 (Jq r)=some (.i .u64 r.lo):=rfl
theorem Dz0 (r:Zone):Rx 2 r.pv=some r.pv:=rfl
theorem Cs4 (r:Zone):I6 0 2 r.pv=some r.pv:=rfl
theorem wh (r:Zone):Bm 0 r.pv=some (.s r.origin):=rfl
theorem wg (r:Zone):Bm 1 r.pv=some (Af r.recs):=rfl
theorem V3 (v:Bool) (h l:Int) (s1 s2 s3:List UInt8) (a b c d e f g:Int):PV.a [.b v, .i .u64 h, .i .u64 l, .s s1, .s s2, .s s3, .i .i64 a, .i .i64 b, .i .i64 c, .i .i64 d, .i .i64 e, .i .i64 f, .i .u64 g]=Dat.pv ⟨v,h,l,s1,s2,s3,a,b,c,d,e,f,g⟩:=rfl
theorem Dy4 (n:List UInt8) (t u:Int) (v:Bool) (h l:Int) (s1 s2 s3:List UInt8) (a b c d e f g:Int):PV.a [.s n, .i .i64 t, .i .i64 u, .b v, .i .u64 h, .i .u64 l, .s s1, .s s2, .s s3, .i .i64 a, .i .i64 b, .i .i64 c, .i .i64 d, .i .i64 e, .i .i64 f, .i .u64 g]=Rec.pv ⟨n,t,u,⟨v,h,l,s1,s2,s3,a,b,c,d,e,f,g⟩⟩:=rfl
theorem E8 (x:Dat):(⟨x.v6,x.hi,x.lo,x.host,x.mail,x.text,x.a,x.b,x.c,x.d,x.e,x.f,x.bits⟩:Dat)=x:=rfl
theorem Fz0 (x:Rec):(⟨x.name,x.typ,x.ttl,x.data⟩:Rec)=x:=rfl
theorem Dy8 (x:Dat):PV.flat x.pv=true:=rfl
theorem Dy7 (x:Rec):PV.flat x.pv=true:=rfl
theorem Bw4 (x:Dat):PV.flat (Jq x)=true:=rfl
theorem ff (x:Rec):I8 16 [x.pv]=some (Af [x]):=rfl
theorem Dw6 (l:List Rec):Fs (Af l)=some (.i .i64 (l.length:Int)):=by simp [Af,Fs]
theorem M7 (l:List Rec) (k:IntKind) (z:Int) (h:0≤z):G9 16 (Af l) (.i k z)=(l[z.toNat]?).map Rec.pv:=by simp [Af,V0 _ _ _ _ h]
theorem Nx (l:List Rec) (x:Rec) (h:l.length+1≤1073741824):Hd 16 (Af l) (Af [x])=some (Af (l++[x])):=by
 have:=Sz 16 (l.map Rec.pv) [x.pv] (by simpa using h)
 simpa [Af] using this
theorem Ps (l m:List Rec) (h:l.length+m.length≤1073741824):Hd 16 (Af l) (Af m)=some (Af (l++m)):=by
 have:=Sz 16 (l.map Rec.pv) (m.map Rec.pv) (by simpa using h)
 simpa [Af] using this
theorem oj:PV.l 16 []=Af []:=rfl
theorem Lw (l:List Rec) (k k':IntKind) (a b:Int) (h1:0≤a) (h2:a≤b) (h3:b≤(l.length:Int)):Hm 16 (Af l) (.i k a) (.i k' b)=some (Af ((l.take b.toNat).drop a.toNat)):=by
 have:=As9 16 (l.map Rec.pv) k k' a b h1 h2 (by simpa using h3)
 simpa [Af] using this
theorem Et7 (l:List Rec) (k:IntKind) (z:Int) (n:List UInt8) (t u:Int) (v:Bool) (h w:Int) (s1 s2 s3:List UInt8) (a b c d e f g:Int) (h0:0≤z) (h1:z<(l.length:Int)):
  U1 16 0 [.s n, .i .i64 t, .i .i64 u, .b v, .i .u64 h, .i .u64 w, .s s1, .s s2, .s s3, .i .i64 a, .i .i64 b, .i .i64 c, .i .i64 d, .i .i64 e, .i .i64 f, .i .u64 g] (Af l) (.i k z)=some (Af (l.set z.toNat ⟨n,t,u,⟨v,h,w,s1,s2,s3,a,b,c,d,e,f,g⟩⟩)):=by
 have h2:z.toNat<l.length:=by omega
 have h3:(l.map Rec.pv)[z.toNat]? =some (l[z.toNat].pv):=by simp [h2]
 simp only [U1,Af,h0,h3,and_self,if_true,Ay]
 have h4:Qw (l[z.toNat].pv) 0 [.s n, .i .i64 t, .i .i64 u, .b v, .i .u64 h, .i .u64 w, .s s1, .s s2, .s s3, .i .i64 a, .i .i64 b, .i .i64 c, .i .i64 d, .i .i64 e, .i .i64 f, .i .u64 g]=some (Rec.pv ⟨n,t,u,⟨v,h,w,s1,s2,s3,a,b,c,d,e,f,g⟩⟩):=rfl
 rw [h4]
 simp [List.map_set]
theorem Ay8 (l:List Rec):H6 (Af l)=some (Af l):=rfl
theorem Dw5 (l:List (List UInt8)):Fs (Bc l)=some (.i .i64 (l.length:Int)):=by simp [Bc,Fs]
theorem Lz (l:List (List UInt8)) (k:IntKind) (z:Int) (h:0≤z):G9 1 (Bc l) (.i k z)=(l[z.toNat]?).map PV.s:=by simp [Bc,V0 _ _ _ _ h]
theorem Fv2 (x:List UInt8):I8 1 [.s x]=some (Bc [x]):=rfl
theorem Cs8:PV.l 1 []=Bc []:=rfl
theorem Cc5 (l:List (List UInt8)) (x:List UInt8) (h:l.length+1≤1073741824):Hd 1 (Bc l) (Bc [x])=some (Bc (l++[x])):=by
 have:=Sz 1 (l.map PV.s) [.s x] (by simpa using h)
 simpa [Bc] using this
theorem uj (l m:List (List UInt8)) (h:l.length+m.length≤1073741824):Hd 1 (Bc l) (Bc m)=some (Bc (l++m)):=by
 have:=Sz 1 (l.map PV.s) (m.map PV.s) (by simpa using h)
 simpa [Bc] using this
theorem Lv (l:List (List UInt8)) (k k':IntKind) (a b:Int) (h1:0≤a) (h2:a≤b) (h3:b≤(l.length:Int)):Hm 1 (Bc l) (.i k a) (.i k' b)=some (Bc ((l.take b.toNat).drop a.toNat)):=by
 have:=As9 1 (l.map PV.s) k k' a b h1 h2 (by simpa using h3)
 simpa [Bc] using this
theorem Ct7 (l:List (List UInt8)) (k:IntKind) (z:Int) (x:List UInt8) (h0:0≤z) (h1:z<(l.length:Int)):U1 1 0 [.s x] (Bc l) (.i k z)=some (Bc (l.set z.toNat x)):=by
 have h2:z.toNat<l.length:=by omega
 have h3:(l.map PV.s)[z.toNat]? =some (.s l[z.toNat]):=by simp [h2]
 simp only [U1,Bc,h0,h3,and_self,if_true,Ay]
 have h4:Qw (.s l[z.toNat]) 0 [.s x]=some (.s x):=rfl
 rw [h4]
 simp [List.map_set]
theorem n0 (n:Int) (h0:0≤n) (h1:n≤1073741824):Kz 1 (.i .i64 n) (.s [])=some (Bc (List.replicate n.toNat [])):=by
 have h2:n≤(LIM:Int):=by simp only [LIM];omega
 have h3:(PV.s []).cells.length=1:=rfl
 simp only [Kz,h0,h2,h3,and_self,if_true]
 simp [Bc]
theorem Af2 (l:List (List UInt8)):Bm 0 (Bc l)=some (Bc l):=rfl
theorem Af3 (l:List Rec):Bm 0 (Af l)=some (Af l):=rfl
theorem Ay7 (l:List (List UInt8)):H6 (Bc l)=some (Bc l):=rfl
theorem Hj5 (neg:Bool) (x y:Dat):Kj neg true [.b,(.i .u64),(.i .u64), .s, .s, .s,(.i .i64),(.i .i64),(.i .i64),(.i .i64),(.i .i64),(.i .i64),(.i .u64)] x.pv y.pv=some (.b (if neg then decide (x≠y) else decide (x=y))):=by
 have:F5 [.b,(.i .u64),(.i .u64), .s, .s, .s,(.i .i64),(.i .i64),(.i .i64),(.i .i64),(.i .i64),(.i .i64),(.i .u64)] x.cells y.cells=some (decide (x=y)):=by
  simp only [Dat.cells,F5,Cf6,if_true,Option.some.injEq]
  rw [Cf]
  cases x;cases y;simp
 simp only [Kj,Dat.pv,this,A0]
 cases neg<;>simp
theorem Hj4 (neg:Bool) (x y:Rec):Kj neg true [.s,(.i .i64),(.i .i64), .b,(.i .u64),(.i .u64), .s, .s, .s,(.i .i64),(.i .i64),(.i .i64),(.i .i64),(.i .i64),(.i .i64),(.i .u64)] x.pv y.pv=some (.b (if neg then decide (x≠y) else decide (x=y))):=by
 have:F5 [.s,(.i .i64),(.i .i64), .b,(.i .u64),(.i .u64), .s, .s, .s,(.i .i64),(.i .i64),(.i .i64),(.i .i64),(.i .i64),(.i .i64),(.i .u64)] x.cells y.cells=some (decide (x=y)):=by
  simp only [Rec.cells,Dat.cells,F5,Cf6,if_true,Option.some.injEq]
  rw [Cf]
  rcases x with ⟨_,_,_,⟨⟩⟩;rcases y with ⟨_,_,_,⟨⟩⟩;simp [and_assoc]
 simp only [Kj,Rec.pv,this,A0]
 cases neg<;>simp
set_option linter.defProp false in
def EVP:=(And.intro @Ct7 (And.intro @n0 (And.intro @Et7 (And.intro @Es7 (And.intro @Fw8 (And.intro @Xt (And.intro @X0 (And.intro @Ag3 (And.intro @Ag2 (And.intro @Ag1 (And.intro @Ag0 (And.intro @Af9 (And.intro @Af8 (And.intro @Af7 (And.intro @Af6 (And.intro @Af5 (And.intro @Af4 (And.intro @w7 (And.intro @w6 (And.intro @wt (And.intro @wn (And.intro @wm (And.intro @wl (And.intro @Es9 (And.intro @X1 (And.intro @Fx0 (And.intro @Al3 (And.intro @Al2 (And.intro @Al1 (And.intro @Al0 (And.intro @Ah9 (And.intro @Ah8 (And.intro @Ah7 (And.intro @Ah6 (And.intro @Ah5 (And.intro @Ah4 (And.intro @xg (And.intro @xf (And.intro @xz (And.intro @Dz1 (And.intro @Cs6 (And.intro @xm (And.intro @xl (And.intro @xh (And.intro @Dz0 (And.intro @Cs4 (And.intro @wh (And.intro @wg (And.intro @V3 (And.intro @Dy4 (And.intro @E8 (And.intro @Fz0 (And.intro @Dy8 (And.intro @Dy7 (And.intro @Bw4 (And.intro @ff (And.intro @Dw6 (And.intro @M7 (And.intro @Nx (And.intro @Ps (And.intro @oj (And.intro @Lw (And.intro @Ay8 (And.intro @Dw5 (And.intro @Lz (And.intro @Fv2 (And.intro @Cs8 (And.intro @Cc5 (And.intro @uj (And.intro @Lv (And.intro @Af2 (And.intro @Af3 (And.intro @Ay7 (And.intro @Hj5 @Hj4))))))))))))))))))))))))))))))))))))))))))))))))))))))))))))))))))))))))))
end Go.X
