/- The program's data. -/
import Derived.Test.YteiaijjlmnacpaaGreatDoorZoneSerialsG6
open Bool renaming eq_iff_iff→Cf
open Option renaming bind_some→Ax,map_some→A0
set_option maxHeartbeats 1000000
set_option linter.unusedVariables false
set_option linter.unusedSimpArgs false
namespace Go.X
open Go
structure Dat where
 v6:Bool
 hi:Int
 lo:Int
 host:List UInt8
 mail:List UInt8
 text:List UInt8
 a:Int
 b:Int
 c:Int
 d:Int
 e:Int
 f:Int
 bits:Int
 deriving DecidableEq
structure Rec where
 name:List UInt8
 typ:Int
 ttl:Int
 data:Dat
 deriving DecidableEq
structure Zone where
 origin:List UInt8
 recs:List Rec
 deriving DecidableEq
def af (x:Int):Prop:= -9223372036854775808≤x∧x≤9223372036854775807
def Gv8 (x:Int):Prop:=0≤x∧x≤18446744073709551615
def Pp (x:List UInt8):Prop:=x.length≤9223372036854775807
structure Dat.wf (x:Dat):Prop where
 hi:Gv8 x.hi
 lo:Gv8 x.lo
 host:Pp x.host
 mail:Pp x.mail
 text:Pp x.text
 a:af x.a
 b:af x.b
 c:af x.c
 d:af x.d
 e:af x.e
 f:af x.f
 bits:Gv8 x.bits
structure Rec.wf (r:Rec):Prop where
 name:Pp r.name
 typ:af r.typ
 ttl:af r.ttl
 data:r.data.wf
def Ad1 (l:List Rec):Prop:=l.length≤9223372036854775807∧∀r∈l,r.wf
structure Zone.wf (z:Zone):Prop where
 origin:Pp z.origin
 recs:Ad1 z.recs
def Dat.cells (x:Dat):List PV:=[.b x.v6, .i .u64 x.hi, .i .u64 x.lo, .s x.host, .s x.mail, .s x.text, .i .i64 x.a, .i .i64 x.b, .i .i64 x.c, .i .i64 x.d, .i .i64 x.e, .i .i64 x.f, .i .u64 x.bits]
def Dat.pv (x:Dat):PV:= .a x.cells
def Rec.cells (x:Rec):List PV:= .s x.name:: .i .i64 x.typ:: .i .i64 x.ttl::x.data.cells
def Rec.pv (x:Rec):PV:= .a x.cells
def Af (l:List Rec):PV:= .l 16 (l.map Rec.pv)
def Zone.pv (x:Zone):PV:= .a [.s x.origin,Af x.recs]
def Bd (l:List (List UInt8)):PV:= .l 1 (l.map .s)
def Jz (x:Dat):PV:= .a [.b x.v6, .i .u64 x.hi, .i .u64 x.lo]
theorem Fk5 (r:Rec):Jj 0 16 r.pv=some r.pv:=rfl
theorem Fz6 (r:Rec):Rn 16 r.pv=some r.pv:=rfl
theorem X7 (r:Rec):Jj 3 13 r.pv=some r.data.pv:=rfl
theorem X8 (r:Rec):Jj 3 3 r.pv=some (Jz r.data):=rfl
theorem Al6 (r:Rec):Bm 0 r.pv=some (.s r.name):=rfl
theorem Al5 (r:Rec):Bm 1 r.pv=some (.i .i64 r.typ):=rfl
theorem Al4 (r:Rec):Bm 2 r.pv=some (.i .i64 r.ttl):=rfl
theorem Al3 (r:Rec):Bm 3 r.pv=some (.b r.data.v6):=rfl
theorem Al2 (r:Rec):Bm 4 r.pv=some (.i .u64 r.data.hi):=rfl
theorem Al1 (r:Rec):Bm 5 r.pv=some (.i .u64 r.data.lo):=rfl
theorem Al0 (r:Rec):Bm 6 r.pv=some (.s r.data.host):=rfl
theorem Ah9 (r:Rec):Bm 7 r.pv=some (.s r.data.mail):=rfl
theorem Ah8 (r:Rec):Bm 8 r.pv=some (.s r.data.text):=rfl
theorem Ah7 (r:Rec):Bm 9 r.pv=some (.i .i64 r.data.a):=rfl
theorem yq (r:Rec):Bm 10 r.pv=some (.i .i64 r.data.b):=rfl
theorem yj (r:Rec):Bm 11 r.pv=some (.i .i64 r.data.c):=rfl
theorem xr (r:Rec):Bm 12 r.pv=some (.i .i64 r.data.d):=rfl
theorem xp (r:Rec):Bm 13 r.pv=some (.i .i64 r.data.e):=rfl
theorem xn (r:Rec):Bm 14 r.pv=some (.i .i64 r.data.f):=rfl
theorem xm (r:Rec):Bm 15 r.pv=some (.i .u64 r.data.bits):=rfl
theorem Fk7 (r:Dat):Jj 0 13 r.pv=some r.pv:=rfl
theorem X9 (r:Dat):Jj 0 3 r.pv=some (Jz r):=rfl
theorem Fz8 (r:Dat):Rn 13 r.pv=some r.pv:=rfl
theorem An6 (r:Dat):Bm 0 r.pv=some (.b r.v6):=rfl
theorem An5 (r:Dat):Bm 1 r.pv=some (.i .u64 r.hi):=rfl
theorem An4 (r:Dat):Bm 2 r.pv=some (.i .u64 r.lo):=rfl
theorem An3 (r:Dat):Bm 3 r.pv=some (.s r.host):=rfl
theorem An2 (r:Dat):Bm 4 r.pv=some (.s r.mail):=rfl
theorem An1 (r:Dat):Bm 5 r.pv=some (.s r.text):=rfl
theorem An0 (r:Dat):Bm 6 r.pv=some (.i .i64 r.a):=rfl
theorem Am9 (r:Dat):Bm 7 r.pv=some (.i .i64 r.b):=rfl
theorem Am8 (r:Dat):Bm 8 r.pv=some (.i .i64 r.c):=rfl
theorem Am7 (r:Dat):Bm 9 r.pv=some (.i .i64 r.d):=rfl
theorem yg (r:Dat):Bm 10 r.pv=some (.i .i64 r.e):=rfl
theorem yf (r:Dat):Bm 11 r.pv=some (.i .i64 r.f):=rfl
theorem yd (r:Dat):Bm 12 r.pv=some (.i .u64 r.bits):=rfl
theorem Dc2 (r:Dat):Rn 3 (Jz r)=some (Jz r):=rfl
theorem Dj7 (r:Dat):Jj 0 3 (Jz r)=some (Jz r):=rfl
theorem ym (r:Dat):Bm 0 (Jz r)=some (.b r.v6):=rfl
theorem yl (r:Dat):Bm 1 (Jz r)=some (.i .u64 r.hi):=rfl
theorem yh (r:Dat):Bm 2 (Jz r)=some (.i .u64 r.lo):=rfl
theorem Dc1 (r:Zone):Rn 2 r.pv=some r.pv:=rfl
theorem Dj5 (r:Zone):Jj 0 2 r.pv=some r.pv:=rfl
theorem xl (r:Zone):Bm 0 r.pv=some (.s r.origin):=rfl
theorem xh (r:Zone):Bm 1 r.pv=some (Af r.recs):=rfl
theorem Wq (v:Bool) (h l:Int) (s1 s2 s3:List UInt8) (a b c d e f g:Int):PV.a [.b v, .i .u64 h, .i .u64 l, .s s1, .s s2, .s s3, .i .i64 a, .i .i64 b, .i .i64 c, .i .i64 d, .i .i64 e, .i .i64 f, .i .u64 g]=Dat.pv ⟨v,h,l,s1,s2,s3,a,b,c,d,e,f,g⟩:=rfl
theorem Db5 (n:List UInt8) (t u:Int) (v:Bool) (h l:Int) (s1 s2 s3:List UInt8) (a b c d e f g:Int):PV.a [.s n, .i .i64 t, .i .i64 u, .b v, .i .u64 h, .i .u64 l, .s s1, .s s2, .s s3, .i .i64 a, .i .i64 b, .i .i64 c, .i .i64 d, .i .i64 e, .i .i64 f, .i .u64 g]=Rec.pv ⟨n,t,u,⟨v,h,l,s1,s2,s3,a,b,c,d,e,f,g⟩⟩:=rfl
theorem Fq (x:Dat):(⟨x.v6,x.hi,x.lo,x.host,x.mail,x.text,x.a,x.b,x.c,x.d,x.e,x.f,x.bits⟩:Dat)=x:=rfl
theorem Fc8 (x:Rec):(⟨x.name,x.typ,x.ttl,x.data⟩:Rec)=x:=rfl
theorem Db9 (x:Dat):PV.flat x.pv=true:=rfl
theorem Db8 (x:Rec):PV.flat x.pv=true:=rfl
theorem By6 (x:Dat):PV.flat (Jz x)=true:=rfl
theorem Fy0 (x:Rec):Jq 16 [x.pv]=some (Af [x]):=rfl
theorem Dy7 (l:List Rec):Gq (Af l)=some (.i .i64 (l.length:Int)):=by simp [Af,Gq]
theorem Nw (l:List Rec) (k:IntKind) (z:Int) (h:0≤z):Hh 16 (Af l) (.i k z)=(l[z.toNat]?).map Rec.pv:=by simp [Af,ab _ _ _ _ h]
theorem cq (l:List Rec) (x:Rec) (h:l.length+1≤1073741824):H2 16 (Af l) (Af [x])=some (Af (l++[x])):=by
 have:=S1 16 (l.map Rec.pv) [x.pv] (by simpa using h)
 simpa [Af] using this
theorem W7 (l m:List Rec) (h:l.length+m.length≤1073741824):H2 16 (Af l) (Af m)=some (Af (l++m)):=by
 have:=S1 16 (l.map Rec.pv) (m.map Rec.pv) (by simpa using h)
 simpa [Af] using this
theorem Dq6:PV.l 16 []=Af []:=rfl
theorem Lb (l:List Rec) (k k':IntKind) (a b:Int) (h1:0≤a) (h2:a≤b) (h3:b≤(l.length:Int)):Ht 16 (Af l) (.i k a) (.i k' b)=some (Af ((l.take b.toNat).drop a.toNat)):=by
 have:=Bk0 16 (l.map Rec.pv) k k' a b h1 h2 (by simpa using h3)
 simpa [Af] using this
theorem Fq4 (l:List Rec) (k:IntKind) (z:Int) (n:List UInt8) (t u:Int) (v:Bool) (h w:Int) (s1 s2 s3:List UInt8) (a b c d e f g:Int) (h0:0≤z) (h1:z<(l.length:Int)):
  Qm 16 0 [.s n, .i .i64 t, .i .i64 u, .b v, .i .u64 h, .i .u64 w, .s s1, .s s2, .s s3, .i .i64 a, .i .i64 b, .i .i64 c, .i .i64 d, .i .i64 e, .i .i64 f, .i .u64 g] (Af l) (.i k z)=some (Af (l.set z.toNat ⟨n,t,u,⟨v,h,w,s1,s2,s3,a,b,c,d,e,f,g⟩⟩)):=by
 have h2:z.toNat<l.length:=by omega
 have h3:(l.map Rec.pv)[z.toNat]? =some (l[z.toNat].pv):=by simp [h2]
 simp only [Qm,Af,h0,h3,and_self,if_true,Ax]
 have h4:N6 (l[z.toNat].pv) 0 [.s n, .i .i64 t, .i .i64 u, .b v, .i .u64 h, .i .u64 w, .s s1, .s s2, .s s3, .i .i64 a, .i .i64 b, .i .i64 c, .i .i64 d, .i .i64 e, .i .i64 f, .i .u64 g]=some (Rec.pv ⟨n,t,u,⟨v,h,w,s1,s2,s3,a,b,c,d,e,f,g⟩⟩):=rfl
 rw [h4]
 simp [List.map_set]
theorem Ac1 (l:List Rec):Ik (Af l)=some (Af l):=rfl
theorem Dy6 (l:List (List UInt8)):Gq (Bd l)=some (.i .i64 (l.length:Int)):=by simp [Bd,Gq]
theorem Lf (l:List (List UInt8)) (k:IntKind) (z:Int) (h:0≤z):Hh 1 (Bd l) (.i k z)=(l[z.toNat]?).map PV.s:=by simp [Bd,ab _ _ _ _ h]
theorem Fx9 (x:List UInt8):Jq 1 [.s x]=some (Bd [x]):=rfl
theorem Dj9:PV.l 1 []=Bd []:=rfl
theorem Cf8 (l:List (List UInt8)) (x:List UInt8) (h:l.length+1≤1073741824):H2 1 (Bd l) (Bd [x])=some (Bd (l++[x])):=by
 have:=S1 1 (l.map PV.s) [.s x] (by simpa using h)
 simpa [Bd] using this
theorem u5 (l m:List (List UInt8)) (h:l.length+m.length≤1073741824):H2 1 (Bd l) (Bd m)=some (Bd (l++m)):=by
 have:=S1 1 (l.map PV.s) (m.map PV.s) (by simpa using h)
 simpa [Bd] using this
theorem Lz (l:List (List UInt8)) (k k':IntKind) (a b:Int) (h1:0≤a) (h2:a≤b) (h3:b≤(l.length:Int)):Ht 1 (Bd l) (.i k a) (.i k' b)=some (Bd ((l.take b.toNat).drop a.toNat)):=by
 have:=Bk0 1 (l.map PV.s) k k' a b h1 h2 (by simpa using h3)
 simpa [Bd] using this
theorem Dk8 (l:List (List UInt8)) (k:IntKind) (z:Int) (x:List UInt8) (h0:0≤z) (h1:z<(l.length:Int)):Qm 1 0 [.s x] (Bd l) (.i k z)=some (Bd (l.set z.toNat x)):=by
 have h2:z.toNat<l.length:=by omega
 have h3:(l.map PV.s)[z.toNat]? =some (.s l[z.toNat]):=by simp [h2]
 simp only [Qm,Bd,h0,h3,and_self,if_true,Ax]
 have h4:N6 (.s l[z.toNat]) 0 [.s x]=some (.s x):=rfl
 rw [h4]
 simp [List.map_set]
theorem og (n:Int) (h0:0≤n) (h1:n≤1073741824):Kf 1 (.i .i64 n) (.s [])=some (Bd (List.replicate n.toNat [])):=by
 have h2:n≤(LIM:Int):=by simp only [LIM];omega
 have h3:(PV.s []).cells.length=1:=rfl
 simp only [Kf,h0,h2,h3,and_self,if_true]
 simp [Bd]
theorem Ah5 (l:List (List UInt8)):Bm 0 (Bd l)=some (Bd l):=rfl
theorem Ah6 (l:List Rec):Bm 0 (Af l)=some (Af l):=rfl
theorem Ac0 (l:List (List UInt8)):Ik (Bd l)=some (Bd l):=rfl
theorem Hv0 (neg:Bool) (x y:Dat):Kv neg true [.b,(.i .u64),(.i .u64), .s, .s, .s,(.i .i64),(.i .i64),(.i .i64),(.i .i64),(.i .i64),(.i .i64),(.i .u64)] x.pv y.pv=some (.b (if neg then decide (x≠y) else decide (x=y))):=by
 have:F6 [.b,(.i .u64),(.i .u64), .s, .s, .s,(.i .i64),(.i .i64),(.i .i64),(.i .i64),(.i .i64),(.i .i64),(.i .u64)] x.cells y.cells=some (decide (x=y)):=by
  simp only [Dat.cells,F6,Ch8,if_true,Option.some.injEq]
  rw [Cf]
  cases x;cases y;simp
 simp only [Kv,Dat.pv,this,A0]
 cases neg<;>simp
theorem Hq9 (neg:Bool) (x y:Rec):Kv neg true [.s,(.i .i64),(.i .i64), .b,(.i .u64),(.i .u64), .s, .s, .s,(.i .i64),(.i .i64),(.i .i64),(.i .i64),(.i .i64),(.i .i64),(.i .u64)] x.pv y.pv=some (.b (if neg then decide (x≠y) else decide (x=y))):=by
 have:F6 [.s,(.i .i64),(.i .i64), .b,(.i .u64),(.i .u64), .s, .s, .s,(.i .i64),(.i .i64),(.i .i64),(.i .i64),(.i .i64),(.i .i64),(.i .u64)] x.cells y.cells=some (decide (x=y)):=by
  simp only [Rec.cells,Dat.cells,F6,Ch8,if_true,Option.some.injEq]
  rw [Cf]
  rcases x with ⟨_,_,_,⟨⟩⟩;rcases y with ⟨_,_,_,⟨⟩⟩;simp [and_assoc]
 simp only [Kv,Rec.pv,this,A0]
 cases neg<;>simp
set_option linter.defProp false in
def EVP:=(And.intro @Dk8 (And.intro @og (And.intro @Fq4 (And.intro @Fk5 (And.intro @Fz6 (And.intro @X7 (And.intro @X8 (And.intro @Al6 (And.intro @Al5 (And.intro @Al4 (And.intro @Al3 (And.intro @Al2 (And.intro @Al1 (And.intro @Al0 (And.intro @Ah9 (And.intro @Ah8 (And.intro @Ah7 (And.intro @yq (And.intro @yj (And.intro @xr (And.intro @xp (And.intro @xn (And.intro @xm (And.intro @Fk7 (And.intro @X9 (And.intro @Fz8 (And.intro @An6 (And.intro @An5 (And.intro @An4 (And.intro @An3 (And.intro @An2 (And.intro @An1 (And.intro @An0 (And.intro @Am9 (And.intro @Am8 (And.intro @Am7 (And.intro @yg (And.intro @yf (And.intro @yd (And.intro @Dc2 (And.intro @Dj7 (And.intro @ym (And.intro @yl (And.intro @yh (And.intro @Dc1 (And.intro @Dj5 (And.intro @xl (And.intro @xh (And.intro @Wq (And.intro @Db5 (And.intro @Fq (And.intro @Fc8 (And.intro @Db9 (And.intro @Db8 (And.intro @By6 (And.intro @Fy0 (And.intro @Dy7 (And.intro @Nw (And.intro @cq (And.intro @W7 (And.intro @Dq6 (And.intro @Lb (And.intro @Ac1 (And.intro @Dy6 (And.intro @Lf (And.intro @Fx9 (And.intro @Dj9 (And.intro @Cf8 (And.intro @u5 (And.intro @Lz (And.intro @Ah5 (And.intro @Ah6 (And.intro @Ac0 (And.intro @Hv0 @Hq9))))))))))))))))))))))))))))))))))))))))))))))))))))))))))))))))))))))))))
end Go.X
