/- The program's data. -/
import Derived.Test.YtfkfaliipkpcdaaGreatDoorLookupNothingG6
open Bool renaming eq_iff_iff→Cn
open Option renaming bind_some→Ay,map_some→A4
open Option.some renaming injEq→Ak
set_option maxHeartbeats 1000000
set_option linter.unusedVariables false
set_option linter.unusedSimpArgs false
namespace Go.X
open Go
structure Dat where
 v6:Bool
 hi:Int
 lo:Int
 host:List UInt8
 mail:List UInt8
 text:List UInt8
 a:Int
 b:Int
 c:Int
 d:Int
 e:Int
 f:Int
 bits:Int
 deriving DecidableEq
structure Rec where
 name:List UInt8
 typ:Int
 ttl:Int
 data:Dat
 deriving DecidableEq
structure Zone where
 origin:List UInt8
 recs:List Rec
 deriving DecidableEq
def fx (x:Int):Prop:= -9223372036854775808≤x∧x≤9223372036854775807
def Gd7 (x:Int):Prop:=0≤x∧x≤18446744073709551615
def Yx (x:List UInt8):Prop:=x.length≤9223372036854775807
structure Dat.wf (x:Dat):Prop where
 hi:Gd7 x.hi
 lo:Gd7 x.lo
 host:Yx x.host
 mail:Yx x.mail
 text:Yx x.text
 a:fx x.a
 b:fx x.b
 c:fx x.c
 d:fx x.d
 e:fx x.e
 f:fx x.f
 bits:Gd7 x.bits
structure Rec.wf (r:Rec):Prop where
 name:Yx r.name
 typ:fx r.typ
 ttl:fx r.ttl
 data:r.data.wf
def Ar8 (l:List Rec):Prop:=l.length≤9223372036854775807∧∀r∈l,r.wf
structure Zone.wf (z:Zone):Prop where
 origin:Yx z.origin
 recs:Ar8 z.recs
def Dat.cells (x:Dat):List PV:=[.b x.v6, .i .u64 x.hi, .i .u64 x.lo, .s x.host, .s x.mail, .s x.text, .i .i64 x.a, .i .i64 x.b, .i .i64 x.c, .i .i64 x.d, .i .i64 x.e, .i .i64 x.f, .i .u64 x.bits]
def Dat.pv (x:Dat):PV:= .a x.cells
def Rec.cells (x:Rec):List PV:= .s x.name:: .i .i64 x.typ:: .i .i64 x.ttl::x.data.cells
def Rec.pv (x:Rec):PV:= .a x.cells
def Ah (l:List Rec):PV:= .l 16 (l.map Rec.pv)
def Zone.pv (x:Zone):PV:= .a [.s x.origin,Ah x.recs]
def Bn (l:List (List UInt8)):PV:= .l 1 (l.map .s)
def Jd (x:Dat):PV:= .a [.b x.v6, .i .u64 x.hi, .i .u64 x.lo]
theorem Fh8 (r:Rec):Jj 0 16 r.pv=some r.pv:=rfl
theorem Ft7 (r:Rec):Qw 16 r.pv=some r.pv:=rfl
theorem Y9 (r:Rec):Jj 3 13 r.pv=some r.data.pv:=rfl
theorem Zj (r:Rec):Jj 3 3 r.pv=some (Jd r.data):=rfl
theorem Bq9 (r:Rec):Br 0 r.pv=some (.s r.name):=rfl
theorem Bq8 (r:Rec):Br 1 r.pv=some (.i .i64 r.typ):=rfl
theorem Bq7 (r:Rec):Br 2 r.pv=some (.i .i64 r.ttl):=rfl
theorem Bq6 (r:Rec):Br 3 r.pv=some (.b r.data.v6):=rfl
theorem Bq5 (r:Rec):Br 4 r.pv=some (.i .u64 r.data.hi):=rfl
theorem Bq4 (r:Rec):Br 5 r.pv=some (.i .u64 r.data.lo):=rfl
theorem Bq3 (r:Rec):Br 6 r.pv=some (.s r.data.host):=rfl
theorem Bq2 (r:Rec):Br 7 r.pv=some (.s r.data.mail):=rfl
theorem Bq1 (r:Rec):Br 8 r.pv=some (.s r.data.text):=rfl
theorem Bq0 (r:Rec):Br 9 r.pv=some (.i .i64 r.data.a):=rfl
theorem Av6 (r:Rec):Br 10 r.pv=some (.i .i64 r.data.b):=rfl
theorem Av5 (r:Rec):Br 11 r.pv=some (.i .i64 r.data.c):=rfl
theorem Av4 (r:Rec):Br 12 r.pv=some (.i .i64 r.data.d):=rfl
theorem Av3 (r:Rec):Br 13 r.pv=some (.i .i64 r.data.e):=rfl
theorem Av2 (r:Rec):Br 14 r.pv=some (.i .i64 r.data.f):=rfl
theorem Av1 (r:Rec):Br 15 r.pv=some (.i .u64 r.data.bits):=rfl
theorem Fl0 (r:Dat):Jj 0 13 r.pv=some r.pv:=rfl
theorem Zk (r:Dat):Jj 0 3 r.pv=some (Jd r):=rfl
theorem Ft9 (r:Dat):Qw 13 r.pv=some r.pv:=rfl
theorem Bw9 (r:Dat):Br 0 r.pv=some (.b r.v6):=rfl
theorem Bw8 (r:Dat):Br 1 r.pv=some (.i .u64 r.hi):=rfl
theorem Bw7 (r:Dat):Br 2 r.pv=some (.i .u64 r.lo):=rfl
theorem Bw6 (r:Dat):Br 3 r.pv=some (.s r.host):=rfl
theorem Bw5 (r:Dat):Br 4 r.pv=some (.s r.mail):=rfl
theorem Bw4 (r:Dat):Br 5 r.pv=some (.s r.text):=rfl
theorem Bw3 (r:Dat):Br 6 r.pv=some (.i .i64 r.a):=rfl
theorem Bw2 (r:Dat):Br 7 r.pv=some (.i .i64 r.b):=rfl
theorem Bw1 (r:Dat):Br 8 r.pv=some (.i .i64 r.c):=rfl
theorem Bw0 (r:Dat):Br 9 r.pv=some (.i .i64 r.d):=rfl
theorem Aw6 (r:Dat):Br 10 r.pv=some (.i .i64 r.e):=rfl
theorem Aw5 (r:Dat):Br 11 r.pv=some (.i .i64 r.f):=rfl
theorem Aw4 (r:Dat):Br 12 r.pv=some (.i .u64 r.bits):=rfl
theorem Eq7 (r:Dat):Qw 3 (Jd r)=some (Jd r):=rfl
theorem Dl9 (r:Dat):Jj 0 3 (Jd r)=some (Jd r):=rfl
theorem Aw9 (r:Dat):Br 0 (Jd r)=some (.b r.v6):=rfl
theorem Aw8 (r:Dat):Br 1 (Jd r)=some (.i .u64 r.hi):=rfl
theorem Aw7 (r:Dat):Br 2 (Jd r)=some (.i .u64 r.lo):=rfl
theorem Eq6 (r:Zone):Qw 2 r.pv=some r.pv:=rfl
theorem Dl7 (r:Zone):Jj 0 2 r.pv=some r.pv:=rfl
theorem Av0 (r:Zone):Br 0 r.pv=some (.s r.origin):=rfl
theorem Aq9 (r:Zone):Br 1 r.pv=some (Ah r.recs):=rfl
theorem Xk (v:Bool) (h l:Int) (s1 s2 s3:List UInt8) (a b c d e f g:Int):PV.a [.b v, .i .u64 h, .i .u64 l, .s s1, .s s2, .s s3, .i .i64 a, .i .i64 b, .i .i64 c, .i .i64 d, .i .i64 e, .i .i64 f, .i .u64 g]=Dat.pv ⟨v,h,l,s1,s2,s3,a,b,c,d,e,f,g⟩:=rfl
theorem Eq0 (n:List UInt8) (t u:Int) (v:Bool) (h l:Int) (s1 s2 s3:List UInt8) (a b c d e f g:Int):PV.a [.s n, .i .i64 t, .i .i64 u, .b v, .i .u64 h, .i .u64 l, .s s1, .s s2, .s s3, .i .i64 a, .i .i64 b, .i .i64 c, .i .i64 d, .i .i64 e, .i .i64 f, .i .u64 g]=Rec.pv ⟨n,t,u,⟨v,h,l,s1,s2,s3,a,b,c,d,e,f,g⟩⟩:=rfl
theorem E5 (x:Dat):(⟨x.v6,x.hi,x.lo,x.host,x.mail,x.text,x.a,x.b,x.c,x.d,x.e,x.f,x.bits⟩:Dat)=x:=rfl
theorem Gk2 (x:Rec):(⟨x.name,x.typ,x.ttl,x.data⟩:Rec)=x:=rfl
theorem Eq4 (x:Dat):PV.flat x.pv=true:=rfl
theorem Eq3 (x:Rec):PV.flat x.pv=true:=rfl
theorem Bm9 (x:Dat):PV.flat (Jd x)=true:=rfl
theorem Fs0 (x:Rec):J2 16 [x.pv]=some (Ah [x]):=rfl
theorem Dt9 (l:List Rec):Gw (Ah l)=some (.i .i64 (l.length:Int)):=by simp [Ah,Gw]
theorem J3 (l:List Rec) (k:IntKind) (z:Int) (h:0≤z):Hj 16 (Ah l) (.i k z)=(l[z.toNat]?).map Rec.pv:=by simp [Ah,dq _ _ _ _ h]
theorem Dy2 (l:List Rec) (x:Rec) (h:l.length+1≤1073741824):H4 16 (Ah l) (Ah [x])=some (Ah (l++[x])):=by have:=Tp 16 (l.map Rec.pv) [x.pv] (by simpa using h);simpa [Ah] using this
theorem Q3 (l m:List Rec) (h:l.length+m.length≤1073741824):H4 16 (Ah l) (Ah m)=some (Ah (l++m)):=by have:=Tp 16 (l.map Rec.pv) (m.map Rec.pv) (by simpa using h);simpa [Ah] using this
theorem Dn7:PV.l 16 []=Ah []:=rfl
theorem Gt (l:List Rec) (k k':IntKind) (a b:Int) (h1:0≤a) (h2:a≤b) (h3:b≤(l.length:Int)):G0 16 (Ah l) (.i k a) (.i k' b)=some (Ah ((l.take b.toNat).drop a.toNat)):=by have:=Bd3 16 (l.map Rec.pv) k k' a b h1 h2 (by simpa using h3);simpa [Ah] using this
theorem Fm1 (l:List Rec) (k:IntKind) (z:Int) (n:List UInt8) (t u:Int) (v:Bool) (h w:Int) (s1 s2 s3:List UInt8) (a b c d e f g:Int) (h0:0≤z) (h1:z<(l.length:Int)):
  Qk 16 0 [.s n, .i .i64 t, .i .i64 u, .b v, .i .u64 h, .i .u64 w, .s s1, .s s2, .s s3, .i .i64 a, .i .i64 b, .i .i64 c, .i .i64 d, .i .i64 e, .i .i64 f, .i .u64 g] (Ah l) (.i k z)=some (Ah (l.set z.toNat ⟨n,t,u,⟨v,h,w,s1,s2,s3,a,b,c,d,e,f,g⟩⟩)):=by
 have h2:z.toNat<l.length:=by omega
 have h3:(l.map Rec.pv)[z.toNat]? =some (l[z.toNat].pv):=by simp [h2]
 simp only [Qk,Ah,h0,h3,and_self,if_true,Ay];have h4:O5 (l[z.toNat].pv) 0 [.s n, .i .i64 t, .i .i64 u, .b v, .i .u64 h, .i .u64 w, .s s1, .s s2, .s s3, .i .i64 a, .i .i64 b, .i .i64 c, .i .i64 d, .i .i64 e, .i .i64 f, .i .u64 g]=some (Rec.pv ⟨n,t,u,⟨v,h,w,s1,s2,s3,a,b,c,d,e,f,g⟩⟩):=rfl;rw [h4];simp [List.map_set]
theorem Ap5 (l:List Rec):Ix (Ah l)=some (Ah l):=rfl
theorem Dt8 (l:List (List UInt8)):Gw (Bn l)=some (.i .i64 (l.length:Int)):=by simp [Bn,Gw]
theorem L2 (l:List (List UInt8)) (k:IntKind) (z:Int) (h:0≤z):Hj 1 (Bn l) (.i k z)=(l[z.toNat]?).map PV.s:=by simp [Bn,dq _ _ _ _ h]
theorem Fr9 (x:List UInt8):J2 1 [.s x]=some (Bn [x]):=rfl
theorem Dm2:PV.l 1 []=Bn []:=rfl
theorem Dy1 (l:List (List UInt8)) (x:List UInt8) (h:l.length+1≤1073741824):H4 1 (Bn l) (Bn [x])=some (Bn (l++[x])):=by have:=Tp 1 (l.map PV.s) [.s x] (by simpa using h);simpa [Bn] using this
theorem zy (l m:List (List UInt8)) (h:l.length+m.length≤1073741824):H4 1 (Bn l) (Bn m)=some (Bn (l++m)):=by have:=Tp 1 (l.map PV.s) (m.map PV.s) (by simpa using h);simpa [Bn] using this
theorem Lt (l:List (List UInt8)) (k k':IntKind) (a b:Int) (h1:0≤a) (h2:a≤b) (h3:b≤(l.length:Int)):G0 1 (Bn l) (.i k a) (.i k' b)=some (Bn ((l.take b.toNat).drop a.toNat)):=by have:=Bd3 1 (l.map PV.s) k k' a b h1 h2 (by simpa using h3);simpa [Bn] using this
theorem Dm9 (l:List (List UInt8)) (k:IntKind) (z:Int) (x:List UInt8) (h0:0≤z) (h1:z<(l.length:Int)):Qk 1 0 [.s x] (Bn l) (.i k z)=some (Bn (l.set z.toNat x)):=by
 have h2:z.toNat<l.length:=by omega
 have h3:(l.map PV.s)[z.toNat]? =some (.s l[z.toNat]):=by simp [h2]
 simp only [Qk,Bn,h0,h3,and_self,if_true,Ay];have h4:O5 (.s l[z.toNat]) 0 [.s x]=some (.s x):=rfl;rw [h4];simp [List.map_set]
theorem tq (n:Int) (h0:0≤n) (h1:n≤1073741824):Kg 1 (.i .i64 n) (.s [])=some (Bn (List.replicate n.toNat [])):=by
 have h2:n≤(LIM:Int):=by simp only [LIM];omega
 have h3:(PV.s []).cells.length=1:=rfl;simp only [Kg,h0,h2,h3,and_self,if_true];simp [Bn]
theorem Bk3 (l:List (List UInt8)):Br 0 (Bn l)=some (Bn l):=rfl
theorem Bk9 (l:List Rec):Br 0 (Ah l)=some (Ah l):=rfl
theorem Ap4 (l:List (List UInt8)):Ix (Bn l)=some (Bn l):=rfl
theorem Hp3 (neg:Bool) (x y:Dat):Kh neg true [.b,(.i .u64),(.i .u64), .s, .s, .s,(.i .i64),(.i .i64),(.i .i64),(.i .i64),(.i .i64),(.i .i64),(.i .u64)] x.pv y.pv=some (.b (if neg then decide (x≠y) else decide (x=y))):=by
 have:Gx [.b,(.i .u64),(.i .u64), .s, .s, .s,(.i .i64),(.i .i64),(.i .i64),(.i .i64),(.i .i64),(.i .i64),(.i .u64)] x.cells y.cells=some (decide (x=y)):=by simp only [Dat.cells,Gx,Db1,if_true,Ak];rw [Cn];cases x;cases y;simp
 simp only [Kh,Dat.pv,this,A4];cases neg<;>simp
theorem Hp2 (neg:Bool) (x y:Rec):Kh neg true [.s,(.i .i64),(.i .i64), .b,(.i .u64),(.i .u64), .s, .s, .s,(.i .i64),(.i .i64),(.i .i64),(.i .i64),(.i .i64),(.i .i64),(.i .u64)] x.pv y.pv=some (.b (if neg then decide (x≠y) else decide (x=y))):=by
 have:Gx [.s,(.i .i64),(.i .i64), .b,(.i .u64),(.i .u64), .s, .s, .s,(.i .i64),(.i .i64),(.i .i64),(.i .i64),(.i .i64),(.i .i64),(.i .u64)] x.cells y.cells=some (decide (x=y)):=by simp only [Rec.cells,Dat.cells,Gx,Db1,if_true,Ak];rw [Cn];rcases x with ⟨_,_,_,⟨⟩⟩;rcases y with ⟨_,_,_,⟨⟩⟩;simp [and_assoc]
 simp only [Kh,Rec.pv,this,A4];cases neg<;>simp
set_option linter.defProp false in
def EVP:=(And.intro @Dm9 (And.intro @tq (And.intro @Fm1 (And.intro @Fh8 (And.intro @Ft7 (And.intro @Y9 (And.intro @Zj (And.intro @Bq9 (And.intro @Bq8 (And.intro @Bq7 (And.intro @Bq6 (And.intro @Bq5 (And.intro @Bq4 (And.intro @Bq3 (And.intro @Bq2 (And.intro @Bq1 (And.intro @Bq0 (And.intro @Av6 (And.intro @Av5 (And.intro @Av4 (And.intro @Av3 (And.intro @Av2 (And.intro @Av1 (And.intro @Fl0 (And.intro @Zk (And.intro @Ft9 (And.intro @Bw9 (And.intro @Bw8 (And.intro @Bw7 (And.intro @Bw6 (And.intro @Bw5 (And.intro @Bw4 (And.intro @Bw3 (And.intro @Bw2 (And.intro @Bw1 (And.intro @Bw0 (And.intro @Aw6 (And.intro @Aw5 (And.intro @Aw4 (And.intro @Eq7 (And.intro @Dl9 (And.intro @Aw9 (And.intro @Aw8 (And.intro @Aw7 (And.intro @Eq6 (And.intro @Dl7 (And.intro @Av0 (And.intro @Aq9 (And.intro @Xk (And.intro @Eq0 (And.intro @E5 (And.intro @Gk2 (And.intro @Eq4 (And.intro @Eq3 (And.intro @Bm9 (And.intro @Fs0 (And.intro @Dt9 (And.intro @J3 (And.intro @Dy2 (And.intro @Q3 (And.intro @Dn7 (And.intro @Gt (And.intro @Ap5 (And.intro @Dt8 (And.intro @L2 (And.intro @Fr9 (And.intro @Dm2 (And.intro @Dy1 (And.intro @zy (And.intro @Lt (And.intro @Bk3 (And.intro @Bk9 (And.intro @Ap4 (And.intro @Hp3 @Hp2))))))))))))))))))))))))))))))))))))))))))))))))))))))))))))))))))))))))))
end Go.X
