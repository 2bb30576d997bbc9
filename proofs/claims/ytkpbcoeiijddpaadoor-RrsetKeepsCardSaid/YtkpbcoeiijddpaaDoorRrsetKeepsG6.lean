/- The program's data. -/
import Derived.Test.YtkpbcoeiijddpaaDoorRrsetKeepsG4
open Bool renaming eq_iff_iff→E1
open Option renaming bind_some→Aw,map_some→A3
open Option.some renaming injEq→Ak
set_option maxHeartbeats 1000000
set_option linter.unusedVariables false
set_option linter.unusedSimpArgs false
namespace Go.X
open Go
structure Dat where
 v6:Bool
 hi:Int
 lo:Int
 host:List UInt8
 mail:List UInt8
 text:List UInt8
 a:Int
 b:Int
 c:Int
 d:Int
 e:Int
 f:Int
 bits:Int
 deriving DecidableEq
structure Rec where
 name:List UInt8
 typ:Int
 ttl:Int
 data:Dat
 deriving DecidableEq
structure Zone where
 origin:List UInt8
 recs:List Rec
 deriving DecidableEq
def Xt (x:Int):Prop:= -9223372036854775808≤x∧x≤9223372036854775807
def Cm7 (x:Int):Prop:=0≤x∧x≤18446744073709551615
def Aq0 (x:List UInt8):Prop:=x.length≤9223372036854775807
structure Dat.wf (x:Dat):Prop where
 hi:Cm7 x.hi
 lo:Cm7 x.lo
 host:Aq0 x.host
 mail:Aq0 x.mail
 text:Aq0 x.text
 a:Xt x.a
 b:Xt x.b
 c:Xt x.c
 d:Xt x.d
 e:Xt x.e
 f:Xt x.f
 bits:Cm7 x.bits
structure Rec.wf (r:Rec):Prop where
 name:Aq0 r.name
 typ:Xt r.typ
 ttl:Xt r.ttl
 data:r.data.wf
def Sd (l:List Rec):Prop:=l.length≤9223372036854775807∧∀r∈l,r.wf
structure Zone.wf (z:Zone):Prop where
 origin:Aq0 z.origin
 recs:Sd z.recs
def Dat.cells (x:Dat):List PV:=[.b x.v6, .i .u64 x.hi, .i .u64 x.lo, .s x.host, .s x.mail, .s x.text, .i .i64 x.a, .i .i64 x.b, .i .i64 x.c, .i .i64 x.d, .i .i64 x.e, .i .i64 x.f, .i .u64 x.bits]
def Dat.pv (x:Dat):PV:= .a x.cells
def Rec.cells (x:Rec):List PV:= .s x.name:: .i .i64 x.typ:: .i .i64 x.ttl::x.data.cells
def Rec.pv (x:Rec):PV:= .a x.cells
def Al (l:List Rec):PV:= .l 16 (l.map Rec.pv)
def Zone.pv (x:Zone):PV:= .a [.s x.origin,Al x.recs]
def C6 (l:List (List UInt8)):PV:= .l 1 (l.map .s)
def Hf (x:Dat):PV:= .a [.b x.v6, .i .u64 x.hi, .i .u64 x.lo]
theorem Bt3 (r:Rec):H9 0 16 r.pv=some r.pv:=rfl
theorem Cx7 (r:Rec):Np 16 r.pv=some r.pv:=rfl
theorem R4 (r:Rec):H9 3 13 r.pv=some r.data.pv:=rfl
theorem R5 (r:Rec):H9 3 3 r.pv=some (Hf r.data):=rfl
theorem jb (r:Rec):Bc 0 r.pv=some (.s r.name):=rfl
theorem jz (r:Rec):Bc 1 r.pv=some (.i .i64 r.typ):=rfl
theorem jy (r:Rec):Bc 2 r.pv=some (.i .i64 r.ttl):=rfl
theorem jx (r:Rec):Bc 3 r.pv=some (.b r.data.v6):=rfl
theorem jw (r:Rec):Bc 4 r.pv=some (.i .u64 r.data.hi):=rfl
theorem jv (r:Rec):Bc 5 r.pv=some (.i .u64 r.data.lo):=rfl
theorem jq (r:Rec):Bc 6 r.pv=some (.s r.data.host):=rfl
theorem jk (r:Rec):Bc 7 r.pv=some (.s r.data.mail):=rfl
theorem i9 (r:Rec):Bc 8 r.pv=some (.s r.data.text):=rfl
theorem i8 (r:Rec):Bc 9 r.pv=some (.i .i64 r.data.a):=rfl
theorem Z4 (r:Rec):Bc 10 r.pv=some (.i .i64 r.data.b):=rfl
theorem Z3 (r:Rec):Bc 11 r.pv=some (.i .i64 r.data.c):=rfl
theorem Z2 (r:Rec):Bc 12 r.pv=some (.i .i64 r.data.d):=rfl
theorem Z1 (r:Rec):Bc 13 r.pv=some (.i .i64 r.data.e):=rfl
theorem Z0 (r:Rec):Bc 14 r.pv=some (.i .i64 r.data.f):=rfl
theorem Zt (r:Rec):Bc 15 r.pv=some (.i .u64 r.data.bits):=rfl
theorem Bt5 (r:Dat):H9 0 13 r.pv=some r.pv:=rfl
theorem R6 (r:Dat):H9 0 3 r.pv=some (Hf r):=rfl
theorem Cx9 (r:Dat):Np 13 r.pv=some r.pv:=rfl
theorem kw (r:Dat):Bc 0 r.pv=some (.b r.v6):=rfl
theorem kv (r:Dat):Bc 1 r.pv=some (.i .u64 r.hi):=rfl
theorem kq (r:Dat):Bc 2 r.pv=some (.i .u64 r.lo):=rfl
theorem kj (r:Dat):Bc 3 r.pv=some (.s r.host):=rfl
theorem j9 (r:Dat):Bc 4 r.pv=some (.s r.mail):=rfl
theorem j8 (r:Dat):Bc 5 r.pv=some (.s r.text):=rfl
theorem j7 (r:Dat):Bc 6 r.pv=some (.i .i64 r.a):=rfl
theorem j6 (r:Dat):Bc 7 r.pv=some (.i .i64 r.b):=rfl
theorem j5 (r:Dat):Bc 8 r.pv=some (.i .i64 r.c):=rfl
theorem jt (r:Dat):Bc 9 r.pv=some (.i .i64 r.d):=rfl
theorem ay (r:Dat):Bc 10 r.pv=some (.i .i64 r.e):=rfl
theorem ax (r:Dat):Bc 11 r.pv=some (.i .i64 r.f):=rfl
theorem av (r:Dat):Bc 12 r.pv=some (.i .u64 r.bits):=rfl
theorem Af3 (r:Dat):Np 3 (Hf r)=some (Hf r):=rfl
theorem Ak6 (r:Dat):H9 0 3 (Hf r)=some (Hf r):=rfl
theorem af (r:Dat):Bc 0 (Hf r)=some (.b r.v6):=rfl
theorem ab (r:Dat):Bc 1 (Hf r)=some (.i .u64 r.hi):=rfl
theorem az (r:Dat):Bc 2 (Hf r)=some (.i .u64 r.lo):=rfl
theorem Af2 (r:Zone):Np 2 r.pv=some r.pv:=rfl
theorem Ak4 (r:Zone):H9 0 2 r.pv=some r.pv:=rfl
theorem Zs (r:Zone):Bc 0 r.pv=some (.s r.origin):=rfl
theorem Zr (r:Zone):Bc 1 r.pv=some (Al r.recs):=rfl
theorem Qt (v:Bool) (h l:Int) (s1 s2 s3:List UInt8) (a b c d e f g:Int):PV.a [.b v, .i .u64 h, .i .u64 l, .s s1, .s s2, .s s3, .i .i64 a, .i .i64 b, .i .i64 c, .i .i64 d, .i .i64 e, .i .i64 f, .i .u64 g]=Dat.pv ⟨v,h,l,s1,s2,s3,a,b,c,d,e,f,g⟩:=rfl
theorem Ad6 (n:List UInt8) (t u:Int) (v:Bool) (h l:Int) (s1 s2 s3:List UInt8) (a b c d e f g:Int):PV.a [.s n, .i .i64 t, .i .i64 u, .b v, .i .u64 h, .i .u64 l, .s s1, .s s2, .s s3, .i .i64 a, .i .i64 b, .i .i64 c, .i .i64 d, .i .i64 e, .i .i64 f, .i .u64 g]=Rec.pv ⟨n,t,u,⟨v,h,l,s1,s2,s3,a,b,c,d,e,f,g⟩⟩:=rfl
theorem D9 (x:Dat):(⟨x.v6,x.hi,x.lo,x.host,x.mail,x.text,x.a,x.b,x.c,x.d,x.e,x.f,x.bits⟩:Dat)=x:=rfl
theorem Cz2 (x:Rec):(⟨x.name,x.typ,x.ttl,x.data⟩:Rec)=x:=rfl
theorem Af0 (x:Dat):PV.flat x.pv=true:=rfl
theorem Ad9 (x:Rec):PV.flat x.pv=true:=rfl
theorem oz (x:Dat):PV.flat (Hf x)=true:=rfl
theorem Cw8 (x:Rec):Kc 16 [x.pv]=some (Al [x]):=rfl
theorem Ab8 (l:List Rec):F6 (Al l)=some (.i .i64 (l.length:Int)):=by simp [Al,F6]
theorem Kl (l:List Rec) (k:IntKind) (z:Int) (h:0≤z):Ip 16 (Al l) (.i k z)=(l[z.toNat]?).map Rec.pv:=by simp [Al,ow _ _ _ _ h]
theorem w9 (l:List Rec) (x:Rec) (h:l.length+1≤1073741824):Hc 16 (Al l) (Al [x])=some (Al (l++[x])):=by have:=T6 16 (l.map Rec.pv) [x.pv] (by simpa using h);simpa [Al] using this
theorem Q8 (l m:List Rec) (h:l.length+m.length≤1073741824):Hc 16 (Al l) (Al m)=some (Al (l++m)):=by have:=T6 16 (l.map Rec.pv) (m.map Rec.pv) (by simpa using h);simpa [Al] using this
theorem Av6:PV.l 16 []=Al []:=rfl
theorem Jw (l:List Rec) (k k':IntKind) (a b:Int) (h1:0≤a) (h2:a≤b) (h3:b≤(l.length:Int)):Ht 16 (Al l) (.i k a) (.i k' b)=some (Al ((l.take b.toNat).drop a.toNat)):=by have:=nj 16 (l.map Rec.pv) k k' a b h1 h2 (by simpa using h3);simpa [Al] using this
theorem Cj1 (l:List Rec) (k:IntKind) (z:Int) (n:List UInt8) (t u:Int) (v:Bool) (h w:Int) (s1 s2 s3:List UInt8) (a b c d e f g:Int) (h0:0≤z) (h1:z<(l.length:Int)):
  P6 16 0 [.s n, .i .i64 t, .i .i64 u, .b v, .i .u64 h, .i .u64 w, .s s1, .s s2, .s s3, .i .i64 a, .i .i64 b, .i .i64 c, .i .i64 d, .i .i64 e, .i .i64 f, .i .u64 g] (Al l) (.i k z)=some (Al (l.set z.toNat ⟨n,t,u,⟨v,h,w,s1,s2,s3,a,b,c,d,e,f,g⟩⟩)):=by
 have h2:z.toNat<l.length:=by omega
 have h3:(l.map Rec.pv)[z.toNat]? =some (l[z.toNat].pv):=by simp [h2]
 simp only [P6,Al,h0,h3,and_self,if_true,Aw];have h4:M1 (l[z.toNat].pv) 0 [.s n, .i .i64 t, .i .i64 u, .b v, .i .u64 h, .i .u64 w, .s s1, .s s2, .s s3, .i .i64 a, .i .i64 b, .i .i64 c, .i .i64 d, .i .i64 e, .i .i64 f, .i .u64 g]=some (Rec.pv ⟨n,t,u,⟨v,h,w,s1,s2,s3,a,b,c,d,e,f,g⟩⟩):=rfl;rw [h4];simp [List.map_set]
theorem f4 (l:List Rec):G4 (Al l)=some (Al l):=rfl
theorem Ab7 (l:List (List UInt8)):F6 (C6 l)=some (.i .i64 (l.length:Int)):=by simp [C6,F6]
theorem Ad1 (l:List (List UInt8)) (k:IntKind) (z:Int) (h:0≤z):Ip 1 (C6 l) (.i k z)=(l[z.toNat]?).map PV.s:=by simp [C6,ow _ _ _ _ h]
theorem Cw7 (x:List UInt8):Kc 1 [.s x]=some (C6 [x]):=rfl
theorem Ak9:PV.l 1 []=C6 []:=rfl
theorem w7 (l:List (List UInt8)) (x:List UInt8) (h:l.length+1≤1073741824):Hc 1 (C6 l) (C6 [x])=some (C6 (l++[x])):=by have:=T6 1 (l.map PV.s) [.s x] (by simpa using h);simpa [C6] using this
theorem Ah8 (l m:List (List UInt8)) (h:l.length+m.length≤1073741824):Hc 1 (C6 l) (C6 m)=some (C6 (l++m)):=by have:=T6 1 (l.map PV.s) (m.map PV.s) (by simpa using h);simpa [C6] using this
theorem Ab3 (l:List (List UInt8)) (k k':IntKind) (a b:Int) (h1:0≤a) (h2:a≤b) (h3:b≤(l.length:Int)):Ht 1 (C6 l) (.i k a) (.i k' b)=some (C6 ((l.take b.toNat).drop a.toNat)):=by have:=nj 1 (l.map PV.s) k k' a b h1 h2 (by simpa using h3);simpa [C6] using this
theorem Aq8 (l:List (List UInt8)) (k:IntKind) (z:Int) (x:List UInt8) (h0:0≤z) (h1:z<(l.length:Int)):P6 1 0 [.s x] (C6 l) (.i k z)=some (C6 (l.set z.toNat x)):=by
 have h2:z.toNat<l.length:=by omega
 have h3:(l.map PV.s)[z.toNat]? =some (.s l[z.toNat]):=by simp [h2]
 simp only [P6,C6,h0,h3,and_self,if_true,Aw];have h4:M1 (.s l[z.toNat]) 0 [.s x]=some (.s x):=rfl;rw [h4];simp [List.map_set]
theorem Av4 (n:Int) (h0:0≤n) (h1:n≤1073741824):Kw 1 (.i .i64 n) (.s [])=some (C6 (List.replicate n.toNat [])):=by
 have h2:n≤(LIM:Int):=by simp only [LIM];omega
 have h3:(PV.s []).cells.length=1:=rfl;simp only [Kw,h0,h2,h3,and_self,if_true];simp [C6]
theorem i6 (l:List (List UInt8)):Bc 0 (C6 l)=some (C6 l):=rfl
theorem i7 (l:List Rec):Bc 0 (Al l)=some (Al l):=rfl
theorem fr (l:List (List UInt8)):G4 (C6 l)=some (C6 l):=rfl
theorem Dy9 (neg:Bool) (x y:Dat):It neg true [.b,(.i .u64),(.i .u64), .s, .s, .s,(.i .i64),(.i .i64),(.i .i64),(.i .i64),(.i .i64),(.i .i64),(.i .u64)] x.pv y.pv=some (.b (if neg then decide (x≠y) else decide (x=y))):=by
 have:E4 [.b,(.i .u64),(.i .u64), .s, .s, .s,(.i .i64),(.i .i64),(.i .i64),(.i .i64),(.i .i64),(.i .i64),(.i .u64)] x.cells y.cells=some (decide (x=y)):=by simp only [Dat.cells,E4,xh,if_true,Ak];rw [E1];cases x;cases y;simp
 simp only [It,Dat.pv,this,A3];cases neg<;>simp
theorem Dy8 (neg:Bool) (x y:Rec):It neg true [.s,(.i .i64),(.i .i64), .b,(.i .u64),(.i .u64), .s, .s, .s,(.i .i64),(.i .i64),(.i .i64),(.i .i64),(.i .i64),(.i .i64),(.i .u64)] x.pv y.pv=some (.b (if neg then decide (x≠y) else decide (x=y))):=by
 have:E4 [.s,(.i .i64),(.i .i64), .b,(.i .u64),(.i .u64), .s, .s, .s,(.i .i64),(.i .i64),(.i .i64),(.i .i64),(.i .i64),(.i .i64),(.i .u64)] x.cells y.cells=some (decide (x=y)):=by simp only [Rec.cells,Dat.cells,E4,xh,if_true,Ak];rw [E1];rcases x with ⟨_,_,_,⟨⟩⟩;rcases y with ⟨_,_,_,⟨⟩⟩;simp [and_assoc]
 simp only [It,Rec.pv,this,A3];cases neg<;>simp
set_option linter.defProp false in
def EVP:=(And.intro @Aq8 (And.intro @Av4 (And.intro @Cj1 (And.intro @Bt3 (And.intro @Cx7 (And.intro @R4 (And.intro @R5 (And.intro @jb (And.intro @jz (And.intro @jy (And.intro @jx (And.intro @jw (And.intro @jv (And.intro @jq (And.intro @jk (And.intro @i9 (And.intro @i8 (And.intro @Z4 (And.intro @Z3 (And.intro @Z2 (And.intro @Z1 (And.intro @Z0 (And.intro @Zt (And.intro @Bt5 (And.intro @R6 (And.intro @Cx9 (And.intro @kw (And.intro @kv (And.intro @kq (And.intro @kj (And.intro @j9 (And.intro @j8 (And.intro @j7 (And.intro @j6 (And.intro @j5 (And.intro @jt (And.intro @ay (And.intro @ax (And.intro @av (And.intro @Af3 (And.intro @Ak6 (And.intro @af (And.intro @ab (And.intro @az (And.intro @Af2 (And.intro @Ak4 (And.intro @Zs (And.intro @Zr (And.intro @Qt (And.intro @Ad6 (And.intro @D9 (And.intro @Cz2 (And.intro @Af0 (And.intro @Ad9 (And.intro @oz (And.intro @Cw8 (And.intro @Ab8 (And.intro @Kl (And.intro @w9 (And.intro @Q8 (And.intro @Av6 (And.intro @Jw (And.intro @f4 (And.intro @Ab7 (And.intro @Ad1 (And.intro @Cw7 (And.intro @Ak9 (And.intro @w7 (And.intro @Ah8 (And.intro @Ab3 (And.intro @i6 (And.intro @i7 (And.intro @fr (And.intro @Dy9 @Dy8))))))))))))))))))))))))))))))))))))))))))))))))))))))))))))))))))))))))))
end Go.X
