/- The program's data. -/
import Derived.Test.YtkpbcoeiijddpaaGreatDoorRrsetComparesG6
open Bool renaming eq_iff_iff→Gl
open Option renaming bind_some→Av,map_some→Ap
open Option.some renaming injEq→Ak
set_option maxHeartbeats 1000000
set_option linter.unusedVariables false
set_option linter.unusedSimpArgs false
namespace Go.X
open Go
structure Dat where
 v6:Bool
 hi:Int
 lo:Int
 host:List UInt8
 mail:List UInt8
 text:List UInt8
 a:Int
 b:Int
 c:Int
 d:Int
 e:Int
 f:Int
 bits:Int
 deriving DecidableEq
structure Rec where
 name:List UInt8
 typ:Int
 ttl:Int
 data:Dat
 deriving DecidableEq
structure Zone where
 origin:List UInt8
 recs:List Rec
 deriving DecidableEq
def Yq (x:Int):Prop:= -9223372036854775808≤x∧x≤9223372036854775807
def Et3 (x:Int):Prop:=0≤x∧x≤18446744073709551615
def Y5 (x:List UInt8):Prop:=x.length≤9223372036854775807
structure Dat.wf (x:Dat):Prop where
 hi:Et3 x.hi
 lo:Et3 x.lo
 host:Y5 x.host
 mail:Y5 x.mail
 text:Y5 x.text
 a:Yq x.a
 b:Yq x.b
 c:Yq x.c
 d:Yq x.d
 e:Yq x.e
 f:Yq x.f
 bits:Et3 x.bits
structure Rec.wf (r:Rec):Prop where
 name:Y5 r.name
 typ:Yq r.typ
 ttl:Yq r.ttl
 data:r.data.wf
def An9 (l:List Rec):Prop:=l.length≤9223372036854775807∧∀r∈l,r.wf
structure Zone.wf (z:Zone):Prop where
 origin:Y5 z.origin
 recs:An9 z.recs
def Dat.cells (x:Dat):List PV:=[.b x.v6, .i .u64 x.hi, .i .u64 x.lo, .s x.host, .s x.mail, .s x.text, .i .i64 x.a, .i .i64 x.b, .i .i64 x.c, .i .i64 x.d, .i .i64 x.e, .i .i64 x.f, .i .u64 x.bits]
def Dat.pv (x:Dat):PV:= .a x.cells
def Rec.cells (x:Rec):List PV:= .s x.name:: .i .i64 x.typ:: .i .i64 x.ttl::x.data.cells
def Rec.pv (x:Rec):PV:= .a x.cells
def C3 (l:List Rec):PV:= .l 16 (l.map Rec.pv)
def Zone.pv (x:Zone):PV:= .a [.s x.origin,C3 x.recs]
def Cj (l:List (List UInt8)):PV:= .l 1 (l.map .s)
def Gh (x:Dat):PV:= .a [.b x.v6, .i .u64 x.hi, .i .u64 x.lo]
theorem Cd0 (r:Rec):O5 0 16 r.pv=some r.pv:=rfl
theorem Cp0 (r:Rec):Vz 16 r.pv=some r.pv:=rfl
theorem Q1 (r:Rec):O5 3 13 r.pv=some r.data.pv:=rfl
theorem Q2 (r:Rec):O5 3 3 r.pv=some (Gh r.data):=rfl
theorem gm (r:Rec):Cy 0 r.pv=some (.s r.name):=rfl
theorem gl (r:Rec):Cy 1 r.pv=some (.i .i64 r.typ):=rfl
theorem gh (r:Rec):Cy 2 r.pv=some (.i .i64 r.ttl):=rfl
theorem gf (r:Rec):Cy 3 r.pv=some (.b r.data.v6):=rfl
theorem gz (r:Rec):Cy 4 r.pv=some (.i .u64 r.data.hi):=rfl
theorem gy (r:Rec):Cy 5 r.pv=some (.i .u64 r.data.lo):=rfl
theorem gx (r:Rec):Cy 6 r.pv=some (.s r.data.host):=rfl
theorem gw (r:Rec):Cy 7 r.pv=some (.s r.data.mail):=rfl
theorem gv (r:Rec):Cy 8 r.pv=some (.s r.data.text):=rfl
theorem gq (r:Rec):Cy 9 r.pv=some (.i .i64 r.data.a):=rfl
theorem Z2 (r:Rec):Cy 10 r.pv=some (.i .i64 r.data.b):=rfl
theorem Z1 (r:Rec):Cy 11 r.pv=some (.i .i64 r.data.c):=rfl
theorem Z0 (r:Rec):Cy 12 r.pv=some (.i .i64 r.data.d):=rfl
theorem Zt (r:Rec):Cy 13 r.pv=some (.i .i64 r.data.e):=rfl
theorem Zs (r:Rec):Cy 14 r.pv=some (.i .i64 r.data.f):=rfl
theorem Zr (r:Rec):Cy 15 r.pv=some (.i .u64 r.data.bits):=rfl
theorem Cd1 (r:Dat):O5 0 13 r.pv=some r.pv:=rfl
theorem Q3 (r:Dat):O5 0 3 r.pv=some (Gh r):=rfl
theorem Cp1 (r:Dat):Vz 13 r.pv=some r.pv:=rfl
theorem iq (r:Dat):Cy 0 r.pv=some (.b r.v6):=rfl
theorem ik (r:Dat):Cy 1 r.pv=some (.i .u64 r.hi):=rfl
theorem ij (r:Dat):Cy 2 r.pv=some (.i .u64 r.lo):=rfl
theorem g9 (r:Dat):Cy 3 r.pv=some (.s r.host):=rfl
theorem g8 (r:Dat):Cy 4 r.pv=some (.s r.mail):=rfl
theorem g7 (r:Dat):Cy 5 r.pv=some (.s r.text):=rfl
theorem gt (r:Dat):Cy 6 r.pv=some (.i .i64 r.a):=rfl
theorem gr (r:Dat):Cy 7 r.pv=some (.i .i64 r.b):=rfl
theorem gp (r:Dat):Cy 8 r.pv=some (.i .i64 r.c):=rfl
theorem gn (r:Dat):Cy 9 r.pv=some (.i .i64 r.d):=rfl
theorem Z5 (r:Dat):Cy 10 r.pv=some (.i .i64 r.e):=rfl
theorem Z4 (r:Dat):Cy 11 r.pv=some (.i .i64 r.f):=rfl
theorem Z3 (r:Dat):Cy 12 r.pv=some (.i .u64 r.bits):=rfl
theorem Bk8 (r:Dat):Vz 3 (Gh r)=some (Gh r):=rfl
theorem Am4 (r:Dat):O5 0 3 (Gh r)=some (Gh r):=rfl
theorem Z8 (r:Dat):Cy 0 (Gh r)=some (.b r.v6):=rfl
theorem Z7 (r:Dat):Cy 1 (Gh r)=some (.i .u64 r.hi):=rfl
theorem Z6 (r:Dat):Cy 2 (Gh r)=some (.i .u64 r.lo):=rfl
theorem Bk7 (r:Zone):Vz 2 r.pv=some r.pv:=rfl
theorem Am3 (r:Zone):O5 0 2 r.pv=some r.pv:=rfl
theorem Zp (r:Zone):Cy 0 r.pv=some (.s r.origin):=rfl
theorem Zn (r:Zone):Cy 1 r.pv=some (C3 r.recs):=rfl
theorem P3 (v:Bool) (h l:Int) (s1 s2 s3:List UInt8) (a b c d e f g:Int):PV.a [.b v, .i .u64 h, .i .u64 l, .s s1, .s s2, .s s3, .i .i64 a, .i .i64 b, .i .i64 c, .i .i64 d, .i .i64 e, .i .i64 f, .i .u64 g]=Dat.pv ⟨v,h,l,s1,s2,s3,a,b,c,d,e,f,g⟩:=rfl
theorem Bk4 (n:List UInt8) (t u:Int) (v:Bool) (h l:Int) (s1 s2 s3:List UInt8) (a b c d e f g:Int):PV.a [.s n, .i .i64 t, .i .i64 u, .b v, .i .u64 h, .i .u64 l, .s s1, .s s2, .s s3, .i .i64 a, .i .i64 b, .i .i64 c, .i .i64 d, .i .i64 e, .i .i64 f, .i .u64 g]=Rec.pv ⟨n,t,u,⟨v,h,l,s1,s2,s3,a,b,c,d,e,f,g⟩⟩:=rfl
theorem Dp (x:Dat):(⟨x.v6,x.hi,x.lo,x.host,x.mail,x.text,x.a,x.b,x.c,x.d,x.e,x.f,x.bits⟩:Dat)=x:=rfl
theorem Cr1 (x:Rec):(⟨x.name,x.typ,x.ttl,x.data⟩:Rec)=x:=rfl
theorem Bk6 (x:Dat):PV.flat x.pv=true:=rfl
theorem Bk5 (x:Rec):PV.flat x.pv=true:=rfl
theorem l9 (x:Dat):PV.flat (Gh x)=true:=rfl
theorem Cl7 (x:Rec):Kb 16 [x.pv]=some (C3 [x]):=rfl
theorem At7 (l:List Rec):Ff (C3 l)=some (.i .i64 (l.length:Int)):=by simp [C3,Ff]
theorem Bj8 (l:List Rec) (k:IntKind) (z:Int) (h:0≤z):Lk 16 (C3 l) (.i k z)=(l[z.toNat]?).map Rec.pv:=by simp [C3,Bj9 _ _ _ _ h]
theorem Az7 (l:List Rec) (x:Rec) (h:l.length+1≤1073741824):Im 16 (C3 l) (C3 [x])=some (C3 (l++[x])):=by have:=dj 16 (l.map Rec.pv) [x.pv] (by simpa using h);simpa [C3] using this
theorem By2 (l m:List Rec) (h:l.length+m.length≤1073741824):Im 16 (C3 l) (C3 m)=some (C3 (l++m)):=by have:=dj 16 (l.map Rec.pv) (m.map Rec.pv) (by simpa using h);simpa [C3] using this
theorem Ap0:PV.l 16 []=C3 []:=rfl
theorem At2 (l:List Rec) (k k':IntKind) (a b:Int) (h1:0≤a) (h2:a≤b) (h3:b≤(l.length:Int)):Kz 16 (C3 l) (.i k a) (.i k' b)=some (C3 ((l.take b.toNat).drop a.toNat)):=by have:=At3 16 (l.map Rec.pv) k k' a b h1 h2 (by simpa using h3);simpa [C3] using this
theorem Cd6 (l:List Rec) (k:IntKind) (z:Int) (n:List UInt8) (t u:Int) (v:Bool) (h w:Int) (s1 s2 s3:List UInt8) (a b c d e f g:Int) (h0:0≤z) (h1:z<(l.length:Int)):
  Pj 16 0 [.s n, .i .i64 t, .i .i64 u, .b v, .i .u64 h, .i .u64 w, .s s1, .s s2, .s s3, .i .i64 a, .i .i64 b, .i .i64 c, .i .i64 d, .i .i64 e, .i .i64 f, .i .u64 g] (C3 l) (.i k z)=some (C3 (l.set z.toNat ⟨n,t,u,⟨v,h,w,s1,s2,s3,a,b,c,d,e,f,g⟩⟩)):=by
 have h2:z.toNat<l.length:=by omega
 have h3:(l.map Rec.pv)[z.toNat]? =some (l[z.toNat].pv):=by simp [h2]
 simp only [Pj,C3,h0,h3,and_self,if_true,Av];have h4:L0 (l[z.toNat].pv) 0 [.s n, .i .i64 t, .i .i64 u, .b v, .i .u64 h, .i .u64 w, .s s1, .s s2, .s s3, .i .i64 a, .i .i64 b, .i .i64 c, .i .i64 d, .i .i64 e, .i .i64 f, .i .u64 g]=some (Rec.pv ⟨n,t,u,⟨v,h,w,s1,s2,s3,a,b,c,d,e,f,g⟩⟩):=rfl;rw [h4];simp [List.map_set]
theorem ff (l:List Rec):Hj (C3 l)=some (C3 l):=rfl
theorem At6 (l:List (List UInt8)):Ff (Cj l)=some (.i .i64 (l.length:Int)):=by simp [Cj,Ff]
theorem Bj7 (l:List (List UInt8)) (k:IntKind) (z:Int) (h:0≤z):Lk 1 (Cj l) (.i k z)=(l[z.toNat]?).map PV.s:=by simp [Cj,Bj9 _ _ _ _ h]
theorem Cl6 (x:List UInt8):Kb 1 [.s x]=some (Cj [x]):=rfl
theorem Am7:PV.l 1 []=Cj []:=rfl
theorem Az6 (l:List (List UInt8)) (x:List UInt8) (h:l.length+1≤1073741824):Im 1 (Cj l) (Cj [x])=some (Cj (l++[x])):=by have:=dj 1 (l.map PV.s) [.s x] (by simpa using h);simpa [Cj] using this
theorem By1 (l m:List (List UInt8)) (h:l.length+m.length≤1073741824):Im 1 (Cj l) (Cj m)=some (Cj (l++m)):=by have:=dj 1 (l.map PV.s) (m.map PV.s) (by simpa using h);simpa [Cj] using this
theorem At1 (l:List (List UInt8)) (k k':IntKind) (a b:Int) (h1:0≤a) (h2:a≤b) (h3:b≤(l.length:Int)):Kz 1 (Cj l) (.i k a) (.i k' b)=some (Cj ((l.take b.toNat).drop a.toNat)):=by have:=At3 1 (l.map PV.s) k k' a b h1 h2 (by simpa using h3);simpa [Cj] using this
theorem An2 (l:List (List UInt8)) (k:IntKind) (z:Int) (x:List UInt8) (h0:0≤z) (h1:z<(l.length:Int)):Pj 1 0 [.s x] (Cj l) (.i k z)=some (Cj (l.set z.toNat x)):=by
 have h2:z.toNat<l.length:=by omega
 have h3:(l.map PV.s)[z.toNat]? =some (.s l[z.toNat]):=by simp [h2]
 simp only [Pj,Cj,h0,h3,and_self,if_true,Av];have h4:L0 (.s l[z.toNat]) 0 [.s x]=some (.s x):=rfl;rw [h4];simp [List.map_set]
theorem An8 (n:Int) (h0:0≤n) (h1:n≤1073741824):L9 1 (.i .i64 n) (.s [])=some (Cj (List.replicate n.toNat [])):=by
 have h2:n≤(LIM:Int):=by simp only [LIM];omega
 have h3:(PV.s []).cells.length=1:=rfl;simp only [L9,h0,h2,h3,and_self,if_true];simp [Cj]
theorem gj (l:List (List UInt8)):Cy 0 (Cj l)=some (Cj l):=rfl
theorem gk (l:List Rec):Cy 0 (C3 l)=some (C3 l):=rfl
theorem fc (l:List (List UInt8)):Hj (Cj l)=some (Cj l):=rfl
theorem Ec1 (neg:Bool) (x y:Dat):Kh neg true [.b,(.i .u64),(.i .u64), .s, .s, .s,(.i .i64),(.i .i64),(.i .i64),(.i .i64),(.i .i64),(.i .i64),(.i .u64)] x.pv y.pv=some (.b (if neg then decide (x≠y) else decide (x=y))):=by
 have:E3 [.b,(.i .u64),(.i .u64), .s, .s, .s,(.i .i64),(.i .i64),(.i .i64),(.i .i64),(.i .i64),(.i .i64),(.i .u64)] x.cells y.cells=some (decide (x=y)):=by simp only [Dat.cells,E3,Bd5,if_true,Ak];rw [Gl];cases x;cases y;simp
 simp only [Kh,Dat.pv,this,Ap];cases neg<;>simp
theorem Ec0 (neg:Bool) (x y:Rec):Kh neg true [.s,(.i .i64),(.i .i64), .b,(.i .u64),(.i .u64), .s, .s, .s,(.i .i64),(.i .i64),(.i .i64),(.i .i64),(.i .i64),(.i .i64),(.i .u64)] x.pv y.pv=some (.b (if neg then decide (x≠y) else decide (x=y))):=by
 have:E3 [.s,(.i .i64),(.i .i64), .b,(.i .u64),(.i .u64), .s, .s, .s,(.i .i64),(.i .i64),(.i .i64),(.i .i64),(.i .i64),(.i .i64),(.i .u64)] x.cells y.cells=some (decide (x=y)):=by simp only [Rec.cells,Dat.cells,E3,Bd5,if_true,Ak];rw [Gl];rcases x with ⟨_,_,_,⟨⟩⟩;rcases y with ⟨_,_,_,⟨⟩⟩;simp [and_assoc]
 simp only [Kh,Rec.pv,this,Ap];cases neg<;>simp
set_option linter.defProp false in
def EVP:=(And.intro @An2 (And.intro @An8 (And.intro @Cd6 (And.intro @Cd0 (And.intro @Cp0 (And.intro @Q1 (And.intro @Q2 (And.intro @gm (And.intro @gl (And.intro @gh (And.intro @gf (And.intro @gz (And.intro @gy (And.intro @gx (And.intro @gw (And.intro @gv (And.intro @gq (And.intro @Z2 (And.intro @Z1 (And.intro @Z0 (And.intro @Zt (And.intro @Zs (And.intro @Zr (And.intro @Cd1 (And.intro @Q3 (And.intro @Cp1 (And.intro @iq (And.intro @ik (And.intro @ij (And.intro @g9 (And.intro @g8 (And.intro @g7 (And.intro @gt (And.intro @gr (And.intro @gp (And.intro @gn (And.intro @Z5 (And.intro @Z4 (And.intro @Z3 (And.intro @Bk8 (And.intro @Am4 (And.intro @Z8 (And.intro @Z7 (And.intro @Z6 (And.intro @Bk7 (And.intro @Am3 (And.intro @Zp (And.intro @Zn (And.intro @P3 (And.intro @Bk4 (And.intro @Dp (And.intro @Cr1 (And.intro @Bk6 (And.intro @Bk5 (And.intro @l9 (And.intro @Cl7 (And.intro @At7 (And.intro @Bj8 (And.intro @Az7 (And.intro @By2 (And.intro @Ap0 (And.intro @At2 (And.intro @ff (And.intro @At6 (And.intro @Bj7 (And.intro @Cl6 (And.intro @Am7 (And.intro @Az6 (And.intro @By1 (And.intro @At1 (And.intro @gj (And.intro @gk (And.intro @fc (And.intro @Ec1 @Ec0))))))))))))))))))))))))))))))))))))))))))))))))))))))))))))))))))))))))))
end Go.X
