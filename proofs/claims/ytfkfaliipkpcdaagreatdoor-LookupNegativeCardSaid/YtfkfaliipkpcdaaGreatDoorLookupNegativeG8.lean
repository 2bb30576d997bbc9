/- The program's data. -/
import Derived.Test.YtfkfaliipkpcdaaGreatDoorLookupNegativeG6
open Bool renaming eq_iff_iff→Cp
open Option renaming bind_some→Az,map_some→A3
open Option.some renaming injEq→Ak
set_option maxHeartbeats 1000000
set_option linter.unusedVariables false
set_option linter.unusedSimpArgs false
namespace Go.X
open Go
structure Dat where
 v6:Bool
 hi:Int
 lo:Int
 host:List UInt8
 mail:List UInt8
 text:List UInt8
 a:Int
 b:Int
 c:Int
 d:Int
 e:Int
 f:Int
 bits:Int
 deriving DecidableEq
structure Rec where
 name:List UInt8
 typ:Int
 ttl:Int
 data:Dat
 deriving DecidableEq
structure Zone where
 origin:List UInt8
 recs:List Rec
 deriving DecidableEq
def jj (x:Int):Prop:= -9223372036854775808≤x∧x≤9223372036854775807
def Hx8 (x:Int):Prop:=0≤x∧x≤18446744073709551615
def W7 (x:List UInt8):Prop:=x.length≤9223372036854775807
structure Dat.wf (x:Dat):Prop where
 hi:Hx8 x.hi
 lo:Hx8 x.lo
 host:W7 x.host
 mail:W7 x.mail
 text:W7 x.text
 a:jj x.a
 b:jj x.b
 c:jj x.c
 d:jj x.d
 e:jj x.e
 f:jj x.f
 bits:Hx8 x.bits
structure Rec.wf (r:Rec):Prop where
 name:W7 r.name
 typ:jj r.typ
 ttl:jj r.ttl
 data:r.data.wf
def Bv7 (l:List Rec):Prop:=l.length≤9223372036854775807∧∀r∈l,r.wf
structure Zone.wf (z:Zone):Prop where
 origin:W7 z.origin
 recs:Bv7 z.recs
def Dat.cells (x:Dat):List PV:=[.b x.v6, .i .u64 x.hi, .i .u64 x.lo, .s x.host, .s x.mail, .s x.text, .i .i64 x.a, .i .i64 x.b, .i .i64 x.c, .i .i64 x.d, .i .i64 x.e, .i .i64 x.f, .i .u64 x.bits]
def Dat.pv (x:Dat):PV:= .a x.cells
def Rec.cells (x:Rec):List PV:= .s x.name:: .i .i64 x.typ:: .i .i64 x.ttl::x.data.cells
def Rec.pv (x:Rec):PV:= .a x.cells
def Ag (l:List Rec):PV:= .l 16 (l.map Rec.pv)
def Zone.pv (x:Zone):PV:= .a [.s x.origin,Ag x.recs]
def Bg (l:List (List UInt8)):PV:= .l 1 (l.map .s)
def Js (x:Dat):PV:= .a [.b x.v6, .i .u64 x.hi, .i .u64 x.lo]
theorem Gb2 (r:Rec):Jb 0 16 r.pv=some r.pv:=rfl
theorem Gm3 (r:Rec):Q0 16 r.pv=some r.pv:=rfl
theorem ab (r:Rec):Jb 3 13 r.pv=some r.data.pv:=rfl
theorem af (r:Rec):Jb 3 3 r.pv=some (Js r.data):=rfl
theorem Bb8 (r:Rec):Bs 0 r.pv=some (.s r.name):=rfl
theorem Bb7 (r:Rec):Bs 1 r.pv=some (.i .i64 r.typ):=rfl
theorem Bb6 (r:Rec):Bs 2 r.pv=some (.i .i64 r.ttl):=rfl
theorem Bb5 (r:Rec):Bs 3 r.pv=some (.b r.data.v6):=rfl
theorem Bb4 (r:Rec):Bs 4 r.pv=some (.i .u64 r.data.hi):=rfl
theorem Bb3 (r:Rec):Bs 5 r.pv=some (.i .u64 r.data.lo):=rfl
theorem Bb2 (r:Rec):Bs 6 r.pv=some (.s r.data.host):=rfl
theorem Bb1 (r:Rec):Bs 7 r.pv=some (.s r.data.mail):=rfl
theorem Bb0 (r:Rec):Bs 8 r.pv=some (.s r.data.text):=rfl
theorem Bz9 (r:Rec):Bs 9 r.pv=some (.i .i64 r.data.a):=rfl
theorem Ac1 (r:Rec):Bs 10 r.pv=some (.i .i64 r.data.b):=rfl
theorem Ac0 (r:Rec):Bs 11 r.pv=some (.i .i64 r.data.c):=rfl
theorem Ab9 (r:Rec):Bs 12 r.pv=some (.i .i64 r.data.d):=rfl
theorem Ab8 (r:Rec):Bs 13 r.pv=some (.i .i64 r.data.e):=rfl
theorem Ab7 (r:Rec):Bs 14 r.pv=some (.i .i64 r.data.f):=rfl
theorem Ab6 (r:Rec):Bs 15 r.pv=some (.i .u64 r.data.bits):=rfl
theorem Gb4 (r:Dat):Jb 0 13 r.pv=some r.pv:=rfl
theorem ah (r:Dat):Jb 0 3 r.pv=some (Js r):=rfl
theorem Gm5 (r:Dat):Q0 13 r.pv=some r.pv:=rfl
theorem Bd8 (r:Dat):Bs 0 r.pv=some (.b r.v6):=rfl
theorem Bd7 (r:Dat):Bs 1 r.pv=some (.i .u64 r.hi):=rfl
theorem Bd6 (r:Dat):Bs 2 r.pv=some (.i .u64 r.lo):=rfl
theorem Bd5 (r:Dat):Bs 3 r.pv=some (.s r.host):=rfl
theorem Bd4 (r:Dat):Bs 4 r.pv=some (.s r.mail):=rfl
theorem Bd3 (r:Dat):Bs 5 r.pv=some (.s r.text):=rfl
theorem Bd2 (r:Dat):Bs 6 r.pv=some (.i .i64 r.a):=rfl
theorem Bd1 (r:Dat):Bs 7 r.pv=some (.i .i64 r.b):=rfl
theorem Bd0 (r:Dat):Bs 8 r.pv=some (.i .i64 r.c):=rfl
theorem Bc9 (r:Dat):Bs 9 r.pv=some (.i .i64 r.d):=rfl
theorem Ad1 (r:Dat):Bs 10 r.pv=some (.i .i64 r.e):=rfl
theorem Ad0 (r:Dat):Bs 11 r.pv=some (.i .i64 r.f):=rfl
theorem Ac9 (r:Dat):Bs 12 r.pv=some (.i .u64 r.bits):=rfl
theorem El4 (r:Dat):Q0 3 (Js r)=some (Js r):=rfl
theorem Ew9 (r:Dat):Jb 0 3 (Js r)=some (Js r):=rfl
theorem Ad4 (r:Dat):Bs 0 (Js r)=some (.b r.v6):=rfl
theorem Ad3 (r:Dat):Bs 1 (Js r)=some (.i .u64 r.hi):=rfl
theorem Ad2 (r:Dat):Bs 2 (Js r)=some (.i .u64 r.lo):=rfl
theorem El3 (r:Zone):Q0 2 r.pv=some r.pv:=rfl
theorem Ew7 (r:Zone):Jb 0 2 r.pv=some r.pv:=rfl
theorem Ab5 (r:Zone):Bs 0 r.pv=some (.s r.origin):=rfl
theorem Ab4 (r:Zone):Bs 1 r.pv=some (Ag r.recs):=rfl
theorem Yw (v:Bool) (h l:Int) (s1 s2 s3:List UInt8) (a b c d e f g:Int):PV.a [.b v, .i .u64 h, .i .u64 l, .s s1, .s s2, .s s3, .i .i64 a, .i .i64 b, .i .i64 c, .i .i64 d, .i .i64 e, .i .i64 f, .i .u64 g]=Dat.pv ⟨v,h,l,s1,s2,s3,a,b,c,d,e,f,g⟩:=rfl
theorem Eh7 (n:List UInt8) (t u:Int) (v:Bool) (h l:Int) (s1 s2 s3:List UInt8) (a b c d e f g:Int):PV.a [.s n, .i .i64 t, .i .i64 u, .b v, .i .u64 h, .i .u64 l, .s s1, .s s2, .s s3, .i .i64 a, .i .i64 b, .i .i64 c, .i .i64 d, .i .i64 e, .i .i64 f, .i .u64 g]=Rec.pv ⟨n,t,u,⟨v,h,l,s1,s2,s3,a,b,c,d,e,f,g⟩⟩:=rfl
theorem E9 (x:Dat):(⟨x.v6,x.hi,x.lo,x.host,x.mail,x.text,x.a,x.b,x.c,x.d,x.e,x.f,x.bits⟩:Dat)=x:=rfl
theorem Gn9 (x:Rec):(⟨x.name,x.typ,x.ttl,x.data⟩:Rec)=x:=rfl
theorem El1 (x:Dat):PV.flat x.pv=true:=rfl
theorem El0 (x:Rec):PV.flat x.pv=true:=rfl
theorem Ck0 (x:Dat):PV.flat (Js x)=true:=rfl
theorem Gh6 (x:Rec):Jn 16 [x.pv]=some (Ag [x]):=rfl
theorem Ef5 (l:List Rec):F4 (Ag l)=some (.i .i64 (l.length:Int)):=by simp [Ag,F4]
theorem Jj (l:List Rec) (k:IntKind) (z:Int) (h:0≤z):Gt 16 (Ag l) (.i k z)=(l[z.toNat]?).map Rec.pv:=by simp [Ag,Yk _ _ _ _ h]
theorem Dn3 (l:List Rec) (x:Rec) (h:l.length+1≤1073741824):H3 16 (Ag l) (Ag [x])=some (Ag (l++[x])):=by have:=T4 16 (l.map Rec.pv) [x.pv] (by simpa using h);simpa [Ag] using this
theorem Iq (l m:List Rec) (h:l.length+m.length≤1073741824):H3 16 (Ag l) (Ag m)=some (Ag (l++m)):=by have:=T4 16 (l.map Rec.pv) (m.map Rec.pv) (by simpa using h);simpa [Ag] using this
theorem Ez0:PV.l 16 []=Ag []:=rfl
theorem G5 (l:List Rec) (k k':IntKind) (a b:Int) (h1:0≤a) (h2:a≤b) (h3:b≤(l.length:Int)):G6 16 (Ag l) (.i k a) (.i k' b)=some (Ag ((l.take b.toNat).drop a.toNat)):=by have:=Bn3 16 (l.map Rec.pv) k k' a b h1 h2 (by simpa using h3);simpa [Ag] using this
theorem Gc5 (l:List Rec) (k:IntKind) (z:Int) (n:List UInt8) (t u:Int) (v:Bool) (h w:Int) (s1 s2 s3:List UInt8) (a b c d e f g:Int) (h0:0≤z) (h1:z<(l.length:Int)):
  Qp 16 0 [.s n, .i .i64 t, .i .i64 u, .b v, .i .u64 h, .i .u64 w, .s s1, .s s2, .s s3, .i .i64 a, .i .i64 b, .i .i64 c, .i .i64 d, .i .i64 e, .i .i64 f, .i .u64 g] (Ag l) (.i k z)=some (Ag (l.set z.toNat ⟨n,t,u,⟨v,h,w,s1,s2,s3,a,b,c,d,e,f,g⟩⟩)):=by
 have h2:z.toNat<l.length:=by omega
 have h3:(l.map Rec.pv)[z.toNat]? =some (l[z.toNat].pv):=by simp [h2]
 simp only [Qp,Ag,h0,h3,and_self,if_true,Az];have h4:Pg (l[z.toNat].pv) 0 [.s n, .i .i64 t, .i .i64 u, .b v, .i .u64 h, .i .u64 w, .s s1, .s s2, .s s3, .i .i64 a, .i .i64 b, .i .i64 c, .i .i64 d, .i .i64 e, .i .i64 f, .i .u64 g]=some (Rec.pv ⟨n,t,u,⟨v,h,w,s1,s2,s3,a,b,c,d,e,f,g⟩⟩):=rfl;rw [h4];simp [List.map_set]
theorem Bq2 (l:List Rec):H7 (Ag l)=some (Ag l):=rfl
theorem Ef3 (l:List (List UInt8)):F4 (Bg l)=some (.i .i64 (l.length:Int)):=by simp [Bg,F4]
theorem Mk (l:List (List UInt8)) (k:IntKind) (z:Int) (h:0≤z):Gt 1 (Bg l) (.i k z)=(l[z.toNat]?).map PV.s:=by simp [Bg,Yk _ _ _ _ h]
theorem Gh4 (x:List UInt8):Jn 1 [.s x]=some (Bg [x]):=rfl
theorem Ex2:PV.l 1 []=Bg []:=rfl
theorem Dn1 (l:List (List UInt8)) (x:List UInt8) (h:l.length+1≤1073741824):H3 1 (Bg l) (Bg [x])=some (Bg (l++[x])):=by have:=T4 1 (l.map PV.s) [.s x] (by simpa using h);simpa [Bg] using this
theorem Av8 (l m:List (List UInt8)) (h:l.length+m.length≤1073741824):H3 1 (Bg l) (Bg m)=some (Bg (l++m)):=by have:=T4 1 (l.map PV.s) (m.map PV.s) (by simpa using h);simpa [Bg] using this
theorem L8 (l:List (List UInt8)) (k k':IntKind) (a b:Int) (h1:0≤a) (h2:a≤b) (h3:b≤(l.length:Int)):G6 1 (Bg l) (.i k a) (.i k' b)=some (Bg ((l.take b.toNat).drop a.toNat)):=by have:=Bn3 1 (l.map PV.s) k k' a b h1 h2 (by simpa using h3);simpa [Bg] using this
theorem Ey0 (l:List (List UInt8)) (k:IntKind) (z:Int) (x:List UInt8) (h0:0≤z) (h1:z<(l.length:Int)):Qp 1 0 [.s x] (Bg l) (.i k z)=some (Bg (l.set z.toNat x)):=by
 have h2:z.toNat<l.length:=by omega
 have h3:(l.map PV.s)[z.toNat]? =some (.s l[z.toNat]):=by simp [h2]
 simp only [Qp,Bg,h0,h3,and_self,if_true,Az];have h4:Pg (.s l[z.toNat]) 0 [.s x]=some (.s x):=rfl;rw [h4];simp [List.map_set]
theorem wl (n:Int) (h0:0≤n) (h1:n≤1073741824):Kt 1 (.i .i64 n) (.s [])=some (Bg (List.replicate n.toNat [])):=by
 have h2:n≤(LIM:Int):=by simp only [LIM];omega
 have h3:(PV.s []).cells.length=1:=rfl;simp only [Kt,h0,h2,h3,and_self,if_true];simp [Bg]
theorem Bz1 (l:List (List UInt8)):Bs 0 (Bg l)=some (Bg l):=rfl
theorem Bz8 (l:List Rec):Bs 0 (Ag l)=some (Ag l):=rfl
theorem Bq0 (l:List (List UInt8)):H7 (Bg l)=some (Bg l):=rfl
theorem Ig8 (neg:Bool) (x y:Dat):K0 neg true [.b,(.i .u64),(.i .u64), .s, .s, .s,(.i .i64),(.i .i64),(.i .i64),(.i .i64),(.i .i64),(.i .i64),(.i .u64)] x.pv y.pv=some (.b (if neg then decide (x≠y) else decide (x=y))):=by
 have:Gz [.b,(.i .u64),(.i .u64), .s, .s, .s,(.i .i64),(.i .i64),(.i .i64),(.i .i64),(.i .i64),(.i .i64),(.i .u64)] x.cells y.cells=some (decide (x=y)):=by simp only [Dat.cells,Gz,Dr4,if_true,Ak];rw [Cp];cases x;cases y;simp
 simp only [K0,Dat.pv,this,A3];cases neg<;>simp
theorem Ig7 (neg:Bool) (x y:Rec):K0 neg true [.s,(.i .i64),(.i .i64), .b,(.i .u64),(.i .u64), .s, .s, .s,(.i .i64),(.i .i64),(.i .i64),(.i .i64),(.i .i64),(.i .i64),(.i .u64)] x.pv y.pv=some (.b (if neg then decide (x≠y) else decide (x=y))):=by
 have:Gz [.s,(.i .i64),(.i .i64), .b,(.i .u64),(.i .u64), .s, .s, .s,(.i .i64),(.i .i64),(.i .i64),(.i .i64),(.i .i64),(.i .i64),(.i .u64)] x.cells y.cells=some (decide (x=y)):=by simp only [Rec.cells,Dat.cells,Gz,Dr4,if_true,Ak];rw [Cp];rcases x with ⟨_,_,_,⟨⟩⟩;rcases y with ⟨_,_,_,⟨⟩⟩;simp [and_assoc]
 simp only [K0,Rec.pv,this,A3];cases neg<;>simp
set_option linter.defProp false in
def EVP:=(And.intro @Ey0 (And.intro @wl (And.intro @Gc5 (And.intro @Gb2 (And.intro @Gm3 (And.intro @ab (And.intro @af (And.intro @Bb8 (And.intro @Bb7 (And.intro @Bb6 (And.intro @Bb5 (And.intro @Bb4 (And.intro @Bb3 (And.intro @Bb2 (And.intro @Bb1 (And.intro @Bb0 (And.intro @Bz9 (And.intro @Ac1 (And.intro @Ac0 (And.intro @Ab9 (And.intro @Ab8 (And.intro @Ab7 (And.intro @Ab6 (And.intro @Gb4 (And.intro @ah (And.intro @Gm5 (And.intro @Bd8 (And.intro @Bd7 (And.intro @Bd6 (And.intro @Bd5 (And.intro @Bd4 (And.intro @Bd3 (And.intro @Bd2 (And.intro @Bd1 (And.intro @Bd0 (And.intro @Bc9 (And.intro @Ad1 (And.intro @Ad0 (And.intro @Ac9 (And.intro @El4 (And.intro @Ew9 (And.intro @Ad4 (And.intro @Ad3 (And.intro @Ad2 (And.intro @El3 (And.intro @Ew7 (And.intro @Ab5 (And.intro @Ab4 (And.intro @Yw (And.intro @Eh7 (And.intro @E9 (And.intro @Gn9 (And.intro @El1 (And.intro @El0 (And.intro @Ck0 (And.intro @Gh6 (And.intro @Ef5 (And.intro @Jj (And.intro @Dn3 (And.intro @Iq (And.intro @Ez0 (And.intro @G5 (And.intro @Bq2 (And.intro @Ef3 (And.intro @Mk (And.intro @Gh4 (And.intro @Ex2 (And.intro @Dn1 (And.intro @Av8 (And.intro @L8 (And.intro @Bz1 (And.intro @Bz8 (And.intro @Bq0 (And.intro @Ig8 @Ig7))))))))))))))))))))))))))))))))))))))))))))))))))))))))))))))))))))))))))
end Go.X
