/- The program's data. -/
import Derived.Test.YtfnmphjdknjkmaaGreatDoorNsecSoundG6
open Bool renaming eq_iff_iff→Cp
open Option renaming bind_some→Az,map_some→A7
open Option.some renaming injEq→Aq
set_option maxHeartbeats 1000000
set_option linter.defProp false
set_option linter.unusedVariables false
set_option linter.unusedSimpArgs false
namespace Go.X
open Go
structure Dat where
 v6:Bool
 hi:Int
 lo:Int
 host:List UInt8
 mail:List UInt8
 text:List UInt8
 a:Int
 b:Int
 c:Int
 d:Int
 e:Int
 f:Int
 bits:Int
 deriving DecidableEq
structure Rec where
 name:List UInt8
 typ:Int
 ttl:Int
 data:Dat
 deriving DecidableEq
structure Zone where
 origin:List UInt8
 recs:List Rec
 deriving DecidableEq
def Sm (x:Int):Prop:= -9223372036854775808≤x∧x≤9223372036854775807
def Ct0 (x:Int):Prop:=0≤x∧x≤18446744073709551615
def Pq (x:List UInt8):Prop:=x.length≤9223372036854775807
structure Dat.wf (x:Dat):Prop where
 hi:Ct0 x.hi
 lo:Ct0 x.lo
 host:Pq x.host
 mail:Pq x.mail
 text:Pq x.text
 a:Sm x.a
 b:Sm x.b
 c:Sm x.c
 d:Sm x.d
 e:Sm x.e
 f:Sm x.f
 bits:Ct0 x.bits
structure Rec.wf (r:Rec):Prop where
 name:Pq r.name
 typ:Sm r.typ
 ttl:Sm r.ttl
 data:r.data.wf
def Bl1 (l:List Rec):Prop:=l.length≤9223372036854775807∧∀r∈l,r.wf
structure Zone.wf (z:Zone):Prop where
 origin:Pq z.origin
 recs:Bl1 z.recs
def Dat.cells (x:Dat):List PV:=[.b x.v6, .i .u64 x.hi, .i .u64 x.lo, .s x.host, .s x.mail, .s x.text, .i .i64 x.a, .i .i64 x.b, .i .i64 x.c, .i .i64 x.d, .i .i64 x.e, .i .i64 x.f, .i .u64 x.bits]
def Dat.pv (x:Dat):PV:= .a x.cells
def Rec.cells (x:Rec):List PV:= .s x.name:: .i .i64 x.typ:: .i .i64 x.ttl::x.data.cells
def Rec.pv (x:Rec):PV:= .a x.cells
def Ag (l:List Rec):PV:= .l 16 (l.map Rec.pv)
def Zone.pv (x:Zone):PV:= .a [.s x.origin,Ag x.recs]
def Bm (l:List (List UInt8)):PV:= .l 1 (l.map .s)
def Kn (x:Dat):PV:= .a [.b x.v6, .i .u64 x.hi, .i .u64 x.lo]
def Eh0 (r:Rec):Kv 0 16 r.pv=some r.pv:=rfl
def Et4 (r:Rec):Sn 16 r.pv=some r.pv:=rfl
def gx (r:Rec):Kv 3 13 r.pv=some r.data.pv:=rfl
def gy (r:Rec):Kv 3 3 r.pv=some (Kn r.data):=rfl
def Bs1 (r:Rec):B0 0 r.pv=some (.s r.name):=rfl
def Bs0 (r:Rec):B0 1 r.pv=some (.i .i64 r.typ):=rfl
def Br9 (r:Rec):B0 2 r.pv=some (.i .i64 r.ttl):=rfl
def Br8 (r:Rec):B0 3 r.pv=some (.b r.data.v6):=rfl
def Br7 (r:Rec):B0 4 r.pv=some (.i .u64 r.data.hi):=rfl
def Br6 (r:Rec):B0 5 r.pv=some (.i .u64 r.data.lo):=rfl
def Br5 (r:Rec):B0 6 r.pv=some (.s r.data.host):=rfl
def Br4 (r:Rec):B0 7 r.pv=some (.s r.data.mail):=rfl
def Br3 (r:Rec):B0 8 r.pv=some (.s r.data.text):=rfl
def Br2 (r:Rec):B0 9 r.pv=some (.i .i64 r.data.a):=rfl
def Ar5 (r:Rec):B0 10 r.pv=some (.i .i64 r.data.b):=rfl
def Ar4 (r:Rec):B0 11 r.pv=some (.i .i64 r.data.c):=rfl
def Ar3 (r:Rec):B0 12 r.pv=some (.i .i64 r.data.d):=rfl
def Ar2 (r:Rec):B0 13 r.pv=some (.i .i64 r.data.e):=rfl
def Ar1 (r:Rec):B0 14 r.pv=some (.i .i64 r.data.f):=rfl
def Ar0 (r:Rec):B0 15 r.pv=some (.i .u64 r.data.bits):=rfl
def Eh2 (r:Dat):Kv 0 13 r.pv=some r.pv:=rfl
def gz (r:Dat):Kv 0 3 r.pv=some (Kn r):=rfl
def Et6 (r:Dat):Sn 13 r.pv=some r.pv:=rfl
def Cj1 (r:Dat):B0 0 r.pv=some (.b r.v6):=rfl
def Cj0 (r:Dat):B0 1 r.pv=some (.i .u64 r.hi):=rfl
def Bt9 (r:Dat):B0 2 r.pv=some (.i .u64 r.lo):=rfl
def Bt8 (r:Dat):B0 3 r.pv=some (.s r.host):=rfl
def Bt7 (r:Dat):B0 4 r.pv=some (.s r.mail):=rfl
def Bt6 (r:Dat):B0 5 r.pv=some (.s r.text):=rfl
def Bt5 (r:Dat):B0 6 r.pv=some (.i .i64 r.a):=rfl
def Bt4 (r:Dat):B0 7 r.pv=some (.i .i64 r.b):=rfl
def Bt3 (r:Dat):B0 8 r.pv=some (.i .i64 r.c):=rfl
def Bt2 (r:Dat):B0 9 r.pv=some (.i .i64 r.d):=rfl
def As5 (r:Dat):B0 10 r.pv=some (.i .i64 r.e):=rfl
def As4 (r:Dat):B0 11 r.pv=some (.i .i64 r.f):=rfl
def As3 (r:Dat):B0 12 r.pv=some (.i .u64 r.bits):=rfl
def Dp4 (r:Dat):Sn 3 (Kn r)=some (Kn r):=rfl
def Dz6 (r:Dat):Kv 0 3 (Kn r)=some (Kn r):=rfl
def As8 (r:Dat):B0 0 (Kn r)=some (.b r.v6):=rfl
def As7 (r:Dat):B0 1 (Kn r)=some (.i .u64 r.hi):=rfl
def As6 (r:Dat):B0 2 (Kn r)=some (.i .u64 r.lo):=rfl
def Dp3 (r:Zone):Sn 2 r.pv=some r.pv:=rfl
def Dz4 (r:Zone):Kv 0 2 r.pv=some r.pv:=rfl
def Ap9 (r:Zone):B0 0 r.pv=some (.s r.origin):=rfl
def Ap8 (r:Zone):B0 1 r.pv=some (Ag r.recs):=rfl
def cj (v:Bool) (h l:Int) (s1 s2 s3:List UInt8) (a b c d e f g:Int):PV.a [.b v, .i .u64 h, .i .u64 l, .s s1, .s s2, .s s3, .i .i64 a, .i .i64 b, .i .i64 c, .i .i64 d, .i .i64 e, .i .i64 f, .i .u64 g]=Dat.pv ⟨v,h,l,s1,s2,s3,a,b,c,d,e,f,g⟩:=rfl
def Dn7 (n:List UInt8) (t u:Int) (v:Bool) (h l:Int) (s1 s2 s3:List UInt8) (a b c d e f g:Int):PV.a [.s n, .i .i64 t, .i .i64 u, .b v, .i .u64 h, .i .u64 l, .s s1, .s s2, .s s3, .i .i64 a, .i .i64 b, .i .i64 c, .i .i64 d, .i .i64 e, .i .i64 f, .i .u64 g]=Rec.pv ⟨n,t,u,⟨v,h,l,s1,s2,s3,a,b,c,d,e,f,g⟩⟩:=rfl
def Fp (x:Dat):(⟨x.v6,x.hi,x.lo,x.host,x.mail,x.text,x.a,x.b,x.c,x.d,x.e,x.f,x.bits⟩:Dat)=x:=rfl
def Fj9 (x:Rec):(⟨x.name,x.typ,x.ttl,x.data⟩:Rec)=x:=rfl
def Dp1 (x:Dat):PV.flat x.pv=true:=rfl
def Dp0 (x:Rec):PV.flat x.pv=true:=rfl
def Cg0 (x:Dat):PV.flat (Kn x)=true:=rfl
def Er6 (x:Rec):Jl 16 [x.pv]=some (Ag [x]):=rfl
def Dl4 (l:List Rec):Gy (Ag l)=some (.i .i64 (l.length:Int)):=by simp [Ag,Gy]
def Lv (l:List Rec) (k:IntKind) (z:Int) (h:0≤z):Hp 16 (Ag l) (.i k z)=(l[z.toNat]?).map Rec.pv:=by simp [Ag,bn _ _ _ _ h]
def Cr1 (l:List Rec) (x:Rec) (h:l.length+1≤1073741824):Il 16 (Ag l) (Ag [x])=some (Ag (l++[x])):=by have:=V7 16 (l.map Rec.pv) [x.pv] (by simpa using h);simpa [Ag] using this
def Td (l m:List Rec) (h:l.length+m.length≤1073741824):Il 16 (Ag l) (Ag m)=some (Ag (l++m)):=by have:=V7 16 (l.map Rec.pv) (m.map Rec.pv) (by simpa using h);simpa [Ag] using this
def Dc5:PV.l 16 []=Ag []:=rfl
def Hd (l:List Rec) (k k':IntKind) (a b:Int) (h1:0≤a) (h2:a≤b) (h3:b≤(l.length:Int)):Hf 16 (Ag l) (.i k a) (.i k' b)=some (Ag ((l.take b.toNat).drop a.toNat)):=by have:=Cx6 16 (l.map Rec.pv) k k' a b h1 h2 (by simpa using h3);simpa [Ag] using this
def El3 (l:List Rec) (k:IntKind) (z:Int) (n:List UInt8) (t u:Int) (v:Bool) (h w:Int) (s1 s2 s3:List UInt8) (a b c d e f g:Int) (h0:0≤z) (h1:z<(l.length:Int)):
  Px 16 0 [.s n, .i .i64 t, .i .i64 u, .b v, .i .u64 h, .i .u64 w, .s s1, .s s2, .s s3, .i .i64 a, .i .i64 b, .i .i64 c, .i .i64 d, .i .i64 e, .i .i64 f, .i .u64 g] (Ag l) (.i k z)=some (Ag (l.set z.toNat ⟨n,t,u,⟨v,h,w,s1,s2,s3,a,b,c,d,e,f,g⟩⟩)):=by
 have h2:z.toNat<l.length:=by omega
 have h3:(l.map Rec.pv)[z.toNat]? =some (l[z.toNat].pv):=by simp [h2]
 simp only [Px,Ag,h0,h3,and_self,if_true,Az];have h4:Oz (l[z.toNat].pv) 0 [.s n, .i .i64 t, .i .i64 u, .b v, .i .u64 h, .i .u64 w, .s s1, .s s2, .s s3, .i .i64 a, .i .i64 b, .i .i64 c, .i .i64 d, .i .i64 e, .i .i64 f, .i .u64 g]=some (Rec.pv ⟨n,t,u,⟨v,h,w,s1,s2,s3,a,b,c,d,e,f,g⟩⟩):=rfl;rw [h4];simp [List.map_set]
def Bg8 (l:List Rec):Jw (Ag l)=some (Ag l):=rfl
def Dl3 (l:List (List UInt8)):Gy (Bm l)=some (.i .i64 (l.length:Int)):=by simp [Bm,Gy]
def Ng (l:List (List UInt8)) (k:IntKind) (z:Int) (h:0≤z):Hp 1 (Bm l) (.i k z)=(l[z.toNat]?).map PV.s:=by simp [Bm,bn _ _ _ _ h]
def Er5 (x:List UInt8):Jl 1 [.s x]=some (Bm [x]):=rfl
def Dz9:PV.l 1 []=Bm []:=rfl
def Cr0 (l:List (List UInt8)) (x:List UInt8) (h:l.length+1≤1073741824):Il 1 (Bm l) (Bm [x])=some (Bm (l++[x])):=by have:=V7 1 (l.map PV.s) [.s x] (by simpa using h);simpa [Bm] using this
def Ah0 (l m:List (List UInt8)) (h:l.length+m.length≤1073741824):Il 1 (Bm l) (Bm m)=some (Bm (l++m)):=by have:=V7 1 (l.map PV.s) (m.map PV.s) (by simpa using h);simpa [Bm] using this
def Nb (l:List (List UInt8)) (k k':IntKind) (a b:Int) (h1:0≤a) (h2:a≤b) (h3:b≤(l.length:Int)):Hf 1 (Bm l) (.i k a) (.i k' b)=some (Bm ((l.take b.toNat).drop a.toNat)):=by have:=Cx6 1 (l.map PV.s) k k' a b h1 h2 (by simpa using h3);simpa [Bm] using this
def Db6 (l:List (List UInt8)) (k:IntKind) (z:Int) (x:List UInt8) (h0:0≤z) (h1:z<(l.length:Int)):Px 1 0 [.s x] (Bm l) (.i k z)=some (Bm (l.set z.toNat x)):=by
 have h2:z.toNat<l.length:=by omega
 have h3:(l.map PV.s)[z.toNat]? =some (.s l[z.toNat]):=by simp [h2]
 simp only [Px,Bm,h0,h3,and_self,if_true,Az];have h4:Oz (.s l[z.toNat]) 0 [.s x]=some (.s x):=rfl;rw [h4];simp [List.map_set]
def Ay0 (n:Int) (h0:0≤n) (h1:n≤1073741824):Lt 1 (.i .i64 n) (.s [])=some (Bm (List.replicate n.toNat [])):=by
 have h2:n≤(LIM:Int):=by simp only [LIM];omega
 have h3:(PV.s []).cells.length=1:=rfl;simp only [Lt,h0,h2,h3,and_self,if_true];simp [Bm]
def Bp5 (l:List (List UInt8)):B0 0 (Bm l)=some (Bm l):=rfl
def Br1 (l:List Rec):B0 0 (Ag l)=some (Ag l):=rfl
def Bg7 (l:List (List UInt8)):Jw (Bm l)=some (Bm l):=rfl
def Gm6 (neg:Bool) (x y:Dat):L1 neg true [.b,(.i .u64),(.i .u64), .s, .s, .s,(.i .i64),(.i .i64),(.i .i64),(.i .i64),(.i .i64),(.i .i64),(.i .u64)] x.pv y.pv=some (.b (if neg then decide (x≠y) else decide (x=y))):=by
 have:G0 [.b,(.i .u64),(.i .u64), .s, .s, .s,(.i .i64),(.i .i64),(.i .i64),(.i .i64),(.i .i64),(.i .i64),(.i .u64)] x.cells y.cells=some (decide (x=y)):=by simp only [Dat.cells,G0,Ct4,if_true,Aq];rw [Cp];cases x;cases y;simp
 simp only [L1,Dat.pv,this,A7];cases neg<;>simp
def Gm5 (neg:Bool) (x y:Rec):L1 neg true [.s,(.i .i64),(.i .i64), .b,(.i .u64),(.i .u64), .s, .s, .s,(.i .i64),(.i .i64),(.i .i64),(.i .i64),(.i .i64),(.i .i64),(.i .u64)] x.pv y.pv=some (.b (if neg then decide (x≠y) else decide (x=y))):=by
 have:G0 [.s,(.i .i64),(.i .i64), .b,(.i .u64),(.i .u64), .s, .s, .s,(.i .i64),(.i .i64),(.i .i64),(.i .i64),(.i .i64),(.i .i64),(.i .u64)] x.cells y.cells=some (decide (x=y)):=by simp only [Rec.cells,Dat.cells,G0,Ct4,if_true,Aq];rw [Cp];rcases x with ⟨_,_,_,⟨⟩⟩;rcases y with ⟨_,_,_,⟨⟩⟩;simp [and_assoc]
 simp only [L1,Rec.pv,this,A7];cases neg<;>simp
set_option linter.defProp false in
def EVP:=(And.intro @Db6 (And.intro @Ay0 (And.intro @El3 (And.intro @Eh0 (And.intro @Et4 (And.intro @gx (And.intro @gy (And.intro @Bs1 (And.intro @Bs0 (And.intro @Br9 (And.intro @Br8 (And.intro @Br7 (And.intro @Br6 (And.intro @Br5 (And.intro @Br4 (And.intro @Br3 (And.intro @Br2 (And.intro @Ar5 (And.intro @Ar4 (And.intro @Ar3 (And.intro @Ar2 (And.intro @Ar1 (And.intro @Ar0 (And.intro @Eh2 (And.intro @gz (And.intro @Et6 (And.intro @Cj1 (And.intro @Cj0 (And.intro @Bt9 (And.intro @Bt8 (And.intro @Bt7 (And.intro @Bt6 (And.intro @Bt5 (And.intro @Bt4 (And.intro @Bt3 (And.intro @Bt2 (And.intro @As5 (And.intro @As4 (And.intro @As3 (And.intro @Dp4 (And.intro @Dz6 (And.intro @As8 (And.intro @As7 (And.intro @As6 (And.intro @Dp3 (And.intro @Dz4 (And.intro @Ap9 (And.intro @Ap8 (And.intro @cj (And.intro @Dn7 (And.intro @Fp (And.intro @Fj9 (And.intro @Dp1 (And.intro @Dp0 (And.intro @Cg0 (And.intro @Er6 (And.intro @Dl4 (And.intro @Lv (And.intro @Cr1 (And.intro @Td (And.intro @Dc5 (And.intro @Hd (And.intro @Bg8 (And.intro @Dl3 (And.intro @Ng (And.intro @Er5 (And.intro @Dz9 (And.intro @Cr0 (And.intro @Ah0 (And.intro @Nb (And.intro @Bp5 (And.intro @Br1 (And.intro @Bg7 (And.intro @Gm6 @Gm5))))))))))))))))))))))))))))))))))))))))))))))))))))))))))))))))))))))))))
end Go.X
