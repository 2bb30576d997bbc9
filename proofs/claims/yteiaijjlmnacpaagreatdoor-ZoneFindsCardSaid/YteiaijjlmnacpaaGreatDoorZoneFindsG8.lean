/- The program's data. -/
import Derived.Test.YteiaijjlmnacpaaGreatDoorZoneFindsG6
open Bool renaming eq_iff_iff→Ch
open Option renaming bind_some→Ay,map_some→A4
set_option maxHeartbeats 1000000
set_option linter.unusedVariables false
set_option linter.unusedSimpArgs false
namespace Go.X
open Go
structure Dat where
 v6:Bool
 hi:Int
 lo:Int
 host:List UInt8
 mail:List UInt8
 text:List UInt8
 a:Int
 b:Int
 c:Int
 d:Int
 e:Int
 f:Int
 bits:Int
 deriving DecidableEq
structure Rec where
 name:List UInt8
 typ:Int
 ttl:Int
 data:Dat
 deriving DecidableEq
structure Zone where
 origin:List UInt8
 recs:List Rec
 deriving DecidableEq
def gv (x:Int):Prop:= -9223372036854775808≤x∧x≤9223372036854775807
def Is0 (x:Int):Prop:=0≤x∧x≤18446744073709551615
def M8 (x:List UInt8):Prop:=x.length≤9223372036854775807
structure Dat.wf (x:Dat):Prop where
 hi:Is0 x.hi
 lo:Is0 x.lo
 host:M8 x.host
 mail:M8 x.mail
 text:M8 x.text
 a:gv x.a
 b:gv x.b
 c:gv x.c
 d:gv x.d
 e:gv x.e
 f:gv x.f
 bits:Is0 x.bits
structure Rec.wf (r:Rec):Prop where
 name:M8 r.name
 typ:gv r.typ
 ttl:gv r.ttl
 data:r.data.wf
def Bm0 (l:List Rec):Prop:=l.length≤9223372036854775807∧∀r∈l,r.wf
structure Zone.wf (z:Zone):Prop where
 origin:M8 z.origin
 recs:Bm0 z.recs
def Dat.cells (x:Dat):List PV:=[.b x.v6,.i .u64 x.hi,.i .u64 x.lo,.s x.host,.s x.mail,.s x.text,.i .i64 x.a,.i .i64 x.b,.i .i64 x.c,.i .i64 x.d,.i .i64 x.e,.i .i64 x.f,.i .u64 x.bits]
def Dat.pv (x:Dat):PV:= .a x.cells
def Rec.cells (x:Rec):List PV:= .s x.name:: .i .i64 x.typ:: .i .i64 x.ttl::x.data.cells
def Rec.pv (x:Rec):PV:= .a x.cells
def Af (l:List Rec):PV:= .l 16 (l.map Rec.pv)
def Zone.pv (x:Zone):PV:= .a [.s x.origin,Af x.recs]
def Bw (l:List (List UInt8)):PV:= .l 1 (l.map .s)
def I5 (x:Dat):PV:= .a [.b x.v6,.i .u64 x.hi,.i .u64 x.lo]
theorem Hn0 (r:Rec):J0 0 16 r.pv=some r.pv:=rfl
theorem Ik3 (r:Rec):Tn 16 r.pv=some r.pv:=rfl
theorem al (r:Rec):J0 3 13 r.pv=some r.data.pv:=rfl
theorem am (r:Rec):J0 3 3 r.pv=some (I5 r.data):=rfl
theorem Bs5 (r:Rec):Bm 0 r.pv=some (.s r.name):=rfl
theorem Bs4 (r:Rec):Bm 1 r.pv=some (.i .i64 r.typ):=rfl
theorem Bs3 (r:Rec):Bm 2 r.pv=some (.i .i64 r.ttl):=rfl
theorem Bs2 (r:Rec):Bm 3 r.pv=some (.b r.data.v6):=rfl
theorem Bs1 (r:Rec):Bm 4 r.pv=some (.i .u64 r.data.hi):=rfl
theorem Bs0 (r:Rec):Bm 5 r.pv=some (.i .u64 r.data.lo):=rfl
theorem Br9 (r:Rec):Bm 6 r.pv=some (.s r.data.host):=rfl
theorem Br8 (r:Rec):Bm 7 r.pv=some (.s r.data.mail):=rfl
theorem Br7 (r:Rec):Bm 8 r.pv=some (.s r.data.text):=rfl
theorem Br6 (r:Rec):Bm 9 r.pv=some (.i .i64 r.data.a):=rfl
theorem Ap9 (r:Rec):Bm 10 r.pv=some (.i .i64 r.data.b):=rfl
theorem Ap8 (r:Rec):Bm 11 r.pv=some (.i .i64 r.data.c):=rfl
theorem Ap7 (r:Rec):Bm 12 r.pv=some (.i .i64 r.data.d):=rfl
theorem Ap6 (r:Rec):Bm 13 r.pv=some (.i .i64 r.data.e):=rfl
theorem Ap5 (r:Rec):Bm 14 r.pv=some (.i .i64 r.data.f):=rfl
theorem Ap4 (r:Rec):Bm 15 r.pv=some (.i .u64 r.data.bits):=rfl
theorem Hn2 (r:Dat):J0 0 13 r.pv=some r.pv:=rfl
theorem bj (r:Dat):J0 0 3 r.pv=some (I5 r):=rfl
theorem Ik5 (r:Dat):Tn 13 r.pv=some r.pv:=rfl
theorem Cj5 (r:Dat):Bm 0 r.pv=some (.b r.v6):=rfl
theorem Cj4 (r:Dat):Bm 1 r.pv=some (.i .u64 r.hi):=rfl
theorem Cj3 (r:Dat):Bm 2 r.pv=some (.i .u64 r.lo):=rfl
theorem Cj2 (r:Dat):Bm 3 r.pv=some (.s r.host):=rfl
theorem Cj1 (r:Dat):Bm 4 r.pv=some (.s r.mail):=rfl
theorem Cj0 (r:Dat):Bm 5 r.pv=some (.s r.text):=rfl
theorem Bt9 (r:Dat):Bm 6 r.pv=some (.i .i64 r.a):=rfl
theorem Bt8 (r:Dat):Bm 7 r.pv=some (.i .i64 r.b):=rfl
theorem Bt7 (r:Dat):Bm 8 r.pv=some (.i .i64 r.c):=rfl
theorem Bt6 (r:Dat):Bm 9 r.pv=some (.i .i64 r.d):=rfl
theorem Ar9 (r:Dat):Bm 10 r.pv=some (.i .i64 r.e):=rfl
theorem Ar8 (r:Dat):Bm 11 r.pv=some (.i .i64 r.f):=rfl
theorem Ar7 (r:Dat):Bm 12 r.pv=some (.i .u64 r.bits):=rfl
theorem Fh3 (r:Dat):Tn 3 (I5 r)=some (I5 r):=rfl
theorem Fw7 (r:Dat):J0 0 3 (I5 r)=some (I5 r):=rfl
theorem As2 (r:Dat):Bm 0 (I5 r)=some (.b r.v6):=rfl
theorem As1 (r:Dat):Bm 1 (I5 r)=some (.i .u64 r.hi):=rfl
theorem As0 (r:Dat):Bm 2 (I5 r)=some (.i .u64 r.lo):=rfl
theorem Fh2 (r:Zone):Tn 2 r.pv=some r.pv:=rfl
theorem Fw5 (r:Zone):J0 0 2 r.pv=some r.pv:=rfl
theorem Ap3 (r:Zone):Bm 0 r.pv=some (.s r.origin):=rfl
theorem Ap2 (r:Zone):Bm 1 r.pv=some (Af r.recs):=rfl
theorem Yg (v:Bool) (h l:Int) (s1 s2 s3:List UInt8) (a b c d e f g:Int):PV.a [.b v,.i .u64 h,.i .u64 l,.s s1,.s s2,.s s3,.i .i64 a,.i .i64 b,.i .i64 c,.i .i64 d,.i .i64 e,.i .i64 f,.i .u64 g]=Dat.pv ⟨v,h,l,s1,s2,s3,a,b,c,d,e,f,g⟩:=rfl
theorem Fg6 (n:List UInt8) (t u:Int) (v:Bool) (h l:Int) (s1 s2 s3:List UInt8) (a b c d e f g:Int):PV.a [.s n,.i .i64 t,.i .i64 u,.b v,.i .u64 h,.i .u64 l,.s s1,.s s2,.s s3,.i .i64 a,.i .i64 b,.i .i64 c,.i .i64 d,.i .i64 e,.i .i64 f,.i .u64 g]=Rec.pv ⟨n,t,u,⟨v,h,l,s1,s2,s3,a,b,c,d,e,f,g⟩⟩:=rfl
theorem Fq (x:Dat):(⟨x.v6,x.hi,x.lo,x.host,x.mail,x.text,x.a,x.b,x.c,x.d,x.e,x.f,x.bits⟩:Dat)=x:=rfl
theorem Iv4 (x:Rec):(⟨x.name,x.typ,x.ttl,x.data⟩:Rec)=x:=rfl
theorem Fh0 (x:Dat):PV.flat x.pv=true:=rfl
theorem Fg9 (x:Rec):PV.flat x.pv=true:=rfl
theorem Cg9 (x:Dat):PV.flat (I5 x)=true:=rfl
theorem Ht7 (x:Rec):J2 16 [x.pv]=some (Af [x]):=rfl
theorem Fd7 (l:List Rec):Gm (Af l)=some (.i .i64 (l.length:Int)):=by simp [Af,Gm]
theorem Od (l:List Rec) (k:IntKind) (z:Int) (h:0≤z):H7 16 (Af l) (.i k z)=(l[z.toNat]?).map Rec.pv:=by simp [Af,gq _ _ _ _ h]
theorem i7 (l:List Rec) (x:Rec) (h:l.length+1≤1073741824):Iz 16 (Af l) (Af [x])=some (Af (l++[x])):=by
 have:=U2 16 (l.map Rec.pv) [x.pv] (by simpa using h)
 simpa [Af] using this
theorem Zf (l m:List Rec) (h:l.length+m.length≤1073741824):Iz 16 (Af l) (Af m)=some (Af (l++m)):=by
 have:=U2 16 (l.map Rec.pv) (m.map Rec.pv) (by simpa using h)
 simpa [Af] using this
theorem Fy6:PV.l 16 []=Af []:=rfl
theorem Mk (l:List Rec) (k k':IntKind) (a b:Int) (h1:0≤a) (h2:a≤b) (h3:b≤(l.length:Int)):Ix 16 (Af l) (.i k a) (.i k' b)=some (Af ((l.take b.toNat).drop a.toNat)):=by
 have:=Cy7 16 (l.map Rec.pv) k k' a b h1 h2 (by simpa using h3)
 simpa [Af] using this
theorem Hn9 (l:List Rec) (k:IntKind) (z:Int) (n:List UInt8) (t u:Int) (v:Bool) (h w:Int) (s1 s2 s3:List UInt8) (a b c d e f g:Int) (h0:0≤z) (h1:z<(l.length:Int)):
  Sw 16 0 [.s n,.i .i64 t,.i .i64 u,.b v,.i .u64 h,.i .u64 w,.s s1,.s s2,.s s3,.i .i64 a,.i .i64 b,.i .i64 c,.i .i64 d,.i .i64 e,.i .i64 f,.i .u64 g] (Af l) (.i k z)=some (Af (l.set z.toNat ⟨n,t,u,⟨v,h,w,s1,s2,s3,a,b,c,d,e,f,g⟩⟩)):=by
 have h2:z.toNat<l.length:=by omega
 have h3:(l.map Rec.pv)[z.toNat]? =some (l[z.toNat].pv):=by simp [h2]
 simp only [Sw,Af,h0,h3,and_self,if_true,Ay]
 have h4:Pb (l[z.toNat].pv) 0 [.s n,.i .i64 t,.i .i64 u,.b v,.i .u64 h,.i .u64 w,.s s1,.s s2,.s s3,.i .i64 a,.i .i64 b,.i .i64 c,.i .i64 d,.i .i64 e,.i .i64 f,.i .u64 g]=some (Rec.pv ⟨n,t,u,⟨v,h,w,s1,s2,s3,a,b,c,d,e,f,g⟩⟩):=rfl
 rw [h4]
 simp [List.map_set]
theorem Bl0 (l:List Rec):Ir (Af l)=some (Af l):=rfl
theorem Fd6 (l:List (List UInt8)):Gm (Bw l)=some (.i .i64 (l.length:Int)):=by simp [Bw,Gm]
theorem Mx (l:List (List UInt8)) (k:IntKind) (z:Int) (h:0≤z):H7 1 (Bw l) (.i k z)=(l[z.toNat]?).map PV.s:=by simp [Bw,gq _ _ _ _ h]
theorem Ht6 (x:List UInt8):J2 1 [.s x]=some (Bw [x]):=rfl
theorem Fw9:PV.l 1 []=Bw []:=rfl
theorem Eh7 (l:List (List UInt8)) (x:List UInt8) (h:l.length+1≤1073741824):Iz 1 (Bw l) (Bw [x])=some (Bw (l++[x])):=by
 have:=U2 1 (l.map PV.s) [.s x] (by simpa using h)
 simpa [Bw] using this
theorem Ah1 (l m:List (List UInt8)) (h:l.length+m.length≤1073741824):Iz 1 (Bw l) (Bw m)=some (Bw (l++m)):=by
 have:=U2 1 (l.map PV.s) (m.map PV.s) (by simpa using h)
 simpa [Bw] using this
theorem Mj (l:List (List UInt8)) (k k':IntKind) (a b:Int) (h1:0≤a) (h2:a≤b) (h3:b≤(l.length:Int)):Ix 1 (Bw l) (.i k a) (.i k' b)=some (Bw ((l.take b.toNat).drop a.toNat)):=by
 have:=Cy7 1 (l.map PV.s) k k' a b h1 h2 (by simpa using h3)
 simpa [Bw] using this
theorem Fx7 (l:List (List UInt8)) (k:IntKind) (z:Int) (x:List UInt8) (h0:0≤z) (h1:z<(l.length:Int)):Sw 1 0 [.s x] (Bw l) (.i k z)=some (Bw (l.set z.toNat x)):=by
 have h2:z.toNat<l.length:=by omega
 have h3:(l.map PV.s)[z.toNat]? =some (.s l[z.toNat]):=by simp [h2]
 simp only [Sw,Bw,h0,h3,and_self,if_true,Ay]
 have h4:Pb (.s l[z.toNat]) 0 [.s x]=some (.s x):=rfl
 rw [h4]
 simp [List.map_set]
theorem xv (n:Int) (h0:0≤n) (h1:n≤1073741824):Lk 1 (.i .i64 n) (.s [])=some (Bw (List.replicate n.toNat [])):=by
 have h2:n≤(LIM:Int):=by simp only [LIM];omega
 have h3:(PV.s []).cells.length=1:=rfl
 simp only [Lk,h0,h2,h3,and_self,if_true]
 simp [Bw]
theorem Br4 (l:List (List UInt8)):Bm 0 (Bw l)=some (Bw l):=rfl
theorem Br5 (l:List Rec):Bm 0 (Af l)=some (Af l):=rfl
theorem Bh9 (l:List (List UInt8)):Ir (Bw l)=some (Bw l):=rfl
theorem Kk3 (neg:Bool) (x y:Dat):K3 neg true [.b,(.i .u64),(.i .u64),.s,.s,.s,(.i .i64),(.i .i64),(.i .i64),(.i .i64),(.i .i64),(.i .i64),(.i .u64)] x.pv y.pv=some (.b (if neg then decide (x≠y) else decide (x=y))):=by
 have:Gc [.b,(.i .u64),(.i .u64),.s,.s,.s,(.i .i64),(.i .i64),(.i .i64),(.i .i64),(.i .i64),(.i .i64),(.i .u64)] x.cells y.cells=some (decide (x=y)):=by
  simp only [Dat.cells,Gc,En1,if_true,Option.some.injEq]
  rw [Ch]
  cases x;cases y;simp
 simp only [K3,Dat.pv,this,A4]
 cases neg<;>simp
theorem Kk2 (neg:Bool) (x y:Rec):K3 neg true [.s,(.i .i64),(.i .i64),.b,(.i .u64),(.i .u64),.s,.s,.s,(.i .i64),(.i .i64),(.i .i64),(.i .i64),(.i .i64),(.i .i64),(.i .u64)] x.pv y.pv=some (.b (if neg then decide (x≠y) else decide (x=y))):=by
 have:Gc [.s,(.i .i64),(.i .i64),.b,(.i .u64),(.i .u64),.s,.s,.s,(.i .i64),(.i .i64),(.i .i64),(.i .i64),(.i .i64),(.i .i64),(.i .u64)] x.cells y.cells=some (decide (x=y)):=by
  simp only [Rec.cells,Dat.cells,Gc,En1,if_true,Option.some.injEq]
  rw [Ch]
  rcases x with ⟨_,_,_,⟨⟩⟩;rcases y with ⟨_,_,_,⟨⟩⟩;simp [and_assoc]
 simp only [K3,Rec.pv,this,A4]
 cases neg<;>simp
set_option linter.defProp false in
def EVP:=(And.intro @Fx7 (And.intro @xv (And.intro @Hn9 (And.intro @Hn0 (And.intro @Ik3 (And.intro @al (And.intro @am (And.intro @Bs5 (And.intro @Bs4 (And.intro @Bs3 (And.intro @Bs2 (And.intro @Bs1 (And.intro @Bs0 (And.intro @Br9 (And.intro @Br8 (And.intro @Br7 (And.intro @Br6 (And.intro @Ap9 (And.intro @Ap8 (And.intro @Ap7 (And.intro @Ap6 (And.intro @Ap5 (And.intro @Ap4 (And.intro @Hn2 (And.intro @bj (And.intro @Ik5 (And.intro @Cj5 (And.intro @Cj4 (And.intro @Cj3 (And.intro @Cj2 (And.intro @Cj1 (And.intro @Cj0 (And.intro @Bt9 (And.intro @Bt8 (And.intro @Bt7 (And.intro @Bt6 (And.intro @Ar9 (And.intro @Ar8 (And.intro @Ar7 (And.intro @Fh3 (And.intro @Fw7 (And.intro @As2 (And.intro @As1 (And.intro @As0 (And.intro @Fh2 (And.intro @Fw5 (And.intro @Ap3 (And.intro @Ap2 (And.intro @Yg (And.intro @Fg6 (And.intro @Fq (And.intro @Iv4 (And.intro @Fh0 (And.intro @Fg9 (And.intro @Cg9 (And.intro @Ht7 (And.intro @Fd7 (And.intro @Od (And.intro @i7 (And.intro @Zf (And.intro @Fy6 (And.intro @Mk (And.intro @Bl0 (And.intro @Fd6 (And.intro @Mx (And.intro @Ht6 (And.intro @Fw9 (And.intro @Eh7 (And.intro @Ah1 (And.intro @Mj (And.intro @Br4 (And.intro @Br5 (And.intro @Bh9 (And.intro @Kk3 @Kk2))))))))))))))))))))))))))))))))))))))))))))))))))))))))))))))))))))))))))
end Go.X
