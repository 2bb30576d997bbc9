/- The program's data. -/
import Derived.Test.YtfnmphjdknjkmaaGreatDoorNsecCompleteG6
open Bool renaming eq_iff_iff→Cr
open Option renaming bind_some→Az,map_some→A7
open Option.some renaming injEq→Aq
set_option maxHeartbeats 1000000
set_option linter.defProp false
set_option linter.unusedVariables false
set_option linter.unusedSimpArgs false
namespace Go.X
open Go
structure Dat where
 v6:Bool
 hi:Int
 lo:Int
 host:List UInt8
 mail:List UInt8
 text:List UInt8
 a:Int
 b:Int
 c:Int
 d:Int
 e:Int
 f:Int
 bits:Int
 deriving DecidableEq
structure Rec where
 name:List UInt8
 typ:Int
 ttl:Int
 data:Dat
 deriving DecidableEq
structure Zone where
 origin:List UInt8
 recs:List Rec
 deriving DecidableEq
def S6 (x:Int):Prop:= -9223372036854775808≤x∧x≤9223372036854775807
def Dj7 (x:Int):Prop:=0≤x∧x≤18446744073709551615
def Q8 (x:List UInt8):Prop:=x.length≤9223372036854775807
structure Dat.wf (x:Dat):Prop where
 hi:Dj7 x.hi
 lo:Dj7 x.lo
 host:Q8 x.host
 mail:Q8 x.mail
 text:Q8 x.text
 a:S6 x.a
 b:S6 x.b
 c:S6 x.c
 d:S6 x.d
 e:S6 x.e
 f:S6 x.f
 bits:Dj7 x.bits
structure Rec.wf (r:Rec):Prop where
 name:Q8 r.name
 typ:S6 r.typ
 ttl:S6 r.ttl
 data:r.data.wf
def Bm8 (l:List Rec):Prop:=l.length≤9223372036854775807∧∀r∈l,r.wf
structure Zone.wf (z:Zone):Prop where
 origin:Q8 z.origin
 recs:Bm8 z.recs
def Dat.cells (x:Dat):List PV:=[.b x.v6, .i .u64 x.hi, .i .u64 x.lo, .s x.host, .s x.mail, .s x.text, .i .i64 x.a, .i .i64 x.b, .i .i64 x.c, .i .i64 x.d, .i .i64 x.e, .i .i64 x.f, .i .u64 x.bits]
def Dat.pv (x:Dat):PV:= .a x.cells
def Rec.cells (x:Rec):List PV:= .s x.name:: .i .i64 x.typ:: .i .i64 x.ttl::x.data.cells
def Rec.pv (x:Rec):PV:= .a x.cells
def Ag (l:List Rec):PV:= .l 16 (l.map Rec.pv)
def Zone.pv (x:Zone):PV:= .a [.s x.origin,Ag x.recs]
def Bn (l:List (List UInt8)):PV:= .l 1 (l.map .s)
def Kn (x:Dat):PV:= .a [.b x.v6, .i .u64 x.hi, .i .u64 x.lo]
def El5 (r:Rec):Kq 0 16 r.pv=some r.pv:=rfl
def Fk0 (r:Rec):S7 16 r.pv=some r.pv:=rfl
def ij (r:Rec):Kq 3 13 r.pv=some r.data.pv:=rfl
def ik (r:Rec):Kq 3 3 r.pv=some (Kn r.data):=rfl
def Bt8 (r:Rec):Bt 0 r.pv=some (.s r.name):=rfl
def Bt7 (r:Rec):Bt 1 r.pv=some (.i .i64 r.typ):=rfl
def Bt6 (r:Rec):Bt 2 r.pv=some (.i .i64 r.ttl):=rfl
def Bt5 (r:Rec):Bt 3 r.pv=some (.b r.data.v6):=rfl
def Bt4 (r:Rec):Bt 4 r.pv=some (.i .u64 r.data.hi):=rfl
def Bt3 (r:Rec):Bt 5 r.pv=some (.i .u64 r.data.lo):=rfl
def Bt2 (r:Rec):Bt 6 r.pv=some (.s r.data.host):=rfl
def Bt1 (r:Rec):Bt 7 r.pv=some (.s r.data.mail):=rfl
def Bt0 (r:Rec):Bt 8 r.pv=some (.s r.data.text):=rfl
def Bs9 (r:Rec):Bt 9 r.pv=some (.i .i64 r.data.a):=rfl
def As8 (r:Rec):Bt 10 r.pv=some (.i .i64 r.data.b):=rfl
def As7 (r:Rec):Bt 11 r.pv=some (.i .i64 r.data.c):=rfl
def As6 (r:Rec):Bt 12 r.pv=some (.i .i64 r.data.d):=rfl
def As5 (r:Rec):Bt 13 r.pv=some (.i .i64 r.data.e):=rfl
def As4 (r:Rec):Bt 14 r.pv=some (.i .i64 r.data.f):=rfl
def As3 (r:Rec):Bt 15 r.pv=some (.i .u64 r.data.bits):=rfl
def El7 (r:Dat):Kq 0 13 r.pv=some r.pv:=rfl
def iq (r:Dat):Kq 0 3 r.pv=some (Kn r):=rfl
def Fk2 (r:Dat):S7 13 r.pv=some r.pv:=rfl
def Ck8 (r:Dat):Bt 0 r.pv=some (.b r.v6):=rfl
def Ck7 (r:Dat):Bt 1 r.pv=some (.i .u64 r.hi):=rfl
def Ck6 (r:Dat):Bt 2 r.pv=some (.i .u64 r.lo):=rfl
def Ck5 (r:Dat):Bt 3 r.pv=some (.s r.host):=rfl
def Ck4 (r:Dat):Bt 4 r.pv=some (.s r.mail):=rfl
def Ck3 (r:Dat):Bt 5 r.pv=some (.s r.text):=rfl
def Ck2 (r:Dat):Bt 6 r.pv=some (.i .i64 r.a):=rfl
def Ck1 (r:Dat):Bt 7 r.pv=some (.i .i64 r.b):=rfl
def Ck0 (r:Dat):Bt 8 r.pv=some (.i .i64 r.c):=rfl
def Cj9 (r:Dat):Bt 9 r.pv=some (.i .i64 r.d):=rfl
def At8 (r:Dat):Bt 10 r.pv=some (.i .i64 r.e):=rfl
def At7 (r:Dat):Bt 11 r.pv=some (.i .i64 r.f):=rfl
def At6 (r:Dat):Bt 12 r.pv=some (.i .u64 r.bits):=rfl
def Ds3 (r:Dat):S7 3 (Kn r)=some (Kn r):=rfl
def Dc2 (r:Dat):Kq 0 3 (Kn r)=some (Kn r):=rfl
def Bj1 (r:Dat):Bt 0 (Kn r)=some (.b r.v6):=rfl
def Bj0 (r:Dat):Bt 1 (Kn r)=some (.i .u64 r.hi):=rfl
def At9 (r:Dat):Bt 2 (Kn r)=some (.i .u64 r.lo):=rfl
def Ds2 (r:Zone):S7 2 r.pv=some r.pv:=rfl
def Dc0 (r:Zone):Kq 0 2 r.pv=some r.pv:=rfl
def As2 (r:Zone):Bt 0 r.pv=some (.s r.origin):=rfl
def As1 (r:Zone):Bt 1 r.pv=some (Ag r.recs):=rfl
def c6 (v:Bool) (h l:Int) (s1 s2 s3:List UInt8) (a b c d e f g:Int):PV.a [.b v, .i .u64 h, .i .u64 l, .s s1, .s s2, .s s3, .i .i64 a, .i .i64 b, .i .i64 c, .i .i64 d, .i .i64 e, .i .i64 f, .i .u64 g]=Dat.pv ⟨v,h,l,s1,s2,s3,a,b,c,d,e,f,g⟩:=rfl
def Dr6 (n:List UInt8) (t u:Int) (v:Bool) (h l:Int) (s1 s2 s3:List UInt8) (a b c d e f g:Int):PV.a [.s n, .i .i64 t, .i .i64 u, .b v, .i .u64 h, .i .u64 l, .s s1, .s s2, .s s3, .i .i64 a, .i .i64 b, .i .i64 c, .i .i64 d, .i .i64 e, .i .i64 f, .i .u64 g]=Rec.pv ⟨n,t,u,⟨v,h,l,s1,s2,s3,a,b,c,d,e,f,g⟩⟩:=rfl
def Fl (x:Dat):(⟨x.v6,x.hi,x.lo,x.host,x.mail,x.text,x.a,x.b,x.c,x.d,x.e,x.f,x.bits⟩:Dat)=x:=rfl
def Fq5 (x:Rec):(⟨x.name,x.typ,x.ttl,x.data⟩:Rec)=x:=rfl
def Ds0 (x:Dat):PV.flat x.pv=true:=rfl
def Dr9 (x:Rec):PV.flat x.pv=true:=rfl
def Ch3 (x:Dat):PV.flat (Kn x)=true:=rfl
def Es9 (x:Rec):Jl 16 [x.pv]=some (Ag [x]):=rfl
def Dn4 (l:List Rec):Gb (Ag l)=some (.i .i64 (l.length:Int)):=by simp [Ag,Gb]
def Lv (l:List Rec) (k:IntKind) (z:Int) (h:0≤z):Ht 16 (Ag l) (.i k z)=(l[z.toNat]?).map Rec.pv:=by simp [Ag,cr _ _ _ _ h]
def Cs7 (l:List Rec) (x:Rec) (h:l.length+1≤1073741824):Ih 16 (Ag l) (Ag [x])=some (Ag (l++[x])):=by have:=Wb 16 (l.map Rec.pv) [x.pv] (by simpa using h);simpa [Ag] using this
def T2 (l m:List Rec) (h:l.length+m.length≤1073741824):Ih 16 (Ag l) (Ag m)=some (Ag (l++m)):=by have:=Wb 16 (l.map Rec.pv) (m.map Rec.pv) (by simpa using h);simpa [Ag] using this
def Df2:PV.l 16 []=Ag []:=rfl
def Hg (l:List Rec) (k k':IntKind) (a b:Int) (h1:0≤a) (h2:a≤b) (h3:b≤(l.length:Int)):Hh 16 (Ag l) (.i k a) (.i k' b)=some (Ag ((l.take b.toNat).drop a.toNat)):=by have:=Cz3 16 (l.map Rec.pv) k k' a b h1 h2 (by simpa using h3);simpa [Ag] using this
def En0 (l:List Rec) (k:IntKind) (z:Int) (n:List UInt8) (t u:Int) (v:Bool) (h w:Int) (s1 s2 s3:List UInt8) (a b c d e f g:Int) (h0:0≤z) (h1:z<(l.length:Int)):
  Pf 16 0 [.s n, .i .i64 t, .i .i64 u, .b v, .i .u64 h, .i .u64 w, .s s1, .s s2, .s s3, .i .i64 a, .i .i64 b, .i .i64 c, .i .i64 d, .i .i64 e, .i .i64 f, .i .u64 g] (Ag l) (.i k z)=some (Ag (l.set z.toNat ⟨n,t,u,⟨v,h,w,s1,s2,s3,a,b,c,d,e,f,g⟩⟩)):=by
 have h2:z.toNat<l.length:=by omega
 have h3:(l.map Rec.pv)[z.toNat]? =some (l[z.toNat].pv):=by simp [h2]
 simp only [Pf,Ag,h0,h3,and_self,if_true,Az];have h4:Oz (l[z.toNat].pv) 0 [.s n, .i .i64 t, .i .i64 u, .b v, .i .u64 h, .i .u64 w, .s s1, .s s2, .s s3, .i .i64 a, .i .i64 b, .i .i64 c, .i .i64 d, .i .i64 e, .i .i64 f, .i .u64 g]=some (Rec.pv ⟨n,t,u,⟨v,h,w,s1,s2,s3,a,b,c,d,e,f,g⟩⟩):=rfl;rw [h4];simp [List.map_set]
def Bl4 (l:List Rec):Jq (Ag l)=some (Ag l):=rfl
def Dn3 (l:List (List UInt8)):Gb (Bn l)=some (.i .i64 (l.length:Int)):=by simp [Bn,Gb]
def Nf (l:List (List UInt8)) (k:IntKind) (z:Int) (h:0≤z):Ht 1 (Bn l) (.i k z)=(l[z.toNat]?).map PV.s:=by simp [Bn,cr _ _ _ _ h]
def Es8 (x:List UInt8):Jl 1 [.s x]=some (Bn [x]):=rfl
def Dc5:PV.l 1 []=Bn []:=rfl
def Cs6 (l:List (List UInt8)) (x:List UInt8) (h:l.length+1≤1073741824):Ih 1 (Bn l) (Bn [x])=some (Bn (l++[x])):=by have:=Wb 1 (l.map PV.s) [.s x] (by simpa using h);simpa [Bn] using this
def Al3 (l m:List (List UInt8)) (h:l.length+m.length≤1073741824):Ih 1 (Bn l) (Bn m)=some (Bn (l++m)):=by have:=Wb 1 (l.map PV.s) (m.map PV.s) (by simpa using h);simpa [Bn] using this
def Nz (l:List (List UInt8)) (k k':IntKind) (a b:Int) (h1:0≤a) (h2:a≤b) (h3:b≤(l.length:Int)):Hh 1 (Bn l) (.i k a) (.i k' b)=some (Bn ((l.take b.toNat).drop a.toNat)):=by have:=Cz3 1 (l.map PV.s) k k' a b h1 h2 (by simpa using h3);simpa [Bn] using this
def Dd3 (l:List (List UInt8)) (k:IntKind) (z:Int) (x:List UInt8) (h0:0≤z) (h1:z<(l.length:Int)):Pf 1 0 [.s x] (Bn l) (.i k z)=some (Bn (l.set z.toNat x)):=by
 have h2:z.toNat<l.length:=by omega
 have h3:(l.map PV.s)[z.toNat]? =some (.s l[z.toNat]):=by simp [h2]
 simp only [Pf,Bn,h0,h3,and_self,if_true,Az];have h4:Oz (.s l[z.toNat]) 0 [.s x]=some (.s x):=rfl;rw [h4];simp [List.map_set]
def Az0 (n:Int) (h0:0≤n) (h1:n≤1073741824):L0 1 (.i .i64 n) (.s [])=some (Bn (List.replicate n.toNat [])):=by
 have h2:n≤(LIM:Int):=by simp only [LIM];omega
 have h3:(PV.s []).cells.length=1:=rfl;simp only [L0,h0,h2,h3,and_self,if_true];simp [Bn]
def Bs2 (l:List (List UInt8)):Bt 0 (Bn l)=some (Bn l):=rfl
def Bs8 (l:List Rec):Bt 0 (Ag l)=some (Ag l):=rfl
def Bl3 (l:List (List UInt8)):Jq (Bn l)=some (Bn l):=rfl
def Gp0 (neg:Bool) (x y:Dat):L2 neg true [.b,(.i .u64),(.i .u64), .s, .s, .s,(.i .i64),(.i .i64),(.i .i64),(.i .i64),(.i .i64),(.i .i64),(.i .u64)] x.pv y.pv=some (.b (if neg then decide (x≠y) else decide (x=y))):=by
 have:G2 [.b,(.i .u64),(.i .u64), .s, .s, .s,(.i .i64),(.i .i64),(.i .i64),(.i .i64),(.i .i64),(.i .i64),(.i .u64)] x.cells y.cells=some (decide (x=y)):=by simp only [Dat.cells,G2,Dk1,if_true,Aq];rw [Cr];cases x;cases y;simp
 simp only [L2,Dat.pv,this,A7];cases neg<;>simp
def Gn9 (neg:Bool) (x y:Rec):L2 neg true [.s,(.i .i64),(.i .i64), .b,(.i .u64),(.i .u64), .s, .s, .s,(.i .i64),(.i .i64),(.i .i64),(.i .i64),(.i .i64),(.i .i64),(.i .u64)] x.pv y.pv=some (.b (if neg then decide (x≠y) else decide (x=y))):=by
 have:G2 [.s,(.i .i64),(.i .i64), .b,(.i .u64),(.i .u64), .s, .s, .s,(.i .i64),(.i .i64),(.i .i64),(.i .i64),(.i .i64),(.i .i64),(.i .u64)] x.cells y.cells=some (decide (x=y)):=by simp only [Rec.cells,Dat.cells,G2,Dk1,if_true,Aq];rw [Cr];rcases x with ⟨_,_,_,⟨⟩⟩;rcases y with ⟨_,_,_,⟨⟩⟩;simp [and_assoc]
 simp only [L2,Rec.pv,this,A7];cases neg<;>simp
set_option linter.defProp false in
def EVP:=(And.intro @Dd3 (And.intro @Az0 (And.intro @En0 (And.intro @El5 (And.intro @Fk0 (And.intro @ij (And.intro @ik (And.intro @Bt8 (And.intro @Bt7 (And.intro @Bt6 (And.intro @Bt5 (And.intro @Bt4 (And.intro @Bt3 (And.intro @Bt2 (And.intro @Bt1 (And.intro @Bt0 (And.intro @Bs9 (And.intro @As8 (And.intro @As7 (And.intro @As6 (And.intro @As5 (And.intro @As4 (And.intro @As3 (And.intro @El7 (And.intro @iq (And.intro @Fk2 (And.intro @Ck8 (And.intro @Ck7 (And.intro @Ck6 (And.intro @Ck5 (And.intro @Ck4 (And.intro @Ck3 (And.intro @Ck2 (And.intro @Ck1 (And.intro @Ck0 (And.intro @Cj9 (And.intro @At8 (And.intro @At7 (And.intro @At6 (And.intro @Ds3 (And.intro @Dc2 (And.intro @Bj1 (And.intro @Bj0 (And.intro @At9 (And.intro @Ds2 (And.intro @Dc0 (And.intro @As2 (And.intro @As1 (And.intro @c6 (And.intro @Dr6 (And.intro @Fl (And.intro @Fq5 (And.intro @Ds0 (And.intro @Dr9 (And.intro @Ch3 (And.intro @Es9 (And.intro @Dn4 (And.intro @Lv (And.intro @Cs7 (And.intro @T2 (And.intro @Df2 (And.intro @Hg (And.intro @Bl4 (And.intro @Dn3 (And.intro @Nf (And.intro @Es8 (And.intro @Dc5 (And.intro @Cs6 (And.intro @Al3 (And.intro @Nz (And.intro @Bs2 (And.intro @Bs8 (And.intro @Bl3 (And.intro @Gp0 @Gn9))))))))))))))))))))))))))))))))))))))))))))))))))))))))))))))))))))))))))
end Go.X
