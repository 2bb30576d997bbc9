/- Sets of records: what the program's and the reference's functions give. -/
import Derived.Test.YtafdmaddhbcppaaGreatDoorProveDenialsG14
import Derived.Test.YtafdmaddhbcppaaGreatDoorProveDenialsG13
import Derived.Test.YtafdmaddhbcppaaGreatDoorProveDenialsG11
open Bool renaming eq_false_or_eq_true→Bm,and_eq_true→Br,false_eq_true→B5,eq_iff_iff→D5
open Int renaming toNat_natCast→Ec,lt_irrefl→Gn
open List renaming length_append→B0,length_cons→Cj,mem_cons→Ck,mem_of_getElem?→Cq,append_assoc→Cv,length_nil→C2,getElem?_map→C3,mem_filter→C5,mem_append→C8,nil_append→Dw,mem_singleton→Dx,any_eq_true→Dd,length_filter_le→Dh,length_map→D2,append_nil→Eg,filter_cons_of_pos→En,getElem_mem→E4,flatMap_cons→F3,filter_cons_of_neg→G6,getLast?_eq_getElem?→J5,getElem?_set_self→M1,findIdx?_cons→Ov,mem_of_getLast?→Ch9,foldl_cons→Jq0
open Nat renaming le_refl→B7,mul_le_mul_right→Cs,zero_le→Dy,le_trans→Dt
open Option renaming bind_some→B3,map_some→Cd
set_option maxHeartbeats 1000000
set_option linter.defProp false
set_option linter.unusedVariables false
set_option linter.unusedSimpArgs false
namespace Go.X
open Go
structure SetR where
 name:List UInt8
 typ:Int
 ttl:Int
 data:List Dat
 deriving DecidableEq
def Gy (l:List Dat):PV:= .l 13 (l.map Dat.pv)
def SetR.pv (x:SetR):PV:= .a [.s x.name,.i .i64 x.typ,.i .i64 x.ttl,Gy x.data]
def Fb (l:List SetR):PV:= .l 4 (l.map SetR.pv)
def Fp2:PV.l 13 []=Gy []:=rfl
def Fz0:PV.l 4 []=Fb []:=rfl
def Dw9 (x:SetR):Dk 0 x.pv=some (.s x.name):=rfl
def Dw8 (x:SetR):Dk 1 x.pv=some (.i .i64 x.typ):=rfl
def Dw7 (x:SetR):Dk 2 x.pv=some (.i .i64 x.ttl):=rfl
def Dw6 (x:SetR):Dk 3 x.pv=some (Gy x.data):=rfl
def Gt7 (x:SetR):Vv 4 x.pv=some x.pv:=rfl
def Gh9 (x:SetR):Lp 0 4 x.pv=some x.pv:=rfl
def Ek9 (n:List UInt8) (t u:Int) (d:List Dat):PV.a [.s n,.i .i64 t,.i .i64 u,Gy d]=SetR.pv ⟨n,t,u,d⟩:=rfl
def Hk4 (x:SetR):(⟨x.name,x.typ,x.ttl,x.data⟩:SetR)=x:=rfl
def Gs4 (x:SetR):K4 4 [x.pv]=some (Fb [x]):=rfl
def Gs7 (x:Dat):K4 13 [x.pv]=some (Gy [x]):=rfl
def Bf2 (l:List SetR):Hc (Fb l)=some (.i .i64 (l.length:Int)):=by simp[Fb,Hc]
def Fg8 (l:List Dat):Hc (Gy l)=some (.i .i64 (l.length:Int)):=by simp[Gy,Hc]
def Ct4 (l:List SetR):Kj (Fb l)=some (Fb l):=rfl
def Ct7 (l:List Dat):Kj (Gy l)=some (Gy l):=rfl
def Bg2 (l:List SetR) (k:IntKind) (z:Int) (h:0≤z):I7 4 (Fb l) (.i k z)=(l[z.toNat]?).map SetR.pv:=by simp[Fb,Zp _ _ _ _ h]
def Fl3 (l:List Dat) (k:IntKind) (z:Int) (h:0≤z):I7 13 (Gy l) (.i k z)=(l[z.toNat]?).map Dat.pv:=by simp[Gy,Zp _ _ _ _ h]
def Ef2 (l:List SetR) (x:SetR) (h:l.length+1≤1073741824):Jn 4 (Fb l) (Fb [x])=some (Fb (l++[x])):=by have:=Vr 4 (l.map SetR.pv) [x.pv] (by simpa using h);simpa [Fb] using this
def Ef5 (l:List Dat) (x:Dat) (h:l.length+1≤1073741824):Jn 13 (Gy l) (Gy [x])=some (Gy (l++[x])):=by have:=Vr 13 (l.map Dat.pv) [x.pv] (by simpa using h);simpa [Gy] using this
def kw {l:List SetR} {k:IntKind} {z:Int} {x y:SetR} {off:Nat} {vs:List PV} (h0:0≤z) (h3:l[z.toNat]? =some x) (h:Oh x.pv off vs=some y.pv):Lr 4 off vs (Fb l) (.i k z)=some (Fb (l.set z.toNat y)):=by
 have h4:(l.map SetR.pv)[z.toNat]? =some x.pv:=by rw[C3,h3];rfl
 simp only[Lr,Fb,h0,h4,and_self,if_true,B3,h,Cd];simp[List.map_set]
set_option linter.defProp false in
def Uv:=(And.intro @Fp2 (And.intro @Fz0 (And.intro @Dw9 (And.intro @Dw8 (And.intro @Dw7 (And.intro @Dw6 (And.intro @Gt7 (And.intro @Gh9 (And.intro @Ek9 (And.intro @Hk4 (And.intro @Gs4 (And.intro @Gs7 (And.intro @Bf2 (And.intro @Fg8 (And.intro @Ct4 (And.intro @Ct7 (And.intro @Bg2 (And.intro @Fl3 (And.intro @Ef2 @Ef5)))))))))))))))))))
end Go.X
namespace Go.X.G
open Go Go.X
def Ah:=And.intro xe<|And.intro EVP EV
def Ag:=And.intro EVC<|And.intro xe<|And.intro EVP EV
def Af:=And.intro EVM<|And.intro EVC<|And.intro xe<|And.intro EVP EV
def addS (g:List SetR) (r:Rec):List SetR:=
 match g.getLast? with
 |some x=>if x.name=r.name∧x.typ=r.typ then g.dropLast++[⟨x.name,x.typ,if r.ttl<x.ttl then r.ttl else x.ttl,x.data++[r.data]⟩] else g++[⟨r.name,r.typ,r.ttl,[r.data]⟩]
 |none=>[⟨r.name,r.typ,r.ttl,[r.data]⟩]
def Fz1 (l:List Rec):List SetR:=l.foldl addS []
def setsR (l:List Rec):List SetR:=Fz1 (sortR l)
def Kv (g:List SetR):List Dat:=((g.getLast?).map SetR.data).getD []
def rn {g:List SetR} {x:SetR} (h:g.getLast? =some x) (y:SetR):g.set (g.length - 1) y=g.dropLast++[y]:=by obtain⟨a,rfl⟩:=List.getLast?_eq_some_iff.1 h;simp
def Bp5 (g:List SetR) (r:Rec):(addS g r).length≤g.length+1:=by
 unfold addS;split
 ·split
  ·simp
  ·simp
 ·simp
def Ct1 (x:SetR) (g:List SetR) (c:Rec) (s:List Rec) (i:Nat) (p0 p2 p3:PV) (d:List Dat) (N:Nat) (hc:s[i]? =some c) (hg:g.getLast? =some x) (hl:g.length≤1000000) (hd:d.length≤1000000) (hi:i≤1000000) (hxd:x.data=d):
  Ez0.ev S N [p0,B6 s,p2,p3,.i .i64 (i:Int),Fb g,Gy d,.i .i64 (g.length:Int)]=some (.yld 1 [Fb (g.dropLast++[⟨x.name,x.typ,if c.ttl<x.ttl then c.ttl else x.ttl,d++[c.data]⟩]),Gy (d++[c.data]),.i .i64 ((i+1:Nat):Int)]):=by
 have hpos:0<g.length:=by cases g<;>simp at hg ⊢
 have e1:((g.length:Int) - 1).toNat=g.length - 1:=by omega
 have hx:g[((g.length:Int) - 1).toNat]? =some x:=by rw[e1,←J5];exact hg
 have hw:IntKind.i64.wrap ((g.length:Int) - 1)=(g.length:Int) - 1:=w64 (by omega) (by omega);let y:SetR:=⟨x.name,x.typ,if c.ttl<x.ttl then c.ttl else x.ttl,x.data⟩;let z:SetR:=⟨x.name,x.typ,if c.ttl<x.ttl then c.ttl else x.ttl,d++[c.data]⟩;have s1:Lr 4 2 [.i .i64 (if c.ttl<x.ttl then c.ttl else x.ttl)] (Fb g) (.i .i64 ((g.length:Int) - 1))=some (Fb (g.set (g.length - 1) y)):=by rw[←e1];exact kw (by omega) hx rfl
 have hl2:(g.set (g.length - 1) y).length=g.length:=by simp
 have hx2:(g.set (g.length - 1) y)[((g.length:Int) - 1).toNat]? =some y:=by rw[e1,M1 (by omega)]
 have s2:Lr 4 3 [Gy (d++[c.data])] (Fb (g.set (g.length - 1) y)) (.i .i64 ((g.length:Int) - 1))=some (Fb (g.dropLast++[z])):=by rw[kw (x:=y) (y:=z) (by omega) hx2 rfl,e1,List.set_set,rn hg]
 have hmn:Ff7 (.i .i64 x.ttl) (.i .i64 c.ttl)=some (.i .i64 (if c.ttl<x.ttl then c.ttl else x.ttl)):=by simp[Ff7]
 have hy3:Dk 3 y.pv=some (Gy x.data):=rfl;have i1:I7 4 (Fb (g.set (g.length - 1) y)) (.i .i64 ((g.length:Int) - 1))=some y.pv:=by rw[Bg2 _ _ _ (by omega),hx2];rfl
 have n1:Hc (Fb (g.set (g.length - 1) y))=some (.i .i64 (g.length:Int)):=by rw[Bf2,hl2]
 generalize hG:Fb (g.set (g.length - 1) y)=G at*;generalize hY:y.pv=Y at*;simp(disch:=omega)only[Aq4,hc,hx,hw,hmn,s1,s2,i1,n1,hy3,Uv,Ah,simprocAttr]
 try rfl
structure SetsIn (g:List SetR) (i:Nat):Prop where
 len:g.length≤i
 each:∀x∈g,x.data.length≤i
def Ef8 {g:List SetR} {i:Nat} (h:SetsIn g i) (c:Rec):SetsIn (addS g c) (i+1):=by
 refine⟨Dt (Bp5 g c) (by have:=h.len;omega),fun x hx=> ?_⟩;unfold addS at hx;split at hx
 ·rename_i y hy;have hym:y∈g:=Ch9 hy;split at hx
  ·rcases C8.1 hx with hx|hx
   ·have:=h.each x (List.dropLast_subset _ hx);omega
   ·rw[Dx.1 hx];have:=h.each y hym;simp;omega
  ·rcases C8.1 hx with hx|hx
   ·have:=h.each x hx;omega
   ·rw[Dx.1 hx];simp
 ·rw[Dx.1 hx];simp
def P6 (g:List SetR) (c:Rec):Kv (addS g c)=match g.getLast? with
  |some x=>if x.name=c.name∧x.typ=c.typ then x.data++[c.data] else [c.data]
  |none=>[c.data]:=by
 unfold addS Kv;split
 ·split<;>simp
 ·simp
def Bb1:∀(l acc:List Rec),(l.foldl (fun a x=>Wr x a) acc).length≤acc.length+l.length
 |[],acc=>by simp
 |x::l,acc=>by have h1:=Bb1 l (Wr x acc);have h2:=my x acc;simp only[Jq0,Cj];omega
def kj (l:List Rec):(sortR l).length≤l.length:=by simpa [sortR] using Bb1 l []
def Fs5 (l:List Rec) (hw:∀r∈l,r.wf) (hl:l.length≤100000):S Dl4 1 [B6 l]=some [Fb (setsR l)]:=by
 have hs:=Bp9 l hw (by omega);have hsl:(sortR l).length≤1000000:=by have:=kj l;omega
 generalize hsd:sortR l=s at*;obtain⟨N,hN⟩:∃N,N=s.length+1:=⟨_,rfl⟩;refine Jp0 (N:=N) rfl ?_;have key:Gz1.ev S N [B6 l,B6 s]=some (.yld 0 [Fb (s.foldl addS []),Gy (Kv (s.foldl addS []))]):=by
  refine D7 s (fun i (g:List SetR)=>[Fb g,Gy (Kv g),.i .i64 (i:Int)]) (fun i g r=> .yld 0 [Fb (r.foldl addS g),Gy (Kv (r.foldl addS g))]) (fun i g=>SetsIn g i) [] rfl ⟨B7 _,fun x hx=>by cases hx⟩ (by omega) (fun i g c r hd hi hc hI=> ?_) (fun g hI=> ?_)
  ·left;refine⟨addS g c,?_,Ef8 hI c,rfl⟩;have hgl:=hI.len;have hilt:(i:Int)<(s.length:Int):=by omega
   cases hg:g.getLast? with
   |none=>
    have hg0:g=[]:=List.getLast?_eq_none_iff.1 hg;subst hg0;have k:=Ct1 ⟨c.name,c.typ,c.ttl,[]⟩ [⟨c.name,c.typ,c.ttl,[]⟩] c s i (B6 l) (Fb []) (Gy (Kv [])) [] N hc rfl (by simp) (by simp) (by omega) rfl;have e1:(([⟨c.name,c.typ,c.ttl,[]⟩]:List SetR).length:Int)=1:=rfl;have e2:([⟨c.name,c.typ,c.ttl,[]⟩]:List SetR).dropLast++[⟨c.name,c.typ,if c.ttl<c.ttl then c.ttl else c.ttl,[]++[c.data]⟩]=addS [] c:=by simp[addS]
    have e3:([]++[c.data]:List Dat)=Kv (addS [] c):=by simp[addS,Kv]
    rw[e1,e2,e3] at k;generalize addS [] c=G at*;simp(disch:=omega)only[Aq4,hc,hilt,k,Uv,Ah,simprocAttr]
   |some x=>
    have hpos:0<g.length:=by cases g<;>simp at hg ⊢
    have hx:g[((g.length:Int) - 1).toNat]? =some x:=by rw[show ((g.length:Int) - 1).toNat=g.length - 1 by omega,←J5];exact hg
    have hxm:x∈g:=Ch9 hg;have hxd:=hI.each x hxm;have hn0:¬(g.length:Int)=0:=by omega
    have hld:Kv g=x.data:=by simp[Kv,hg]
    by_cases hk:x.name=c.name∧x.typ=c.typ
    ·have k:=Ct1 x g c s i (B6 l) (Fb g) (Gy (Kv g)) x.data N hc hg (by omega) (by omega) (by omega) rfl;have e2:g.dropLast++[⟨x.name,x.typ,if c.ttl<x.ttl then c.ttl else x.ttl,x.data++[c.data]⟩]=addS g c:=by simp[addS,hg,hk]
     have e3:x.data++[c.data]=Kv (addS g c):=by rw[P6,hg];simp[hk]
     rw[e2,e3,hld] at k;rw[hld];generalize addS g c=G at*;simp(disch:=omega)only[Aq4,hc,hilt,hx,hn0,hk.1,hk.2,k,Uv,Ah,simprocAttr]
    ·have k:=Ct1 ⟨c.name,c.typ,c.ttl,[]⟩ (g++[⟨c.name,c.typ,c.ttl,[]⟩]) c s i (B6 l) (Fb g) (Gy (Kv g)) [] N hc (by simp) (by simp;omega) (by simp) (by omega) rfl;have e1:((g++[⟨c.name,c.typ,c.ttl,[]⟩]:List SetR).length:Int)=(g.length:Int)+1:=by simp
     have e2:(g++[⟨c.name,c.typ,c.ttl,[]⟩]:List SetR).dropLast++[⟨c.name,c.typ,if c.ttl<c.ttl then c.ttl else c.ttl,[]++[c.data]⟩]=addS g c:=by simp[addS,hg,hk]
     have e3:([]++[c.data]:List Dat)=Kv (addS g c):=by rw[P6,hg];simp[hk]
     rw[e1,e2,e3,hld] at k;rw[hld];generalize addS g c=G at*;by_cases h1:x.name=c.name
     ·have h2:¬x.typ=c.typ:=fun h=>hk ⟨h1,h⟩;simp(disch:=omega)only[Aq4,hc,hilt,hx,hn0,h1,h2,k,Uv,Ah,simprocAttr]
     ·simp(disch:=omega)only[Aq4,hc,hilt,hx,hn0,h1,k,Uv,Ah,simprocAttr]
  ·simp(disch:=omega)only[Aq4,Uv,Ah,simprocAttr];simp[Out.goes]
 simp(disch:=omega)only[Aq4,hs,key,Uv,Ah,simprocAttr];simp[setsR,Fz1,hsd]
end Go.X.G
/- What the laws on lists of records call. -/
namespace Go.X.G
open Go Go.X
end Go.X.G
/- Lists side by side: slices.Concat. -/
namespace Go.X.G
open Go Go.X
end Go.X.G
/- The reference's lists of records: sets, unions, differences. -/
namespace Go.X.G
open Go Go.X
def Aw4 (x:SetR) (g:List SetR) (c:Rec) (s:List Rec) (i:Nat) (p0 p2 p3:PV) (d:List Dat) (N:Nat) (hc:s[i]? =some c) (hg:g.getLast? =some x) (hl:g.length≤1000000) (hd:d.length≤1000000) (hi:i≤1000000) (hxd:x.data=d):
  ig.ev S N [p0,B6 s,p2,p3,.i .i64 (i:Int),Fb g,Gy d,.i .i64 (g.length:Int)]=some (.yld 1 [Fb (g.dropLast++[⟨x.name,x.typ,if c.ttl<x.ttl then c.ttl else x.ttl,d++[c.data]⟩]),Gy (d++[c.data]),.i .i64 ((i+1:Nat):Int)]):=by
 have hpos:0<g.length:=by cases g<;>simp at hg ⊢
 have e1:((g.length:Int) - 1).toNat=g.length - 1:=by omega
 have hx:g[((g.length:Int) - 1).toNat]? =some x:=by rw[e1,←J5];exact hg
 have hw:IntKind.i64.wrap ((g.length:Int) - 1)=(g.length:Int) - 1:=w64 (by omega) (by omega);have s2:∀u:Int,Lr 4 0 [.s x.name,.i .i64 x.typ,.i .i64 u,Gy (d++[c.data])] (Fb g) (.i .i64 ((g.length:Int) - 1))=some (Fb (g.dropLast++[⟨x.name,x.typ,u,d++[c.data]⟩])):=fun u=>by rw[kw (x:=x) (y:=⟨x.name,x.typ,u,d++[c.data]⟩) (by omega) hx rfl,e1,rn hg]
 by_cases ht:c.ttl<x.ttl
 ·rw[if_pos ht];simp(disch:=omega)only[pg,hc,hx,hw,ht,s2,Uv,Ah,simprocAttr]
  try rfl
 ·rw[if_neg ht];simp(disch:=omega)only[pg,hc,hx,hw,ht,s2,Uv,Ah,simprocAttr]
  try rfl
def Fs6 (l:List Rec) (hw:∀r∈l,r.wf) (hl:l.length≤100000):S Dh6 1 [B6 l]=some [Fb (setsR l)]:=by
 have hs:=T8 l hw (by omega);have hsl:(sortR l).length≤1000000:=by have:=kj l;omega
 generalize hsd:sortR l=s at*;obtain⟨N,hN⟩:∃N,N=s.length+1:=⟨_,rfl⟩;refine Jm4 (N:=N) rfl ?_;have key:Gy1.ev S N [B6 l,B6 s]=some (.yld 0 [Fb (s.foldl addS []),Gy (Kv (s.foldl addS []))]):=by
  refine D7 s (fun i (g:List SetR)=>[Fb g,Gy (Kv g),.i .i64 (i:Int)]) (fun i g r=> .yld 0 [Fb (r.foldl addS g),Gy (Kv (r.foldl addS g))]) (fun i g=>SetsIn g i) [] rfl ⟨B7 _,fun x hx=>by cases hx⟩ (by omega) (fun i g c r hd hi hc hI=> ?_) (fun g hI=> ?_)
  ·left;refine⟨addS g c,?_,Ef8 hI c,rfl⟩;have hgl:=hI.len;have hilt:(i:Int)<(s.length:Int):=by omega
   cases hg:g.getLast? with
   |none=>
    have hg0:g=[]:=List.getLast?_eq_none_iff.1 hg;subst hg0;have k:=Aw4 ⟨c.name,c.typ,c.ttl,[]⟩ [⟨c.name,c.typ,c.ttl,[]⟩] c s i (B6 l) (Fb []) (Gy (Kv [])) [] N hc rfl (by simp) (by simp) (by omega) rfl;have e1:(([⟨c.name,c.typ,c.ttl,[]⟩]:List SetR).length:Int)=1:=rfl;have e2:([⟨c.name,c.typ,c.ttl,[]⟩]:List SetR).dropLast++[⟨c.name,c.typ,if c.ttl<c.ttl then c.ttl else c.ttl,[]++[c.data]⟩]=addS [] c:=by simp[addS]
    have e3:([]++[c.data]:List Dat)=Kv (addS [] c):=by simp[addS,Kv]
    rw[e1,e2,e3] at k;generalize addS [] c=G at*;generalize hC7:ig=C7 at*;simp(disch:=omega)only[pg,hC7,hc,hilt,k,Uv,Ah,simprocAttr]
   |some x=>
    have hpos:0<g.length:=by cases g<;>simp at hg ⊢
    have hx:g[((g.length:Int) - 1).toNat]? =some x:=by rw[show ((g.length:Int) - 1).toNat=g.length - 1 by omega,←J5];exact hg
    have hxm:x∈g:=Ch9 hg;have hxd:=hI.each x hxm;have hn0:¬(g.length:Int)=0:=by omega
    have hld:Kv g=x.data:=by simp[Kv,hg]
    by_cases hk:x.name=c.name∧x.typ=c.typ
    ·have k:=Aw4 x g c s i (B6 l) (Fb g) (Gy (Kv g)) x.data N hc hg (by omega) (by omega) (by omega) rfl;have e2:g.dropLast++[⟨x.name,x.typ,if c.ttl<x.ttl then c.ttl else x.ttl,x.data++[c.data]⟩]=addS g c:=by simp[addS,hg,hk]
     have e3:x.data++[c.data]=Kv (addS g c):=by rw[P6,hg];simp[hk]
     rw[e2,e3,hld] at k;rw[hld];generalize addS g c=G at*;generalize hC7:ig=C7 at*;simp(disch:=omega)only[pg,hC7,hc,hilt,hx,hn0,hk.1,hk.2,k,Uv,Ah,simprocAttr]
    ·have k:=Aw4 ⟨c.name,c.typ,c.ttl,[]⟩ (g++[⟨c.name,c.typ,c.ttl,[]⟩]) c s i (B6 l) (Fb g) (Gy (Kv g)) [] N hc (by simp) (by simp;omega) (by simp) (by omega) rfl;have e1:((g++[⟨c.name,c.typ,c.ttl,[]⟩]:List SetR).length:Int)=(g.length:Int)+1:=by simp
     have e2:(g++[⟨c.name,c.typ,c.ttl,[]⟩]:List SetR).dropLast++[⟨c.name,c.typ,if c.ttl<c.ttl then c.ttl else c.ttl,[]++[c.data]⟩]=addS g c:=by simp[addS,hg,hk]
     have e3:([]++[c.data]:List Dat)=Kv (addS g c):=by rw[P6,hg];simp[hk]
     rw[e1,e2,e3,hld] at k;rw[hld];generalize addS g c=G at*;generalize hC7:ig=C7 at*;by_cases h1:x.name=c.name
     ·have h2:¬x.typ=c.typ:=fun h=>hk ⟨h1,h⟩;simp(disch:=omega)only[pg,hC7,hc,hilt,hx,hn0,h1,h2,k,Uv,Ah,simprocAttr]
     ·simp(disch:=omega)only[pg,hC7,hc,hilt,hx,hn0,h1,k,Uv,Ah,simprocAttr]
  ·simp(disch:=omega)only[pg,Gn,Uv,Ah,simprocAttr];simp[Out.goes]
 simp(disch:=omega)only[pg,hs,key,Uv,Ah,simprocAttr]
 try simp[setsR,Fz1,hsd]
end Go.X.G
/- prove: the signatures of the sets of a list, by the program and by the document. -/
namespace Go.X.G
open Go Go.X
def covR (z:Zone) (n:List UInt8) (t:Int):List Rec:=z.recs.filter fun r=>decide (r.name=n) && decide (r.typ=46) && decide (r.data.a=t)
def Ew6 (z:Zone) (n:List UInt8) (t:Int):(findR z.recs n 46).filter (fun r=> !decide (r.data.a≠t))=covR z n t:=by unfold findR covR;rw[List.filter_filter];refine List.filter_congr fun r _=> ?_;unfold isK;by_cases h1:r.name=n<;>by_cases h2:r.typ=46<;>by_cases h3:r.data.a=t<;>simp[h1,h2,h3]
def Xh (z:Zone) (n:List UInt8) (t:Int):(covR z n t).length≤z.recs.length:=Dh _ _
def sigsOf (z:Zone) (n:List UInt8) (t:Int):List Rec:=
 if under n z.origin=false∨exB z n=true then covR z n t
 else if starOk (encN z n)=true then(covR z (starN (encN z n)) t).map (Np n) else []
def Mg (z:Zone) (n:List UInt8) (t:Int):(sigsOf z n t).length≤z.recs.length:=by
 unfold sigsOf;split
 ·exact Xh z n t
 ·split
  ·rw[D2];exact Xh z _ t
  ·simp
def Aj7 (z:Zone) (x:SetR):List Rec:=if x.typ=46 then [] else sigsOf z x.name x.typ
def sigsR (z:Zone) (l:List Rec):List Rec:=(setsR l).flatMap (Aj7 z)
def Fy7 (r:Rec) (t:Int):S f8 1 [r.pv,.i .i64 t]=some [.b (decide (r.data.a≠t))]:=by refine Ik3 (N:=1) rfl ?_;by_cases h:r.data.a=t<;>simp(disch:=omega)only[Hd3,h,Ag,simprocAttr]<;>simp
def Bb2 (z:Zone) (n:List UInt8) (t:Int) (hl:z.recs.length≤1000):S Cx2 3 [z.pv,.s n,.i .i64 t]=some [B6 (covR z n t)]:=by refine Jh2 (N:=1) rfl ?_;have k1:=Xj z n 46 (by omega);have hl2:=g8 z n 46;have k2:=bq (findR z.recs n 46) (by omega);have k3:=V1 (findR z.recs n 46) f8 [.i .i64 t] (fun r=>decide (r.data.a≠t)) (by omega) (fun r _=>Fy7 r t);rw[Ew6] at k3;generalize findR z.recs n 46=fl at*;generalize covR z n t=cv at*;simp(disch:=omega)only[Jx8,k1,k2,k3,Fx,Ln,Ag,simprocAttr]
def Js6 (z:Zone) (x:SetR) (l:List Rec) (p2 p3 p4 p5 p6 p7:PV) (N:Nat) (hN:l.length<N) (hl:l.length≤1000000):
  Gz0.ev S N [z.pv,x.pv,p2,p3,p4,p5,p6,p7,B6 l]=some (.yld 0 [B6 (l.map (Np x.name))]):=by
 refine D7 l (fun i (g:List Rec)=>[B6 g,.i .i64 (i:Int)]) (fun i g r=> .yld 0 [B6 (l.map (Np x.name))]) (fun i g=>g=(l.take i).map (Np x.name)++l.drop i) l rfl (by simp) hN (fun i g c r hd hi hc hI=> ?_) (fun g hI=> ?_)
 ·left;obtain⟨h1,h2,h3⟩:=Xw l x.name i c r g hd hi hc hI;refine⟨g.set i {c with name:=x.name},?_,h3,rfl⟩;have hs:Lr 16 0 [.s x.name] (B6 g) (.i .i64 (i:Int))=some (B6 (g.set i {c with name:=x.name})):=by have:=Ss g .i64 (i:Int) x.name c (by omega) (by rw[Ec];exact h1);rwa[Ec] at this
  have hil:(i:Int)<(l.length:Int):=by omega
  generalize g.set i {c with name:=x.name}=g' at*;simp(disch:=omega)only[Bs0,h1,hs,hil,Uv,Ag,simprocAttr]
 ·have e:g=l.map (Np x.name):=by rw[hI];simp
  rw[←e];simp(disch:=omega)only[Bs0,Gn,Uv,Ag,simprocAttr]
  try simp[Out.goes]
def Js5 (z:Zone) (x:SetR) (hz:z.wf) (hl:z.recs.length≤1000) (hn:x.name.length≤9223372036854775807):S Dl3 2 [z.pv,x.pv]=some [B6 (sigsOf z x.name x.typ)]:=by
 refine Jn9 (N:=2000) rfl ?_;have g1:=hz.origin;unfold My at g1;have k1:=Gv x.name z.origin hn g1;have k2:=dw z x.name hz hl;have k3:=Ow z x.name hz hl hn;have el:=Qk z x.name;have k4:=oh (encN z x.name) (by omega);have k5:=Bb2 z x.name x.typ hl;have k6:=Bb2 z (starN (encN z x.name)) x.typ hl;have cl:=Xh z (starN (encN z x.name)) x.typ;have k7:=fun p2 p3 p4 p5 p6 p7=>Js6 z x (covR z (starN (encN z x.name)) x.typ) p2 p3 p4 p5 p6 p7 2000 (by omega) (by omega);unfold sigsOf;generalize covR z (starN (encN z x.name)) x.typ=cs at*;generalize covR z x.name x.typ=cn at*;rcases Bm (under x.name z.origin) with h1|h1
 ·rcases Bm (exB z x.name) with h2|h2
  ·rw[if_pos (.inr h2)];simp(disch:=omega)only[Bs0,k1,k2,k5,h1,h2,Uv,Ag,simprocAttr]
  ·rw[if_neg (by simp[h1,h2])];generalize starN (encN z x.name)=st at*;rcases Bm (starOk (encN z x.name)) with h3|h3
   ·rw[if_pos h3];generalize cs.map (Np x.name)=cm at*;simp(disch:=omega)only[Bs0,k1,k2,k3,k4,k6,k7,h1,h2,h3,Uv,Ag,simprocAttr]
   ·rw[if_neg (by simp[h3])];simp(disch:=omega)only[Bs0,k1,k2,k3,k4,h1,h2,h3,Uv,Ag,simprocAttr]
 ·rw[if_pos (.inl h1)];simp(disch:=omega)only[Bs0,k1,k5,h1,Uv,Ag,simprocAttr]
def Bb5:∀(l:List Rec) (g:List SetR),(l.foldl addS g).length≤g.length+l.length
 |[],_=>B7 _
 |r::l,g=>by have h1:=Bb5 l (addS g r);have h2:=Bp5 g r;rw[Jq0,Cj];omega
def kv (l:List Rec):(setsR l).length≤l.length:=by have h1:=Bb5 (sortR l) [];have h2:=kj l;unfold setsR Fz1;rw[C2] at h1;omega
def Hy0 {P:List UInt8→Prop} {g:List SetR} {r:Rec} (hg:∀x∈g,P x.name) (hr:P r.name):∀x∈addS g r,P x.name:=by
 intro x hx;unfold addS at hx;split at hx
 ·rename_i y hy;split at hx
  ·rcases C8.1 hx with h|h
   ·exact hg x (List.dropLast_subset _ h)
   ·rw[Dx.1 h];exact hg y (Ch9 hy)
  ·rcases C8.1 hx with h|h
   ·exact hg x h
   ·rw[Dx.1 h];exact hr
 ·rw[Dx.1 hx];exact hr
def Bb4 {P:List UInt8→Prop}:∀(l:List Rec) (g:List SetR),(∀x∈g,P x.name)→(∀r∈l,P r.name)→∀x∈l.foldl addS g,P x.name
 |[],_,hg,_=>hg
 |r::l,g,hg,hl=>Bb4 l (addS g r) (Hy0 hg (hl r (.head _))) (fun y hy=>hl y (.tail _ hy))
def Bb3 (l:List Rec) (hw:∀r∈l,r.wf):∀x∈setsR l,x.name.length≤9223372036854775807:=
 Bb4 (P:=fun n=>n.length≤9223372036854775807) (sortR l) [] (by simp) (fun r hr=>by have:=(hw r (((dp l).2 r).1 hr).mem).name;unfold My at this;exact this)
def Fs4 (z:Zone) (l:List Rec) (hz:z.wf) (hl:z.recs.length≤60) (hw:∀r∈l,r.wf) (hll:l.length≤16000):S Dm1 2 [z.pv,B6 l]=some [B6 (sigsR z l)]:=by
 have k1:=Fs5 l hw (by omega);have hn:=Bb3 l hw;have hs:=kv l;unfold sigsR;generalize setsR l=s at*;refine Jr2 (N:=s.length+1) rfl ?_;have key:Gz9.ev S (s.length+1) [z.pv,B6 l,Fb s]=some (.yld 0 [B6 ([]++s.flatMap (Aj7 z))]):=by
  refine D7 s (fun i (g:List Rec)=>[B6 g,.i .i64 (i:Int)]) (fun i g r=> .yld 0 [B6 (g++r.flatMap (Aj7 z))]) (fun i g=>g.length≤i*60) [] rfl (Dy _) (by omega) (fun i g c r hd hi hc hI=> ?_) (fun g hI=> ?_)
  ·left;refine⟨g++Aj7 z c,?_,?_,by rw[F3,Cv]⟩
   ·have ko:=Js5 z c hz (by omega) (hn c (Cq hc));have sl:=Mg z c.name c.typ;have hil:(i:Int)<(s.length:Int):=by omega
    unfold Aj7;generalize sigsOf z c.name c.typ=so at*;by_cases h:c.typ=46
    ·rw[if_pos h,Eg];simp(disch:=omega)only[En4,hc,hil,h,Uv,Ag,simprocAttr]
    ·rw[if_neg h];simp(disch:=omega)only[En4,hc,hil,h,ko,Uv,Ag,simprocAttr]
   ·have sl:=Mg z c.name c.typ;unfold Aj7;rw[B0];split
    ·exact Dt hI (Cs _ (Nat.le_succ i))
    ·omega
  ·simp(disch:=omega)only[En4,Gn,Uv,Ag,simprocAttr];simp[Out.goes]
 rw[Dw] at key;generalize s.flatMap (Aj7 z)=out at*;simp(disch:=omega)only[En4,k1,key,Uv,Ag,simprocAttr]
def T2 (z:Zone) (n:List UInt8) (t:Int) (hl:z.recs.length≤1000):S Cw5 3 [z.pv,.s n,.i .i64 t]=some [B6 (covR z n t)]:=by
 refine Jf0 (N:=z.recs.length+1) rfl ?_;have key:Gw0.ev S (z.recs.length+1) [z.pv,.s n,.i .i64 t]=some (.yld 0 [B6 ([]++covR z n t)]):=by
  refine D7 z.recs (fun i (g:List Rec)=>[B6 g,.i .i64 (i:Int)]) (fun i g r=> .yld 0 [B6 (g++r.filter fun r=>decide (r.name=n) && decide (r.typ=46) && decide (r.data.a=t))]) (fun i g=>g.length≤i) [] rfl (Dy _) (by omega) (fun i g c r hd hi hc hI=> ?_) (fun g hI=> ?_)
  ·left;have hil:(i:Int)<(z.recs.length:Int):=by omega
   by_cases h1:c.name=n
   ·by_cases h2:c.typ=46
    ·by_cases h3:c.data.a=t
     ·refine⟨g++[c],?_,by simp;omega,by rw[En (by simp[h1,h2,h3]),Cv];rfl⟩;simp(disch:=omega)only[Br3,hc,hil,h1,h2,h3,Ag,simprocAttr]
     ·refine⟨g,?_,by omega,by rw[G6 (by simp[h3])]⟩;simp(disch:=omega)only[Br3,hc,hil,h1,h2,h3,Ag,simprocAttr]
    ·refine⟨g,?_,by omega,by rw[G6 (by simp[h2])]⟩;simp(disch:=omega)only[Br3,hc,hil,h1,h2,Ag,simprocAttr]
   ·refine⟨g,?_,by omega,by rw[G6 (by simp[h1])]⟩;simp(disch:=omega)only[Br3,hc,hil,h1,Ag,simprocAttr]
  ·simp(disch:=omega)only[Br3,Gn,Ag,simprocAttr];simp[Out.goes,covR]
 rw[Dw] at key;generalize covR z n t=out at*;simp(disch:=omega)only[Br3,key,Ag,simprocAttr]
def Fy9 (z:Zone) (n:List UInt8) (t:Int) (l:List Rec) (p3 p4 p5 p6 p7 p8:PV) (N:Nat) (hN:l.length<N) (hl:l.length≤1000000):
  Gy0.ev S N [z.pv,.s n,.i .i64 t,p3,p4,p5,p6,p7,p8,B6 l]=some (.yld 0 [B6 (l.map (Np n))]):=by
 refine D7 l (fun i (g:List Rec)=>[B6 g,.i .i64 (i:Int)]) (fun i g r=> .yld 0 [B6 (l.map (Np n))]) (fun i g=>g=(l.take i).map (Np n)++l.drop i) l rfl (by simp) hN (fun i g c r hd hi hc hI=> ?_) (fun g hI=> ?_)
 ·left;obtain⟨h1,h2,h3⟩:=Xw l n i c r g hd hi hc hI;refine⟨g.set i {c with name:=n},?_,h3,rfl⟩;have hs:Lr 16 0 [.s n] (B6 g) (.i .i64 (i:Int))=some (B6 (g.set i {c with name:=n})):=by have:=Ss g .i64 (i:Int) n c (by omega) (by rw[Ec];exact h1);rwa[Ec] at this
  have hil:(i:Int)<(g.length:Int):=by omega
  generalize g.set i {c with name:=n}=g' at*;simp(disch:=omega)only[Br6,h1,hs,hil,Ag,simprocAttr]
 ·have e:g=l.map (Np n):=by rw[hI];simp
  have hgl:g.length=l.length:=by rw[e,D2]
  rw[←e];have hil:¬(l.length:Int)<(g.length:Int):=by omega
  simp(disch:=omega)only[Br6,hil,Ag,simprocAttr]
  try simp[Out.goes]
def Fy8 (z:Zone) (n:List UInt8) (t:Int) (hz:z.wf) (hl:z.recs.length≤1000) (hn:n.length≤9223372036854775807):S Dh5 3 [z.pv,.s n,.i .i64 t]=some [B6 (sigsOf z n t)]:=by
 refine Jm3 (N:=2000) rfl ?_;have g1:=hz.origin;unfold My at g1;have k1:=Gw n z.origin hn g1;have k2:=d6 z n hz hl;have k3:=Ol z n hz hl hn;have el:=Qk z n;have k4:=ol (encN z n) (by omega);have k5:=T2 z n t hl;have k6:=T2 z (starN (encN z n)) t hl;have cl:=Xh z (starN (encN z n)) t;have k7:=fun p3 p4 p5 p6 p7 p8=>Fy9 z n t (covR z (starN (encN z n)) t) p3 p4 p5 p6 p7 p8 2000 (by omega) (by omega);unfold sigsOf;generalize covR z (starN (encN z n)) t=cs at*;generalize covR z n t=cn at*;rcases Bm (exB z n) with h2|h2
 ·rw[if_pos (.inr h2)];simp(disch:=omega)only[Br6,k2,k5,h2,Ag,simprocAttr]
 ·rcases Bm (under n z.origin) with h1|h1
  ·rw[if_neg (by simp[h1,h2])];generalize starN (encN z n)=st at*;rcases Bm (starOk (encN z n)) with h3|h3
   ·rw[if_pos h3];generalize cs.map (Np n)=cm at*;simp(disch:=omega)only[Br6,k1,k2,k3,k4,k6,k7,h1,h2,h3,Ag,simprocAttr]
   ·rw[if_neg (by simp[h3])];simp(disch:=omega)only[Br6,k1,k2,k3,k4,h1,h2,h3,Ag,simprocAttr]
  ·rw[if_pos (.inl h1)];simp(disch:=omega)only[Br6,k1,k2,k5,h1,h2,Ag,simprocAttr]
def Eg5 (z:Zone) (l:List Rec) (hz:z.wf) (hl:z.recs.length≤60) (hw:∀r∈l,r.wf) (hll:l.length≤16000):S Dl8 2 [z.pv,B6 l]=some [B6 (sigsR z l)]:=by
 have k1:=Fs6 l hw (by omega);have hn:=Bb3 l hw;have hs:=kv l;unfold sigsR;generalize setsR l=s at*;refine Jp8 (N:=s.length+1) rfl ?_;have key:Gz6.ev S (s.length+1) [z.pv,B6 l,Fb s]=some (.yld 0 [B6 ([]++s.flatMap (Aj7 z))]):=by
  refine D7 s (fun i (g:List Rec)=>[B6 g,.i .i64 (i:Int)]) (fun i g r=> .yld 0 [B6 (g++r.flatMap (Aj7 z))]) (fun i g=>g.length≤i*60) [] rfl (Dy _) (by omega) (fun i g c r hd hi hc hI=> ?_) (fun g hI=> ?_)
  ·left;refine⟨g++Aj7 z c,?_,?_,by rw[F3,Cv]⟩
   ·have ko:=Fy8 z c.name c.typ hz (by omega) (hn c (Cq hc));have sl:=Mg z c.name c.typ;have hil:(i:Int)<(s.length:Int):=by omega
    unfold Aj7;generalize sigsOf z c.name c.typ=so at*;by_cases h:c.typ=46
    ·rw[if_pos h,Eg];simp(disch:=omega)only[En2,hc,hil,h,Uv,Ag,simprocAttr]
    ·rw[if_neg h];simp(disch:=omega)only[En2,hc,hil,h,ko,Uv,Ag,simprocAttr]
   ·have sl:=Mg z c.name c.typ;unfold Aj7;rw[B0];split
    ·exact Dt hI (Cs _ (Nat.le_succ i))
    ·omega
  ·simp(disch:=omega)only[En2,Gn,Uv,Ag,simprocAttr];simp[Out.goes]
 rw[Dw] at key;generalize s.flatMap (Aj7 z)=out at*;simp(disch:=omega)only[En2,k1,key,Uv,Ag,simprocAttr]
def Yx (z:Zone) (l:List Rec) (hl:z.recs.length≤60) (hll:l.length≤16000):(sigsR z l).length≤960000:=by
 have h:∀s:List SetR,(s.flatMap (Aj7 z)).length≤s.length*60:=fun s=>by
  induction s with
  |nil=>simp
  |cons x s ih=>
   rw[F3,B0,Cj];have:(Aj7 z x).length≤60:=by
    unfold Aj7;split
    ·simp
    ·exact Dt (Mg z _ _) hl
   omega
 have h1:=h (setsR l);have h2:=kv l;unfold sigsR;omega
def Sp:Zone:=⟨[120,46],[⟨[120,46],2,9,⟨false,0,0,[110,46],[],[],0,0,0,0,0,0,0⟩⟩,
 ⟨[120,46],6,9,⟨false,0,0,[110,46],[109,46],[],3,0,0,0,5,0,0⟩⟩,
 ⟨[120,46],47,5,⟨false,0,0,[42,46,120,46],[],[],0,0,0,0,0,0,211106232533060⟩⟩,
 ⟨[42,46,120,46],1,9,⟨false,0,1,[],[],[],0,0,0,0,0,0,0⟩⟩,
 ⟨[42,46,120,46],46,9,⟨false,0,0,[120,46],[],[115],1,1,9,9,0,0,0⟩⟩,
 ⟨[42,46,120,46],47,5,⟨false,0,0,[120,46],[],[],0,0,0,0,0,0,211106232532994⟩⟩]⟩
def Aw6:S Jv1 0 []=some [Sp.pv]:=(Rw ext_mono).2 ⟨3,by kernel_rfl⟩
def Fy5:Sp.wf:=by refine⟨by unfold My;decide,by decide,fun r hr=> ?_⟩;simp only[Sp,Ck,List.mem_nil_iff,or_false] at hr;rcases hr with rfl|rfl|rfl|rfl|rfl|rfl<;>(constructor<;>(try constructor))<;>simp[Ep2,Xz,My]
def b9 (a:List Rec) (ha:a.length≤1000000):S Iz0 2 [B6 a,B6 a]=some [.b true]:=by
 refine Kg3 (N:=a.length+1) rfl ?_;have key:Iz9.ev S (a.length+1) [B6 a,B6 a]=some (.yld 0 []):=by
  refine Es a (fun i=>[.i .i64 (i:Int)]) (fun _ _=> .yld 0 []) rfl (by omega) (fun i c r hd hi hc=> ?_) ?_
  ·left;simp(disch:=omega)only[Jx4,hc,Ag,simprocAttr]
   try simp
  ·simp(disch:=omega)only[Jx4,Ag,simprocAttr];simp[Out.goes]
 simp(disch:=omega)only[Jx4,key,Ag,simprocAttr]
def Bt2 (z:Zone) (hz:z.wf):S Iz1 1 [z.pv]=some [.b (decide (z.recs.length≤60) && decide (I9 z=0))]:=by
 refine Kg4 (N:=1) rfl ?_;by_cases hl:z.recs.length≤60
 ·have hl':(z.recs.length:Int)≤60:=by omega
  have k:=jj z hz;by_cases h:I9 z=0
  ·rw[h] at k ⊢;simp(disch:=omega)only[Jy1,k,hl',Ag,simprocAttr];simp[hl]
  ·simp(disch:=omega)only[Jy1,k,hl',h,Ag,simprocAttr];simp[h]
 ·have hl':¬(z.recs.length:Int)≤60:=by omega
  simp(disch:=omega)only[Jy1,hl',Ag,simprocAttr];simp[hl]
end Go.X.G
/- prove: the records that deny, by the program and by the document. -/
namespace Go.X.G
open Go Go.X
def Eh4 (l:List Rec) (x:Rec) (hl:l.length≤1000000):∃k:Int,(0≤k↔x∈l)∧S Dl5 2 [B6 l,x.pv]=some [.i .i64 k]:=by
 have key:Gz2.ev S (l.length+1) [B6 l,x.pv]=some (match l.findIdx? (·=x) with|some j=> .ret [.i .i64 ((0+j:Nat):Int)]|none=> .yld 0 []):=by
  refine Es l (fun i=>[.i .i64 (i:Int)]) (fun i r=>match r.findIdx? (·=x) with|some j=> .ret [.i .i64 ((i+j:Nat):Int)]|none=> .yld 0 []) rfl (by omega) (fun i c r hd hi hc=> ?_) ?_
  ·by_cases h:x=c
   ·right;subst h;simp(disch:=omega)only[Cm7,hc,Ag,simprocAttr];simp[Ov,Out.goes]
   ·left;have h':¬c=x:=fun e=>h e.symm;simp(disch:=omega)only[Cm7,hc,h,Ag,simprocAttr];refine⟨trivial,?_⟩;simp only[Ov,h',decide_false,B5,if_false];cases r.findIdx? (·=x) with
    |none=>rfl
    |some j=>simp;omega
  ·simp(disch:=omega)only[Cm7,Ag,simprocAttr];simp[Out.goes]
 cases h:l.findIdx? (·=x) with
 |none=>
  rw[h] at key;refine⟨-1,⟨fun q=>by omega,fun q=> ?_⟩,?_⟩
  ·rw[List.findIdx?_eq_none_iff] at h;have:=h x q;simp at this
  ·refine Hm4 (N:=l.length+1) rfl ?_;simp(disch:=omega)only[Cm7,key,Ag,simprocAttr]
 |some j=>
  rw[h] at key;refine⟨((0+j:Nat):Int),⟨fun _=> ?_,fun _=>by omega⟩,?_⟩
  ·rw[List.findIdx?_eq_some_iff_getElem] at h;obtain⟨h1,h2,_⟩:=h;simp at h2;rw[←h2];exact E4 _
  ·refine Hm4 (N:=l.length+1) rfl ?_;simp(disch:=omega)only[Cm7,key,Ag,simprocAttr]
def Aj4 (l:List Rec) (x:Rec) (hl:l.length≤1000000):S Dm2 2 [B6 l,x.pv]=some [.b (decide (x∈l))]:=by refine Jr3 (N:=1) rfl ?_;obtain⟨k,h1,h2⟩:=Eh4 l x hl;simp(disch:=omega)only[Jz0,h2,Ag,simprocAttr];simp[h1]
def outD (z:Zone) (n:List UInt8):List Rec:=(neededN z n).filter fun r=>decide (r∈z.recs)
def denialN (z:Zone) (n:List UInt8):List Rec:=outD z n++sigsR z (outD z n)
def Df2 (z:Zone) (hl:z.recs.length≤60):(namesN z).length≤16000:=by
 have h1:=S1 (Fr9 z);have h2:∀l:List Rec,(l.flatMap fun r=>upN z.origin r.name).length≤256*l.length:=by
  intro l
  induction l with
  |nil=>simp
  |cons x r ih=>
   have:=X7 z.origin x.name;rw[F3,B0,Cj];omega
 have h3:=h2 (z.recs.filter fun r=>under r.name z.origin && !N6 z r.name);have h4:=Dh (fun r=>under r.name z.origin && !N6 z r.name) z.recs;show (setN (Fr9 z)).length≤16000;unfold Fr9 at h1 ⊢;omega
def U6 {z:Zone} (n:List UInt8) (hl:z.recs.length≤60):(neededN z n).length≤16000:=by
 have h1:(chainN z).length≤16000:=by have h0:=Qx z (minE z);have h2:=Df2 z hl;rw[Vm];omega
 unfold neededN;split
 ·split
  ·simp
  ·exact Dt (Dh _ _) h1
 ·simp
def Cw2 {z:Zone} (hz:z.wf) (n:List UInt8):∀r∈neededN z n,r.wf:=by
 intro r hr;unfold neededN at hr;split at hr
 ·split at hr
  ·cases hr
  ·exact Ay2 hz r (C5.1 hr).1
 ·cases hr
def Dd3 {z:Zone} (hz:z.wf) (n:List UInt8):∀r∈outD z n,r.wf:=fun r hr=>Cw2 hz n r (C5.1 hr).1
def nd (l:List Rec) (x:Rec) (hl:l.length≤1000000):S Dl9 2 [B6 l,x.pv]=some [.b (decide (x∈l))]:=by
 refine Jp9 (N:=l.length+1) rfl ?_;have key:Gz7.ev S (l.length+1) [B6 l,x.pv]=some (if(l.any fun c=>decide (c=x))=true then .ret [.b true] else .yld 0 []):=by
  refine Es l (fun i=>[.i .i64 (i:Int)]) (fun i r=>if(r.any fun c=>decide (c=x))=true then .ret [.b true] else .yld 0 []) rfl (by omega) (fun i c r hd hi hc=> ?_) ?_
  ·by_cases h:c=x
   ·right;simp(disch:=omega)only[En3,hc,h,Ag,simprocAttr];simp[h,Out.goes]
   ·left;simp(disch:=omega)only[En3,hc,h,Ag,simprocAttr];simp[h]
  ·simp(disch:=omega)only[En3,Ag,simprocAttr];simp[Out.goes]
 have e:(l.any fun c=>decide (c=x))=decide (x∈l):=by rw[D5];simp only[Dd,decide_eq_true_eq];exact⟨fun⟨c,h1,h2⟩=>h2▸h1,fun h=>⟨x,h,rfl⟩⟩
 rw[e] at key;rcases Bm (decide (x∈l)) with h|h<;>rw[h] at key ⊢<;>simp(disch:=omega)only[En3,key,Ag,simprocAttr]<;>simp
def i9 (z:Zone) (q:Ques) (hz:z.wf) (hl:z.recs.length≤60) (hq:q.name.length≤9223372036854775807):S Hy6 2 [z.pv,q.pv]=some [B6 (denialN z q.name)]:=by
 have k1:=Cg2 z q.name hz (fun _=>Ay2 hz) (by omega) hq;have hnl:=U6 q.name hl;have how:=Dd3 hz q.name;have hol:(outD z q.name).length≤16000:=Dt (Dh _ _) hnl;have k2:=Fs4 z (outD z q.name) hz (by omega) how (by omega);have hsl:=Yx z (outD z q.name) hl hol;unfold denialN;have eo:outD z q.name=(neededN z q.name).filter fun r=>decide (r∈z.recs):=rfl;generalize outD z q.name=out at*;generalize neededN z q.name=nl at*;refine Kg5 (N:=nl.length+1) rfl ?_;have key:Ib0.ev S (nl.length+1) [z.pv,q.pv,B6 nl]=some (.yld 0 [B6 ([]++nl.filter fun r=>decide (r∈z.recs))]):=by
  refine D7 nl (fun i (g:List Rec)=>[B6 g,.i .i64 (i:Int)]) (fun i g r=> .yld 0 [B6 (g++r.filter fun r=>decide (r∈z.recs))]) (fun i g=>g.length≤i) [] rfl (Dy _) (by omega) (fun i g c r hd hi hc hI=> ?_) (fun g hI=> ?_)
  ·left;have kc:=Aj4 z.recs c (by omega);have hil:(i:Int)<(nl.length:Int):=by omega
   by_cases h:c∈z.recs
   ·refine⟨g++[c],?_,by simp;omega,by rw[En (by simp[h]),Cv];rfl⟩;have h':decide (c∈z.recs)=true:=by simp[h]
    rw[h'] at kc;simp(disch:=omega)only[Jq2,hc,hil,kc,Af,simprocAttr]
   ·refine⟨g,?_,by omega,by rw[G6 (by simp[h])]⟩;have h':decide (c∈z.recs)=false:=by simp[h]
    rw[h'] at kc;simp(disch:=omega)only[Jq2,hc,hil,kc,Af,simprocAttr]
  ·simp(disch:=omega)only[Jq2,Gn,Af,simprocAttr];simp[Out.goes]
 rw[Dw,←eo] at key;generalize sigsR z out=sg at*;simp(disch:=omega)only[Jq2,k1,k2,key,Af,simprocAttr]
def Ap3 (z:Zone) (q:Ques) (hz:z.wf) (hl:z.recs.length≤60) (hq:q.name.length≤9223372036854775807):S Iy9 2 [z.pv,q.pv]=some [B6 (denialN z q.name)]:=by
 have k1:=Ap0 z q.name hz (fun _=>Ay2 hz) (by omega) hq;have hnl:=U6 q.name hl;have how:=Dd3 hz q.name;have hol:(outD z q.name).length≤16000:=Dt (Dh _ _) hnl;have k2:=Eg5 z (outD z q.name) hz (by omega) how (by omega);have hsl:=Yx z (outD z q.name) hl hol;unfold denialN;have eo:outD z q.name=(neededN z q.name).filter fun r=>decide (r∈z.recs):=rfl;generalize outD z q.name=out at*;generalize neededN z q.name=nl at*;refine Kg2 (N:=nl.length+1) rfl ?_;have key:Iz8.ev S (nl.length+1) [z.pv,q.pv,B6 nl]=some (.yld 0 [B6 ([]++nl.filter fun r=>decide (r∈z.recs))]):=by
  refine D7 nl (fun i (g:List Rec)=>[B6 g,.i .i64 (i:Int)]) (fun i g r=> .yld 0 [B6 (g++r.filter fun r=>decide (r∈z.recs))]) (fun i g=>g.length≤i) [] rfl (Dy _) (by omega) (fun i g c r hd hi hc hI=> ?_) (fun g hI=> ?_)
  ·left;have kc:=nd z.recs c (by omega);have hil:(i:Int)<(nl.length:Int):=by omega
   by_cases h:c∈z.recs
   ·refine⟨g++[c],?_,by simp;omega,by rw[En (by simp[h]),Cv];rfl⟩;have h':decide (c∈z.recs)=true:=by simp[h]
    rw[h'] at kc;simp(disch:=omega)only[Jq1,hc,hil,kc,Af,simprocAttr]
   ·refine⟨g,?_,by omega,by rw[G6 (by simp[h])]⟩;have h':decide (c∈z.recs)=false:=by simp[h]
    rw[h'] at kc;simp(disch:=omega)only[Jq1,hc,hil,kc,Af,simprocAttr]
  ·simp(disch:=omega)only[Jq1,Gn,Af,simprocAttr];simp[Out.goes]
 rw[Dw,←eo] at key;generalize sigsR z out=sg at*;simp(disch:=omega)only[Jq1,k1,k2,key,Af,simprocAttr]
def Js7:Rec:=⟨[120,46],47,5,⟨false,0,0,[42,46,120,46],[],[],0,0,0,0,0,0,211106232533060⟩⟩
def El6:Rec:=⟨[42,46,120,46],47,5,⟨false,0,0,[120,46],[],[],0,0,0,0,0,0,211106232532994⟩⟩
def Aw1:I9 Sp=0:=by kernel_rfl
def Aw0:namesN Sp=[[120,46],[42,46,120,46]]:=by unfold namesN;rw[←Y3];kernel_rfl
def Bt1:cutsN Sp=[]:=by unfold cutsN;rw[←Y3];kernel_rfl
def Aw2:chainN Sp=[Js7,El6]:=by
 have e:chain0 Sp (minE Sp)=[Gm6 [120,46] Js7,El6]:=by
  unfold chain0;rw[Aw0];unfold Lg chBits;rw[Bt1]
  kernel_rfl
 have e2:chainN Sp=xv 2 0 [Gm6 [120,46] Js7,El6]:=by unfold chainN;rw[e];rfl
 exact e2.trans (by kernel_rfl)
def Bt0:findM Sp ⟨[97,46,120,46],43⟩=⟨5,[42,46,120,46],true,[],[]⟩:=by kernel_rfl
def Bs9:neededN Sp [97,46,120,46]=[El6]:=by
 unfold neededN;rw[if_pos Aw1,Bt0,Aw2]
 kernel_rfl
def Cs5:denialN Sp [97,46,120,46]=[El6]:=by
 unfold denialN outD;rw[Bs9]
 kernel_rfl
def law_ProveDenials (z:Zone) (q:Ques) (hz:z.wf) (hq:q.wf):S Iz2 2 [z.pv,q.pv]=some [.b true]:=by
 have k0:=Aw6;have k1:=i9 Sp ⟨[97,46,120,46],15⟩ Fy5 (by decide) (by decide);rw[Cs5] at k1;have k2:=Bt2 z hz;have q2:([El6]:List Rec)[0]? =some El6:=rfl;have q3:El6.name=[42,46,120,46]:=rfl;have q4:El6.typ=47:=rfl;have q5:(([El6]:List Rec).length:Int)=1:=rfl;have hqn:q.name.length≤9223372036854775807:=hq.name;refine Kg6 (N:=1) rfl ?_;by_cases hs:(decide (z.recs.length≤60) && decide (I9 z=0))=true
 ·rw[hs] at k2;simp only[Br,decide_eq_true_eq] at hs;by_cases hl:q.name.length≤300
  ·have hl':¬(q.name.length:Int)>300:=by omega
   have k3:=i9 z q hz hs.1 hqn;have k4:=Ap3 z q hz hs.1 hqn;have hol:(outD z q.name).length≤16000:=Dt (Dh _ _) (U6 q.name hs.1);have hsl:=Yx z (outD z q.name) hs.1 hol;have k5:=b9 (denialN z q.name) (by unfold denialN;rw[B0];omega);generalize denialN z q.name=out at*;simp(disch:=omega)only[Jy7,k0,k1,k2,k3,k4,k5,hl',q2,q3,q4,q5,Af,simprocAttr]
  ·have hl':(q.name.length:Int)>300:=by omega
   simp(disch:=omega)only[Jy7,k0,k1,k2,hl',q2,q3,q4,q5,Af,simprocAttr]
 ·have hs':(decide (z.recs.length≤60) && decide (I9 z=0))=false:=by simpa using hs
  rw[hs'] at k2;simp(disch:=omega)only[Jy7,k0,k1,k2,q2,q3,q4,q5,Af,simprocAttr]
end Go.X.G
