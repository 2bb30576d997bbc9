/- Zones in the program: Check, the Py. -/
import Derived.Test.YtfhbgkahambahaaGreatDoorIterateServerG14
import Derived.Test.YtfhbgkahambahaaGreatDoorIterateServerG10
import Derived.Test.YtfhbgkahambahaaGreatDoorIterateServerG12
import Derived.Test.YtfhbgkahambahaaGreatDoorIterateServerG13
open Bool renaming eq_false_or_eq_true→Bm,and_eq_true→Br,false_eq_true→B5,or_eq_true→Cj,not_eq_true'→Cm,eq_iff_iff→D6,not_eq_false→Hq,true_and→Sw
open Classical renaming not_not→K4
open Int renaming toNat_natCast→It
open List renaming getElem?_eq_some_iff→Bp,length_append→B0,getElem?_eq_getElem→B3,mem_cons→Ck,length_take→Cq,length_cons→Cw,getElem?_append_right→Cz,mem_of_getElem?→Cc,getElem?_drop→Ch,length_nil→Cl,length_pos_iff→Cr,mem_filter→C0,all_eq_true→C1,mem_append→C4,getElem?_map→C6,take_append_drop→C9,mem_singleton→Dk,mem_append_right→Dq,length_drop→Dv,any_eq_true→Db,getElem?_cons_zero→Dc,take_add_one→Dm,nil_append→Dp,length_filter_le→D1,mem_append_left→D2,drop_eq_getElem_cons→D8,drop_drop→D9,getElem?_of_mem→Eh,getElem_mem→Em,mem_map→E2,length_map→E5,append_nil→E6,length_singleton→Fj,filter_cons_of_pos→Fv,drop_zero→Gq,suffix_iff_eq_drop→Gg,isSuffixOf_iff_suffix→Gr,flatMap_cons→Hk,find?_cons_of_pos→L6,drop_of_length_le→L8,findIdx?_cons→Nv,set_append_right→Ov,mem_of_find?_eq_some→Px,filter_eq_self→U3,find?_eq_none→ct,take_left→Bn0
open Nat renaming le_refl→B7,le_trans→Dy,zero_le→Dr,add_sub_cancel→Nq
open Option renaming map_eq_some_iff→Bs,bind_some→Bt,map_some→Cb,getD_some→Dz,isNone_iff_eq_none→Dn
open Option.some renaming injEq→Bn
set_option maxHeartbeats 1000000
set_option linter.defProp false
set_option linter.unusedVariables false
set_option linter.unusedSimpArgs false
namespace Go.X.G
open Go Go.X
def Af:=And.intro xe<|And.intro EVP EV
def Ad:=And.intro EVC<|And.intro xe<|And.intro EVP EV
def Ac:=And.intro EVM<|And.intro EVC<|And.intro xe<|And.intro EVP EV
def Bl5 (t:Int):S qz 1 [.i .i64 t]=some [.b (decide (t=6)||decide (t=5)||decide (t=39))]:=by
 refine Gt0 (N:=1) rfl ?_;by_cases h1:t=6
 ·simp(disch:=omega)only[Br7,h1,Ad,simprocAttr];simp
 ·by_cases h2:t=5
  ·simp(disch:=omega)only[Br7,h2,Ad,simprocAttr];simp
  ·simp(disch:=omega)only[Br7,h1,h2,Ad,simprocAttr];simp
def Dm9 (r:Rec) (t:Int):S Bb3 1 [r.pv,.i .i64 t]=some [.b (decide (r.typ=t))]:=by refine Iy6 (N:=1) rfl ?_;simp(disch:=omega)only[Hs6,Ad,simprocAttr]
def L9 (g:List Rec) (t:Int) (hl:g.length≤1000000):S Q2 2 [B6 g,.i .i64 t]=some [.b (Hh g t)]:=by refine Id7 (N:=1) rfl ?_;have h:=F6 g Bb3 [.i .i64 t] (fun r=>decide (r.typ=t)) hl (fun r _=>Dm9 r t);simp(disch:=omega)only[Ij0,h,Ad,simprocAttr];rfl
def K7 (l:List Int):PV:= .l 1 (l.map (PV.i .i64))
def Q6 (l:List Int):G8 (K7 l)=some (.i .i64 (l.length:Int)):=by simp[K7,G8]
def gp (l:List Int) (k:IntKind) (z:Int) (h:0≤z):Hy 1 (K7 l) (.i k z)=(l[z.toNat]?).map (PV.i .i64):=by simp[K7,Xj _ _ _ _ h]
def n0 (l:List Int):C2 0 (K7 l)=some (K7 l):=rfl
def Ck6 (l:List Int):J4 (K7 l)=some (K7 l):=rfl
def Dl4 (l:List Int) (x:Int) (hl:l.length≤1000000):∃k:Int,(0≤k↔x∈l)∧S o9 2 [K7 l,.i .i64 x]=some [.i .i64 k]:=by
 have go:∀(i:Nat) (l:List Int),∃k:Int,k=(match l.findIdx? (·=x) with|some j=>((i+j:Nat):Int)|none=> -1)∧(0≤k↔x∈l):=by
  intro i l;refine⟨_,rfl,?_⟩;cases h:l.findIdx? (·=x) with
  |none=>
   rw[List.findIdx?_eq_none_iff] at h;simp only;constructor
   ·intro h2;omega
   ·intro h2;have:=h x h2;simp at this
  |some j=>
   simp only;constructor
   ·intro _;rw[List.findIdx?_eq_some_iff_getElem] at h;obtain⟨h1,h2,_⟩:=h;simp at h2;rw[←h2];exact Em _
   ·intro _;omega
 obtain⟨k,hk,hk2⟩:=go 0 l;refine⟨k,hk2,?_⟩;refine Gp3 (N:=l.length+1) rfl ?_;have key:Ct8.ev S (l.length+1) [K7 l,.i .i64 x]=some (match l.findIdx? (·=x) with|some j=> .ret [.i .i64 ((0+j:Nat):Int)]|none=> .yld 0 []):=by
  refine F2 l (fun i=>[.i .i64 (i:Int)]) (fun i r=>match r.findIdx? (·=x) with|some j=> .ret [.i .i64 ((i+j:Nat):Int)]|none=> .yld 0 []) rfl (by omega) (fun i c r hd hi hc=> ?_) ?_
  ·by_cases h:x=c
   ·right;subst h;simp(disch:=omega)only[lg,hc,Q6,gp,Ac,simprocAttr];simp[Nv,Out.goes]
   ·left;have h':¬c=x:=fun e=>h e.symm;simp(disch:=omega)only[lg,hc,h,h',Q6,gp,Ac,simprocAttr];refine⟨trivial,?_⟩;simp only[Nv,h',decide_false,B5,if_false];cases r.findIdx? (·=x) with
    |none=>rfl
    |some j=>simp;omega
  ·simp(disch:=omega)only[lg,Q6,gp,Ac,simprocAttr];simp[Out.goes]
 rw[hk];cases h:l.findIdx? (·=x) with
 |none=>
  rw[h] at key;simp(disch:=omega)only[lg,key,Q6,Ac,simprocAttr]
 |some j=>
  rw[h] at key;simp(disch:=omega)only[lg,key,Q6,Ac,simprocAttr]
def vk (l:List Int) (x:Int) (hl:l.length≤1000000):S qw 2 [K7 l,.i .i64 x]=some [.b (decide (x∈l))]:=by refine Gs8 (N:=1) rfl ?_;obtain⟨k,h1,h2⟩:=Dl4 l x hl;simp(disch:=omega)only[Gd9,h2,Ac,simprocAttr];simp[h1]
def Bn4 (r:Rec) (ts:List Int) (hl:ts.length≤1000000):S af 1 [r.pv,K7 ts]=some [.b (!decide (r.typ∈ts))]:=by refine Gs9 (N:=1) rfl ?_;have h:=vk ts r.typ hl;simp(disch:=omega)only[Gf0,n0,h,Ad,simprocAttr]
def c8 (g:List Rec) (ts:List Int) (hl:g.length≤1000000) (ht:ts.length≤1000000):S Yn 2 [B6 g,K7 ts]=some [.b (Kt g ts)]:=by
 refine Iy7 (N:=1) rfl ?_;have h:=F6 g af [K7 ts] (fun r=> !decide (r.typ∈ts)) hl (fun r _=>Bn4 r ts ht);have e:(!(g.any fun r=> !decide (r.typ∈ts)))=Kt g ts:=by unfold Kt;rw[List.not_any_eq_all_not];simp
 rw[←e];generalize (g.any fun r=> !decide (r.typ∈ts))=b at*;simp(disch:=omega)only[Hs7,n0,Ck6,h,Ad,simprocAttr]
def wx (g:List Rec) (hl:g.length≤1000000):S Cm4 1 [B6 g]=some [.b (Dm2 g)]:=by
 obtain⟨N,hN⟩:∃N,N=g.length+2:=⟨_,rfl⟩;refine Iy8 (N:=N) rfl ?_;have key:Fv9.ev S N [B6 g]=some (if Dm2 g=true then .yld 0 [] else .ret [.b false]):=by
  cases g with
  |nil=>
   refine Gh 0 (fun _=>[.i .i64 1]) (fun _=> .yld 0 []) ?_ (by omega) (fun i hi=>absurd hi (by omega)) ⟨?_,rfl⟩
   ·simp(disch:=omega)only[Ad,simprocAttr]
   ·have hlt:¬(1:Int)<(([]:List Rec).length:Int):=by simp
    simp(disch:=omega)only[dq,hlt,Ad,simprocAttr]
  |cons p r=>
   have hlr:(p::r).length=r.length+1:=rfl;have:=F2 (fn:=S) (N:=N) (η:=[B6 (p::r)]) (id:=1) (init:=[.c (.i .i64 1)]) (body:=Dg6) r (fun i=>[.i .i64 ((i:Int)+1)]) (fun i l=>if(match (p::r)[i]? with|some q=>Zz q l|none=>true)=true then .yld 0 [] else .ret [.b false]) ?_ (by omega) (fun i c l hd hi hc=> ?_) ?_
   ·exact this
   ·simp(disch:=omega)only[Ad,simprocAttr]
    try rfl
   ·obtain⟨q,hq⟩:∃q,(p::r)[i]? =some q:=⟨_,B3 (by rw[hlr];omega)⟩;have hc':(p::r)[i+1]? =some c:=by simpa using hc
    have e1:((i:Int)+1 - 1).toNat=i:=by omega
    have e2:((i:Int)+1).toNat=i+1:=by omega
    have hlt:(i:Int)+1<((p::r).length:Int):=by rw[hlr];omega
    have hsg:=Bl5 c.typ;rw[hq,hc'];generalize (p::r)=g' at*;have step:Zz q (c::l)=((!decide (c.typ=q.typ)||(!(decide (c.typ=6)||decide (c.typ=5)||decide (c.typ=39)) && (decide (c.typ=46)||decide (c.ttl=q.ttl)))) && Zz c l):=rfl;by_cases h1:c.typ=q.typ
    ·rcases Bm (decide (c.typ=6)||decide (c.typ=5)||decide (c.typ=39)) with h2|h2
     ·right;have er:Zz q (c::l)=false:=by rw[step,h2];simp[h1]
      rw[h2] at hsg;simp only[er,B5,if_false];refine⟨?_,rfl⟩;rw[h1] at hsg;simp(disch:=omega)only[dq,hlt,e1,e2,hq,hc',h1,hsg,Ad,simprocAttr]
     ·rw[h2] at hsg;rw[h2] at step;rw[h1] at hsg;by_cases h3:c.typ=46
      ·left;have er:Zz q (c::l)=Zz c l:=by rw[step];simp[h3]
       have h3':q.typ=46:=by rw[←h1];exact h3
       rw[h3'] at hsg;refine⟨?_,by simp only[er]⟩;simp(disch:=omega)only[dq,hlt,e1,e2,hq,hc',h1,h3',hsg,Ad,simprocAttr]
       try simp
      ·have h3':¬q.typ=46:=by rw[←h1];exact h3
       by_cases h4:c.ttl=q.ttl
       ·left;have er:Zz q (c::l)=Zz c l:=by rw[step];simp[h4]
        refine⟨?_,by simp only[er]⟩;simp(disch:=omega)only[dq,hlt,e1,e2,hq,hc',h1,h3',h4,hsg,Ad,simprocAttr]
        try simp
       ·right;have er:Zz q (c::l)=false:=by rw[step];simp[h1,h3',h4]
        simp only[er,B5,if_false];refine⟨?_,rfl⟩;simp(disch:=omega)only[dq,hlt,e1,e2,hq,hc',h1,h3',h4,hsg,Ad,simprocAttr]
    ·left;have er:Zz q (c::l)=Zz c l:=by rw[step];simp[h1]
     refine⟨?_,by simp only[er]⟩;simp(disch:=omega)only[dq,hlt,e1,e2,hq,hc',h1,Ad,simprocAttr]
     try simp
   ·have hlt:¬(r.length:Int)+1<((p::r).length:Int):=by rw[hlr];omega
    obtain⟨q,hq⟩:∃q,(p::r)[r.length]? =some q:=⟨_,B3 (by rw[hlr];omega)⟩;rw[hq];refine⟨?_,by simp[Zz,Out.goes]⟩;generalize (p::r)=g' at*;simp(disch:=omega)only[dq,hlt,Ad,simprocAttr];simp[Zz]
 rcases Bm (Dm2 g) with h|h
 ·rw[h,if_pos rfl] at key;rw[h];simp(disch:=omega)only[dq,key,Ad,simprocAttr]
 ·rw[h,if_neg (by simp)] at key;rw[h];simp(disch:=omega)only[dq,key,Ad,simprocAttr]
def Dl6 (a b:List Rec) (ha:a.length≤1000000) (hb:b.length≤1000000):S Cp2 2 [B6 a,B6 b]=some [.b (decide (a=b))]:=by
 obtain⟨N,hN⟩:∃N,N=a.length+1:=⟨_,rfl⟩;refine If2 (N:=N) rfl ?_;by_cases hl:a.length=b.length
 ·have key:Fx6.ev S N [B6 a,B6 b]=some (if a.drop 0=b.drop 0 then .yld 0 [] else .ret [.b false]):=by
   refine Gh a.length (fun i=>[.i .i64 (i:Int)]) (fun i=>if a.drop i=b.drop i then .yld 0 [] else .ret [.b false]) rfl (by omega) (fun i hi=> ?_) ?_
   ·have h1:a[i]? =some a[i]:=B3 hi;have h2:b[i]? =some b[i]:=B3 (by omega);have d1:a.drop i=a[i]::a.drop (i+1):=D8 hi;have d2:b.drop i=b[i]::b.drop (i+1):=D8 (by omega);rw[d1,d2];generalize a[i]=x at*;generalize b[i]'(by omega)=y at*;have hlt:(i:Int)<(a.length:Int):=by omega
    by_cases h:x=y
    ·left;subst h;refine⟨?_,by simp⟩;simp(disch:=omega)only[At7,hlt,h1,h2,Ad,simprocAttr]
     try simp
    ·right;rw[if_neg (by simp[h])];refine⟨?_,rfl⟩;simp(disch:=omega)only[At7,hlt,h1,h2,h,Ad,simprocAttr]
   ·have hlt:¬(a.length:Int)<(a.length:Int):=by omega
    have e:a.drop a.length=b.drop a.length:=by rw[List.drop_length,hl,List.drop_length]
    rw[if_pos e];refine⟨?_,rfl⟩;simp(disch:=omega)only[At7,hlt,Ad,simprocAttr]
  have hl':(a.length:Int)=(b.length:Int):=by omega
  rw[Gq,Gq] at key;by_cases h:a=b
  ·rw[if_pos h] at key;have e:decide (a=b)=true:=by simp[h]
   rw[e];simp(disch:=omega)only[At7,hl',key,Ad,simprocAttr]
  ·rw[if_neg h] at key;have e:decide (a=b)=false:=by simp[h]
   rw[e];simp(disch:=omega)only[At7,hl',key,Ad,simprocAttr]
 ·have hl':¬(a.length:Int)=(b.length:Int):=by omega
  have e:decide (a=b)=false:=decide_eq_false fun q=>hl (by rw[q]);rw[e];simp(disch:=omega)only[At7,hl',Ad,simprocAttr]
end Go.X.G
/- Zones in the program: proper. -/
namespace Go.X.G
open Go Go.X
section
variable (o cut red:List UInt8) (g:List Rec) (x:Rec) (N:Nat)
def Bj5 (n:List UInt8):Bool:=decide (n[0]? =some 42)
def Ig4 (hx:g[0]? =some x) (hl:g.length≤1000000) (hn:x.name≠[]) (p4 p5 p6 p7 p8 p9 p10 p11 p12 p13:PV):
  Db9.ev S N [.s o,B6 g,.s cut,.s red,p4,p5,p6,p7,p8,p9,p10,p11,p12,p13]=some (.ret [.b (!Bj5 x.name||(!Hh g 2 && !Hh g 39))]):=by
 have k2:=L9 g 2 hl;have k39:=L9 g 39 hl;obtain⟨c,hc⟩:∃c,x.name[0]? =some c:=⟨_,B3 (Cr.2 hn)⟩;unfold Bj5;rw[hc];by_cases h1:c=42
 ·have h1':(c.toNat:Int)=42:=by rw[h1];rfl
  rcases Bm (Hh g 2) with h2|h2
  ·rw[h2] at k2;simp(disch:=omega)only[Fd0,hx,hc,h1',k2,Ad,simprocAttr];simp[h1,h2]
  ·rw[h2] at k2;simp(disch:=omega)only[Fd0,hx,hc,h1',k2,k39,Ad,simprocAttr];simp[h1,h2]
 ·have h1':¬(c.toNat:Int)=42:=fun q=>h1 (UInt8.toNat_inj.1 (show c.toNat=42 by omega));simp(disch:=omega)only[Fd0,hx,hc,h1',Ad,simprocAttr];simp[h1]
def Ig3 (hx:g[0]? =some x) (hl:g.length≤1000000) (hn:x.name≠[]) (p4 p5 p6 p7 p8 p9 p10:PV):
  Ar1.ev S N [.s o,B6 g,.s cut,.s red,p4,p5,p6,p7,p8,p9,p10]=some (.ret [.b ((if(!decide (x.name=o) && Hh g 2)=true then Kt g [2,43,47,46,1,28] else !Hh g 43) && (!Bj5 x.name||(!Hh g 2 && !Hh g 39)))]):=by
 have k2:=L9 g 2 hl;have k43:=L9 g 43 hl;have kd:S Yn 2 [B6 g,.l 1 [.i .i64 2,.i .i64 43,.i .i64 47,.i .i64 46,.i .i64 1,.i .i64 28]]=some [.b (Kt g [2,43,47,46,1,28])]:=c8 g [2,43,47,46,1,28] hl (by decide);have hlit:Lz 1 [.i .i64 2,.i .i64 43,.i .i64 47,.i .i64 46,.i .i64 1,.i .i64 28]=some (.l 1 [.i .i64 2,.i .i64 43,.i .i64 47,.i .i64 46,.i .i64 1,.i .i64 28]):=rfl;have t:=fun p11 p12 p13=>Ig4 o cut red g x N hx hl hn p4 p5 p6 p7 p8 p9 p10 p11 p12 p13;have x7:=Cd Ar1.eq_1;have x6:=Cd Dz3.eq_1;have x5:=Cd Dz5.eq_1;have x4:=Cd Db0.eq_1;have x3:=Cd Db3.eq_1;by_cases h0:x.name=o
 ·rcases Bm (Hh g 43) with h1|h1<;>rw[h1] at k43<;>simp(disch:=omega)only[x7,x6,x5,x4,x3,t,hx,h0,k43,hlit,Ad,simprocAttr]<;>simp[h1]
 ·rcases Bm (Hh g 2) with h2|h2
  ·rw[h2] at k2;rcases Bm (Kt g [2,43,47,46,1,28]) with h3|h3<;>rw[h3] at kd<;>simp(disch:=omega)only[x7,x6,x5,x4,x3,t,hx,h0,k2,kd,hlit,Ad,simprocAttr]<;>simp[h0,h2,h3]
  ·rw[h2] at k2;rcases Bm (Hh g 43) with h1|h1<;>rw[h1] at k43<;>simp(disch:=omega)only[x7,x6,x5,x4,x3,t,hx,h0,k2,k43,hlit,Ad,simprocAttr]<;>simp[h0,h1,h2]
def Hk7 (hx:g[0]? =some x) (hl:g.length≤1000000) (hn:x.name≠[]) (p4 p5 p6 p7:PV):
  jc.ev S N [.s o,B6 g,.s cut,.s red,p4,p5,p6,p7]=some (.ret [.b ((!Hh g 5||Kt g [5,46,47]) && decide (red=[]) && (decide (cut=[])||Kt g [1,28]) && ((if(!decide (x.name=o) && Hh g 2)=true then Kt g [2,43,47,46,1,28] else !Hh g 43) && (!Bj5 x.name||(!Hh g 2 && !Hh g 39))))]):=by
 have k5:=L9 g 5 hl;have kc:S Yn 2 [B6 g,.l 1 [.i .i64 5,.i .i64 46,.i .i64 47]]=some [.b (Kt g [5,46,47])]:=c8 g [5,46,47] hl (by decide);have ka:S Yn 2 [B6 g,.l 1 [.i .i64 1,.i .i64 28]]=some [.b (Kt g [1,28])]:=c8 g [1,28] hl (by decide);have hlit1:Lz 1 [.i .i64 5,.i .i64 46,.i .i64 47]=some (.l 1 [.i .i64 5,.i .i64 46,.i .i64 47]):=rfl;have hlit2:Lz 1 [.i .i64 1,.i .i64 28]=some (.l 1 [.i .i64 1,.i .i64 28]):=rfl;have t:=fun p8 p9 p10=>Ig3 o cut red g x N hx hl hn p4 p5 p6 p7 p8 p9 p10;generalize ((if(!decide (x.name=o) && Hh g 2)=true then Kt g [2,43,47,46,1,28] else !Hh g 43) && (!Bj5 x.name||(!Hh g 2 && !Hh g 39)))=B at*;have x13:=Cd jc.eq_1;have x12:=Cd Aq1.eq_1;have x11:=Cd Aq2.eq_1;have x10:=Cd Aq3.eq_1;have x9:=Cd Dz0.eq_1;have x8:=Cd Dz1.eq_1;rcases Bm (Hh g 5) with h1|h1<;>rw[h1] at k5
 ·rcases Bm (Kt g [5,46,47]) with h2|h2<;>rw[h2] at kc
  ·by_cases h3:red=[]
   ·replace h3:=eq_true h3;by_cases h4:cut=[]
    ·replace h4:=eq_true h4;simp(disch:=omega)only[x13,x12,x11,x10,x9,x8,t,k5,kc,h3,h4,hlit1,hlit2,Ad,simprocAttr]
     (clear x13 x12 x11 x10 x9 x8 t;simp[*])
    ·rcases Bm (Kt g [1,28]) with h5|h5<;>rw[h5] at ka<;>simp(disch:=omega)only[x13,x12,x11,x10,x9,x8,t,k5,kc,ka,h3,h4,hlit1,hlit2,Ad,simprocAttr]<;>(clear x13 x12 x11 x10 x9 x8 t;simp[*])
   ·simp(disch:=omega)only[x13,x12,x11,x10,x9,x8,t,k5,kc,h3,hlit1,hlit2,Ad,simprocAttr]
    (clear x13 x12 x11 x10 x9 x8 t;simp[*])
  ·simp(disch:=omega)only[x13,x12,x11,k5,kc,hlit1,hlit2,Ad,simprocAttr]
   (clear x13 x12 x11 x10 x9 x8 t;simp[*])
 ·by_cases h3:red=[]
  ·replace h3:=eq_true h3;by_cases h4:cut=[]
   ·replace h4:=eq_true h4;simp(disch:=omega)only[x13,x12,x11,x10,x9,x8,t,k5,h3,h4,hlit1,hlit2,Ad,simprocAttr]
    (clear x13 x12 x11 x10 x9 x8 t;simp[*])
   ·rcases Bm (Kt g [1,28]) with h5|h5<;>rw[h5] at ka<;>simp(disch:=omega)only[x13,x12,x11,x10,x9,x8,t,k5,ka,h3,h4,hlit1,hlit2,Ad,simprocAttr]<;>(clear x13 x12 x11 x10 x9 x8 t;simp[*])
  ·simp(disch:=omega)only[x13,x12,x11,x10,x9,x8,t,k5,h3,hlit1,hlit2,Ad,simprocAttr]
   (clear x13 x12 x11 x10 x9 x8 t;simp[*])
end
def At1 (o cut red:List UInt8) (g:List Rec) (hg:g≠[]) (hl:g.length≤1000000) (ho:o.length≤9223372036854775807) (hn:(nmG g).length≤9223372036854775807):
  S Cn9 4 [.s o,B6 g,.s cut,.s red]=some [.b (propG o g (decide (cut≠[])) (decide (red≠[])))]:=by
 obtain⟨x,r,rfl⟩:∃x r,g=x::r:=by
  cases g with
  |nil=>exact absurd rfl hg
  |cons x r=>exact⟨x,r,rfl⟩
 have hx:(x::r)[0]? =some x:=rfl;have hnm:nmG (x::r)=x.name:=rfl;rw[hnm] at hn;unfold propG;rw[hnm];generalize (x::r)=g at*;obtain⟨N,hN⟩:∃N,N=1:=⟨_,rfl⟩;refine Id8 (N:=N) rfl ?_;have hu:=Ep x.name o hn ho;have k6:=L9 g 6 hl;have k2:=L9 g 2 hl;have ku:=wx g hl;have xt:=Cd Bt0.eq_1;have x18:=Cd Ak6.eq_1;have x17:=Cd Ak7.eq_1;have x16:=Cd Ak8.eq_1;have x15:=Cd Ak9.eq_1;have x14:=Cd Aq0.eq_1;have e1:decide (cut≠[])= !decide (cut=[]):=by simp
 have e2:decide (red≠[])= !decide (red=[]):=by simp
 rw[e1,e2,Bool.not_not,Bool.not_not];rcases Bm (under x.name o) with h0|h0<;>rw[h0] at hu
 ·have hne:x.name≠[]:=ww (C8.1 h0).1;have t:=fun p4 p5 p6 p7=>Hk7 o cut red g x N hx hl hne p4 p5 p6 p7;have eS:Bj5 x.name=decide (x.name[0]? =some 42):=rfl;rw[eS] at t;generalize hA:(!Hh g 5||Kt g [5,46,47])=A at*;generalize hB:(if(!decide (x.name=o) && Hh g 2)=true then Kt g [2,43,47,46,1,28] else !Hh g 43)=B at*;generalize hC:(!decide (x.name[0]? =some 42)||(!Hh g 2 && !Hh g 39))=C at*;generalize decide (red=[])=D at*;generalize (decide (cut=[])||Kt g [1,28])=E' at*;clear hB hC hA;rcases Bm (Hh g 6) with h6|h6<;>rw[h6] at k6
  ·by_cases hno:x.name=o
   ·replace hno:=eq_true hno;rcases Bm (Dm2 g) with h1|h1<;>rw[h1] at ku
    ·rcases Bm (Hh g 2) with h2|h2<;>rw[h2] at k2
     ·simp(disch:=omega)only[xt,x18,x17,x16,x15,x14,t,hx,hu,k6,hno,ku,k2,Ad,simprocAttr]
      (clear xt x18 x17 x16 x15 x14 t;simp[*,Bool.and_assoc])
     ·simp(disch:=omega)only[xt,x18,x17,x16,x15,x14,t,hx,hu,k6,hno,ku,k2,Ad,simprocAttr]
      (clear xt x18 x17 x16 x15 x14 t;simp[*])
    ·simp(disch:=omega)only[xt,x18,x17,x16,x15,x14,t,hx,hu,k6,hno,ku,Ad,simprocAttr]
     (clear xt x18 x17 x16 x15 x14 t;simp[*])
   ·simp(disch:=omega)only[xt,x18,x17,x16,x15,x14,t,hx,hu,k6,hno,Ad,simprocAttr]
    (clear xt x18 x17 x16 x15 x14 t;simp[*])
  ·by_cases hno:x.name=o
   ·replace hno:=eq_true hno;simp(disch:=omega)only[xt,x18,x17,x16,x15,x14,t,hx,hu,k6,hno,Ad,simprocAttr]
    (clear xt x18 x17 x16 x15 x14 t;simp[*])
   ·rcases Bm (Dm2 g) with h1|h1<;>rw[h1] at ku
    ·simp(disch:=omega)only[xt,x18,x17,x16,x15,x14,t,hx,hu,k6,hno,ku,Ad,simprocAttr]
     (clear xt x18 x17 x16 x15 x14 t;simp[*,Bool.and_assoc])
    ·simp(disch:=omega)only[xt,x18,x17,x16,x15,x14,t,hx,hu,k6,hno,ku,Ad,simprocAttr]
     (clear xt x18 x17 x16 x15 x14 t;simp[*])
 ·simp(disch:=omega)only[xt,x18,x17,x16,x15,x14,hx,hu,Ad,simprocAttr]
  (clear xt x18 x17 x16 x15 x14;simp[*])
end Go.X.G
/- Zones in the program: Check and New. -/
namespace Go.X.G
open Go Go.X
def H1 (gs:List (List Rec)):PV:= .l 1 (gs.map B6)
def Q7 (l:List (List Rec)):G8 (H1 l)=some (.i .i64 (l.length:Int)):=by simp[H1,G8]
def Gc (l:List (List Rec)) (k:IntKind) (z:Int) (h:0≤z):Hy 1 (H1 l) (.i k z)=(l[z.toNat]?).map B6:=by simp[H1,Xj _ _ _ _ h]
def Cr5 (x:List Rec):Lz 1 [B6 x]=some (H1 [x]):=rfl
def uh (l:List (List Rec)) (x:List Rec) (h:l.length+1≤1073741824):Ip 1 (H1 l) (H1 [x])=some (H1 (l++[x])):=by have:=X6 1 (l.map B6) [B6 x] (by simpa using h);simpa [H1] using this
def Fh6 {α:Type} (l:List α) (s i:Nat) (c:α) (h:l[i]? =some c) (hs:s≤i):sl l s (i+1)=sl l s i++[c]:=by unfold sl;have hi:=(Bp.1 h).1;rw[Dm,h,List.drop_append_of_le_length (by rw[Cq];omega)];rfl
def Dq7 (l:List Rec) (hl:l.length≤1000000):S Cp0 1 [B6 l]=some [H1 (grp l)]:=by
 obtain⟨N,hN⟩:∃N,N=l.length+1:=⟨_,rfl⟩;refine If0 (N:=N) rfl ?_;have key:Fx5.ev S N [B6 l]=some (.yld 0 [H1 ([]++Yt (sl l 0 0) l)]):=by
  refine Fc l (fun i (g:List (List Rec)×Nat)=>[H1 g.1,.i .i64 (g.2:Int),.i .i64 (i:Int)]) (fun i g r=> .yld 0 [H1 (g.1++Yt (sl l g.2 i) r)]) (fun i g=>g.2≤i∧g.1.length≤i) ([],0) ?_ (by simp) (by omega) (fun i g c r hd hi hc hI=> ?_) (fun g hI=> ?_)
  ·rfl
  ·left;obtain⟨out,st⟩:=g;obtain⟨hI1,hI2⟩:=hI;simp only at hI1 hI2 ⊢;have hlt:(i:Int)<(l.length:Int):=by omega
   have e1:((i:Int)+1).toNat=i+1:=by omega
   have e2:(i:Int).toNat=i:=by omega
   have e3:(st:Int).toNat=st:=by omega
   have hsl:=Fh6 l st i c hc hI1;have hsl2:List.drop st (List.take (i+1) l)=sl l st i++[c]:=hsl;have hsl3:sl l st st=[]:=by unfold sl;rw[List.drop_eq_nil_iff,Cq];omega
   have hsl4:sl l (i+1) (i+1)=[]:=by unfold sl;rw[List.drop_eq_nil_iff,Cq];omega
   have hr:r=l.drop (i+1):=by have:=congrArg List.tail hd;simpa using this.symm
   by_cases hc2:(match r with|[]=>true|y::_=> !decide (y.name=c.name))=true
   ·refine⟨(out++[sl l st i++[c]],i+1),?_,⟨by simp,by simp;omega⟩,?_⟩
    ·cases r with
     |nil=>
      have hend:(i:Int)+1=(l.length:Int):=by have:=congrArg List.length hr;simp at this;omega
      simp only;simp(disch:=omega)only[Bp9,hlt,hend.symm,e1,e2,e3,hc,hsl2,Cr5,uh,Ad,simprocAttr]
      try (congr 3;omega)
     |cons y r'=>
      have hy:l[i+1]? =some y:=by have:=congrArg (fun q=>q[0]?) hr;simpa [Ch] using this.symm
      have hyl:=(Bp.1 hy).1;have hend:¬(i:Int)+1=(l.length:Int):=by omega
      have hyc:¬y.name=c.name:=by simpa using hc2
      simp only;simp(disch:=omega)only[Bp9,hlt,hend,e1,e2,e3,hc,hy,hyc,hsl2,Cr5,uh,Ad,simprocAttr]
      try congr 3
    ·have eg:Yt (sl l st i) (c::r)=(sl l st i++[c])::Yt [] r:=by
      cases r with
      |nil=>rfl
      |cons y r'=>rw[Yt,if_pos hc2]
     simp only[eg,hsl4];simp
   ·refine⟨(out,st),?_,⟨by simp;omega,by simp;omega⟩,?_⟩
    ·cases r with
     |nil=>simp at hc2
     |cons y r'=>
      have hy:l[i+1]? =some y:=by have:=congrArg (fun q=>q[0]?) hr;simpa [Ch] using this.symm
      have hyl:=(Bp.1 hy).1;have hend:¬(i:Int)+1=(l.length:Int):=by omega
      have hyc:y.name=c.name:=by simpa using hc2
      simp only;simp(disch:=omega)only[Bp9,hlt,hend,e1,e2,e3,hc,hy,hyc,Ad,simprocAttr]
      try rfl
    ·have eg:Yt (sl l st i) (c::r)=Yt (sl l st i++[c]) r:=by
      cases r with
      |nil=>simp at hc2
      |cons y r'=>rw[Yt,if_neg hc2]
     simp only[eg,hsl]
  ·have hlt:¬(l.length:Int)<(l.length:Int):=by omega
   refine⟨?_,rfl⟩;simp(disch:=omega)only[Bp9,hlt,Ad,simprocAttr];simp[Yt]
 have e:[]++Yt (sl l 0 0) l=grp l:=by simp[sl,grp]
 rw[e] at key;generalize grp l=gs at*;simp(disch:=omega)only[Bp9,key,Ad,simprocAttr]
def Bh2 (o:List UInt8):List (List Rec)→List UInt8→List UInt8→Bool→Option Bool
 |[],_,_,soa=>some soa
 |g::gs,cut,red,soa=>
  if propG o g (decide (Fy (nmG g) cut≠[])) (decide (Fy (nmG g) red≠[]))=true then
   Bh2 o gs (if Fy (nmG g) cut=[]∧nmG g≠o∧Hh g 2=true then nmG g else Fy (nmG g) cut) (if Hh g 39=true then nmG g else Fy (nmG g) red) (soa||decide (nmG g=o))
  else none
def Dy4 (o:List UInt8):∀(gs:List (List Rec)) (cut red:List UInt8) (soa:Bool),Ak2 o gs cut red soa=decide (Bh2 o gs cut red soa=some true)
 |[],_,_,soa=>by simp[Ak2,Bh2]
 |g::gs,cut,red,soa=>by
  simp only[Ak2,Bh2];split
  ·exact Dy4 o gs _ _ _
  ·simp
def Hp2:Option Bool→Out
 |some b=> .yld 0 [.b b]
 |none=> .ret [.i .i64 13]
section
variable (z:Zone) (g:List Rec) (gs:List (List Rec)) (x:Rec) (N:Nat) (i:Nat) (cut red:List UInt8) (soa:Bool)
def Jz4 (hi:gs[i]? =some g) (hx:g[0]? =some x) (hxl:x.name.length≤9223372036854775807) (hcl:cut.length≤9223372036854775807) (p1 p2 p3 p4 p5:PV):
  ∃p11,uv.ev S N [z.pv,p1,p2,p3,p4,p5,H1 gs,.s cut,.s red,.b soa,.i .i64 (i:Int)]=uw.ev S N [z.pv,p1,p2,p3,p4,p5,H1 gs,.s cut,.s red,.b soa,.i .i64 (i:Int),p11,.s (Fy x.name cut)]:=by
 have x17:=Cd uv.eq_1;have x16:=Cd Dd3.eq_1;have x0:=Cd Gv5.eq_1;have hu:=Ep x.name cut hxl hcl;have ei:(i:Int).toNat=i:=by omega
 by_cases h1:cut=[]
 ·refine⟨.u,?_⟩;have e:Fy x.name cut=cut:=by unfold Fy;simp[h1]
  rw[e];replace h1:=eq_true h1;simp(disch:=omega)only[x17,x16,x0,h1,hi,hx,ei,Gc,Ad,simprocAttr]
 ·rcases Bm (under x.name cut) with h2|h2<;>rw[h2] at hu
  ·refine⟨.b true,?_⟩;have e:Fy x.name cut=cut:=by unfold Fy;simp[h2]
   rw[e];simp(disch:=omega)only[x17,x16,x0,h1,hu,hi,hx,ei,Gc,Ad,simprocAttr]
  ·refine⟨.b false,?_⟩;have e:Fy x.name cut=[]:=by unfold Fy;simp[h1,h2]
   rw[e];simp(disch:=omega)only[x17,x16,x0,h1,hu,hi,hx,ei,Gc,Ad,simprocAttr]
def Jz3 (hi:gs[i]? =some g) (hx:g[0]? =some x) (hxl:x.name.length≤9223372036854775807) (hrl:red.length≤9223372036854775807) (p1 p2 p3 p4 p5 p11 p12:PV):
  ∃p13,uw.ev S N [z.pv,p1,p2,p3,p4,p5,H1 gs,.s cut,.s red,.b soa,.i .i64 (i:Int),p11,p12]=Ar4.ev S N [z.pv,p1,p2,p3,p4,p5,H1 gs,.s cut,.s red,.b soa,.i .i64 (i:Int),p11,p12,p13,.s (Fy x.name red)]:=by
 have x15:=Cd uw.eq_1;have x14:=Cd Dd7.eq_1;have x1:=Cd Gv4.eq_1;have hu:=Ep x.name red hxl hrl;have ei:(i:Int).toNat=i:=by omega
 by_cases h1:red=[]
 ·refine⟨.u,?_⟩;have e:Fy x.name red=red:=by unfold Fy;simp[h1]
  rw[e];replace h1:=eq_true h1;simp(disch:=omega)only[x15,x14,x1,h1,hi,hx,ei,Gc,Ad,simprocAttr]
 ·rcases Bm (under x.name red) with h2|h2<;>rw[h2] at hu
  ·refine⟨.b true,?_⟩;have e:Fy x.name red=red:=by unfold Fy;simp[h2]
   rw[e];simp(disch:=omega)only[x15,x14,x1,h1,hu,hi,hx,ei,Gc,Ad,simprocAttr]
  ·refine⟨.b false,?_⟩;have e:Fy x.name red=[]:=by unfold Fy;simp[h1,h2]
   rw[e];simp(disch:=omega)only[x15,x14,x1,h1,hu,hi,hx,ei,Gc,Ad,simprocAttr]
def Jz2 (hi:gs[i]? =some g) (hx:g[0]? =some x) (hnm:nmG g=x.name) (hg:g≠[]) (hl:g.length≤1000000) (hil:i≤1000000) (hxl:x.name.length≤9223372036854775807) (hzl:z.origin.length≤9223372036854775807) (cu re:List UInt8) (p1 p2 p3 p4 p5 p7 p8 p11 p13:PV):
  Ar4.ev S N [z.pv,p1,p2,p3,p4,p5,H1 gs,p7,p8,.b soa,.i .i64 (i:Int),p11,.s cu,p13,.s re]=
   some (if propG z.origin g (decide (cu≠[])) (decide (re≠[]))=true then .yld 1 [.s (if cu=[]∧x.name≠z.origin∧Hh g 2=true then x.name else cu),.s (if Hh g 39=true then x.name else re),.b (soa||decide (x.name=z.origin)),.i .i64 ((i:Int)+1)] else .ret [.i .i64 13]):=by
 have hp:=At1 z.origin cu re g hg hl hzl (by rw[hnm];exact hxl);have k2:=L9 g 2 hl;have k39:=L9 g 39 hl;have ei:(i:Int).toNat=i:=by omega
 generalize propG z.origin g (decide (cu≠[])) (decide (re≠[]))=P at*;cases P
 ·simp(disch:=omega)only[Bp6,hp,hi,hx,ei,Gc,Ad,simprocAttr]
  try simp
 ·by_cases h1:cu=[]
  ·by_cases h2:x.name=z.origin
   ·rcases Bm (Hh g 39) with h3|h3<;>rw[h3] at k39
    ·cases soa<;>(have h1':=eq_true h1;have h2':=eq_true h2;simp(disch:=omega)only[Bp6,hp,hi,hx,ei,h1',h2',k39,Gc,Ad,simprocAttr];simp[h2,h3])
    ·cases soa<;>(have h1':=eq_true h1;have h2':=eq_true h2;simp(disch:=omega)only[Bp6,hp,hi,hx,ei,h1',h2',k39,Gc,Ad,simprocAttr];simp[h2,h3])
   ·rcases Bm (Hh g 2) with h4|h4<;>rw[h4] at k2
    ·rcases Bm (Hh g 39) with h3|h3<;>rw[h3] at k39
     ·cases soa<;>(have h1':=eq_true h1;simp(disch:=omega)only[Bp6,hp,hi,hx,ei,h1',h2,k2,k39,Gc,Ad,simprocAttr];simp[h1,h2,h3,h4])
     ·cases soa<;>(have h1':=eq_true h1;simp(disch:=omega)only[Bp6,hp,hi,hx,ei,h1',h2,k2,k39,Gc,Ad,simprocAttr];simp[h1,h2,h3,h4])
    ·rcases Bm (Hh g 39) with h3|h3<;>rw[h3] at k39
     ·cases soa<;>(have h1':=eq_true h1;simp(disch:=omega)only[Bp6,hp,hi,hx,ei,h1',h2,k2,k39,Gc,Ad,simprocAttr];simp[h2,h3,h4])
     ·cases soa<;>(have h1':=eq_true h1;simp(disch:=omega)only[Bp6,hp,hi,hx,ei,h1',h2,k2,k39,Gc,Ad,simprocAttr];simp[h2,h3,h4])
  ·by_cases h2:x.name=z.origin
   ·rcases Bm (Hh g 39) with h3|h3<;>rw[h3] at k39
    ·cases soa<;>(have h2':=eq_true h2;simp(disch:=omega)only[Bp6,hp,hi,hx,ei,h1,h2',k39,Gc,Ad,simprocAttr];simp[h1,h2,h3])
    ·cases soa<;>(have h2':=eq_true h2;simp(disch:=omega)only[Bp6,hp,hi,hx,ei,h1,h2',k39,Gc,Ad,simprocAttr];simp[h1,h2,h3])
   ·rcases Bm (Hh g 39) with h3|h3<;>rw[h3] at k39
    ·cases soa<;>(simp(disch:=omega)only[Bp6,hp,hi,hx,ei,h1,h2,k39,Gc,Ad,simprocAttr];simp[h1,h2,h3])
    ·cases soa<;>(simp(disch:=omega)only[Bp6,hp,hi,hx,ei,h1,h2,k39,Gc,Ad,simprocAttr];simp[h1,h2,h3])
end
def An1:∀(n:Nat) (l:List Rec),l.length≤n→(∀g∈grp l,g≠[]∧∀x∈g,x∈l)∧(grp l).length≤l.length
 |_,[],_=>by simp[grp,Yt]
 |0,x::r,hn=>by simp at hn
 |n+1,x::r,hn=>by
  obtain⟨g,l',h1,h2,h3,h4,h5⟩:=Vy x r;have hlen:=congrArg List.length h1;have hg0:0<g.length:=Cr.2 h2;simp only[B0,Cw] at hlen hn;obtain⟨i1,i2⟩:=An1 n l' (by omega);rw[h5];refine⟨fun g' hg'=> ?_,by simp;omega⟩;rcases Ck.1 hg' with rfl|hg'
  ·exact⟨h2,fun w hw=>by rw[h1];exact D2 _ hw⟩
  ·obtain⟨j1,j2⟩:=i1 g' hg';exact⟨j1,fun w hw=>by rw[h1];exact Dq _ (j2 w hw)⟩
def Dk7 (p:Prop) [Decidable p] (a b:List UInt8) (ha:a.length≤9223372036854775807) (hb:b.length≤9223372036854775807):(if p then a else b).length≤9223372036854775807:=by split<;>assumption
def Jw0 (z:Zone) (hz:z.wf) (hl:z.recs.length≤1000000) (N:Nat) (hN:z.recs.length+1<N) (p1 p2 p3 p4 p5:PV):
  Hw6.ev S N [z.pv,p1,p2,p3,p4,p5,H1 (grp z.recs)]=some (Hp2 (Bh2 z.origin (grp z.recs) [] [] false)):=by
 obtain⟨gf1,gf2⟩:=An1 z.recs.length z.recs (B7 _);have hgl:∀g∈grp z.recs,g.length≤1000000:=fun g hg=>by
  have:∀(n:Nat) (l:List Rec),l.length≤n→∀g∈grp l,g.length≤l.length:=by
   intro n
   induction n with
   |zero=>intro l hl g hg;cases l with
    |nil=>simp[grp,Yt] at hg
    |cons x r=>simp at hl
   |succ n ih=>
    intro l hl g hg;cases l with
    |nil=>simp[grp,Yt] at hg
    |cons x r=>
     obtain⟨g0,l',h1,h2,h3,h4,h5⟩:=Vy x r;have hlen:=congrArg List.length h1;have hg0:0<g0.length:=Cr.2 h2;simp only[B0,Cw] at hlen hl;rw[h5] at hg;rcases Ck.1 hg with rfl|hg
     ·simp only[Cw];omega
     ·have:=ih l' (by omega) g hg;simp only[Cw];omega
  exact Dy (this _ _ (B7 _) g hg) hl
 generalize grp z.recs=gs at*;have:=Fc (fn:=S) (N:=N) (η:=[z.pv,p1,p2,p3,p4,p5,H1 gs]) (id:=1) (init:=[.c (.s []),.c (.s []),.c (.b false),.c (.i .i64 0)]) (body:=Bh7) gs (fun i (a:List UInt8×List UInt8×Bool)=>[.s a.1,.s a.2.1,.b a.2.2,.i .i64 (i:Int)]) (fun i a r=>Hp2 (Bh2 z.origin r a.1 a.2.1 a.2.2)) (fun i a=>a.1.length≤9223372036854775807∧a.2.1.length≤9223372036854775807) ([],[],false) ?_ (by simp) (by omega) (fun i a g r hd hi hc hI=> ?_) (fun a hI=> ?_)
 ·exact this
 ·simp(disch:=omega)only[Ad,simprocAttr]
  try rfl
 ·obtain⟨cut,red,soa⟩:=a;obtain⟨hI1,hI2⟩:=hI;simp only at hI1 hI2 ⊢;have hgm:=Cc hc;obtain⟨hg,hgz⟩:=gf1 g hgm;obtain⟨x,hx,hxm⟩:∃x,g[0]? =some x∧x∈g:=by
   cases g with
   |nil=>exact absurd rfl hg
   |cons x r=>exact⟨x,rfl,.head _⟩
  have hnm:nmG g=x.name:=by
   cases g with
   |nil=>exact absurd rfl hg
   |cons y r=>simp at hx;rw[←hx];rfl
  have hxl:x.name.length≤9223372036854775807:=(hz.recs.2 x (hgz x hxm)).name;have hzl:z.origin.length≤9223372036854775807:=hz.origin;obtain⟨p11,kA⟩:=Jz4 z g gs x N i cut red soa hc hx hxl hI1 p1 p2 p3 p4 p5;have hku:(Fy x.name cut).length≤9223372036854775807:=by unfold Fy;split<;>simp[hI1]
  have hkr:(Fy x.name red).length≤9223372036854775807:=by unfold Fy;split<;>simp[hI2]
  obtain⟨p13,kB⟩:=Jz3 z g gs x N i cut red soa hc hx hxl hI2 p1 p2 p3 p4 p5 p11 (.s (Fy x.name cut));have kC:=Jz2 z g gs x N i soa hc hx hnm hg (hgl g hgm) (by omega) hxl hzl (Fy x.name cut) (Fy x.name red) p1 p2 p3 p4 p5 (.s cut) (.s red) p11 p13;have kall:=kA.trans (kB.trans kC);have hlt:(i:Int)<(gs.length:Int):=by omega
  have hb:Bh7.ev S N [z.pv,p1,p2,p3,p4,p5,H1 gs,.s cut,.s red,.b soa,.i .i64 (i:Int)]=uv.ev S N [z.pv,p1,p2,p3,p4,p5,H1 gs,.s cut,.s red,.b soa,.i .i64 (i:Int)]:=by have xb:=Cd Bh7.eq_1;simp(disch:=omega)only[xb,hlt,Q7,Ad,simprocAttr]
  have hb2:=hb.trans kall;have estep:Bh2 z.origin (g::r) cut red soa=if propG z.origin g (decide (Fy x.name cut≠[])) (decide (Fy x.name red≠[]))=true then Bh2 z.origin r (if Fy x.name cut=[]∧x.name≠z.origin∧Hh g 2=true then x.name else Fy x.name cut) (if Hh g 39=true then x.name else Fy x.name red) (soa||decide (x.name=z.origin)) else none:=by simp only[Bh2,hnm]
  by_cases hP:propG z.origin g (decide (Fy x.name cut≠[])) (decide (Fy x.name red≠[]))=true
  ·left;rw[if_pos hP] at hb2 estep;refine⟨(if Fy x.name cut=[]∧x.name≠z.origin∧Hh g 2=true then x.name else Fy x.name cut,if Hh g 39=true then x.name else Fy x.name red,soa||decide (x.name=z.origin)),hb2,⟨?_,?_⟩,?_⟩
   ·exact Dk7 _ _ _ hxl hku
   ·exact Dk7 _ _ _ hxl hkr
   ·rw[estep]
  ·right;rw[if_neg hP] at hb2 estep;rw[estep];exact⟨hb2,rfl⟩
 ·have hlt:¬(gs.length:Int)<(gs.length:Int):=by omega
  have xb:=Cd Bh7.eq_1;refine⟨?_,rfl⟩;simp(disch:=omega)only[xb,hlt,Q7,Ad,simprocAttr];rfl
def Aw9 (z:Zone) (hz:z.wf):b9 z=if vld z.origin=false then 2 else if 2048<z.recs.length∨Uk z.recs=true then 9 else if z.recs.all Sz=false then 5 else if z.recs≠sortR z.recs then 7 else if Bh2 z.origin (grp z.recs) [] [] false=some true then 0 else 13:=by
 unfold b9;rcases Bm (vld z.origin) with h1|h1
 ·have n1:¬vld z.origin=false:=by simp[h1]
  rw[if_neg n1,if_neg n1];by_cases h2:2048<z.recs.length
  ·rw[if_pos h2,if_pos (.inl h2)]
  ·rw[if_neg h2];have hcr:=Bg6 z.recs;rcases Bm (z.recs.all fun r=>decide ((findR z.recs r.name r.typ).length≤64)) with h3|h3
   ·rw[h3] at hcr;have hn2:¬(2048<z.recs.length∨Uk z.recs=true):=by
     rintro (q|q)
     ·exact h2 q
     ·rw[hcr] at q;cases q
    have n3:¬(z.recs.all fun r=>decide ((findR z.recs r.name r.typ).length≤64))=false:=by simp only[h3];simp
    rw[if_neg n3,if_neg hn2];rcases Bm (z.recs.all Sz) with h4|h4
    ·have n4:¬z.recs.all Sz=false:=by simp only[h4];simp
     rw[if_neg n4,if_neg n4];by_cases h5:z.recs=sortR z.recs
     ·have n5:¬z.recs≠sortR z.recs:=by simpa using h5
      rw[if_neg n5,if_neg n5];have hv:∀r∈z.recs,Sz r=true:=C1.1 h4;have hr:z.recs.Pairwise ltR:=by rw[h5];exact(Tm z.recs hv).1
      have hk:=Ap9 z (fun r h=>l7 (hv r h)) (Cq4 hr) z.recs.length [] z.recs [] [] false (B7 _) rfl (by simp) ⟨by simp,by simp,by simp,by simp⟩;rw[Dy4,decide_eq_true_eq] at hk;have hk2:=Cw1 z hv hr;have hk3:Bh2 z.origin (grp z.recs) [] [] false=some true↔(findR z.recs z.origin 6).length=1∧rl z.recs z.origin 2=true∧∀r∈z.recs,Wc z r=true:=by rw[hk,←hk2];simp
      by_cases h6:Bh2 z.origin (grp z.recs) [] [] false=some true
      ·obtain⟨a,b,c⟩:=hk3.1 h6;have c':z.recs.all (Wc z)=true:=C1.2 c;have n7:¬((findR z.recs z.origin 6).length≠1∨rl z.recs z.origin 2=false):=by simp[a,b]
       have n8:¬z.recs.all (Wc z)=false:=by simp only[c'];simp
       rw[if_pos h6,if_neg n7,if_neg n8]
      ·rw[if_neg h6];by_cases h7:(findR z.recs z.origin 6).length≠1∨rl z.recs z.origin 2=false
       ·rw[if_pos h7]
       ·rw[if_neg h7];by_cases h8:z.recs.all (Wc z)=false
        ·rw[if_pos h8]
        ·exfalso;simp only[not_or,ne_eq,K4,Hq] at h7 h8;exact h6 (hk3.2 ⟨h7.1,h7.2,C1.1 h8⟩)
     ·rw[if_pos h5,if_pos h5]
    ·rw[if_pos h4,if_pos h4]
   ·rw[h3] at hcr;rw[if_pos h3,if_pos (.inr hcr)]
 ·rw[if_pos h1,if_pos h1]
def Dm0 (z:Zone) (hz:z.wf) (hl:z.recs.length≤1000000):S Hv7 1 [z.pv]=some [.i .i64 (b9 z)]:=by
 obtain⟨N,hN⟩:∃N,N=z.recs.length+2:=⟨_,rfl⟩;refine Jy0 (N:=N) rfl ?_;rw[Aw9 z hz];have hzl:z.origin.length≤9223372036854775807:=hz.origin;have k1:=Dx z.origin hzl;have k2:=Bg5 z.recs hl;have k3:=F6 z.recs Cp4 [] (fun r=> !Sz r) hl (fun r hr=>by refine If4 (N:=1) rfl ?_;have:=Dh8 r (hz.recs.2 r hr);simp(disch:=omega)only[Ij3,this,Ad,simprocAttr])
 have e3:(z.recs.any fun r=> !Sz r)= !z.recs.all Sz:=by rw[List.not_all_eq_any_not]
 rw[e3] at k3;have k4:=Et2 z.recs hz.recs.2 hl;have hsl:(sortR z.recs).length≤1000000:=by obtain⟨r,h1,h2,_⟩:=R5 Hl8 (by rw[Eh6];exact Hn4) z.recs hz.recs.2 hl;rw[Eh6] at h1;have:=i7 eqF r;rw[Ag4 h1] at this;omega
 have k5:=Dl6 z.recs (sortR z.recs) hl hsl;have k6:=Dq7 z.recs hl;have k7:=fun p1 p2 p3 p4 p5=>Jw0 z hz hl N (by omega) p1 p2 p3 p4 p5;have xt:=Cd Gh5.eq_1;have x28:=Cd Dc0.eq_1;have x27:=Cd Dc1.eq_1;have x26:=Cd Dc2.eq_1;have x25:=Cd Dc3.eq_1;have x24:=Cd Dc4.eq_1;have x23:=Cd Dc5.eq_1;have x22:=Cd Dc6.eq_1;have x21:=Cd Dc7.eq_1;have x20:=Cd Dc9.eq_1;have x19:=Cd Dd1.eq_1;have x18:=Cd Dd2.eq_1;rcases Bm (vld z.origin) with h1|h1
 ·have n1:¬vld z.origin=false:=by simp[h1]
  rw[if_neg n1];rw[h1] at k1;by_cases h2:2048<z.recs.length
  ·rw[if_pos (.inl h2)];have h2':(2048:Int)<(z.recs.length:Int):=by omega
   simp(disch:=omega)only[xt,x28,x27,x26,k1,h2',Ad,simprocAttr]
  ·have h2':¬(2048:Int)<(z.recs.length:Int):=by omega
   rcases Bm (Uk z.recs) with h3|h3<;>rw[h3] at k2
   ·rw[if_pos (.inr h3)];simp(disch:=omega)only[xt,x28,x27,x26,k1,k2,h2',Ad,simprocAttr]
   ·have n2:¬(2048<z.recs.length∨Uk z.recs=true):=by simp only[h2,h3];simp
    rw[if_neg n2];rcases Bm (z.recs.all Sz) with h4|h4<;>rw[h4] at k3
    ·have n4:¬z.recs.all Sz=false:=by simp only[h4];simp
     rw[if_neg n4];by_cases h5:z.recs=sortR z.recs
     ·have n5:¬z.recs≠sortR z.recs:=by simpa using h5
      rw[if_neg n5];have e5:decide (z.recs=sortR z.recs)=true:=decide_eq_true h5;rw[e5] at k5;clear h5 e5;generalize sortR z.recs=sr at*;cases h6:Bh2 z.origin (grp z.recs) [] [] false with
      |none=>
       rw[h6] at k7;simp only[Hp2] at k7;generalize grp z.recs=gs at*;rw[if_neg (by simp)];simp(disch:=omega)only[xt,x28,x27,x26,x25,x24,x23,x22,x21,x20,x19,x18,k1,k2,h2',k3,k4,k5,k6,k7,Q7,Ad,simprocAttr]
      |some b=>
       rw[h6] at k7;simp only[Hp2] at k7;generalize grp z.recs=gs at*;cases b
       ·rw[if_neg (by simp)];simp(disch:=omega)only[xt,x28,x27,x26,x25,x24,x23,x22,x21,x20,x19,x18,k1,k2,h2',k3,k4,k5,k6,k7,Q7,Ad,simprocAttr]
       ·rw[if_pos rfl];simp(disch:=omega)only[xt,x28,x27,x26,x25,x24,x23,x22,x21,x20,x19,x18,k1,k2,h2',k3,k4,k5,k6,k7,Q7,Ad,simprocAttr]
     ·rw[if_pos h5];have e5:decide (z.recs=sortR z.recs)=false:=decide_eq_false h5;rw[e5] at k5;clear h5 e5;generalize sortR z.recs=sr at*;simp(disch:=omega)only[xt,x28,x27,x26,x25,x24,x23,x22,x21,k1,k2,h2',k3,k4,k5,Ad,simprocAttr]
    ·rw[if_pos h4];simp(disch:=omega)only[xt,x28,x27,x26,x25,x24,k1,k2,h2',k3,Ad,simprocAttr]
     try simp
 ·rw[if_pos h1];rw[h1] at k1;simp(disch:=omega)only[xt,x28,k1,Ad,simprocAttr]
end Go.X.G
/- Delegations and names of a zone, as the reference finds them; what exists. -/
namespace Go.X.G
open Go Go.X
end Go.X.G
/- What exists in a zone, and what encloses a name; names with another end. -/
namespace Go.X.G
open Go Go.X
def exB (z:Zone) (x:List UInt8):Bool:=z.recs.any fun r=>under r.name z.origin && !Sj z r.name && under r.name x && under x z.origin
def T6 (z:Zone) (x:List UInt8):exB z x=true↔Fy1 z x:=by unfold exB Fy1;simp only[Db,Br,Cm,and_assoc]
def iq (z:Zone) (x:List UInt8):decide (x∈namesN z)=exB z x:=by rw[D6,T6,←Bz0];simp
def Z1 (z:Zone) (hl:z.recs.length≤1000):(namesN z).length≤1000000:=by
 have h1:=dr (Gb0 z);have h2:∀l:List Rec,(l.flatMap fun r=>upN z.origin r.name).length≤256*l.length:=by
  intro l
  induction l with
  |nil=>simp
  |cons x r ih=>
   have:=w6 z.origin x.name;rw[Hk,B0,Cw];omega
 have h3:=h2 (z.recs.filter fun r=>under r.name z.origin && !Sj z r.name);have h4:=D1 (fun r=>under r.name z.origin && !Sj z r.name) z.recs;show (setN (Gb0 z)).length≤1000000;unfold Gb0 at h1 ⊢;omega
def At2 (z:Zone) (n:List UInt8) (hz:z.wf) (hl:z.recs.length≤1000):S Cn7 2 [z.pv,.s n]=some [.b (exB z n)]:=by refine Id4 (N:=1) rfl ?_;have k1:=lv z hz hl;have k2:=Ih (namesN z) n (Z1 z hl);rw[iq] at k2;generalize namesN z=nz at*;simp(disch:=omega)only[Ht9,k1,k2,Ac,simprocAttr]
def Bm4 (z:Zone) (n:List UInt8):Option (List UInt8):=(upN z.origin n).find? (exB z)
def encN (z:Zone) (n:List UInt8):List UInt8:=if under n z.origin=true then(Bm4 z n).getD [] else []
def l6 {n:List UInt8} (h:vld n=true):n≠[]:=fun e=>by subst e;simp[vld,nm] at h
def N0 {z:Zone} {n e:List UInt8} (hu:under n z.origin=true) (h:Bm4 z n=some e):under n e=true∧exB z e=true:=by unfold Bm4 at h;have h1:=Px h;have h2:=List.find?_some h;exact⟨((Pb hu).1 h1).1,h2⟩
def lw (z:Zone) (n:List UInt8) (hz:z.wf) (hl:z.recs.length≤1000) (hn:n.length≤9223372036854775807):S Cm1 2 [z.pv,.s n]=some [.s (encN z n),.b (decide (encN z n≠[]))]:=by
 refine Ix8 (N:=1000) rfl ?_;have g1:=hz.origin;unfold Hv at g1;have k0:=Ep n z.origin hn g1;unfold encN;rcases Bm (under n z.origin) with hu|hu
 ·rw[if_pos hu];rw[hu] at k0;have k1:=lv z hz hl;have hnl:=Z1 z hl;have k2:∀x,S Ym 2 [Cs (namesN z),.s x]=some [.b (exB z x)]:=fun x=>by rw[←iq];exact Ih (namesN z) x hnl
  generalize namesN z=nz at*;obtain⟨v1,v2,_⟩:=C8.1 hu;have hlb:=Kl n;have h0:jn ((lbl n).drop 0)=n:=zc v1;let res:Option (List UInt8)→Out:=fun o=>match o with|some e=> .yld 0 [.s e]|none=> .ret [.s [],.b false]
  have key:Fv6.ev S 1000 [z.pv,.s n,.b true,Cs nz]=some (res (Bm4 z n)):=by
   have:=Gh (fn:=S) (N:=1000) (η:=[z.pv,.s n,.b true,Cs nz]) (id:=1) (init:=[(.v 1)]) (body:=Dg5) ((lbl n).length - (lbl z.origin).length)
    (fun k=>[.s (jn ((lbl n).drop k))]) (fun k=>res (((upN z.origin n).drop k).find? (exB z))) ?_ (by omega) (fun k hk=> ?_) ?_
   ·exact this
   ·rw[h0];simp(disch:=omega)only[Ac,simprocAttr]
   ·have hup:(upN z.origin n)[k]? =some (jn ((lbl n).drop k)):=Sb (Nat.le_of_lt hk);have hd:(upN z.origin n).drop k=jn ((lbl n).drop k)::(upN z.origin n).drop (k+1):=by obtain⟨h1,h2⟩:=Bp.1 hup;rw[D8 h1,h2]
    obtain⟨q1,q2⟩:=Bs3 hu hk;have q3:¬jn ((lbl n).drop k)=z.origin:=fun h=>by have:=(Zy hu (Nat.le_of_lt hk)).1 h;omega
    have q4:=Am6 v1 k;have k1:=Tb (jn ((lbl n).drop k)) (by omega);rw[q1,q2] at k1;have k3:=k2 (jn ((lbl n).drop k));rw[hd];generalize jn ((lbl n).drop (k+1))=nx at*;generalize jn ((lbl n).drop k)=cu at*;rcases Bm (exB z cu) with h5|h5
    ·right;rw[h5] at k3;rw[L6 h5];refine⟨?_,rfl⟩;simp(disch:=omega)only[wg,k3,Ac,simprocAttr];rfl
    ·left;rw[h5] at k3;rw[List.find?_cons_of_neg (by simp[h5])];refine⟨?_,rfl⟩;simp(disch:=omega)only[wg,k1,k3,q3,Ac,simprocAttr]
   ·have hup:(upN z.origin n)[(lbl n).length - (lbl z.origin).length]? =some (jn ((lbl n).drop ((lbl n).length - (lbl z.origin).length))):=Sb (B7 _);have hd:(upN z.origin n).drop ((lbl n).length - (lbl z.origin).length)=[jn ((lbl n).drop ((lbl n).length - (lbl z.origin).length))]:=by obtain⟨h1,h2⟩:=Bp.1 hup;have h9:(upN z.origin n).drop ((lbl n).length - (lbl z.origin).length+1)=[]:=L8 (by simp[upN]);rw[D8 h1,h2,h9]
    have q3:=(Zy hu (B7 _)).2 rfl;rw[hd,q3];have k3:=k2 z.origin;rcases Bm (exB z z.origin) with h5|h5
    ·rw[h5] at k3;rw[L6 h5];refine⟨?_,rfl⟩;simp(disch:=omega)only[wg,k3,Ac,simprocAttr];rfl
    ·rw[h5] at k3;rw[List.find?_cons_of_neg (by simp[h5]),List.find?_nil];refine⟨?_,rfl⟩;simp(disch:=omega)only[wg,k3,Ac,simprocAttr];rfl
  cases he:Bm4 z n with
  |none=>
   rw[he] at key;simp only[res] at key;simp(disch:=omega)only[wg,k0,k1,key,Ac,simprocAttr];simp
  |some e=>
   rw[he] at key;simp only[res] at key;have h6:=l6 (C8.1 (N0 hu he).1).2.1;simp(disch:=omega)only[wg,k0,k1,key,Ac,simprocAttr];simp[h6]
 ·rw[if_neg (by simp[hu])];rw[hu] at k0;simp(disch:=omega)only[wg,k0,Ac,simprocAttr]
  try simp
def bestF (n:List UInt8):List UInt8→List (List UInt8)→List UInt8
 |b,[]=>b
 |b,x::r=>bestF n (if under n x && (decide (b=[])||decide ((lbl b).length<(lbl x).length)) then x else b) r
def Vl (n:List UInt8):∀(l:List (List UInt8)) (b:List UInt8),(b=[]∨under n b=true)→
  (bestF n b l=[]→b=[]∧∀x∈l,under n x=false)∧
  (bestF n b l≠[]→under n (bestF n b l)=true∧(bestF n b l=b∨bestF n b l∈l)∧(b≠[]→(lbl b).length≤(lbl (bestF n b l)).length)∧∀x∈l,under n x=true→(lbl x).length≤(lbl (bestF n b l)).length)
 |[],b,hb=>by simp only[bestF];refine⟨fun h=>⟨h,fun r hr=>by simp at hr⟩,fun h=>⟨hb.resolve_left h,.inl trivial,fun _=>B7 _,fun r hr=>by simp at hr⟩⟩
 |x::rs,b,hb=>by
  simp only[bestF];have hne:under n x=true→x≠[]:=fun h=>l6 (C8.1 h).2.1;by_cases hc:(under n x && (decide (b=[])||decide ((lbl b).length<(lbl x).length)))=true
  ·rw[if_pos hc];simp only[Br,Cj,decide_eq_true_eq] at hc;obtain⟨c2,c3⟩:=hc;obtain⟨h1,h2⟩:=Vl n rs x (.inr c2);refine⟨fun h=>absurd (h1 h).1 (hne c2),fun h=> ?_⟩;obtain⟨g1,g2,g3,g4⟩:=h2 h;refine⟨g1,.inr ?_,fun hb0=> ?_,fun y hy hy2=> ?_⟩
   ·rcases g2 with g2|g2
    ·rw[g2];exact .head _
    ·exact .tail _ g2
   ·have:=g3 (hne c2);rcases c3 with c3|c3
    ·exact absurd c3 hb0
    ·omega
   ·rcases Ck.1 hy with rfl|hy
    ·exact g3 (hne c2)
    ·exact g4 y hy hy2
  ·rw[if_neg hc];obtain⟨h1,h2⟩:=Vl n rs b hb;have hr:under n x=true→b≠[]∧(lbl x).length≤(lbl b).length:=by intro c2;simp only[c2,Sw,Cj,decide_eq_true_eq,not_or,Nat.not_lt] at hc;exact hc
   refine⟨fun h=> ?_,fun h=> ?_⟩
   ·obtain⟨g1,g2⟩:=h1 h;refine⟨g1,fun y hy=> ?_⟩;rcases Ck.1 hy with rfl|hy
    ·rcases Bm (under n y) with h3|h3
     ·exact absurd g1 (hr h3).1
     ·exact h3
    ·exact g2 y hy
   ·obtain⟨g1,g2,g3,g4⟩:=h2 h;refine⟨g1,?_,g3,fun y hy hy2=> ?_⟩
    ·rcases g2 with g2|g2
     ·exact .inl g2
     ·exact .inr (.tail _ g2)
    ·rcases Ck.1 hy with rfl|hy
     ·obtain⟨q1,q2⟩:=hr hy2;have:=g3 q1;omega
     ·exact g4 y hy hy2
def Mk {a b c:List UInt8} (h1:under a b=true) (h2:under b c=true):under a c=true:=by obtain⟨v1,_,s1⟩:=C8.1 h1;obtain⟨_,v3,s2⟩:=C8.1 h2;exact C8.2 ⟨v1,v3,s2.trans s1⟩
def Dg2 (z:Zone) (n:List UInt8):bestF n [] (namesN z)=encN z n:=by
 obtain⟨h1,h2⟩:=Vl n (namesN z) [] (.inl rfl);have hin:∀x,x∈namesN z↔exB z x=true:=fun x=>by rw[←iq];simp
 have hor:∀x,exB z x=true→under x z.origin=true:=fun x hx=>by obtain⟨_,_,_,_,_,h⟩:=(T6 z x).1 hx;exact h
 unfold encN;by_cases hb:bestF n [] (namesN z)=[]
 ·have:=(h1 hb).2;rw[hb];rcases Bm (under n z.origin) with hu|hu
  ·rw[if_pos hu];cases he:Bm4 z n with
   |none=>rfl
   |some e=>
    obtain⟨g1,g2⟩:=N0 hu he;have:=this e ((hin e).2 g2);rw[g1] at this;cases this
  ·rw[if_neg (by simp[hu])]
 ·obtain⟨g1,g2,_,g4⟩:=h2 hb;have g3:exB z (bestF n [] (namesN z))=true:=(hin _).1 (g2.resolve_left hb);have hu:under n z.origin=true:=Mk g1 (hor _ g3);rw[if_pos hu];generalize bestF n [] (namesN z)=b at*;have hm:b∈upN z.origin n:=(Pb hu).2 ⟨g1,hor _ g3⟩;cases he:Bm4 z n with
  |none=>
   unfold Bm4 at he;rw[ct] at he;exact absurd g3 (he b hm)
  |some e=>
   obtain⟨q1,q2⟩:=N0 hu he;have q3:=g4 e ((hin e).2 q2) q1;have q4:(lbl b).length≤(lbl e).length:=by
    unfold Bm4 at he;obtain⟨_,pa,pb,he2,he3⟩:=List.find?_eq_some_iff_append.1 he;obtain⟨v1,v2,vs⟩:=C8.1 hu;have hbm:=hm;rw[he2] at hbm;rcases C4.1 hbm with hbm|hbm
    ·have:=he3 b hbm;rw[g3] at this;cases this
    ·rcases Ck.1 hbm with rfl|hbm
     ·exact B7 _
     ·obtain⟨j,hj⟩:=Eh hbm;have e1:(upN z.origin n)[pa.length]? =some e:=by rw[he2,Cz (B7 _)];simp
      have e2:(upN z.origin n)[pa.length+1+j]? =some b:=by rw[he2,Cz (by omega),show pa.length+1+j - pa.length=j+1 by omega];simpa using hj
      have l2:=(Bp.1 e2).1;rw[show (upN z.origin n).length=(lbl n).length - (lbl z.origin).length+1 by simp[upN]] at l2;rw[Sb (by omega)] at e1 e2;injection e1 with e1;injection e2 with e2;rw[←e1,←e2,(Jw v1 _).2,(Jw v1 _).2,Dv,Dv];omega
   obtain⟨_,vb,sb⟩:=C8.1 g1;obtain⟨_,ve,se⟩:=C8.1 q1;rw[Gg] at sb se;show b=e;refine Nm vb ve ?_;rw[sb,se,Nat.le_antisymm q4 q3]
end Go.X.G
/- Names with another end; redirections; what records of a name say. -/
namespace Go.X
structure Res where
 kind:Int
 owner:List UInt8
 wild:Bool
 target:List UInt8
 recs:List Rec
 deriving DecidableEq
def Res.cells (x:Res):List PV:=[.i .i64 x.kind,.s x.owner,.b x.wild,.s x.target,B6 x.recs]
def Res.pv (x:Res):PV:= .a x.cells
def Cz2 (x:Res):C2 0 x.pv=some (.i .i64 x.kind):=rfl
def Cz1 (x:Res):C2 1 x.pv=some (.s x.owner):=rfl
def Cz0 (x:Res):C2 2 x.pv=some (.b x.wild):=rfl
def Cy9 (x:Res):C2 3 x.pv=some (.s x.target):=rfl
def Cy8 (x:Res):C2 4 x.pv=some (B6 x.recs):=rfl
def Fg1 (x:Res):Jt 0 5 x.pv=some x.pv:=rfl
def Fs2 (x:Res):Rx 5 x.pv=some x.pv:=rfl
def Em7 (k:Int) (o:List UInt8) (w:Bool) (t:List UInt8) (l:List Rec):PV.a [.i .i64 k,.s o,.b w,.s t,B6 l]=Res.pv ⟨k,o,w,t,l⟩:=rfl
def Ck0 (l:List Rec) (k:IntKind) (z:Int) (n:List UInt8) (x:Rec) (h0:0≤z) (h3:l[z.toNat]? =some x):
  Uc 16 0 [.s n] (B6 l) (.i k z)=some (B6 (l.set z.toNat {x with name:=n})):=by
 have h4:(l.map Rec.pv)[z.toNat]? =some x.pv:=by rw[C6,h3];rfl
 simp only[Uc,B6,h0,h4,and_self,if_true,Bt];have h5:S1 x.pv 0 [.s n]=some (Rec.pv {x with name:=n}):=rfl;rw[h5];simp[List.map_set]
set_option linter.defProp false in
def EVR:=(And.intro @Cz2 (And.intro @Cz1 (And.intro @Cz0 (And.intro @Cy9 (And.intro @Cy8 (And.intro @Fg1 (And.intro @Fs2 @Em7)))))))
end Go.X
namespace Go.X.G
open Go Go.X
def nd (n top to:List UInt8):List (List UInt8):=(lbl n).take ((lbl n).length - (lbl top).length)++lbl to
def replN (n top to:List UInt8):List UInt8×Int:=
 if vld n=true∧vld top=true∧vld to=true∧(lbl to)[0]? ≠some [42] then
  if under n top=true∧n≠top then
   if(flat (nd n top to)).length≤254 then(flat (nd n top to),0) else([],9)
  else([],1)
 else([],2)
def rt {l:List (List UInt8)} (h:Hz true l=true) (h2:l[0]? ≠some [42]):Hz false l=true:=by
 cases l with
 |nil=>rfl
 |cons p r=>
  simp only[Hz,Br] at h ⊢;refine⟨⟨h.1.1,?_⟩,h.2⟩;have:p≠[42]:=fun e=>h2 (by rw[e];rfl);simp[this]
def Bk1 {n top to:List UInt8} (hu:under n top=true) (hne:n≠top) (ht:vld to=true) (hs:(lbl to)[0]? ≠some [42]):Hz true (nd n top to)=true∧nd n top to≠[]∧(lbl n).take ((lbl n).length - (lbl top).length)≠[]:=by
 obtain⟨vn,vt,sf⟩:=C8.1 hu;have hlt:(lbl top).length<(lbl n).length:=by
  have:=sf.length_le;rcases Nat.lt_or_ge (lbl top).length (lbl n).length with h|h
  ·exact h
  ·exact absurd (Kq hu h) hne
 have h1:(lbl n).take ((lbl n).length - (lbl top).length)≠[]:=by intro e;have:=congrArg List.length e;rw[Cq,Cl] at this;omega
 have h2:Hz true ((lbl n).take ((lbl n).length - (lbl top).length))=true:=by have:=Qc vn;rw[←C9 ((lbl n).length - (lbl top).length) (lbl n),Rk,Br] at this;exact this.1
 refine⟨?_,by unfold nd;simp[h1],h1⟩;unfold nd;rw[Rk,h2,List.isEmpty_eq_false_iff.2 h1];simp[rt (Qc ht) hs]
def js (s t:List UInt8) (hs:s.length≤9223372036854775807) (h:t.isSuffixOf s=true):S qk 2 [.s s,.s t]=some [.s (s.take (s.length - t.length))]:=by
 have hle:t.length≤s.length:=(Gr.1 h).length_le;have k1:=R8 s t hs;rw[h] at k1;have k2:S o8 2 [.s s,.s t]=some [.s (s.take (s.length - t.length))]:=by
  refine Gp1 (N:=1) rfl ?_;have h6:Bj6 (.s s) (.i .i64 0) (.i .i64 ((s.length:Int) - (t.length:Int)))=some (.s (s.take (s.length - t.length))):=by
   rw[Gl0 _ _ _ _ _ (by omega) (by omega) (by omega)];have:((s.length:Int) - (t.length:Int)).toNat=s.length - t.length:=by omega
   rw[this];simp
  simp(disch:=omega)only[Gc8,k1,h6,Ac,simprocAttr]
 refine Gs6 (N:=1) rfl ?_;simp(disch:=omega)only[Gd7,k2,Ac,simprocAttr]
def wz (n top to:List UInt8) (hn:n.length≤9223372036854775807) (ht:top.length≤9223372036854775807) (hto:to.length≤9223372036854775807):S Cm3 3 [.s n,.s top,.s to]=some [.s (replN n top to).1,.i .i64 (replN n top to).2]:=by
 refine Iy3 (N:=1) rfl ?_;have k1:=Dx n hn;have k2:=Dx top ht;have k3:=Dx to hto;unfold replN;rcases Bm (vld n) with v1|v1
 ·rcases Bm (vld top) with v2|v2
  ·rcases Bm (vld to) with v3|v3
   ·rw[v1] at k1;rw[v2] at k2;rw[v3] at k3;have hp:=Oy v3;have hsf:=Sr v3;obtain⟨c,hc⟩:∃c,to[0]? =some c:=⟨_,B3 hp⟩;rw[hc] at hsf;by_cases hs:c=42
    ·rw[if_neg (by rw[hs] at hsf;simp[hsf.1 rfl])];subst hs;simp(disch:=omega)only[Vt,k1,k2,k3,hc,Ac,simprocAttr]
     try simp
    ·have hs':(lbl to)[0]? ≠some [42]:=fun e=>hs (by have:=hsf.2 e;simpa using this);have hcc:¬(c.toNat:Int)=42:=fun e=>hs (by apply UInt8.toNat.inj;have:(42:UInt8).toNat=42:=rfl;omega)
     rw[if_pos ⟨v1,v2,v3,hs'⟩];have tl:=Js v2;have k4:=Dw1 n top hn (by omega);rw[Zc v1 v2] at k4;by_cases he:n=top
     ·rw[if_neg (by simp[he])];simp(disch:=omega)only[Vt,k1,k2,k3,hc,hcc,he,Ac,simprocAttr]
     ·rcases Bm (under n top) with hu|hu
      ·rw[hu] at k4;rw[if_pos ⟨hu,he⟩];obtain⟨q1,q2,q3⟩:=Bk1 hu he v3 hs';have nl:=Js v1;have tol:=Js v3;have hnr:n≠[46]:=by rintro rfl;have:=(C8.1 hu).2.2.length_le;rw[Kj] at this;exact he (Nm v1 v2 (by rw[Kj];exact(List.length_eq_zero_iff.1 (by simpa using this)).symm))
       have hnf:n=flat (lbl n):=by have:=O8 v1;unfold jn at this;rwa[if_neg (fun h=>hnr ((gj v1).1 h))] at this
       have hsp:lbl n=(lbl n).take ((lbl n).length - (lbl top).length)++lbl top:=by
        have:=(C8.1 hu).2.2;rw[Gg] at this
        conv=>lhs;rw[←C9 ((lbl n).length - (lbl top).length) (lbl n)]
        rw[←this]
       have hhead:∃hd,hd=flat ((lbl n).take ((lbl n).length - (lbl top).length))∧hd.length≤254∧∀p3 p4 p5 p6,Db2.ev S 1 [.s n,.s top,.s to,p3,p4,p5,p6]=some (.yld 0 [.s hd]):=by
        refine⟨_,rfl,?_,fun p3 p4 p5 p6=> ?_⟩
        ·have:(flat (lbl n)).length≤254:=by rw[←hnf];exact nl
         rw[hsp,Mm,B0] at this;omega
        ·by_cases hr:top=[46]
         ·subst hr;rw[Kj,E6] at hsp;rw[Kj,←hsp,←hnf];simp(disch:=omega)only[Vt,Ac,simprocAttr]
         ·have htf:top=flat (lbl top):=by have:=O8 v2;unfold jn at this;rwa[if_neg (fun h=>hr ((gj v2).1 h))] at this
          have hna:n=flat ((lbl n).take ((lbl n).length - (lbl top).length))++top:=by
           conv=>lhs;rw[hnf,hsp,Mm]
           rw[←htf]
          have hsuf:top.isSuffixOf n=true:=Gr.2 ⟨_,hna.symm⟩;have k5:=js n top hn hsuf;have htk:n.take (n.length - top.length)=flat ((lbl n).take ((lbl n).length - (lbl top).length)):=by
           conv=>lhs;rw[hna]
           rw[B0,Nq,Bn0]
          rw[htk] at k5;generalize flat ((lbl n).take ((lbl n).length - (lbl top).length))=hd at*;simp(disch:=omega)only[Vt,k5,hr,Ac,simprocAttr]
       obtain⟨hd,hd1,hd2,hd3⟩:=hhead;have hfin:flat (nd n top to)=if to=[46] then hd else hd++to:=by
        unfold nd;rw[Mm,←hd1];by_cases hr:to=[46]
        ·rw[if_pos hr,hr,Kj];simp[flat]
        ·rw[if_neg hr];have:=O8 v3;unfold jn at this;rw[if_neg (fun h=>hr ((gj v3).1 h))] at this;rw[←this]
       rw[hfin];by_cases hr:to=[46]
       ·rw[if_pos hr];subst hr;have h1:¬(255:Int)≤(hd.length:Int):=by omega
        rw[if_pos hd2];simp(disch:=omega)only[Vt,k1,k2,k3,k4,hc,hcc,he,hd3,h1,Ac,simprocAttr]
       ·rw[if_neg hr];by_cases hlen:(hd++to).length≤254
        ·rw[if_pos hlen];have h1:¬(255:Int)≤((hd++to).length:Int):=by omega
         simp(disch:=first|omega|(rw[B0] at*;omega))only[Vt,k1,k2,k3,k4,hc,hcc,he,hd3,hr,h1,Ac,simprocAttr]
        ·rw[if_neg hlen];have h1:(255:Int)≤((hd++to).length:Int):=by omega
         simp(disch:=first|omega|(rw[B0] at*;omega))only[Vt,k1,k2,k3,k4,hc,hcc,he,hd3,hr,h1,Ac,simprocAttr]
      ·rw[hu] at k4;rw[if_neg (by simp[hu])];simp(disch:=omega)only[Vt,k1,k2,k3,k4,hc,hcc,he,Ac,simprocAttr]
   ·rw[if_neg (by simp[v3])];rw[v1] at k1;rw[v2] at k2;rw[v3] at k3;simp(disch:=omega)only[Vt,k1,k2,k3,Ac,simprocAttr]
  ·rw[if_neg (by simp[v2])];rw[v1] at k1;rw[v2] at k2;simp(disch:=omega)only[Vt,k1,k2,Ac,simprocAttr]
 ·rw[if_neg (by simp[v1])];rw[v1] at k1;simp(disch:=omega)only[Vt,k1,Ac,simprocAttr]
end Go.X.G
/- What a zone says about a question: the program and the reference. -/
namespace Go.X.G
open Go Go.X
def Ox (z:Zone) (n:List UInt8) (t:Int) (hl:z.recs.length≤1000000):S Ug 3 [z.pv,.s n,.i .i64 t]=some [B6 (findR z.recs n t)]:=by refine Gm4 (N:=1) rfl ?_;have k1:=Lq z.recs n t hl;simp(disch:=omega)only[Gc5,k1,Ac,simprocAttr]
abbrev Gb2:Res:=⟨0,[],false,[],[]⟩
def dh (s:List UInt8):List UInt8:=if s[0]? =some 42 then [] else s
def dnB (z:Zone) (u:List UInt8):Bool:=decide (0<(findR z.recs u 39).length)
def Fk3 (z:Zone) (n:List UInt8):Option (List UInt8):=((upN z.origin n).drop 1).find? (dnB z)
def Tp (z:Zone) (n u:List UInt8):Res:=
 match findR z.recs u 39 with
 |r::_=>⟨3,u,false,dh (replN n u r.data.host).1,[r]⟩
 |[]=>Gb2
def vz (z:Zone) (n:List UInt8):Option Res:=(Fk3 z n).map (Tp z n)
def M1:Option Res→List PV
 |some x=>[x.pv,.b true]
 |none=>[Gb2.pv,.b false]
def Rb {z:Zone} (hz:z.wf) {n:List UInt8} {t:Int} {r:Rec} (h:r∈findR z.recs n t):r.wf:=hz.recs.2 r (C0.1 h).1
def Ig (z:Zone) (n:List UInt8) (t:Int):(findR z.recs n t).length≤z.recs.length:=D1 _ _
def c42 (c:UInt8):(c.toNat:Int)=42↔c=42:=by
 constructor
 ·intro h;apply UInt8.toNat.inj;have:(42:UInt8).toNat=42:=rfl;omega
 ·rintro rfl;rfl
def Fc3 (z:Zone) (n:List UInt8) (hz:z.wf) (hl:z.recs.length≤1000000) (hu:under n z.origin=true) (N:Nat) (hN:1000<N):
  Fx3.ev S N [z.pv,.s n]=some (match vz z n with|some x=> .ret [x.pv,.b true]|none=> .yld 0 [.i .i64 0,.s [],.b false,.s [],B6 []]):=by
 obtain⟨v1,v2,_⟩:=C8.1 hu;have hlb:=Kl n;have nl:=Js v1;have h0:jn ((lbl n).drop 0)=n:=zc v1;let res:Option (List UInt8)→Out:=fun o=>match o.map (Tp z n) with|some x=> .ret [x.pv,.b true]|none=> .yld 0 [.i .i64 0,.s [],.b false,.s [],B6 []]
 have:=Gh (fn:=S) (N:=N) (η:=[z.pv,.s n]) (id:=1) (init:=[(.v 1),(.c (.i .i64 (0))),(.c (.s [])),(.c (.b false)),(.c (.s [])),(.c (.l 16 []))]) (body:=Dg9) ((lbl n).length - (lbl z.origin).length)
  (fun k=>[.s (jn ((lbl n).drop k)),.i .i64 0,.s [],.b false,.s [],B6 []]) (fun k=>res (((upN z.origin n).drop (k+1)).find? (dnB z))) ?_ (by omega) (fun k hk=> ?_) ?_
 ·exact this
 ·rw[h0];simp(disch:=omega)only[Ac,simprocAttr]
 ·have hup:(upN z.origin n)[k+1]? =some (jn ((lbl n).drop (k+1))):=Sb hk;have hd:(upN z.origin n).drop (k+1)=jn ((lbl n).drop (k+1))::(upN z.origin n).drop (k+1+1):=by obtain⟨h1,h2⟩:=Bp.1 hup;rw[D8 h1,h2]
  obtain⟨q1,q2⟩:=Bs3 hu hk;have q3:¬jn ((lbl n).drop k)=z.origin:=fun h=>by have:=(Zy hu (Nat.le_of_lt hk)).1 h;omega
  have q4:=Am6 v1 k;have q5:=Am6 v1 (k+1);have k1:=Tb (jn ((lbl n).drop k)) (by omega);rw[q1,q2] at k1;have k2:=Ox z (jn ((lbl n).drop (k+1))) 39 hl;rw[hd];generalize jn ((lbl n).drop (k+1))=nx at*;generalize jn ((lbl n).drop k)=cu at*;cases hf:findR z.recs nx 39 with
  |nil=>
   left;have h5:dnB z nx=false:=by unfold dnB;rw[hf];rfl
   rw[hf] at k2;rw[List.find?_cons_of_neg (by simp[h5])];refine⟨?_,rfl⟩;simp(disch:=omega)only[wm,k1,k2,q3,EVM,EVC,EVR,Af,simprocAttr]
   try rfl
  |cons r rest=>
   right;have h5:dnB z nx=true:=by unfold dnB;rw[hf];simp
   have hrw:=Rb hz (n:=nx) (t:=39) (r:=r) (by rw[hf];exact .head _);have hll:=Ig z nx 39;have hh:=hrw.data.host;unfold Hv at hh;have k3:=wz n nx r.data.host (by omega) (by omega) hh;rw[hf] at k2 hll;rw[L6 h5];have e:res (some nx)= .ret [(Res.mk 3 nx false (dh (replN n nx r.data.host).1) [r]).pv,.b true]:=by simp only[res,Cb,Tp,hf]
   rw[e];refine⟨?_,rfl⟩;have hpos:(0:Int)<((r::rest).length:Int):=by simp only[Cw];omega
   have hls:Ix 16 (B6 (r::rest)) (.i .i64 0) (.i .i64 1)=some (B6 [r]):=by rw[Hm _ _ _ _ _ (by omega) (by omega) (by omega)];rfl
   have hix:Hy 16 (B6 (r::rest)) (.i .i64 0)=some r.pv:=by rw[K8 _ _ _ (by omega)];rfl
   unfold dh;generalize replN n nx r.data.host=rp at*;obtain⟨to,er⟩:=rp;generalize (r::rest)=ll at*;cases to with
   |nil=>
    simp(disch:=omega)only[wm,k1,k2,k3,q3,hpos,hls,hix,EVM,EVC,EVR,Af,simprocAttr]
    try simp
   |cons c tr=>
    by_cases hc:c=42
    ·subst hc;simp(disch:=omega)only[wm,k1,k2,k3,q3,hpos,hls,hix,EVM,EVC,EVR,Af,simprocAttr]
     try simp
    ·have hc2:¬(c.toNat:Int)=42:=fun h=>hc ((c42 c).1 h);simp(disch:=omega)only[wm,k1,k2,k3,q3,hpos,hls,hix,hc2,EVM,EVC,EVR,Af,simprocAttr]
     try simp[hc]
 ·have q3:=(Zy hu (B7 _)).2 rfl;have h9:(upN z.origin n).drop ((lbl n).length - (lbl z.origin).length+1)=[]:=L8 (by simp[upN]);rw[h9,q3,List.find?_nil];refine⟨?_,rfl⟩;simp(disch:=omega)only[wm,EVM,EVC,EVR,Af,simprocAttr]
  try rfl
def lq (z:Zone) (n:List UInt8) (hz:z.wf) (hl:z.recs.length≤1000000) (hu:under n z.origin=true):S Cn8 2 [z.pv,.s n]=some (M1 (vz z n)):=by
 refine Id5 (N:=1001) rfl ?_;have key:=Fc3 z n hz hl hu 1001 (by omega);cases h:vz z n with
 |none=>
  rw[h] at key;simp(disch:=omega)only[wm,key,M1,EVM,EVC,EVR,Af,simprocAttr]
 |some x=>
  rw[h] at key;simp(disch:=omega)only[wm,key,M1,EVM,EVC,EVR,Af,simprocAttr]
def allR (z:Zone) (n:List UInt8):List Rec:=z.recs.filter fun r=>decide (r.name=n)
def Hl4 (t:Int):Bool:=decide (t=5)||decide (t=47)||decide (t=46)||decide (t=255)
def typedR (l:List Rec) (t:Int):List Rec:=if t=255 then l else l.filter fun r=>decide (r.typ=t)
def Fb9 (l:List Rec) (t:Int):Option Rec:=if Hl4 t=true then none else l.find? fun r=>decide (r.typ=5)
def saysM (l:List Rec) (t:Int):Res:=
 match Fb9 l t with
 |some c=>⟨2,[],false,c.data.host,[c]⟩
 |none=>if typedR l t=[] then ⟨5,[],false,[],[]⟩ else ⟨1,[],false,[],typedR l t⟩
def Ah8 (z:Zone) (n:List UInt8) (hl:z.recs.length≤1000000):S Bc6 2 [z.pv,.s n]=some [B6 (allR z n)]:=by
 refine Id2 (N:=z.recs.length+1) rfl ?_;have key:Fx2.ev S (z.recs.length+1) [z.pv,.s n]=some (.yld 0 [B6 ([]++allR z n)]):=by
  refine Fc z.recs (fun i (b:List Rec)=>[B6 b,.i .i64 (i:Int)]) (fun i b r=> .yld 0 [B6 (b++r.filter fun r=>decide (r.name=n))]) (fun i b=>b.length≤i) [] rfl (Dr _) (by omega) (fun i b c r hd hi hc hI=> ?_) (fun b hI=> ?_)
  ·left;by_cases h:c.name=n
   ·refine⟨b++[c],?_,by simp;omega,by simp[h]⟩;simp(disch:=omega)only[Dp3,hc,h,EVM,EVC,EVR,Af,simprocAttr]
    try simp[←h]
   ·refine⟨b,?_,by omega,by simp[h]⟩;simp(disch:=omega)only[Dp3,hc,h,EVM,EVC,EVR,Af,simprocAttr]
  ·simp(disch:=omega)only[Dp3,EVM,EVC,EVR,Af,simprocAttr]
   try simp[Out.goes]
 rw[Dp] at key;generalize allR z n=ar at*;simp(disch:=omega)only[Dp3,key,EVM,EVC,EVR,Af,simprocAttr]
def Bs5 (r:Rec) (t:Int):S ay 1 [r.pv,.i .i64 t]=some [.b (decide (r.typ≠t))]:=by
 refine Gr9 (N:=1) rfl ?_;simp(disch:=omega)only[Gd6,EVM,EVC,EVR,Af,simprocAttr]
 try simp
def Ay4 (l:List Rec) (t:Int) (hl:l.length≤1000000):S Bb1 2 [B6 l,.i .i64 t]=some [B6 (typedR l t)]:=by
 refine Iy0 (N:=1) rfl ?_;unfold typedR;by_cases h:t=255
 ·rw[if_pos h];simp(disch:=omega)only[Gb8,h,EVM,EVC,EVR,Af,simprocAttr]
 ·rw[if_neg h];have k1:=Oq l hl;have k2:=Bl8 l ay [.i .i64 t] _ hl (fun r _=>Bs5 r t);have e:(l.filter fun x=> !decide (x.typ≠t))=l.filter fun r=>decide (r.typ=t):=by congr 1;funext x;simp
  rw[e] at k2;generalize (l.filter fun r=>decide (r.typ=t))=fl at*;simp(disch:=omega)only[Gb8,h,k1,k2,Fb,Mq,EVT,EVM,EVC,EVR,Af,simprocAttr]
def Dx6 (t:Int):S Cm2 1 [.i .i64 t]=some [.b (Hl4 t)]:=by
 refine Ix9 (N:=1) rfl ?_;unfold Hl4;by_cases h1:t=5
 ·subst h1;simp(disch:=omega)only[Bp1,EVM,EVC,EVR,Af,simprocAttr];try simp
 ·by_cases h2:t=47
  ·subst h2;simp(disch:=omega)only[Bp1,EVM,EVC,EVR,Af,simprocAttr];try simp
  ·by_cases h3:t=46
   ·subst h3;simp(disch:=omega)only[Bp1,EVM,EVC,EVR,Af,simprocAttr];try simp
   ·by_cases h4:t=255
    ·subst h4;simp(disch:=omega)only[Bp1,EVM,EVC,EVR,Af,simprocAttr];try simp
    ·simp(disch:=omega)only[Bp1,h1,h2,h3,h4,EVM,EVC,EVR,Af,simprocAttr];try simp[h1,h2,h3,h4]
def Sf (l:List Rec) (t:Int):(typedR l t).length≤l.length:=by
 unfold typedR;split
 ·exact B7 _
 ·exact D1 _ _
def Ck8 (l:List Rec) (t:Int) (hl:l.length≤1000000):S Bc7 2 [B6 l,.i .i64 t]=some [(saysM l t).pv]:=by
 refine Id3 (N:=1) rfl ?_;have k1:=Ay4 l 5 hl;have k2:=Ay4 l t hl;have k3:=Dx6 t;have hh:(typedR l 5).head? =l.find? fun r=>decide (r.typ=5):=by unfold typedR;rw[if_neg (by omega),List.head?_filter]
 have hl2:=Sf l 5;have hl3:=Sf l t;have tail:∀a b,T.ev S 1 Dz9 [B6 l,.i .i64 t,a,b]=some (.ret [(if typedR l t=[] then(⟨5,[],false,[],[]⟩:Res) else ⟨1,[],false,[],typedR l t⟩).pv]):=by
  intro a b;by_cases h:typedR l t=[]
  ·rw[if_pos h];rw[h] at k2;simp(disch:=omega)only[Bp8,k2,EVM,EVC,EVR,Af,simprocAttr]
   try rfl
  ·rw[if_neg h];have hp:(0:Int)<((typedR l t).length:Int):=by have:=Cr.2 h;omega
   generalize typedR l t=tl at*;simp(disch:=omega)only[Bp8,k2,hp,EVM,EVC,EVR,Af,simprocAttr]
 unfold saysM Fb9;cases hf:typedR l 5 with
 |nil=>
  rw[hf] at k1 hh;have e:(if Hl4 t=true then none else l.find? fun r=>decide (r.typ=5))=none:=by rw[←hh];simp
  rw[e];simp(disch:=omega)only[↓tail,Bp8,k1,EVM,EVC,EVR,Af,simprocAttr]
 |cons c r=>
  rw[hf] at k1 hh hl2;rw[List.head?_cons] at hh;rw[←hh];have hp:(0:Int)<((c::r).length:Int):=by simp only[Cw];omega
  rcases Bm (Hl4 t) with hd|hd
  ·rw[hd] at k3;simp only[hd,if_true];simp(disch:=omega)only[↓tail,Bp8,k1,k3,hp,EVM,EVC,EVR,Af,simprocAttr]
  ·rw[hd] at k3;simp only[hd,B5,if_false];have hls:Ix 16 (B6 (c::r)) (.i .i64 0) (.i .i64 1)=some (B6 [c]):=by rw[Hm _ _ _ _ _ (by omega) (by omega) (by omega)];rfl
   have hix:Hy 16 (B6 (c::r)) (.i .i64 0)=some c.pv:=by rw[K8 _ _ _ (by omega)];rfl
   generalize (c::r)=ll at*;simp(disch:=omega)only[Bp8,k1,k3,hp,hls,hix,EVM,EVC,EVR,Af,simprocAttr]
end Go.X.G
/- Wildcards; what a zone says about a question. -/
namespace Go.X.G
open Go Go.X
def Uf (n:List UInt8) (r:Rec):Rec:={r with name:=n}
def Eb5 (l:List Rec) (n:List UInt8) (i:Nat) (c:Rec) (r g:List Rec) (hd:l.drop i=c::r) (hi:i<l.length) (hc:l[i]? =some c) (hg:g=(l.take i).map (Uf n)++l.drop i):
  g[i]? =some c∧g.length=l.length∧g.set i {c with name:=n}=(l.take (i+1)).map (Uf n)++l.drop (i+1):=by
 have hA:((l.take i).map (Uf n)).length=i:=by rw[E5,Cq];omega
 have hd1:l.drop (i+1)=r:=by rw[←D9 (i:=1) (j:=i),hd];rfl
 have ht:(l.take (i+1)).map (Uf n)=(l.take i).map (Uf n)++[Uf n c]:=by rw[Dm,hc,List.map_append];rfl
 rw[ht,hd1];rw[hd] at hg;have hlen:l.length=i+(r.length+1):=by have:=congrArg List.length hd;rw[Dv,Cw] at this;omega
 generalize (l.take i).map (Uf n)=A at*;subst hg;refine⟨?_,?_,?_⟩
 ·rw[Cz (by omega),hA];simp
 ·rw[B0,Cw,hA];omega
 ·rw[Ov _ _ (by omega),hA];simp[Uf]
def Fd6 (z:Zone) (q:Ques) (l:List Rec) (p2 p3 p4 p5:PV) (N:Nat) (hN:l.length<N) (hl:l.length≤1000000):
  Fx1.ev S N [z.pv,q.pv,p2,p3,p4,p5,B6 l]=some (.yld 0 [B6 (l.map (Uf q.name))]):=by
 refine Fc l (fun i (g:List Rec)=>[B6 g,.i .i64 (i:Int)]) (fun i g r=> .yld 0 [B6 (l.map (Uf q.name))]) (fun i g=>g=(l.take i).map (Uf q.name)++l.drop i) l (by simp(disch:=omega)only[Ac,simprocAttr]) (by simp) hN (fun i g c r hd hi hc hI=> ?_) (fun g hI=> ?_)
 ·left;obtain⟨h1,h2,h3⟩:=Eb5 l q.name i c r g hd hi hc hI;refine⟨g.set i {c with name:=q.name},?_,h3,rfl⟩;have hs:Uc 16 0 [.s q.name] (B6 g) (.i .i64 (i:Int))=some (B6 (g.set i {c with name:=q.name})):=by have:=Ck0 g .i64 (i:Int) q.name c (by omega) (by rw[It];exact h1);rwa[It] at this
  generalize g.set i {c with name:=q.name}=g' at*;simp(disch:=omega)only[At5,h1,hs,EVM,EVC,EVR,Af,simprocAttr]
 ·have e:g=l.map (Uf q.name):=by rw[hI];simp
  rw[←e];simp(disch:=omega)only[At5,EVM,EVC,EVR,Af,simprocAttr]
  try simp[Out.goes]
def Yx (z:Zone) (q:Ques):Option Res:=
 if Qh (encN z q.name)=true∧allR z (starN (encN z q.name))≠[] then
  some {saysM ((allR z (starN (encN z q.name))).map (Uf q.name)) q.typ with owner:=starN (encN z q.name),wild:=true}
 else none
def Vm (z:Zone) (n:List UInt8):(allR z n).length≤z.recs.length:=D1 _ _
def Ep1 (z:Zone) (n:List UInt8):(encN z n).length≤254:=by
 unfold encN;rcases Bm (under n z.origin) with hu|hu
 ·rw[if_pos hu];cases h:Bm4 z n with
  |none=>simp
  |some e=>exact Js (C8.1 (N0 hu h).1).2.1
 ·rw[if_neg (by simp[hu])];simp
def Bj4:Qh []=false:=by decide
def Fd5 (z:Zone) (q:Ques) (hz:z.wf) (hl:z.recs.length≤1000) (hq:q.name.length≤9223372036854775807):S Cn6 2 [z.pv,q.pv]=some (M1 (Yx z q)):=by
 refine Id1 (N:=2000) rfl ?_;have k1:=lw z q.name hz hl hq;have el:=Ep1 z q.name;have k2:=Et0 (encN z q.name) (by omega);have k3:=Ah8 z (starN (encN z q.name)) (by omega);have al:=Vm z (starN (encN z q.name));unfold Yx;by_cases h1:encN z q.name=[]
 ·rw[h1] at k1 ⊢;rw[Bj4,if_neg (by simp)];simp(disch:=omega)only[At5,k1,M1,EVM,EVC,EVR,Af,simprocAttr]
  try simp
 ·have h2:decide (encN z q.name≠[])=true:=by simp[h1]
  rw[h2] at k1;rcases Bm (Qh (encN z q.name)) with h3|h3
  ·rw[h3] at k2;by_cases h4:allR z (starN (encN z q.name))=[]
   ·rw[if_neg (by simp[h4])];rw[h4] at k3;simp(disch:=omega)only[At5,k1,k2,k3,M1,EVM,EVC,EVR,Af,simprocAttr]
    try simp
   ·rw[if_pos ⟨h3,h4⟩];have h5:¬((allR z (starN (encN z q.name))).length:Int)=0:=by have:=Cr.2 h4;omega
    have k4:=fun p2 p3 p4 p5=>Fd6 z q (allR z (starN (encN z q.name))) p2 p3 p4 p5 2000 (by omega) (by omega);have k5:=Ck8 ((allR z (starN (encN z q.name))).map (Uf q.name)) q.typ (by rw[E5];omega);generalize (allR z (starN (encN z q.name))).map (Uf q.name)=ml at*;generalize allR z (starN (encN z q.name))=al at*;simp(disch:=omega)only[At5,k1,k2,k3,k4,k5,h5,M1,EVM,EVC,EVR,Af,simprocAttr]
  ·rw[h3] at k2;rw[if_neg (by simp[h3])];generalize allR z (starN (encN z q.name))=al at*;simp(disch:=omega)only[At5,k1,k2,k3,M1,EVM,EVC,EVR,Af,simprocAttr]
   try simp
def Ys (z:Zone) (q:Ques):Res:=
 match vz z q.name with
 |some x=>x
 |none=>if exB z q.name=true then {saysM (allR z q.name) q.typ with owner:=q.name} else(Yx z q).getD ⟨6,q.name,false,[],[]⟩
def findM (z:Zone) (q:Ques):Res:=
 if under q.name z.origin=true then
  if cutN z q.name≠[]∧(cutN z q.name≠q.name∨q.typ≠43) then ⟨4,cutN z q.name,false,[],findR z.recs (cutN z q.name) 2⟩ else Ys z q
 else Gb2
def Dv2 (z:Zone) (q:Ques) (hz:z.wf) (hl:z.recs.length≤1000) (hq:q.name.length≤9223372036854775807):S Gz2 2 [z.pv,q.pv]=some [(findM z q).pv]:=by
 refine Jx9 (N:=1) rfl ?_;have g1:=hz.origin;unfold Hv at g1;have k0:=Ep q.name z.origin hq g1;have k1:=Bn6 z q.name hz (by omega) hq;have k2:=Ox z (cutN z q.name) 2 (by omega);have k4:=At2 z q.name hz hl;have k5:=Ah8 z q.name (by omega);have al:=Vm z q.name;have k6:=Ck8 (allR z q.name) q.typ (by omega);have k7:=Fd5 z q hz hl hq;unfold findM;rcases Bm (under q.name z.origin) with hu|hu
 ·rw[if_pos hu];rw[hu] at k0;have k3:=lq z q.name hz (by omega) hu;have tail:∀p3 p4,T.ev S 1 Dd6 [z.pv,q.pv,.b true,p3,p4]=some (.ret [(Ys z q).pv]):=by
   intro p3 p4;unfold Ys;cases hr:vz z q.name with
   |some x=>
    rw[hr] at k3;simp only[M1] at k3;simp(disch:=omega)only[Dp1,k3,EVM,EVC,EVR,Af,simprocAttr]
   |none=>
    rw[hr] at k3;simp only[M1] at k3;rcases Bm (exB z q.name) with he|he
    ·rw[he] at k4;simp only[he,if_true];generalize saysM (allR z q.name) q.typ=sm at*;generalize allR z q.name=ar at*;simp(disch:=omega)only[Dp1,k3,k4,k5,k6,EVM,EVC,EVR,Af,simprocAttr]
    ·rw[he] at k4;simp only[he,B5,if_false];cases hw:Yx z q with
     |some x=>
      rw[hw] at k7;simp only[M1] at k7;simp(disch:=omega)only[Dp1,k3,k4,k7,EVM,EVC,EVR,Af,simprocAttr]
      try rfl
     |none=>
      rw[hw] at k7;simp only[M1] at k7;simp(disch:=omega)only[Dp1,k3,k4,k7,EVM,EVC,EVR,Af,simprocAttr]
      try rfl
  by_cases h1:cutN z q.name=[]
  ·rw[h1] at k1;rw[if_neg (by simp[h1])];simp(disch:=omega)only[↓tail,Dp1,k0,k1,ne_eq,not_true,decide_false,EVM,EVC,EVR,Af,simprocAttr]
  ·have h2:decide (cutN z q.name≠[])=true:=by simp[h1]
   rw[h2] at k1;by_cases h3:cutN z q.name=q.name
   ·by_cases h4:q.typ=43
    ·rw[if_neg (by simp[h3,h4])];rw[h3] at k1;simp(disch:=omega)only[↓tail,Dp1,k0,k1,h4,EVM,EVC,EVR,Af,simprocAttr]
    ·rw[if_pos ⟨h1,.inr h4⟩];rw[h3] at k1 k2 ⊢;generalize findR z.recs q.name 2=fr at*;simp(disch:=omega)only[Dp1,k0,k1,k2,h4,EVM,EVC,EVR,Af,simprocAttr]
   ·rw[if_pos ⟨h1,.inl h3⟩];generalize findR z.recs (cutN z q.name) 2=fr at*;simp(disch:=omega)only[Dp1,k0,k1,k2,h3,EVM,EVC,EVR,Af,simprocAttr]
 ·rw[if_neg (by simp[hu])];rw[hu] at k0;simp(disch:=omega)only[Dp1,k0,EVM,EVC,EVR,Af,simprocAttr]
def Fl5 {z:Zone} {n u:List UInt8} (h:Fk3 z n=some u):∃r rest,findR z.recs u 39=r::rest:=by
 unfold Fk3 at h;have:=List.find?_some h;unfold dnB at this;cases hf:findR z.recs u 39 with
 |nil=>rw[hf] at this;simp at this
 |cons r rest=>exact⟨r,rest,rfl⟩
end Go.X.G
/- What a checked zone says of its names. -/
namespace Go.X.G
open Go Go.X
def Lf {n:List UInt8} (h:vld n=true):under n n=true:=C8.2 ⟨h,h,List.suffix_refl _⟩
def At9 {a b:List UInt8} (h1:under a b=true) (h2:under b a=true):a=b:=by refine Kq h1 ?_;exact(C8.1 h2).2.2.length_le
def W7 {z:Zone} {r:Rec}:Et z r=true↔r.typ=2∧r.name≠z.origin∧under r.name z.origin=true:=by unfold Et F8;simp only[Br,decide_eq_true_eq,ne_eq]
def Km {l:List Rec} {n:List UInt8} {t:Int} {r:Rec}:r∈findR l n t↔r∈l∧r.name=n∧r.typ=t:=by unfold findR;rw[C0];simp only[isK,Br,decide_eq_true_eq]
def ZOk.soaR {z:Zone} (h:ZOk z):∃r∈z.recs,r.name=z.origin∧r.typ=6:=by
 have:=h.soa;cases e:findR z.recs z.origin 6 with
 |nil=>rw[e] at this;cases this
 |cons r l=>
  have:r∈findR z.recs z.origin 6:=by rw[e];exact .head _
  exact⟨r,(Km.1 this).1,(Km.1 this).2⟩
def Bd6 (z:Zone):Sj z z.origin=false:=by
 cases h:Sj z z.origin with
 |false=>rfl
 |true=>
  unfold Sj at h;simp only[Db,Br,decide_eq_true_eq] at h;obtain⟨r,_,⟨h1,_⟩,h3⟩:=h;obtain⟨_,h4,h5⟩:=W7.1 h1;exact absurd (At9 h5 h3) h4
def ZOk.exO {z:Zone} (h:ZOk z):exB z z.origin=true:=by obtain⟨r,hr,e,_⟩:=h.soaR;have u:=Lf h.origin;exact(T6 z _).2 ⟨r,hr,by rw[e];exact u,by rw[e];exact Bd6 z,by rw[e];exact u,u⟩
def Jx3 {z:Zone} (h:ZOk z) {n:List UInt8} (hu:under n z.origin=true):encN z n≠[]∧under n (encN z n)=true∧exB z (encN z n)=true:=by
 unfold encN;rw[if_pos hu];cases e:Bm4 z n with
 |none=>
  unfold Bm4 at e;rw[ct] at e;exact absurd h.exO (e _ ((Pb hu).2 ⟨hu,Lf h.origin⟩))
 |some x=>
  obtain⟨h1,h2⟩:=N0 hu e;exact⟨l6 (C8.1 h1).2.1,h1,h2⟩
def Gj5 {z:Zone} {n x:List UInt8} (hu:under n x=true) (hx:exB z x=true):(lbl x).length≤(lbl (encN z n)).length:=by
 have hne:=l6 (C8.1 hu).2.1;have h0:=Dg2 z n;obtain⟨h1,h2⟩:=Vl n (namesN z) [] (.inl rfl);rw[h0] at h1 h2;have hm:x∈namesN z:=by have:=iq z x;rw[hx] at this;simpa using this
 by_cases hb:encN z n=[]
 ·have:=(h1 hb).2 x hm;rw[hu] at this;cases this
 ·exact(h2 hb).2.2.2 x hm hu
def xv {a b c:List (List UInt8)} (h1:a<:+c) (h2:b<:+c) (h:a.length≤b.length):a<:+b:=by exact List.suffix_of_suffix_length_le h1 h2 h
def tn {z:Zone} {n:List UInt8} (ho:ZOk z) (h:cutN z n≠[]):
  under n (cutN z n)=true∧cutN z n≠z.origin∧(findR z.recs (cutN z n) 2).length≠0∧encN z n=cutN z n∧under n z.origin=true∧exB z (cutN z n)=true:=by
 obtain⟨_,h2⟩:=Mp z n z.recs [] (.inl rfl);obtain⟨g1,g2,_,g4⟩:=h2 h;change under n (cutN z n)=true at g1;change cutN z n=[]∨∃r∈z.recs,Et z r=true∧r.name=cutN z n at g2;change∀r∈z.recs,Et z r=true→under n r.name=true→(lbl (cutN z n)).length≤(lbl r.name).length at g4;obtain⟨r,hr,hc,hn⟩:=g2.resolve_left h;generalize cutN z n=c at*;obtain⟨c1,c2,c3⟩:=W7.1 hc;rw[hn] at c2 c3;have hu:=Mk g1 c3;have hh:Sj z c=false:=by
  cases e:Sj z c with
  |false=>rfl
  |true=>
   unfold Sj at e;simp only[Db,Br,decide_eq_true_eq] at e;obtain⟨x,hx,⟨x1,x2⟩,x3⟩:=e;have:=g4 x hx x1 (Mk g1 x3);exact absurd (Kq x3 this).symm x2
 have hv:=(C8.1 c3).1;have hex:exB z c=true:=(T6 z c).2 ⟨r,hr,by rw[hn];exact c3,by rw[hn];exact hh,by rw[hn];exact Lf hv,c3⟩;refine⟨g1,c2,?_,?_,hu,hex⟩
 ·have:r∈findR z.recs c 2:=Km.2 ⟨hr,hn,c1⟩;intro e;rw[List.length_eq_zero_iff.1 e] at this;cases this
 ·obtain⟨_,e1,e2⟩:=(Jx3 ho hu);have hm:=Gj5 g1 hex;generalize encN z n=e at*;obtain⟨_,_,s1⟩:=C8.1 g1;obtain⟨_,ve,s2⟩:=C8.1 e1;have s3:=xv s1 s2 hm;have ec:under e c=true:=C8.2 ⟨ve,hv,s3⟩;by_cases hl:(lbl e).length≤(lbl c).length
  ·exact Kq ec hl
  ·exfalso;obtain⟨x,hx,x1,x2,x3,_⟩:=(T6 z e).1 e2;have hxc:=Mk x3 ec;have:Sj z x.name=true:=by unfold Sj;simp only[Db,Br,decide_eq_true_eq];refine⟨r,hr,⟨hc,fun q=> ?_⟩,by rw[hn];exact hxc⟩;have:=(C8.1 x3).2.2.length_le;rw[←q,hn] at this;exact hl this
   rw[x2] at this;cases this
end Go.X.G
/- What a checked zone says about a question, in plain words. -/
namespace Go.X.G
open Go Go.X
def By8 {z:Zone} {n:List UInt8} (ho:ZOk z) (hu:under n z.origin=true) (hx:exB z n=false) (hc:cutN z n=[]∨cutN z n=n):∀r∈z.recs,under r.name n=false:=by
 intro r hr;rcases Bm (under r.name n) with h|h
 ·exfalso;have h1:=ho.under hr;have hh:Sj z r.name=true:=by
   rcases Bm (Sj z r.name) with e|e
   ·exact e
   ·have:=(T6 z n).2 ⟨r,hr,h1,e,h,hu⟩;rw[hx] at this;cases this
  rw[Fr7] at hh;simp only[Br,decide_eq_true_eq] at hh;obtain⟨c1,_,_,_,_,c2⟩:=tn ho hh.1;obtain⟨_,g2⟩:=Mp z r.name z.recs [] (.inl rfl);obtain⟨_,g3,_,_⟩:=g2 hh.1;obtain⟨x,hxm,x1,x2⟩:=g3.resolve_left hh.1;change x.name=cutN z r.name at x2;generalize cutN z r.name=c at*;obtain⟨_,_,s1⟩:=C8.1 c1;obtain⟨_,vn,s2⟩:=C8.1 h;obtain⟨_,vc,_⟩:=C8.1 c1;by_cases hl:(lbl n).length≤(lbl c).length
  ·have hcn:under c n=true:=C8.2 ⟨vc,vn,xv s2 s1 hl⟩;obtain⟨y,y1,y2,y3,y4,_⟩:=(T6 z c).1 c2;have:=(T6 z n).2 ⟨y,y1,y2,y3,Mk y4 hcn,hu⟩;rw[hx] at this;cases this
  ·have hnc:under n c=true:=C8.2 ⟨vn,vc,xv s1 s2 (by omega)⟩;obtain⟨k1,k2⟩:=Mp z n z.recs [] (.inl rfl);rcases hc with hc|hc
   ·have:=(k1 hc).2 x hxm x1;rw[x2,hnc] at this;cases this
   ·by_cases hc0:cutN z n=[]
    ·have:=(k1 hc0).2 x hxm x1;rw[x2,hnc] at this;cases this
    ·obtain⟨_,_,_,k3⟩:=k2 hc0;have:=k3 x hxm x1 (by rw[x2];exact hnc);change (lbl (cutN z n)).length≤_ at this;rw[hc,x2] at this;omega
 ·exact h
def N3 (z:Zone) (n:List UInt8) (t:Int):Nat:=(z.recs.filter fun r=>decide (r.name=n) && (decide (t=255)||decide (r.typ=t))).length
def Mr (z:Zone) (n:List UInt8) (t:Int):N3 z n t=(typedR (allR z n) t).length:=by
 unfold N3 typedR allR;split
 ·rename_i h;subst h;simp
 ·rename_i h;rw[List.filter_filter];congr 1;refine List.filter_congr fun r _=> ?_;simp[h,Bool.and_comm]
def Bg8 (z:Zone) (n:List UInt8):N3 z n 2=(findR z.recs n 2).length:=by unfold N3 findR;congr 1
def mj {l:List Rec} {t:Int} {x:Rec} (h:x∈typedR l t):x∈l∧(x.typ=t∨t=255):=by
 unfold typedR at h;split at h
 ·rename_i e;exact⟨h,.inr e⟩
 ·obtain⟨h1,h2⟩:=C0.1 h;exact⟨h1,.inl (by simpa using h2)⟩
def l9 (l:List Rec) (n:List UInt8) (t:Int):(typedR (l.map (Uf n)) t).length=(typedR l t).length:=by
 unfold typedR;split
 ·simp
 ·rw[List.filter_map,E5];rfl
structure FindOk (z:Zone) (q:Ques) (r:Res):Prop where
 ans:r.kind=1→r.recs≠[]∧r.recs.length=N3 z r.owner q.typ∧(r.wild=false→r.owner=q.name)∧∀x∈r.recs,x.name=q.name∧(x.typ=q.typ∨q.typ=255)∧{x with name:=r.owner}∈z.recs
 nothing:r.kind=6∨r.wild=true→∀x∈z.recs,under x.name q.name=false
 out:r.kind=0→under q.name z.origin=false
 nodata:r.kind=5→N3 z r.owner q.typ=0
 nx:r.kind=6→r.recs=[]∧r.wild=false
 ref:r.kind=4→under q.name r.owner=true∧r.owner≠z.origin∧r.recs.length=N3 z r.owner 2∧r.recs≠[]∧∀x∈r.recs,x.typ=2
 kinds:r.kind=0∨r.kind=1∨(r.kind=2∧r.recs≠[])∨(r.kind=3∧r.recs≠[])∨r.kind=4∨r.kind=5∨r.kind=6
def says_kind (l:List Rec) (t:Int):((saysM l t).kind=2∧(saysM l t).recs≠[])∨((saysM l t).kind=5∧typedR l t=[])∨((saysM l t).kind=1∧typedR l t≠[]∧(saysM l t).recs=typedR l t):=by
 unfold saysM;split
 ·exact .inl ⟨rfl,by simp⟩
 ·split
  ·rename_i h;exact .inr (.inl ⟨rfl,h⟩)
  ·rename_i h;exact .inr (.inr ⟨rfl,h,rfl⟩)
def Wk (l:List Rec) (t:Int):(saysM l t).wild=false:=by
 unfold saysM;split
 ·rfl
 ·split<;>rfl
def Rz (z:Zone) (q:Ques) (ho:ZOk z):FindOk z q (findM z q):=by
 unfold findM;split
 ·rename_i hu;split
  ·rename_i hc;obtain⟨f1,f2,f3,_⟩:=tn ho hc.1;refine⟨fun h=>by simp at h,fun h=>by simp at h,fun h=>by simp at h,fun h=>by simp at h,fun h=>by simp at h,fun _=>⟨f1,f2,(Bg8 z _).symm,fun e=>f3 (by have e':findR z.recs (cutN z q.name) 2=[]:=e;rw[e'];rfl),fun x hx=>(Km.1 hx).2.2⟩,by simp⟩
  ·rename_i hc;have hc':cutN z q.name=[]∨cutN z q.name=q.name:=by
    by_cases h0:cutN z q.name=[]
    ·exact .inl h0
    ·refine .inr (Classical.byContradiction fun h1=>hc ⟨h0,.inl h1⟩)
   unfold Ys;cases hr:vz z q.name with
   |some x=>
    simp only;unfold vz at hr;cases hr2:Fk3 z q.name with
    |none=>rw[hr2] at hr;cases hr
    |some u=>
     rw[hr2] at hr;simp only[Cb,Bn] at hr;obtain⟨r0,rest,hf⟩:=Fl5 hr2;unfold Tp at hr;rw[hf] at hr;subst hr;exact⟨fun h=>by simp at h,fun h=>by simp at h,fun h=>by simp at h,fun h=>by simp at h,fun h=>by simp at h,fun h=>by simp at h,by simp⟩
   |none=>
    simp only;split
    ·rename_i hex;rcases says_kind (allR z q.name) q.typ with⟨k,k'⟩|⟨k,kt⟩|⟨k,kt,kr⟩
     ·refine⟨fun h=> ?_,fun h=> ?_,fun h=> ?_,fun h=> ?_,fun h=> ?_,fun h=> ?_,.inr (.inr (.inl ⟨k,k'⟩))⟩<;>simp[k,Wk] at h
     ·refine⟨fun h=> ?_,fun h=> ?_,fun h=> ?_,fun _=> ?_,fun h=> ?_,fun h=> ?_,by simp[k]⟩
      ·simp[k] at h
      ·simp[k,Wk] at h
      ·simp[k] at h
      ·show N3 z q.name q.typ=0;rw[Mr,kt];rfl
      ·simp[k] at h
      ·simp[k] at h
     ·refine⟨fun _=>⟨?_,?_,fun _=>rfl,?_⟩,fun h=> ?_,fun h=> ?_,fun h=> ?_,fun h=> ?_,fun h=> ?_,by simp[k]⟩
      ·show (saysM (allR z q.name) q.typ).recs≠[];rw[kr];exact kt
      ·show (saysM (allR z q.name) q.typ).recs.length=N3 z q.name q.typ;rw[kr,Mr]
      ·intro x hx;change x∈(saysM (allR z q.name) q.typ).recs at hx;rw[kr] at hx;obtain⟨h1,h2⟩:=mj hx;obtain⟨h3,h4⟩:=C0.1 h1;have h5:x.name=q.name:=by simpa using h4
       refine⟨h5,h2,?_⟩;show {x with name:=q.name}∈z.recs;rw[←h5];exact h3
      ·simp[k,Wk] at h
      ·simp[k] at h
      ·simp[k] at h
      ·simp[k] at h
      ·simp[k] at h
    ·rename_i hex;have hex':exB z q.name=false:=by simpa using hex
     have hno:=By8 ho hu hex' hc';unfold Yx;split
     ·simp only[Dz];generalize starN (encN z q.name)=s;rcases says_kind ((allR z s).map (Uf q.name)) q.typ with⟨k,k'⟩|⟨k,kt⟩|⟨k,kt,kr⟩
      ·refine⟨fun h=> ?_,fun _=>hno,fun h=> ?_,fun h=> ?_,fun h=> ?_,fun h=> ?_,.inr (.inr (.inl ⟨k,k'⟩))⟩<;>simp[k] at h
      ·refine⟨fun h=> ?_,fun _=>hno,fun h=> ?_,fun _=> ?_,fun h=> ?_,fun h=> ?_,by simp[k]⟩
       ·simp[k] at h
       ·simp[k] at h
       ·show N3 z s q.typ=0;rw[Mr,←l9 (allR z s) q.name q.typ,kt];rfl
       ·simp[k] at h
       ·simp[k] at h
      ·refine⟨fun _=>⟨?_,?_,fun h=> ?_,?_⟩,fun _=>hno,fun h=> ?_,fun h=> ?_,fun h=> ?_,fun h=> ?_,by simp[k]⟩
       ·show (saysM ((allR z s).map (Uf q.name)) q.typ).recs≠[];rw[kr];exact kt
       ·show (saysM ((allR z s).map (Uf q.name)) q.typ).recs.length=N3 z s q.typ;rw[kr,Mr,l9]
       ·simp at h
       ·intro x hx;change x∈(saysM ((allR z s).map (Uf q.name)) q.typ).recs at hx;rw[kr] at hx;obtain⟨h1,h2⟩:=mj hx;obtain⟨y,h3,rfl⟩:=E2.1 h1;obtain⟨h4,h5⟩:=C0.1 h3;have h6:y.name=s:=by simpa using h5
        refine⟨rfl,h2,?_⟩;show {Uf q.name y with name:=s}∈z.recs;rw[←h6];exact h4
       ·simp[k] at h
       ·simp[k] at h
       ·simp[k] at h
       ·simp[k] at h
     ·simp only[Option.getD_none];refine⟨fun h=>by simp at h,fun _=>hno,fun h=>by simp at h,fun h=>by simp at h,fun _=>⟨rfl,rfl⟩,fun h=>by simp at h,by simp⟩
 ·rename_i hu;have hu':under q.name z.origin=false:=by simpa using hu
  refine⟨fun h=>by simp at h,fun h=>by simp at h,fun _=>hu',fun h=>by simp at h,fun h=>by simp at h,fun h=>by simp at h,by simp⟩
end Go.X.G
/- The law LookupSoas. -/
namespace Go.X.G
open Go Go.X
def Vp (z:Zone) (n:List UInt8) (t:Int) (hl:z.recs.length≤1000000):S Ug 3 [z.pv,.s n,.i .i64 t]=some [B6 (findR z.recs n t)]:=by refine Gm4 (N:=1) rfl ?_;simp(disch:=omega)only[Gc5,Lq,Af,simprocAttr]
def soaR (z:Zone):List Rec:=match findR z.recs z.origin 6 with
 |[]=>[]
 |r::_=>[{r with ttl:=if r.data.e<r.ttl then r.data.e else r.ttl}]
def Gy0 (z:Zone) (hl:z.recs.length≤1000000):S Bc1 1 [z.pv]=some [B6 (soaR z)]:=by
 refine Ib3 (N:=1) rfl ?_;unfold soaR;cases h:findR z.recs z.origin 6 with
 |nil=>simp(disch:=first|omega|(simp;omega))only[Gc0,Vp,h,Af,simprocAttr]
 |cons r l=>
  have h1:¬(((l.length+1:Nat):Int)=0):=by omega
  by_cases h2:r.data.e<r.ttl<;>simp(disch:=first|omega|(simp;omega))only[Gc0,Vp,h,h2,Af,simprocAttr]
def zero:Dat:=⟨false,0,0,[],[],[],0,0,0,0,0,0,0⟩
end Go.X.G
/- The law LookupFinds. -/
namespace Go.X.G
open Go Go.X
end Go.X.G
/- Chains of aliases; the law LookupChases. -/
namespace Go.X
def Ik (l:List Res):PV:= .l 5 (l.map Res.pv)
def Eb4:PV.l 5 []=Ik []:=rfl
def Fp8 (x:Res):Lz 5 [x.pv]=some (Ik [x]):=rfl
def Eh0 (l:List Res):G8 (Ik l)=some (.i .i64 (l.length:Int)):=by simp[Ik,G8]
def gf (l:List Res) (k:IntKind) (z:Int) (h:0≤z):Hy 5 (Ik l) (.i k z)=(l[z.toNat]?).map Res.pv:=by simp[Ik,Xj _ _ _ _ h]
def Dh2 (l:List Res) (x:Res) (h:l.length+1≤1073741824):Ip 5 (Ik l) (Ik [x])=some (Ik (l++[x])):=by have:=X6 5 (l.map Res.pv) [x.pv] (by simpa using h);simpa [Ik] using this
def Ck4 (l:List Res):J4 (Ik l)=some (Ik l):=rfl
def Cy7 (l:List Res):C2 0 (Ik l)=some (Ik l):=rfl
set_option linter.defProp false in
def Sq:=(And.intro @Eb4 (And.intro @Fp8 (And.intro @Eh0 (And.intro @gf (And.intro @Dh2 (And.intro @Ck4 @Cy7))))))
end Go.X
namespace Go.X.G
open Go Go.X
def q9 (r:Res):Bool:=(decide (r.kind=2)||decide (r.kind=3)) && decide (r.target≠[])
def L0 (z:Zone) (t:Int):Nat→List Res→List (List UInt8)→List UInt8→List Res×Bool
 |0,out,_,_=>(out,false)
 |k+1,out,seen,n=>
  if q9 (findM z ⟨n,t⟩)=false then(out++[findM z ⟨n,t⟩],true)
  else if out.length=8 then(out++[findM z ⟨n,t⟩],false)
  else if under (findM z ⟨n,t⟩).target z.origin=false then(out++[findM z ⟨n,t⟩],true)
  else if(findM z ⟨n,t⟩).target∈seen then(out++[findM z ⟨n,t⟩],false)
  else L0 z t k (out++[findM z ⟨n,t⟩]) (seen++[(findM z ⟨n,t⟩).target]) (findM z ⟨n,t⟩).target
def Rp (z:Zone) (t:Int) (k:Nat) (out:List Res) (seen:List (List UInt8)) (n:List UInt8):L0 z t (k+1) out seen n=
  if q9 (findM z ⟨n,t⟩)=false then(out++[findM z ⟨n,t⟩],true)
  else if out.length=8 then(out++[findM z ⟨n,t⟩],false)
  else if under (findM z ⟨n,t⟩).target z.origin=false then(out++[findM z ⟨n,t⟩],true)
  else if(findM z ⟨n,t⟩).target∈seen then(out++[findM z ⟨n,t⟩],false)
  else L0 z t k (out++[findM z ⟨n,t⟩]) (seen++[(findM z ⟨n,t⟩).target]) (findM z ⟨n,t⟩).target:=rfl
def chaseM (z:Zone) (q:Ques):List Res×Bool:=L0 z q.typ 9 [] [q.name] q.name
def Cq9 (n top to:List UInt8):(replN n top to).1.length≤254:=by
 unfold replN;split
 ·split
  ·split
   ·assumption
   ·simp
  ·simp
 ·simp
def Wq (l:List Rec) (t:Int) (h:∀r∈l,r.data.host.length≤9223372036854775807):(saysM l t).target.length≤9223372036854775807:=by
 unfold saysM;cases ha:Fb9 l t with
 |some c=>
  unfold Fb9 at ha;split at ha
  ·cases ha
  ·exact h c (Px ha)
 |none=>simp only;split<;>simp
def Pm (z:Zone) (q:Ques) (hz:z.wf):(findM z q).target.length≤9223372036854775807:=by
 have hh:∀n,∀r∈allR z n,r.data.host.length≤9223372036854775807:=fun n r hr=>(hz.recs.2 r (C0.1 hr).1).data.host;unfold findM;split
 ·split
  ·simp
  ·unfold Ys;cases h:vz z q.name with
   |some x=>
    show x.target.length≤9223372036854775807;unfold vz at h;cases h2:Fk3 z q.name with
    |none=>rw[h2] at h;cases h
    |some u=>
     rw[h2] at h;simp only[Cb,Bn] at h;rw[←h];unfold Tp;split
     ·rename_i r rest _;have:=Cq9 q.name u r.data.host;simp only[dh];split
      ·simp
      ·omega
     ·simp
   |none=>
    simp only;split
    ·exact Wq _ _ (hh _)
    ·unfold Yx;split
     ·simp only[Dz];refine Wq _ _ fun r hr=> ?_;obtain⟨x,hx,rfl⟩:=E2.1 hr;exact hh _ x hx
     ·simp
 ·simp
def Er7 (z:Zone) (q:Ques) (hz:z.wf) (hl:z.recs.length≤1000) (hq:q.name.length≤9223372036854775807):S Cn0 2 [z.pv,q.pv]=some [Ik (chaseM z q).1,.b (chaseM z q).2]:=by
 refine Ib6 (N:=1000) rfl ?_;have g1:=hz.origin;unfold Hv at g1;have key:Fw7.ev S 1000 [z.pv,q.pv]=some (.ret [Ik (chaseM z q).1,.b (chaseM z q).2]):=by
  refine Jc (α:=List Res×List (List UInt8)×List UInt8) (fun a=>[Ik a.1,Cs a.2.1,.s a.2.2]) (fun a=> .ret [Ik (L0 z q.typ (9 - a.1.length) a.1 a.2.1 a.2.2).1,.b (L0 z q.typ (9 - a.1.length) a.1 a.2.1 a.2.2).2])
   (fun a=>a.1.length≤8∧a.2.1.length≤100∧a.2.1.length=a.1.length+1∧a.2.2.length≤9223372036854775807) (fun a=>9 - a.1.length) ([],[q.name],q.name) ?_ ⟨by simp,by simp,by simp,hq⟩ (by simp) ?_
  ·simp(disch:=omega)only[EVM,EVC,EVR,Sq,Af,simprocAttr]
  ·rintro⟨out,seen,n⟩ ⟨i1,i2,i3,i4⟩;simp only at i1 i2 i3 i4 ⊢;have hk:9 - out.length=(8 - out.length)+1:=by omega
   have k1:=Dv2 z ⟨n,q.typ⟩ hz hl i4;have tt:=Pm z ⟨n,q.typ⟩ hz;rw[hk,Rp];generalize hr:findM z ⟨n,q.typ⟩=r at*;have k2:=Ep r.target z.origin tt g1;have k3:=Ih seen r.target (by omega);rcases Bm (q9 r) with h1|h1
   ·rw[if_neg (by simp[h1])];have h1':=h1;unfold q9 at h1';simp only[Br,Cj,decide_eq_true_eq,ne_eq] at h1';obtain⟨h2,h3⟩:=h1';have h4:¬(r.kind≠2∧r.kind≠3):=by omega
    by_cases h5:out.length=8
    ·right;rw[if_pos h5];have h6:((out++[r]).length:Int)=9:=by simp;omega
     refine⟨?_,rfl⟩;rcases h2 with h2|h2<;>simp(disch:=omega)only[lc,k1,h2,h3,h6,EVM,EVC,EVR,Sq,Af,simprocAttr]
    ·rw[if_neg h5];have h6:¬((out++[r]).length:Int)=9:=by simp;omega
     rcases Bm (under r.target z.origin) with h7|h7
     ·rw[if_neg (by simp[h7])];rw[h7] at k2;by_cases h8:r.target∈seen
      ·right;rw[if_pos h8];refine⟨?_,rfl⟩;rcases h2 with h2|h2<;>simp(disch:=omega)only[lc,k1,k2,k3,h2,h3,h6,h8,EVM,EVC,EVR,Sq,Af,simprocAttr]
      ·left;rw[if_neg h8];refine⟨(out++[r],seen++[r.target],r.target),?_,⟨by simp only[B0,Fj];omega,by simp only[B0,Fj];omega,by simp only[B0,Fj];omega,tt⟩,by simp only[B0,Fj];omega,?_⟩
       ·rcases h2 with h2|h2<;>simp(disch:=omega)only[lc,k1,k2,k3,h2,h3,h6,h8,EVM,EVC,EVR,Sq,Af,simprocAttr]
       ·have:9 - (out++[r]).length=8 - out.length:=by rw[B0,Fj];omega
        simp only[this]
     ·right;rw[if_pos h7];rw[h7] at k2;refine⟨?_,rfl⟩;rcases h2 with h2|h2<;>simp(disch:=omega)only[lc,k1,k2,h2,h3,h6,EVM,EVC,EVR,Sq,Af,simprocAttr]
   ·right;rw[if_pos h1];unfold q9 at h1;refine⟨?_,rfl⟩;by_cases h2:r.kind=2
    ·have h3:r.target=[]:=by simpa [h2] using h1
     simp(disch:=omega)only[lc,k1,h2,h3,EVM,EVC,EVR,Sq,Af,simprocAttr]
    ·by_cases h3:r.kind=3
     ·have h4:r.target=[]:=by simpa [h3] using h1
      simp(disch:=omega)only[lc,k1,h3,h4,EVM,EVC,EVR,Sq,Af,simprocAttr]
     ·simp(disch:=omega)only[lc,k1,h2,h3,EVM,EVC,EVR,Sq,Af,simprocAttr]
 simp(disch:=omega)only[lc,key,EVM,EVC,EVR,Sq,Af,simprocAttr]
def O3 (P:Res→Prop) (z:Zone) (t:Int) (h:∀n,P (findM z ⟨n,t⟩)):∀(k:Nat) (out:List Res) (seen:List (List UInt8)) (n:List UInt8),(∀r∈out,P r)→∀r∈(L0 z t k out seen n).1,P r
 |0,out,seen,n,ho=>ho
 |k+1,out,seen,n,ho=>by
  have ho':∀r∈out++[findM z ⟨n,t⟩],P r:=fun r hr=>by
   rcases C4.1 hr with hr|hr
   ·exact ho r hr
   ·rw[Dk.1 hr];exact h n
  unfold L0;split
  ·exact ho'
  ·split
   ·exact ho'
   ·split
    ·exact ho'
    ·split
     ·exact ho'
     ·exact O3 P z t h k _ _ _ ho'
def cj (z:Zone) (t:Int):∀(k:Nat) (out:List Res) (seen:List (List UInt8)) (n:List UInt8),(L0 z t k out seen n).1.length≤out.length+k
 |0,out,seen,n=>by simp[L0]
 |k+1,out,seen,n=>by
  unfold L0;have hl:(out++[findM z ⟨n,t⟩]).length=out.length+1:=by simp
  split
  ·simp only;omega
  ·split
   ·simp only;omega
   ·split
    ·simp only;omega
    ·split
     ·simp only;omega
     ·have:=cj z t k (out++[findM z ⟨n,t⟩]) (seen++[(findM z ⟨n,t⟩).target]) (findM z ⟨n,t⟩).target;omega
end Go.X.G
/- Responses: what the parts of one are. -/
namespace Go.X.G
open Go Go.X
def replyM (m:Msg) (code:Int):Msg:=⟨m.id,m.op,code,true,false,false,m.rd,false,false,m.cd,m.dok,if m.size≠0 then 1232 else 0,m.q,[],[],[]⟩
def Cq8 (m:Msg) (code:Int):S ol 2 [m.pv,.i .i64 code]=some [(replyM m code).pv]:=by
 refine Ib7 (N:=1) rfl ?_;unfold replyM;by_cases h:m.size=0
 ·simp(disch:=omega)only[Gc1,h,EVM,EVC,EVR,Af,simprocAttr]
  try simp
 ·simp(disch:=omega)only[Gc1,h,EVM,EVC,EVR,Af,simprocAttr]
  try simp
def Iq7 (t:Int):Bool:=decide (t=2)||decide (t=15)||decide (t=33)
def hostsF (out:List (List UInt8)):List Rec→List (List UInt8)
 |[]=>out
 |r::rs=>if Iq7 r.typ=true∧r.data.host∉out then hostsF (out++[r.data.host]) rs else hostsF out rs
def Or:∀(l:List Rec) (out:List (List UInt8)),(hostsF out l).length≤out.length+l.length
 |[],out=>by simp[hostsF]
 |r::rs,out=>by
  simp only[hostsF];split
  ·have:=Or rs (out++[r.data.host]);rw[B0,Fj] at this;rw[Cw];omega
  ·have:=Or rs out;rw[Cw];omega
def Pl:∀(l:List Rec) (out:List (List UInt8)),(∀r∈l,r.wf)→(∀h∈out,h.length≤9223372036854775807)→∀h∈hostsF out l,h.length≤9223372036854775807
 |[],out,_,ho=>ho
 |r::rs,out,hl,ho=>by
  simp only[hostsF];split
  ·refine Pl rs _ (fun x hx=>hl x (.tail _ hx)) fun h hh=> ?_;rcases C4.1 hh with hh|hh
   ·exact ho h hh
   ·rw[Dk.1 hh];exact(hl r (.head _)).data.host
  ·exact Pl rs _ (fun x hx=>hl x (.tail _ hx)) ho
def Dq3 (l:List Rec) (hl:l.length≤1000):S Bc2 1 [B6 l]=some [Cs (hostsF [] l)]:=by
 refine Ib4 (N:=2000) rfl ?_;have key:Fw5.ev S 2000 [B6 l]=some (.yld 0 [Cs (hostsF [] l)]):=by
  refine Fc l (fun i (g:List (List UInt8))=>[Cs g,.i .i64 (i:Int)]) (fun i g r=> .yld 0 [Cs (hostsF g r)]) (fun i g=>g.length≤i) [] rfl (Dr _) (by omega) (fun i g c r hd hi hc hI=> ?_) (fun g hI=> ?_)
  ·left;have k1:=Ih g c.data.host (by omega);refine⟨if Iq7 c.typ=true∧c.data.host∉g then g++[c.data.host] else g,?_,by split<;>(try rw[B0,Fj])<;>omega,?_⟩
   ·unfold Iq7;by_cases h4:c.data.host∈g
    ·by_cases h1:c.typ=2
     ·simp(disch:=omega)only[Yw,hc,h1,h4,k1,EVM,EVC,EVR,Af,simprocAttr];simp
     ·by_cases h2:c.typ=15
      ·simp(disch:=omega)only[Yw,hc,h2,h4,k1,EVM,EVC,EVR,Af,simprocAttr];simp
      ·by_cases h3:c.typ=33
       ·simp(disch:=omega)only[Yw,hc,h3,h4,k1,EVM,EVC,EVR,Af,simprocAttr];simp
       ·simp(disch:=omega)only[Yw,hc,h1,h2,h3,k1,EVM,EVC,EVR,Af,simprocAttr];simp[h4]
    ·by_cases h1:c.typ=2
     ·simp(disch:=omega)only[Yw,hc,h1,h4,k1,EVM,EVC,EVR,Af,simprocAttr];simp
     ·by_cases h2:c.typ=15
      ·simp(disch:=omega)only[Yw,hc,h2,h4,k1,EVM,EVC,EVR,Af,simprocAttr];simp
      ·by_cases h3:c.typ=33
       ·simp(disch:=omega)only[Yw,hc,h3,h4,k1,EVM,EVC,EVR,Af,simprocAttr];simp
       ·simp(disch:=omega)only[Yw,hc,h1,h2,h3,k1,EVM,EVC,EVR,Af,simprocAttr];simp
   ·simp only[hostsF];split<;>rfl
  ·simp(disch:=omega)only[Yw,EVM,EVC,EVR,Af,simprocAttr]
   try simp[Out.goes,hostsF]
 simp(disch:=omega)only[Yw,key,EVM,EVC,EVR,Af,simprocAttr]
def Aw1 (z:Zone) (h:List UInt8):List Rec:=findR z.recs h 1++findR z.recs h 28
def As7 (z:Zone) (h:List UInt8):(Aw1 z h).length≤2*z.recs.length:=by have h1:=Ig z h 1;have h2:=Ig z h 28;unfold Aw1;rw[B0];omega
def vh (z:Zone) (h:List UInt8):List Rec:=if cutN z h=[] then [] else Aw1 z h
def Em5 (z:Zone) (h:List UInt8):(vh z h).length≤2*z.recs.length:=by
 unfold vh;split
 ·simp
 ·exact As7 z h
def jr (z:Zone) (hs:List (List UInt8)) (hl:z.recs.length≤60) (hh:hs.length≤1000):S Cm8 2 [z.pv,Cs hs]=some [B6 (hs.flatMap (Aw1 z))]:=by
 refine Ib2 (N:=2000) rfl ?_;have key:Fw4.ev S 2000 [z.pv,Cs hs]=some (.yld 0 [B6 ([]++hs.flatMap (Aw1 z))]):=by
  refine Fc hs (fun i (g:List Rec)=>[B6 g,.i .i64 (i:Int)]) (fun i g r=> .yld 0 [B6 (g++r.flatMap (Aw1 z))]) (fun i g=>g.length≤120*i) [] rfl (Dr _) (by omega) (fun i g c r hd hi hc hI=> ?_) (fun g hI=> ?_)
  ·left;have k1:=Ox z c 1 (by omega);have k2:=Ox z c 28 (by omega);have h1:=Ig z c 1;have h2:=Ig z c 28;refine⟨g++findR z.recs c 1++findR z.recs c 28,?_,by rw[B0,B0];omega,by simp[Aw1]⟩;generalize findR z.recs c 1=f1 at*;generalize findR z.recs c 28=f2 at*;have a1:=Ic g f1 (by omega);have a2:=Ic (g++f1) f2 (by rw[B0];omega);simp(disch:=omega)only[Fc8,hc,k1,k2,a1,a2,EVM,EVC,EVR,Af,simprocAttr]
  ·simp(disch:=omega)only[Fc8,EVM,EVC,EVR,Af,simprocAttr]
   try simp[Out.goes]
 rw[Dp] at key;generalize hs.flatMap (Aw1 z)=fm at*;simp(disch:=omega)only[Fc8,key,EVM,EVC,EVR,Af,simprocAttr]
def Dn2 (z:Zone) (hs:List (List UInt8)) (hz:z.wf) (hl:z.recs.length≤60) (hh:hs.length≤1000) (hw:∀h∈hs,h.length≤9223372036854775807):S Cm9 2 [z.pv,Cs hs]=some [B6 (hs.flatMap (vh z))]:=by
 refine Ib5 (N:=2000) rfl ?_;have key:Fw6.ev S 2000 [z.pv,Cs hs]=some (.yld 0 [B6 ([]++hs.flatMap (vh z))]):=by
  refine Fc hs (fun i (g:List Rec)=>[B6 g,.i .i64 (i:Int)]) (fun i g r=> .yld 0 [B6 (g++r.flatMap (vh z))]) (fun i g=>g.length≤120*i) [] rfl (Dr _) (by omega) (fun i g c r hd hi hc hI=> ?_) (fun g hI=> ?_)
  ·left;have k0:=Bn6 z c hz (by omega) (hw c (Cc hc));have k1:=Ox z c 1 (by omega);have k2:=Ox z c 28 (by omega);have h1:=Ig z c 1;have h2:=Ig z c 28;by_cases h3:cutN z c=[]
   ·refine⟨g,?_,by omega,by simp[vh,h3]⟩;rw[h3] at k0;simp(disch:=omega)only[Dp2,hc,k0,ne_eq,not_true,decide_false,EVM,EVC,EVR,Af,simprocAttr]
   ·refine⟨g++findR z.recs c 1++findR z.recs c 28,?_,by rw[B0,B0];omega,by simp[Aw1,vh,h3]⟩;have h4:decide (cutN z c≠[])=true:=by simp[h3]
    rw[h4] at k0;generalize findR z.recs c 1=f1 at*;generalize findR z.recs c 28=f2 at*;have a1:=Ic g f1 (by omega);have a2:=Ic (g++f1) f2 (by rw[B0];omega);simp(disch:=omega)only[Dp2,hc,k0,k1,k2,a1,a2,EVM,EVC,EVR,Af,simprocAttr]
  ·simp(disch:=omega)only[Dp2,EVM,EVC,EVR,Af,simprocAttr]
   try simp[Out.goes]
 rw[Dp] at key;generalize hs.flatMap (vh z)=fm at*;simp(disch:=omega)only[Dp2,key,EVM,EVC,EVR,Af,simprocAttr]
end Go.X.G
/- Responses; the law LookupResponds. -/
namespace Go.X.G
open Go Go.X
def Jm (name:List UInt8) (r:Res):Rec:=⟨name,5,((r.recs[0]?).map Rec.ttl).getD 0,⟨false,0,0,r.target,[],[],0,0,0,0,0,0,0⟩⟩
def N7 (name:List UInt8) (r:Res):List Rec:=
 if r.kind=2∨r.kind=1 then r.recs else if r.kind=3 then(if r.target=[] then r.recs else r.recs++[Jm name r]) else []
def ansF (name:List UInt8) (acc:List Rec):List Res→List Rec
 |[]=>acc
 |r::rs=>ansF r.target (acc++N7 name r) rs
structure RsOk (l:List Res):Prop where
 len:l.length≤9
 recs:∀r∈l,r.recs.length≤60
 red:∀r∈l,r.kind=3→r.recs≠[]
def um (name:List UInt8) (r:Res) (h:r.recs.length≤60):(N7 name r).length≤61:=by
 unfold N7;split
 ·omega
 ·split
  ·split
   ·omega
   ·rw[B0,Fj];omega
  ·simp
def As1:∀(l:List Res) (name:List UInt8) (acc:List Rec),(∀r∈l,r.recs.length≤60)→(ansF name acc l).length≤acc.length+61*l.length
 |[],name,acc,_=>by simp[ansF]
 |r::rs,name,acc,h=>by have h1:=um name r (h r (.head _));have:=As1 rs r.target (acc++N7 name r) fun x hx=>h x (.tail _ hx);rw[B0] at this;simp only[ansF,Cw];omega
def Fl2 (z:Zone) (m:Msg) (l:List Res) (p3 p4 p5:PV) (h:RsOk l):Fy0.ev S 1000 [z.pv,m.pv,Ik l,p3,p4]=some (.yld 0 [B6 (ansF m.q.name [] l)]):=by
 have hl:=h.len;refine Fc l (fun i (g:List UInt8×List Rec)=>[.s g.1,.i .i64 (i:Int),B6 g.2]) (fun i g r=> .yld 0 [B6 (ansF g.1 g.2 r)]) (fun i g=>g.2.length≤61*i) (m.q.name,[]) (by simp(disch:=omega)only[EVM,EVC,EVR,Sq,Af,simprocAttr]) (Dr _) (by omega) (fun i g c r hd hi hc hI=> ?_) (fun g hI=> ?_)
 ·left;obtain⟨nm,g⟩:=g;simp only at hI;have hcm:=Cc hc;have h1:=h.recs c hcm;have a1:=Ic g c.recs (by omega);have hal:=um nm c h1;refine⟨(c.target,g++N7 nm c),?_,by simp only[B0];omega,rfl⟩;unfold N7;by_cases h2:c.kind=2
  ·simp(disch:=omega)only[M8,hc,h2,a1,EVM,EVC,EVR,Sq,Af,simprocAttr]
   try simp
  ·by_cases h3:c.kind=1
   ·simp(disch:=omega)only[M8,hc,h2,h3,a1,EVM,EVC,EVR,Sq,Af,simprocAttr]
    try simp
   ·by_cases h4:c.kind=3
    ·have h5:=h.red c hcm h4;obtain⟨r0,rr,hr⟩:=List.exists_cons_of_ne_nil h5;have hix:Hy 16 (B6 c.recs) (.i .i64 0)=some r0.pv:=by rw[K8 _ _ _ (by omega),hr];rfl
     have h8:(c.recs[0]?).map Rec.ttl=some r0.ttl:=by rw[hr];rfl
     have h9:(g++c.recs).length≤1000:=by rw[B0];omega
     by_cases h6:c.target=[]
     ·simp(disch:=omega)only[M8,hc,h2,h3,h4,h6,a1,EVM,EVC,EVR,Sq,Af,simprocAttr]
      try simp[h6]
     ·have h7:g++(c.recs++[Jm nm c])=(g++c.recs)++[Jm nm c]:=by simp
      simp only[h4,h6,if_true,if_false,h7,show¬((3:Int)=2∨(3:Int)=1) by omega];unfold Jm;rw[h8];generalize g++c.recs=gc at*;simp(disch:=omega)only[M8,hc,h4,h6,a1,hix,Dz,EVM,EVC,EVR,Sq,Af,simprocAttr]
    ·simp(disch:=omega)only[M8,hc,h2,h3,h4,EVM,EVC,EVR,Sq,Af,simprocAttr]
     try simp[h2,h3,h4]
 ·simp(disch:=omega)only[M8,EVM,EVC,EVR,Sq,Af,simprocAttr]
  try simp[Out.goes,ansF]
def Bm3 (z:Zone) (o:Msg) (last:Res):Msg:=
 if last.kind=4 then {o with auth:=last.recs,ext:=(hostsF [] last.recs).flatMap (vh z)}
 else if last.kind=5 then {o with auth:=soaR z}
 else if last.kind=6 then {o with auth:=soaR z,code:=3}
 else if last.kind=1 then {o with ext:=(hostsF [] last.recs).flatMap (Aw1 z)}
 else if last.kind=3∧last.target=[] then {o with code:=6}
 else o
def Yd (z:Zone) (m:Msg) (l:List Res) (ok:Bool):Msg:=
 match l[0]?,l.getLast? with
 |some r,some last=>
  if r.kind=0 then replyM m 5
  else if ok=false then replyM m 2
  else Bm3 z {replyM m 0 with aa:=decide (r.kind≠(4:Int)),ans:=ansF m.q.name [] l} last
 |_,_=>replyM m 0
def respondM (z:Zone) (m:Msg):Msg:=
 if m.op≠0∨m.q.typ=251∨m.q.typ=252 then replyM m 4 else Yd z m (chaseM z m.q).1 (chaseM z m.q).2
def uq (z:Zone) (t:Int):∀(k:Nat) (out:List Res) (seen:List (List UInt8)) (n:List UInt8),out≠[]→(L0 z t k out seen n).1≠[]
 |0,out,seen,n,h=>h
 |k+1,out,seen,n,h=>by
  rw[Rp];split
  ·simp
  ·split
   ·simp
   ·split
    ·simp
    ·split
     ·simp
     ·exact uq z t k _ _ _ (by simp)
def Dy7 (z:Zone) (q:Ques):(chaseM z q).1≠[]:=by
 unfold chaseM;rw[Rp];split
 ·simp
 ·split
  ·simp
  ·split
   ·simp
   ·split
    ·simp
    ·exact uq z _ _ _ _ _ (by simp)
def Xd (z:Zone) (q:Ques) (hl:z.recs.length≤60):(findM z q).recs.length≤60∧((findM z q).kind=3→(findM z q).recs≠[]):=by
 have hs:∀(l:List Rec) (t:Int),l.length≤60→(saysM l t).recs.length≤60∧(saysM l t).kind≠3:=fun l t h=>by
  unfold saysM;split
  ·simp
  ·split
   ·simp
   ·have:=Sf l t;exact⟨by simp only;omega,by simp⟩
 unfold findM;split
 ·split
  ·have:=Ig z (cutN z q.name) 2;exact⟨by simp only;omega,fun h=>by simp at h⟩
  ·unfold Ys;cases h:vz z q.name with
   |some x=>
    show x.recs.length≤60∧(x.kind=3→x.recs≠[]);unfold vz at h;cases h2:Fk3 z q.name with
    |none=>rw[h2] at h;cases h
    |some u=>
     rw[h2] at h;simp only[Cb,Bn] at h;rw[←h];unfold Tp;split<;>simp
   |none=>
    simp only;split
    ·have:=hs (allR z q.name) q.typ (by have:=Vm z q.name;omega);exact⟨this.1,fun h=>absurd h this.2⟩
    ·unfold Yx;split
     ·simp only[Dz];have:=hs ((allR z (starN (encN z q.name))).map (Uf q.name)) q.typ (by rw[E5];have:=Vm z (starN (encN z q.name));omega);exact⟨this.1,fun h=>absurd h this.2⟩
     ·simp
 ·simp
def Ar0 (z:Zone) (q:Ques) (hl:z.recs.length≤60):RsOk (chaseM z q).1:=by
 refine⟨by simpa [chaseM] using cj z q.typ 9 [] [q.name] q.name,?_,?_⟩
 ·exact O3 (fun r=>r.recs.length≤60) z q.typ (fun n=>(Xd z ⟨n,q.typ⟩ hl).1) 9 [] [q.name] q.name (by simp)
 ·exact O3 (fun r=>r.kind=3→r.recs≠[]) z q.typ (fun n=>(Xd z ⟨n,q.typ⟩ hl).2) 9 [] [q.name] q.name (by simp)
def En7 (z:Zone) (q:Ques) (hz:z.wf) (hq:q.name.length≤9223372036854775807):∀r∈(findM z q).recs,r.wf:=by
 have hs:∀(l:List Rec) (t:Int),(∀r∈l,r.wf)→∀r∈(saysM l t).recs,r.wf:=fun l t h r hr=>by
  unfold saysM at hr;cases ha:Fb9 l t with
  |some c=>
   rw[ha] at hr;unfold Fb9 at ha;split at ha
   ·cases ha
   ·simp only[Dk] at hr;rw[hr];exact h c (Px ha)
  |none=>
   rw[ha] at hr;simp only at hr;split at hr
   ·cases hr
   ·simp only at hr;unfold typedR at hr;split at hr
    ·exact h r hr
    ·exact h r (C0.1 hr).1
 have hal:∀n,∀r∈allR z n,r.wf:=fun n r hr=>hz.recs.2 r (C0.1 hr).1;intro r hr;unfold findM at hr;split at hr
 ·split at hr
  ·exact Rb hz hr
  ·unfold Ys at hr;cases h:vz z q.name with
   |some x=>
    rw[h] at hr;simp only at hr;unfold vz at h;cases h2:Fk3 z q.name with
    |none=>rw[h2] at h;cases h
    |some u=>
     rw[h2] at h;simp only[Cb,Bn] at h;rw[←h] at hr;unfold Tp at hr;split at hr
     ·rename_i r0 rest hf;simp only[Dk] at hr;rw[hr];exact Rb hz (n:=u) (t:=39) (by rw[hf];exact .head _)
     ·cases hr
   |none=>
    rw[h] at hr;simp only at hr;split at hr
    ·exact hs _ _ (hal _) r hr
    ·unfold Yx at hr;split at hr
     ·simp only[Dz] at hr;refine hs _ _ (fun x hx=> ?_) r hr;obtain⟨y,hy,rfl⟩:=E2.1 hx;have hy:=hal _ y hy;exact⟨hq,hy.typ,hy.ttl,hy.data⟩
     ·cases hr
 ·cases hr
def uk (z:Zone) (t:Int) (hz:z.wf):∀(k:Nat) (out:List Res) (seen:List (List UInt8)) (n:List UInt8),n.length≤9223372036854775807→(∀r∈out,∀x∈r.recs,x.wf)→∀r∈(L0 z t k out seen n).1,∀x∈r.recs,x.wf
 |0,out,seen,n,_,ho=>ho
 |k+1,out,seen,n,hn,ho=>by
  have ho':∀r∈out++[findM z ⟨n,t⟩],∀x∈r.recs,x.wf:=fun r hr=>by
   rcases C4.1 hr with hr|hr
   ·exact ho r hr
   ·rw[Dk.1 hr];exact En7 z ⟨n,t⟩ hz hn
  rw[Rp];split
  ·exact ho'
  ·split
   ·exact ho'
   ·split
    ·exact ho'
    ·split
     ·exact ho'
     ·exact uk z t hz k _ _ _ (Pm z ⟨n,t⟩ hz) ho'
def uj (z:Zone) (q:Ques) (hz:z.wf) (hq:q.name.length≤9223372036854775807):∀r∈(chaseM z q).1,∀x∈r.recs,x.wf:=uk z q.typ hz 9 [] [q.name] q.name hq (by simp)
def Ez4 (z:Zone):(soaR z).length≤1:=by unfold soaR;split<;>simp
def Eh9 (l:List Res) (h:l≠[]) (hl:l.length≤9):Hy 5 (Ik l) (.i .i64 ((l.length:Int) - 1))=(l.getLast?).map Res.pv:=by have hp:=Cr.2 h;rw[gf _ _ _ (by omega),show ((l.length:Int) - 1).toNat=l.length - 1 by omega,List.getLast?_eq_getElem?]
end Go.X.G
/- Negative responses, in plain words. -/
namespace Go.X.G
open Go Go.X
structure NegOk (z:Zone) (x:Msg):Prop where
 nx:x.code=3→x.aa=true∧x.ext=[]∧x.auth=soaR z
 aa:x.code=0→x.ans=[]→x.aa=true→x.auth=soaR z∧x.ext=[]
 ref:x.code=0→x.ans=[]→x.aa=false→∃r l,x.auth=r::l∧r.typ=2
end Go.X.G
/- The law LookupResponds. -/
namespace Go.X.G
open Go Go.X
def Zh (z:Zone) (m:Msg) (hz:z.wf) (hl:z.recs.length≤60) (hq:m.q.name.length≤9223372036854775807):S Bc9 2 [z.pv,m.pv]=some [(respondM z m).pv]:=by
 refine Ig1 (N:=1000) rfl ?_;have k1:=Cq8 m;unfold respondM;by_cases h1:m.op=0
 ·by_cases h2:m.q.typ=251
  ·rw[if_pos (.inr (.inl h2))];have k1:=k1 4;generalize replyM m 4=o at*;simp(disch:=omega)only[M8,h1,h2,k1,EVM,EVC,EVR,Sq,Af,simprocAttr]
  ·by_cases h3:m.q.typ=252
   ·rw[if_pos (.inr (.inr h3))];have k1:=k1 4;generalize replyM m 4=o at*;simp(disch:=omega)only[M8,h1,h3,k1,EVM,EVC,EVR,Sq,Af,simprocAttr]
   ·rw[if_neg (by simp[h1,h2,h3])];have k2:=Er7 z m.q hz (by omega) hq;have hrs:=Ar0 z m.q hl;have hwf:=uj z m.q hz hq;have hne:=Dy7 z m.q;generalize chaseM z m.q=cm at*;obtain⟨l,ok⟩:=cm;simp only at k2 hrs hwf hne ⊢;have hlen:=hrs.len;obtain⟨r,rest,hr⟩:=List.exists_cons_of_ne_nil hne;have hr0:l[0]? =some r:=by rw[hr];rfl
    obtain⟨last,hla⟩:∃x,l.getLast? =some x:=⟨_,List.getLast?_eq_some_getLast hne⟩;have hlm:last∈l:=List.mem_of_getLast? hla;have hli:=Eh9 l hne hlen;rw[hla,Cb] at hli;have hi0:Hy 5 (Ik l) (.i .i64 0)=some r.pv:=by rw[gf _ _ _ (by omega)];simp[hr0]
    unfold Yd;rw[hr0,hla];simp only;by_cases h4:r.kind=0
    ·rw[if_pos h4];have k1:=k1 5;generalize replyM m 5=o at*;simp(disch:=omega)only[M8,h1,h2,h3,k1,k2,hi0,h4,EVM,EVC,EVR,Sq,Af,simprocAttr]
    ·rw[if_neg h4];cases ok with
     |false=>
      rw[if_pos rfl];have k1:=k1 2;generalize replyM m 2=o at*;simp(disch:=omega)only[M8,h1,h2,h3,k1,k2,hi0,h4,EVM,EVC,EVR,Sq,Af,simprocAttr]
     |true=>
      rw[if_neg (by simp)];have k1:=k1 0;have k3:=fun p3 p4=>Fl2 z m l p3 p4 .u hrs;have k4:=Dq3 last.recs (by have:=hrs.recs last hlm;omega);have hhl:=Or last.recs [];have hhw:=Pl last.recs [] (hwf last hlm) (by simp);have hrl:=hrs.recs last hlm;rw[Cl] at hhl;have k5:=Dn2 z (hostsF [] last.recs) hz hl (by omega) hhw;have k6:=jr z (hostsF [] last.recs) hl (by omega);have k7:=Gy0 z (by omega);unfold Bm3;generalize replyM m 0=o at*;generalize ansF m.q.name [] l=an at*;generalize (hostsF [] last.recs).flatMap (vh z)=gl at*;generalize (hostsF [] last.recs).flatMap (Aw1 z)=ad at*;generalize hostsF [] last.recs=ho at*;generalize soaR z=so at*;by_cases e4:last.kind=4
      ·simp only[e4,if_true];simp(disch:=omega)only[M8,h1,h2,h3,k1,k2,k3,k4,k5,hi0,hli,h4,e4,EVM,EVC,EVR,Sq,Af,simprocAttr]
      ·by_cases e5:last.kind=5
       ·simp only[e5,if_true,show¬(5:Int)=4 by omega,if_false];simp(disch:=omega)only[M8,h1,h2,h3,k1,k2,k3,k7,hi0,hli,h4,e5,EVM,EVC,EVR,Sq,Af,simprocAttr]
       ·by_cases e6:last.kind=6
        ·simp only[e6,if_true,show¬(6:Int)=4 by omega,show¬(6:Int)=5 by omega,if_false];simp(disch:=omega)only[M8,h1,h2,h3,k1,k2,k3,k7,hi0,hli,h4,e6,EVM,EVC,EVR,Sq,Af,simprocAttr]
        ·by_cases e1:last.kind=1
         ·simp only[e1,if_true,show¬(1:Int)=4 by omega,show¬(1:Int)=5 by omega,show¬(1:Int)=6 by omega,if_false];simp(disch:=omega)only[M8,h1,h2,h3,k1,k2,k3,k4,k6,hi0,hli,h4,e1,EVM,EVC,EVR,Sq,Af,simprocAttr]
         ·by_cases e3:last.kind=3
          ·by_cases et:last.target=[]
           ·simp only[e3,et,if_true,show¬(3:Int)=4 by omega,show¬(3:Int)=5 by omega,show¬(3:Int)=6 by omega,show¬(3:Int)=1 by omega,if_false,and_self];simp(disch:=omega)only[M8,h1,h2,h3,k1,k2,k3,hi0,hli,h4,e3,et,EVM,EVC,EVR,Sq,Af,simprocAttr]
           ·simp only[e3,et,show¬(3:Int)=4 by omega,show¬(3:Int)=5 by omega,show¬(3:Int)=6 by omega,show¬(3:Int)=1 by omega,if_false,and_false];simp(disch:=omega)only[M8,h1,h2,h3,k1,k2,k3,hi0,hli,h4,e3,et,EVM,EVC,EVR,Sq,Af,simprocAttr]
          ·simp only[e1,e3,e4,e5,e6,if_false,false_and];simp(disch:=omega)only[M8,h1,h2,h3,k1,k2,k3,hi0,hli,h4,e1,e3,e4,e5,e6,EVM,EVC,EVR,Sq,Af,simprocAttr]
 ·rw[if_pos (.inl h1)];have k1:=k1 4;generalize replyM m 4=o at*;simp(disch:=omega)only[M8,h1,k1,EVM,EVC,EVR,Sq,Af,simprocAttr]
end Go.X.G
/- The law LookupResponds: the row's own part. -/
namespace Go.X.G
open Go Go.X
def ij (f:List UInt8→List Rec) (k:Nat) (h:∀x,(f x).length≤k):∀l:List (List UInt8),(l.flatMap f).length≤k*l.length
 |[]=>by simp
 |x::r=>by have h1:=ij f k h r;have h2:=h x;rw[Hk,B0,Cw,Nat.mul_add];omega
end Go.X.G
/- The response of a zone is of the kind that belongs to what the zone says; the law TrustServer. -/
namespace Go.X.G
open Go Go.X
def Dh5:∀(l:List Res) (name:List UInt8) (acc:List Rec),Hv name→(∀r∈l,(∀x∈r.recs,x.wf)∧Hv r.target)→(∀x∈acc,x.wf)→∀x∈ansF name acc l,x.wf
 |[],_,_,_,_,ha=>ha
 |r::l,name,acc,hn,hr,ha=>by
  refine Dh5 l r.target _ (hr r (.head _)).2 (fun y hy=>hr y (.tail _ hy)) fun x hx=> ?_;rcases C4.1 hx with hx|hx
  ·exact ha x hx
  ·obtain⟨h1,h2⟩:=hr r (.head _);have hc:(Jm name r).wf:=by
    refine⟨hn,by unfold Jm Im;simp,?_,⟨by unfold Jm Ff0;simp,by unfold Jm Ff0;simp,h2,by unfold Jm Hv;simp,by unfold Jm Hv;simp,by unfold Jm Im;simp,by unfold Jm Im;simp,by unfold Jm Im;simp,by unfold Jm Im;simp,by unfold Jm Im;simp,by unfold Jm Im;simp,by unfold Jm Ff0;simp⟩⟩;show Im (((r.recs[0]?).map Rec.ttl).getD 0);cases h:r.recs[0]? with
    |none=>unfold Im;simp
    |some y=>exact(h1 y (Cc h)).ttl
   unfold N7 at hx;split at hx
   ·exact h1 x hx
   ·split at hx
    ·split at hx
     ·exact h1 x hx
     ·rcases C4.1 hx with hx|hx
      ·exact h1 x hx
      ·rw[Dk.1 hx];exact hc
    ·cases hx
def Qr {l:List Rec} (n:Nat) (hl:l.length≤n) (hn:n≤1000000) (h:∀x∈l,x.wf):Qs l:=⟨by omega,h⟩
def nc {m:Msg} {c:Int} (hi:Im m.id) (ho:Im m.op) (hq:m.q.wf) (hc:Im c):(replyM m c).wf:=
 ⟨hi,ho,hc,by unfold replyM Im;simp only;split<;>omega,hq,⟨by simp[replyM],fun x hx=>by simp[replyM] at hx⟩,⟨by simp[replyM],fun x hx=>by simp[replyM] at hx⟩,⟨by simp[replyM],fun x hx=>by simp[replyM] at hx⟩⟩
def Pf (z:Zone) (m:Msg) (hz:z.wf) (hl:z.recs.length≤60) (hi:Im m.id) (ho:Im m.op) (hq:m.q.wf):MOk (respondM z m):=by
 have bad:∀c:Int,Im c→MOk (replyM m c):=fun c hc=>⟨nc hi ho hq hc,by simp[replyM],by simp[replyM],by simp[replyM]⟩;have i0:Im 0:=by unfold Im;simp
 have hqn:m.q.name.length≤9223372036854775807:=hq.name;unfold respondM;split
 ·exact bad 4 (by unfold Im;simp)
 ·have hrs:=Ar0 z m.q hl;have hcw:=uj z m.q hz hqn;have hct:∀r∈(chaseM z m.q).1,r.target.length≤9223372036854775807:=O3 (fun r=>r.target.length≤9223372036854775807) z m.q.typ (fun n=>Pm z ⟨n,m.q.typ⟩ hz) 9 [] [m.q.name] m.q.name (by simp);generalize (chaseM z m.q).1=l at*;generalize (chaseM z m.q).2=ok at*;unfold Yd;split
  ·rename_i r last h0 h1;split
   ·exact bad 5 (by unfold Im;simp)
   ·split
    ·exact bad 2 (by unfold Im;simp)
    ·have ha:=As1 l m.q.name [] hrs.recs;have haw:=Dh5 l m.q.name [] hqn (fun r hr=>⟨hcw r hr,hct r hr⟩) (by simp);have hn:=hrs.len;have hlm:=List.mem_of_getLast? h1;have hlr:=hrs.recs last hlm;have hlw:=hcw last hlm;have hh:=Or last.recs [];have hs:=Ez4 z;have hsw:∀x∈soaR z,x.wf:=fun x hx=>by
      unfold soaR at hx;cases e:findR z.recs z.origin 6 with
      |nil=>rw[e] at hx;cases hx
      |cons t rest=>
       rw[e] at hx;have hx:=Dk.1 hx;have hsf:=Rb hz (show t∈findR z.recs z.origin 6 by rw[e];exact .head _);rw[hx];exact⟨hsf.name,hsf.typ,by simp only;split<;>first|exact hsf.ttl|exact hsf.data.e,hsf.data⟩
     have haa:∀h,∀x∈Aw1 z h,x.wf:=fun h x hx=>by rcases C4.1 hx with hx|hx<;>exact Rb hz hx
     have hgg:∀h,∀x∈vh z h,x.wf:=fun h x hx=>by
      unfold vh at hx;split at hx
      ·cases hx
      ·exact haa h x hx
     have hgw:∀x∈(hostsF [] last.recs).flatMap (vh z),x.wf:=fun x hx=>by obtain⟨h,_,hx⟩:=List.mem_flatMap.1 hx;exact hgg h x hx
     have hdw:∀x∈(hostsF [] last.recs).flatMap (Aw1 z),x.wf:=fun x hx=>by obtain⟨h,_,hx⟩:=List.mem_flatMap.1 hx;exact haa h x hx
     have hg:=ij (vh z) 120 (fun x=>by have:=Em5 z x;omega) (hostsF [] last.recs);have hd:=ij (Aw1 z) 120 (fun x=>by have:=As7 z x;omega) (hostsF [] last.recs);rw[Cl] at ha hh;have hw0:=nc (c:=0) hi ho hq i0;unfold Bm3;generalize ansF m.q.name [] l=an at*;generalize (hostsF [] last.recs).flatMap (vh z)=gl at*;generalize (hostsF [] last.recs).flatMap (Aw1 z)=ad at*;have han:Qs an:=Qr 100000 (by omega) (by omega) haw;have hnil:Qs []:=⟨by simp,fun x hx=>by cases hx⟩;have hau:Qs last.recs:=Qr 100000 (by omega) (by omega) hlw;have hso:Qs (soaR z):=Qr 100000 (by omega) (by omega) hsw;have hgl:Qs gl:=Qr 100000 (by omega) (by omega) hgw;have had:Qs ad:=Qr 100000 (by omega) (by omega) hdw;have ho0:Im (replyM m 0).op:=ho;split
     ·exact⟨⟨hi,ho,i0,hw0.size,hq,han,hau,hgl⟩,by simp only;omega,by simp only;omega,by simp only;omega⟩
     ·split
      ·exact⟨⟨hi,ho,i0,hw0.size,hq,han,hso,hnil⟩,by simp only;omega,by simp only;omega,by simp[replyM]⟩
      ·split
       ·exact⟨⟨hi,ho,by unfold Im;simp,hw0.size,hq,han,hso,hnil⟩,by simp only;omega,by simp only;omega,by simp[replyM]⟩
       ·split
        ·exact⟨⟨hi,ho,i0,hw0.size,hq,han,hnil,had⟩,by simp only;omega,by simp[replyM],by simp only;omega⟩
        ·split
         ·exact⟨⟨hi,ho,by unfold Im;simp,hw0.size,hq,han,hnil,hnil⟩,by simp only;omega,by simp[replyM],by simp[replyM]⟩
         ·exact⟨⟨hi,ho,i0,hw0.size,hq,han,hnil,hnil⟩,by simp only;omega,by simp[replyM],by simp[replyM]⟩
  ·exact bad 0 i0
def Ot {z:Zone} {q:Ques} (h:(findM z q).kind≠0):under q.name z.origin=true:=by
 unfold findM at h;split at h
 ·assumption
 ·exact absurd rfl h
def rh (z:Zone) (q:Ques):(Ys z q).kind≠4:=by
 unfold Ys;split
 ·rename_i x hr;unfold vz at hr;obtain⟨u,_,e⟩:=Bs.1 hr;rw[←e];unfold Tp;split<;>simp[Gb2]
 ·split
  ·show (saysM (allR z q.name) q.typ).kind≠4;rcases says_kind (allR z q.name) q.typ with k|k|k<;>rw[k.1]<;>decide
  ·unfold Yx;split
   ·show (saysM ((allR z (starN (encN z q.name))).map (Uf q.name)) q.typ).kind≠4;rcases says_kind ((allR z (starN (encN z q.name))).map (Uf q.name)) q.typ with k|k|k<;>rw[k.1]<;>decide
   ·show (6:Int)≠4;decide
def En6 {z:Zone} {q:Ques} (h:(findM z q).kind=4):∀x∈(findM z q).recs,x.name=(findM z q).owner∧under (findM z q).owner z.origin=true:=by
 unfold findM at h ⊢;split
 ·rename_i hu;rw[if_pos hu] at h;split
  ·rename_i hc;intro x hx;obtain⟨h1,h2,_⟩:=Km.1 hx;refine⟨h2,?_⟩;obtain⟨_,g2⟩:=Mp z q.name z.recs [] (.inl rfl);obtain⟨_,g3,_⟩:=g2 hc.1;rcases g3 with g3|⟨r,hr,g3,g4⟩
   ·exact absurd g3 hc.1
   ·obtain⟨_,_,g5⟩:=W7.1 g3;show under (cutN z q.name) z.origin=true;unfold cutN;rw[←g4];exact g5
  ·rename_i hc;rw[if_neg hc] at h;exact absurd h (rh z q)
 ·rename_i hu;rw[if_neg hu] at h;simp[Gb2] at h
structure KindOk (z:Zone) (q:Ques) (k:Int) (c:List UInt8×List (List UInt8)×Bool):Prop where
 ans:(findM z q).kind=1→k=1
 nodata:(findM z q).kind=5→k=4
 nx:(findM z q).kind=6→k=5
 ref:(findM z q).kind=4→k=3∧c.1=(findM z q).owner∧c.2.2=true
def t8 {z:Zone} {q:Ques} (h:(findM z q).kind≠2) (h3:(findM z q).kind≠3):(chaseM z q).1=[findM z q]∧(chaseM z q).2=true:=by
 have hb:q9 (findM z q)=false:=by unfold q9;simp[h,h3]
 unfold chaseM;rw[Rp];have hb':q9 (findM z ⟨q.name,q.typ⟩)=false:=hb;rw[if_pos hb'];exact⟨rfl,rfl⟩
def qM (q:Ques):Msg:=⟨0,0,0,false,false,false,false,false,false,false,false,0,q,[],[],[]⟩
def Gl2 {z:Zone} (ho:ZOk z):∃s,soaR z=[s]∧s.name=z.origin∧s.typ=6:=by
 obtain⟨r,e⟩:=List.length_eq_one_iff.1 ho.soa;have hm:r∈findR z.recs z.origin 6:=by rw[e];exact .head _
 obtain⟨_,h2,h3⟩:=Km.1 hm;unfold soaR;rw[e];exact⟨_,rfl,h2,h3⟩
def Dq8 (t:Int) (n:List UInt8):Ul [] t 8 n=([],n):=rfl
def El2 {m:Msg} {zone:List UInt8} (h:(m.resp && decide (m.op=0) && (decide (m.code=0)||decide (m.code=3)) && !m.tc)=true) (hh:Xq m.ans m.q.name m.q.typ=true):kindM m zone=1:=by
 have hfo:Ul m.ans m.q.typ 8 m.q.name=([],m.q.name):=by show (if Xq m.ans m.q.name m.q.typ=true then(([],m.q.name):List (List UInt8)×List UInt8) else _)=_;rw[if_pos hh]
 unfold kindM;rw[if_pos h,hfo];show (if Xq m.ans m.q.name m.q.typ=true then(1:Int) else _)=1;exact if_pos hh
def Am2 {m:Msg} {zone:List UInt8} {s:Rec} (h:(m.resp && decide (m.op=0) && (decide (m.code=0)||decide (m.code=3)) && !m.tc)=true) (ha:m.ans=[]) (hs:m.auth=[s]) (ht:s.typ=6) (hu:under m.q.name s.name=true):kindM m zone=if m.code=3 then 5 else 4:=by
 have hfir:(Lr m 6 []).isSome=true:=by
  unfold Lr;rw[hs];have:An5 m 6 [] s=true:=by unfold An5;rw[ht,hu];simp
  rw[L6 this];rfl
 unfold kindM;rw[if_pos h,ha,Dq8];show (if Xq [] m.q.name m.q.typ=true then(1:Int) else if([]:List (List UInt8))≠[] then 2 else if(Lr m 6 []).isSome=true then(if m.code=3 then 5 else 4) else _)=_;rw[if_neg (by simp[Xq]),if_neg (by simp),if_pos hfir]
def El0 {m:Msg} {zone:List UInt8} {r:Rec} {l:List Rec} (h:(m.resp && decide (m.op=0) && (decide (m.code=0)||decide (m.code=3)) && !m.tc)=true) (hc:m.code=0) (hz:zone≠[]) (ha:m.ans=[]) (hs:m.auth=r::l) (ht:∀x∈r::l,x.typ=2) (hu:under m.q.name r.name=true) (hn:r.name≠zone) (hv:under r.name zone=true):
  kindM m zone=3∧Ah1 m zone=some r:=by
 have hfir:(Lr m 6 []).isSome=false:=by unfold Lr;rw[hs,Option.isSome_eq_false_iff,Dn,ct];intro x hx;unfold An5;rw[ht x hx];simp
 have href:Ah1 m zone=some r:=by
  unfold Ah1;rw[if_neg hz];unfold Lr;rw[hs];have:An5 m 2 zone r=true:=by unfold An5;rw[ht r (.head _),hu,hv];simp[hn]
  rw[L6 this]
 refine⟨?_,href⟩;unfold kindM;rw[if_pos h,ha,Dq8];show (if Xq [] m.q.name m.q.typ=true then(1:Int) else if([]:List (List UInt8))≠[] then 2 else if(Lr m 6 []).isSome=true then(if m.code=3 then 5 else 4) else if(Ah1 m zone).isSome=true∧m.code=0 then 3 else 0)=3;rw[if_neg (by simp[Xq]),if_neg (by simp),if_neg (by rw[hfir];simp),if_pos ⟨by rw[href];rfl,hc⟩]
def Ay5 {z:Zone} {q:Ques} (ho:ZOk z) (h1:q.typ≠251) (h2:q.typ≠252):KindOk z q (kindM (insideM (respondM z (qM q)) z.origin) z.origin) (childN (insideM (respondM z (qM q)) z.origin) z.origin):=by
 have hf:=Rz z q ho;have hor:z.origin≠[]:=l6 ho.origin;have hro:=Ot (z:=z) (q:=q);have hrf:=En6 (z:=z) (q:=q);have hch:=t8 (z:=z) (q:=q);have hresp:(findM z q).kind≠2→(findM z q).kind≠3→(findM z q).kind≠0→respondM z (qM q)=Bm3 z {replyM (qM q) 0 with aa:=decide ((findM z q).kind≠(4:Int)),ans:=ansF q.name [] [findM z q]} (findM z q):=by intro k2 k3 k0;obtain⟨c1,c2⟩:=hch k2 k3;unfold respondM;rw[if_neg (by simp[qM,h1,h2])];show Yd z (qM q) (chaseM z q).1 (chaseM z q).2=_;rw[c1,c2];unfold Yd;simp only[Dc,List.getLast?_singleton];rw[if_neg k0,if_neg (by simp)];rfl
 obtain⟨s,es,sn,st⟩:=Gl2 ho;suffices H:((findM z q).kind=1→kindM (insideM (respondM z (qM q)) z.origin) z.origin=1)∧((findM z q).kind=5→kindM (insideM (respondM z (qM q)) z.origin) z.origin=4)∧((findM z q).kind=6→kindM (insideM (respondM z (qM q)) z.origin) z.origin=5)∧((findM z q).kind=4→kindM (insideM (respondM z (qM q)) z.origin) z.origin=3∧(childN (insideM (respondM z (qM q)) z.origin) z.origin).1=(findM z q).owner∧(childN (insideM (respondM z (qM q)) z.origin) z.origin).2.2=true) from⟨H.1,H.2.1,H.2.2.1,H.2.2.2⟩
 generalize findM z q=f at*;refine⟨fun hk=> ?_,fun hk=> ?_,fun hk=> ?_,fun hk=> ?_⟩
 ·rw[hresp (by omega) (by omega) (by omega)];have hu:=hro (by omega);obtain⟨r1,_,_,r2⟩:=hf.ans hk;have hne:f.recs≠[]:=r1;unfold Bm3;rw[if_neg (by omega),if_neg (by omega),if_neg (by omega),if_pos hk];have ha:ansF q.name [] [f]=f.recs:=by show []++N7 q.name f=f.recs;unfold N7;rw[if_pos (.inr hk)];rfl
  have hau:(ansF q.name [] [f]).filter (inZ z.origin)=f.recs:=by rw[ha,U3];intro x hx;unfold inZ;rw[(r2 x hx).1];exact hu
  have hh:Xq f.recs q.name q.typ=true:=by
   cases e:f.recs with
   |nil=>exact absurd e hne
   |cons x l=>
    obtain⟨a1,a2,_⟩:=r2 x (by rw[e];exact .head _);unfold Xq;rw[List.any_cons];simp only[Cj,Br,decide_eq_true_eq];exact .inl ⟨a1,a2⟩
  refine El2 rfl ?_;show Xq ((ansF q.name [] [f]).filter (inZ z.origin)) q.name q.typ=true;rw[hau];exact hh
 ·rw[hresp (by omega) (by omega) (by omega)];have hu:=hro (by omega);unfold Bm3;rw[if_neg (by omega),if_pos hk];have ha:ansF q.name [] [f]=[]:=by show []++N7 q.name f=[];unfold N7;rw[if_neg (by omega),if_neg (by omega)];rfl
  rw[Am2 (s:=s) rfl (by show (ansF q.name [] [f]).filter (inZ z.origin)=[];rw[ha];rfl) (by show (soaR z).filter (inZ z.origin)=[s];rw[es,Fv (by unfold inZ;rw[sn];exact Lf ho.origin)];rfl) st (by rw[sn];exact hu)];exact if_neg (by show¬(0:Int)=3;decide)
 ·rw[hresp (by omega) (by omega) (by omega)];have hu:=hro (by omega);unfold Bm3;rw[if_neg (by omega),if_neg (by omega),if_pos hk];have ha:ansF q.name [] [f]=[]:=by show []++N7 q.name f=[];unfold N7;rw[if_neg (by omega),if_neg (by omega)];rfl
  rw[Am2 (s:=s) rfl (by show (ansF q.name [] [f]).filter (inZ z.origin)=[];rw[ha];rfl) (by show (soaR z).filter (inZ z.origin)=[s];rw[es,Fv (by unfold inZ;rw[sn];exact Lf ho.origin)];rfl) st (by rw[sn];exact hu)];exact if_pos rfl
 ·rw[hresp (by omega) (by omega) (by omega)];have hu:=hro (by omega);obtain⟨r1,r2,r3,r4,r5⟩:=hf.ref hk;have hrf:=hrf hk;unfold Bm3;rw[if_pos hk];have ha:ansF q.name [] [f]=[]:=by show []++N7 q.name f=[];unfold N7;rw[if_neg (by omega),if_neg (by omega)];rfl
  cases e:f.recs with
  |nil=>exact absurd e r4
  |cons x l=>
   have hx:=hrf x (by rw[e];exact .head _);have hau:(f.recs).filter (inZ z.origin)=x::l:=by rw[←e,U3];intro y hy;unfold inZ;rw[(hrf y hy).1];exact(hrf y hy).2
   obtain⟨k1,k2⟩:=El0 (m:=insideM {({replyM (qM q) 0 with aa:=decide (f.kind≠(4:Int)),ans:=ansF q.name [] [f]}:Msg) with auth:=f.recs,ext:=(hostsF [] f.recs).flatMap (vh z)} z.origin) (zone:=z.origin) (r:=x) (l:=l) rfl rfl hor (by show (ansF q.name [] [f]).filter (inZ z.origin)=[];rw[ha];rfl) hau (fun y hy=>r5 y (by rw[e];exact hy)) (by rw[hx.1];exact r1) (by rw[hx.1];exact r2) (by rw[hx.1];exact hx.2);rw[e] at k1 k2;refine⟨k1,?_,?_⟩
   ·unfold childN;rw[if_pos k1,k2];exact hx.1
   ·unfold childN;rw[if_pos k1,k2]
end Go.X.G
