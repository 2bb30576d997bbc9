/- Records compacted: the library's function. -/
import Derived.Test.YtpnpdfkkjhgkfaaGreatDoorProveSigsG12
import Derived.Test.YtpnpdfkkjhgkfaaGreatDoorProveSigsG11
import Derived.Test.YtpnpdfkkjhgkfaaGreatDoorProveSigsG8
open Bool renaming eq_false_or_eq_true→Aq,and_eq_true→Ay
open Int renaming toNat_natCast→Es,lt_irrefl→Ey3
open List renaming getElem?_eq_getElem→Az,length_append→Ab,append_assoc→Am,mem_cons→An,mem_of_getElem?→Ar,length_take→As,length_cons→A5,getElem?_drop→A7,length_nil→Bz,getElem?_map→Bc,mem_singleton→Bl,length_drop→Bn,take_append_drop→Bs,mem_append→B4,nil_append→Cj,take_add_one→Ck,drop_drop→Cm,take_length→Dv,append_nil→Dw,length_map→Dr,filter_cons_of_pos→D6,flatMap_cons→D9,getElem_mem→Ep,length_filter_le→Ft,getLast?_eq_getElem?→Hq,getLast_eq_getElem→Is,drop_set_of_lt→Qx,filter_cons_of_neg→Q3,getElem?_set_self→Vt,getElem_take→lr,mem_of_getLast?→Ax2,foldl_cons→Fb0
open Nat renaming le_refl→Af,mul_le_mul_right→Bj,zero_le→B9,le_trans→Cl,add_zero→C9
open Option renaming bind_some→Ax,map_some→A4
set_option maxHeartbeats 1000000
set_option linter.defProp false
set_option linter.unusedVariables false
set_option linter.unusedSimpArgs false
namespace Go.X.G
open Go Go.X
def ln (l:List Rec) (g:Nat) (caps:List PV) (eq2:Rec→Rec→Bool) (h:∀x∈l,∀y∈l,S g 2 (x.pv::y.pv::caps)=some [.b (eq2 x y)]) (hl:l.length≤1000000):S Bq7 1048578 [Ag l, .f g caps]=some [Ag (cpt eq2 l)]:=by
 refine Gk6 (N:=l.length+2) rfl ?_;by_cases h2:(l.length:Int)<2
 ·have e:cpt eq2 l=l:=by
   match l,h2 with
   |[],_=>rfl
   |[x],_=>rfl
   |_::_::_,h=>simp at h;omega
  rw [e];simp (disch:=omega) only [V7,h2,EVT,EVM,EVC,xe,EVP,EV,simprocAttr]
 ·-- the inner F7, from a place where two neighbours are equal
  have inner:∀k:Nat,1≤k→k<l.length→cpt eq2 (l.take (k+1))=l.take k→∃s:List Rec,s.length=l.length∧s.take (cpt eq2 l).length=cpt eq2 l∧Dw5.ev S (l.length+2) [Ag l, .f g caps, .i .i64 (k:Int),Ag l, .b true]=some (.yld 2 [.i .i64 ((cpt eq2 l).length:Int),Ag s]):=by
   intro k hk1 hk hcp;have key:=Gt (fn:=S) (N:=l.length+2) (η:=[Ag l, .f g caps, .i .i64 (k:Int),Ag l, .b true]) (id:=3) (init:=[(.v 2),(.c (.i .i64 (1))),(.v 3)]) (body:=Bm3) (α:=Nat×Nat×List Rec)
    (fun a=>[.i .i64 (a.1:Int), .i .i64 (a.2.1:Int),Ag a.2.2])
    (fun o=>∃s:List Rec,s.length=l.length∧s.take (cpt eq2 l).length=cpt eq2 l∧o= .yld 2 [.i .i64 ((cpt eq2 l).length:Int),Ag s])
    (fun a=>1≤a.2.1∧k+a.2.1≤l.length∧a.1<k+a.2.1∧a.2.2.length=l.length∧a.2.2.take a.1=cpt eq2 (l.take (k+a.2.1))∧(cpt eq2 (l.take (k+a.2.1))).length=a.1∧a.2.2.drop (k+a.2.1 - 1)=l.drop (k+a.2.1 - 1))
    (fun a=>l.length - a.2.1) (k,1,l) (by simp (disch:=omega) only [EVT,EVM,EVC,xe,EVP,EV,simprocAttr])
    ⟨by simp,by simp;omega,by simp,rfl,by simp only;rw [hcp],by simp only;rw [hcp,As];omega,rfl⟩ (by simp only;omega) ?_
   ·obtain ⟨o,h3,s,h4,h5,rfl⟩:=key;exact ⟨s,h4,h5,h3⟩
   ·rintro ⟨i,j,s⟩ ⟨a1,a2,a3,a4,a5,a6,a7⟩;simp only at a1 a2 a3 a4 a5 a6 a7;by_cases hj:k+j<l.length
    ·left;have c1:s[k+j]? =l[k+j]? :=by have:=congrArg (fun q=>q[1]?) a7;simp only [A7] at this;rwa [show k+j - 1+1=k+j by omega] at this
     have c0:s[k+j - 1]? =l[k+j - 1]? :=by have:=congrArg (fun q=>q[0]?) a7;simpa only [A7,C9] using this
     have g1:l[k+j]? =some (l[k+j]'hj):=Az hj;have g0:l[k+j - 1]? =some (l[k+j - 1]'(by omega)):=Az (by omega);have tk:l.take (k+(j+1))=l.take (k+j)++[l[k+j]'hj]:=by rw [show k+(j+1)=(k+j)+1 by omega,Ck,g1];rfl
     have ne:l.take (k+j)≠[]:=by intro h;have:=congrArg List.length h;rw [As,Bz] at this;omega
     have gl:(l.take (k+j)).getLast ne=l[k+j - 1]'(by omega):=by rw [Is];simp only [lr,As];congr 1;omega
     have cs:=Lr eq2 (l[k+j]'hj) (l.take (k+j)) ne;rw [←tk,gl] at cs;have hc:=h (l[k+j]'hj) (Ep _) (l[k+j - 1]'(by omega)) (Ep _);generalize l[k+j]'hj=x at*;generalize l[k+j - 1]'(by omega)=y at*;have hjj:(j:Int)<(s.length:Int) - (k:Int):=by omega
     have i1:Ht 16 (Ag s) (.i .i64 ((k:Int)+(j:Int)))=some x.pv:=by rw [Ns _ _ _ (by omega),show ((k:Int)+(j:Int)).toNat=k+j by omega,c1,g1];rfl
     have i0:Ht 16 (Ag s) (.i .i64 ((k:Int)+((j:Int) - 1)))=some y.pv:=by rw [Ns _ _ _ (by omega),show ((k:Int)+((j:Int) - 1)).toNat=k+j - 1 by omega,c0,g0];rfl
     have ls:G4 16 (Ag s) (.i .i64 (k:Int)) (.i .i64 (s.length:Int))=some (Ag (s.drop k)):=by rw [H6 _ _ _ _ _ (by omega) (by omega) (by omega)];simp
     have e1:(s.drop k)[j]? =some x:=by rw [A7,c1,g1]
     have e0:(s.drop k)[j - 1]? =some y:=by rw [A7,show k+(j - 1)=k+j - 1 by omega,c0,g0]
     have si:∃w,s[i]? =some w:=⟨_,Az (by omega)⟩;obtain ⟨w,si⟩:=si;have ej:((j:Int) - 1).toNat=j - 1:=by omega
     by_cases hxy:eq2 x y=true
     ·refine ⟨(i,j+1,s),?_,⟨by simp,by simp only;omega,by simp only;omega,a4,?_,?_,?_⟩,by simp only;omega⟩
      ·simp (disch:=omega) only [V7,hjj,i1,i0,ls,e1,e0,ej,hc,hxy,EVT,EVM,EVC,xe,EVP,EV,simprocAttr]
      ·simp only;rw [cs,a5];simp [hxy]
      ·simp only;rw [cs,Ab,a6];simp [hxy]
      ·simp only;rw [show k+(j+1) - 1=(k+j - 1)+1 by omega,←Cm,←Cm,a7]
     ·refine ⟨(i+1,j+1,s.set i x),?_,⟨by simp,by simp only;omega,by simp only;omega,by simpa using a4,?_,?_,?_⟩,by simp only;omega⟩
      ·simp (disch:=omega) only [V7,hjj,i1,i0,ls,e1,e0,ej,si,hc,hxy,EVT,EVM,EVC,xe,EVP,EV,simprocAttr]
      ·simp only;rw [cs,Ck,Vt (by omega),List.take_set_of_le (by omega),a5];simp [hxy]
      ·simp only;rw [cs,Ab,a6];simp [hxy]
      ·simp only;rw [show k+(j+1) - 1=(k+j - 1)+1 by omega,Qx (by omega),←Cm,←Cm,a7]
    ·right;have ek:k+j=l.length:=by omega
     rw [ek,Dv] at a5 a6;have hjj:¬(j:Int)<(s.length:Int) - (k:Int):=by omega
     refine ⟨.yld 2 [.i .i64 (i:Int),Ag s],?_,rfl,s,a4,by rw [a6];exact a5,by rw [a6]⟩;simp (disch:=omega) only [V7,hjj,EVT,EVM,EVC,xe,EVP,EV,simprocAttr]
  have key:Dy7.ev S (l.length+2) [Ag l, .f g caps]=some (if cpt eq2 l=l then .yld 0 [Ag l] else .ret [Ag (cpt eq2 l)]):=by
   have:=Gt (fn:=S) (N:=l.length+2) (η:=[Ag l, .f g caps]) (id:=1) (init:=[(.c (.i .i64 (1))),(.v 0)]) (body:=Bn2) (α:=Nat)
    (fun k=>[.i .i64 (k:Int),Ag l]) (fun o=>o=if cpt eq2 l=l then .yld 0 [Ag l] else .ret [Ag (cpt eq2 l)])
    (fun k=>1≤k∧k≤l.length∧cpt eq2 (l.take k)=l.take k) (fun k=>l.length - k) 1 (by simp (disch:=omega) only [EVT,EVM,EVC,xe,EVP,EV,simprocAttr])
    ⟨Af 1,by omega,by cases l with
     |nil=>simp at h2
     |cons x r=>rfl⟩ (by omega) ?_
   ·obtain ⟨o,h3,h4⟩:=this;rw [←h4];exact h3
   ·rintro k ⟨k1,k2,k3⟩;by_cases hk:k<l.length
    ·have g1:l[k]? =some l[k]:=Az hk;have g0:l[k - 1]? =some (l[k - 1]'(by omega)):=Az (by omega);have tk:l.take (k+1)=l.take k++[l[k]]:=by rw [Ck,g1];rfl
     have ne:l.take k≠[]:=by intro h;have:=congrArg List.length h;rw [As,Bz] at this;omega
     have gl:(l.take k).getLast ne=l[k - 1]'(by omega):=by rw [Is];simp only [lr,As];congr 1;omega
     have cs:=Lr eq2 l[k] (l.take k) ne;rw [←tk,gl,k3] at cs;have hkk:(k:Int)<(l.length:Int):=by omega
     have i1:Ht 16 (Ag l) (.i .i64 (k:Int))=some (l[k]).pv:=by rw [Ns _ _ _ (by omega),show ((k:Int)).toNat=k by omega,g1];rfl
     have i0:Ht 16 (Ag l) (.i .i64 ((k:Int) - 1))=some (l[k - 1]'(by omega)).pv:=by rw [Ns _ _ _ (by omega),show ((k:Int) - 1).toNat=k - 1 by omega,g0];rfl
     have hc:=h l[k] (Ep _) (l[k - 1]'(by omega)) (Ep _);by_cases hxy:eq2 l[k] (l[k - 1]'(by omega))=true
     ·right;have cs':cpt eq2 (l.take (k+1))=l.take k:=by rw [cs];simp [hxy]
      obtain ⟨s,s1,s2,s3⟩:=inner k k1 hk cs';have hlt:cpt eq2 l≠l:=by
       intro h;have q:(cpt eq2 l).length≤(cpt eq2 (l.take (k+1))).length+(l.drop (k+1)).length:=by
        have:∀(b a:List Rec),a≠[]→(cpt eq2 (a++b)).length≤(cpt eq2 a).length+b.length:=by
         intro b
         induction b with
         |nil=>intro a _;simp
         |cons x r ih=>
          intro a ha;have h1:=ih (a++[x]) (by simp);rw [Lr _ _ _ ha] at h1;rw [show a++x::r=a++[x]++r by simp];refine Cl h1 ?_;rw [Ab];split<;>simp<;>omega
        have h3:=this (l.drop (k+1)) (l.take (k+1)) (by intro h;have:=congrArg List.length h;rw [As,Bz] at this;omega);rwa [Bs] at h3
       rw [h,cs',As,Bn] at q;omega
      have hlen:=j7 eq2 l;refine ⟨.ret [Ag (cpt eq2 l)],?_,rfl,by rw [if_neg hlt]⟩;generalize cpt eq2 l=fl at*;have ls:G4 16 (Ag l) (.i .i64 (k:Int)) (.i .i64 (l.length:Int))=some (Ag (l.drop k)):=by rw [H6 _ _ _ _ _ (by omega) (by omega) (by omega)];simp
      have hsl1:G4 16 (Ag s) (.i .i64 ((fl.length:Nat):Int)) (.i .i64 (s.length:Int))=some (Ag (s.drop fl.length)):=by rw [H6 _ _ _ _ _ (by omega) (by omega) (by omega)];simp
      have hsl2:G4 16 (Ag s) (.i .i64 0) (.i .i64 ((fl.length:Nat):Int))=some (Ag fl):=by rw [H6 _ _ _ _ _ (by omega) (by omega) (by omega)];simp [s2]
      have hrep:L5 16 (.i .i64 ((s.length:Int) - (fl.length:Int))) l4=some (Ag (List.replicate (s.length - fl.length) zr)):=by rw [o3 _ (by omega) (by omega)];congr 3;omega
      have happ:Ij 16 (Ag fl) (Ag (List.replicate (s.length - fl.length) zr))=some (Ag (fl++List.replicate (s.length - fl.length) zr)):=Q0 _ _ (by simp;omega);have hsl3:G4 16 (Ag (fl++List.replicate (s.length - fl.length) zr)) (.i .i64 0) (.i .i64 ((fl.length:Nat):Int))=some (Ag fl):=by rw [H6 _ _ _ _ _ (by omega) (by omega) (by simp;omega)];simp
      simp (disch:=omega) only [V7,hkk,i1,i0,hc,hxy,ls,s3,hsl1,hsl2,hrep,happ,hsl3,EVT,EVM,EVC,xe,EVP,EV,simprocAttr]
     ·left;refine ⟨k+1,?_,⟨by omega,by omega,?_⟩,by omega⟩
      ·simp (disch:=omega) only [V7,hkk,i1,i0,hc,hxy,EVT,EVM,EVC,xe,EVP,EV,simprocAttr]
      ·rw [cs,tk];simp [hxy]
    ·right;have e:k=l.length:=by omega
     subst e;rw [Dv] at k3;refine ⟨_,?_,?_,rfl⟩
     ·rw [if_pos k3];simp (disch:=omega) only [V7,EVT,EVM,EVC,xe,EVP,EV,simprocAttr]
     ·rw [if_pos k3];rfl
  by_cases hh:cpt eq2 l=l
  ·rw [if_pos hh] at key;rw [hh];simp (disch:=omega) only [V7,h2,key,EVT,EVM,EVC,xe,EVP,EV,simprocAttr]
  ·rw [if_neg hh] at key;simp (disch:=omega) only [V7,h2,key,EVT,EVM,EVC,xe,EVP,EV,simprocAttr]
end Go.X.G
/- Lists of records in the program: which are valid, their order, their sorting. -/
namespace Go.X.G
open Go Go.X
def Dd6 (x:Int):S yy 1 [.i .i64 x]=some [.b false]:=by refine Fp4 (N:=1) rfl ?_;simp (disch:=omega) only [Fd6,EVC,xe,EVP,EV,simprocAttr]
def Br4 (a b:Int):S yl 2 [.i .i64 a, .i .i64 b]=some [.i .i64 (j9 a b)]:=by
 refine Ft5 (N:=1) rfl ?_;have h1:=Dd6 a;have h2:=Dd6 b;unfold j9;by_cases k1:a<b
 ·simp (disch:=omega) only [Df6,h1,h2,k1,EVC,xe,EVP,EV,simprocAttr]
 ·by_cases k2:b<a
  ·simp (disch:=omega) only [Df6,h1,h2,k1,k2,EVC,xe,EVP,EV,simprocAttr]
  ·simp (disch:=omega) only [Df6,h1,h2,k1,k2,EVC,xe,EVP,EV,simprocAttr]
def o7 (a b:Rec) (ha:a.wf) (hb:b.wf):S zk 2 [a.pv,b.pv]=some [.i .i64 (Qq a b)]:=by
 refine Gk4 (N:=1) rfl ?_;have g1:a.name.length≤9223372036854775807:=ha.name;have g2:b.name.length≤9223372036854775807:=hb.name;have h1:=Td a.name b.name g1 g2;have h2:=Br4 a.typ b.typ;have h3:=lh a.typ a.data b.data ha.data hb.data;unfold Qq;by_cases k1:Iv a.name b.name=0
 ·by_cases k2:j9 a.typ b.typ=0
  ·rw [k1] at h1;rw [k2] at h2;simp (disch:=omega) only [Df7,q9,Fb,h1,h2,h3,EVC,xe,EVP,EV,simprocAttr];simp [k1,k2]
  ·rw [k1] at h1;simp (disch:=omega) only [Df7,h1,h2,k2,EVC,xe,EVP,EV,simprocAttr];simp [k1,k2]
 ·simp (disch:=omega) only [Df7,h1,k1,EVC,xe,EVP,EV,simprocAttr]
def lc (a b:Rec) (ha:a.wf) (hb:b.wf):S zw 2 [a.pv,b.pv]=some [.i .i64 (Ek9 a b)]:=by
 refine Gk7 (N:=1) rfl ?_;have h1:=o7 a b ha hb;have h2:=Br4 a.ttl b.ttl;unfold Ek9;by_cases k1:Qq a b=0
 ·rw [k1] at h1;simp (disch:=omega) only [Ez3,h1,h2,EVC,xe,EVP,EV,simprocAttr];simp [k1]
 ·simp (disch:=omega) only [Ez3,h1,k1,EVC,xe,EVP,EV,simprocAttr]
def Gn8:Cmp zw [] Ek9 Rec.wf:=⟨fun x y hx hy=>lc x y hx hy⟩
def Es5:leC Ek9=leR:=rfl
def Dj5 (a b:Rec) (ha:a.wf) (hb:b.wf):S zq 2 [a.pv,b.pv]=some [.b (eqF a b)]:=by refine Gk5 (N:=1) rfl ?_;have h1:=o7 a b ha hb;simp (disch:=omega) only [Fg8,h1,EVC,xe,EVP,EV,simprocAttr]
def Dj4 (l:List Rec) (hw:∀r∈l,r.wf) (hl:l.length≤1000000):S Bv9 1 [Ag l]=some [Ag (Hr l)]:=by refine Gv8 (N:=1) rfl ?_;have h0:=d6 l hl;obtain ⟨r,h1,h2,h3⟩:=X9 Gn8 (by rw [Es5];exact Fm2) l hw hl;rw [Es5] at h1;have hm:=h1.mem Fm2;have h4:=ln r zq [] eqF (fun x hx y hy=>Dj5 x y (hw x ((hm x).1 hx)) (hw y ((hm y).1 hy))) (by omega);rw [Cc6 h1] at h4;simp (disch:=omega) only [Fh7,h0,h3,h4,Ex,L4,EVT,EVM,EVC,xe,EVP,EV,simprocAttr]
end Go.X.G
/- Sets of records: what the program's and the reference's functions give. -/
namespace Go.X
open Go
structure SetR where
 name:List UInt8
 typ:Int
 ttl:Int
 data:List Dat
 deriving DecidableEq
def Ek (l:List Dat):PV:= .l 13 (l.map Dat.pv)
def SetR.pv (x:SetR):PV:= .a [.s x.name, .i .i64 x.typ, .i .i64 x.ttl,Ek x.data]
def Dx (l:List SetR):PV:= .l 4 (l.map SetR.pv)
def Cs5:PV.l 13 []=Ek []:=rfl
def Cd2:PV.l 4 []=Dx []:=rfl
def Al9 (x:SetR):Bh 0 x.pv=some (.s x.name):=rfl
def Al8 (x:SetR):Bh 1 x.pv=some (.i .i64 x.typ):=rfl
def Al7 (x:SetR):Bh 2 x.pv=some (.i .i64 x.ttl):=rfl
def Al6 (x:SetR):Bh 3 x.pv=some (Ek x.data):=rfl
def Ds3 (x:SetR):P4 4 x.pv=some x.pv:=rfl
def Dh6 (x:SetR):Jn 0 4 x.pv=some x.pv:=rfl
def Bb9 (n:List UInt8) (t u:Int) (d:List Dat):PV.a [.s n, .i .i64 t, .i .i64 u,Ek d]=SetR.pv ⟨n,t,u,d⟩:=rfl
def Dt7 (x:SetR):(⟨x.name,x.typ,x.ttl,x.data⟩:SetR)=x:=rfl
def Dr0 (x:SetR):L6 4 [x.pv]=some (Dx [x]):=rfl
def Dr3 (x:Dat):L6 13 [x.pv]=some (Ek [x]):=rfl
def qj (l:List SetR):Gd (Dx l)=some (.i .i64 (l.length:Int)):=by simp [Dx,Gd]
def Cm6 (l:List Dat):Gd (Ek l)=some (.i .i64 (l.length:Int)):=by simp [Ek,Gd]
def Ad1 (l:List SetR):H3 (Dx l)=some (Dx l):=rfl
def Ad3 (l:List Dat):H3 (Ek l)=some (Ek l):=rfl
def qn (l:List SetR) (k:IntKind) (z:Int) (h:0≤z):Ht 4 (Dx l) (.i k z)=(l[z.toNat]?).map SetR.pv:=by simp [Dx,jj _ _ _ _ h]
def Cp0 (l:List Dat) (k:IntKind) (z:Int) (h:0≤z):Ht 13 (Ek l) (.i k z)=(l[z.toNat]?).map Dat.pv:=by simp [Ek,jj _ _ _ _ h]
def Bn7 (l:List SetR) (x:SetR) (h:l.length+1≤1073741824):Ij 4 (Dx l) (Dx [x])=some (Dx (l++[x])):=by have:=T9 4 (l.map SetR.pv) [x.pv] (by simpa using h);simpa [Dx] using this
def Bn9 (l:List Dat) (x:Dat) (h:l.length+1≤1073741824):Ij 13 (Ek l) (Ek [x])=some (Ek (l++[x])):=by have:=T9 13 (l.map Dat.pv) [x.pv] (by simpa using h);simpa [Ek] using this
def Wc {l:List SetR} {k:IntKind} {z:Int} {x y:SetR} {off:Nat} {vs:List PV} (h0:0≤z) (h3:l[z.toNat]? =some x) (h:Mf x.pv off vs=some y.pv):Kv 4 off vs (Dx l) (.i k z)=some (Dx (l.set z.toNat y)):=by
 have h4:(l.map SetR.pv)[z.toNat]? =some x.pv:=by rw [Bc,h3];rfl
 simp only [Kv,Dx,h0,h4,and_self,if_true,Ax,h,A4];simp [List.map_set]
set_option linter.defProp false in
def Ox:=(And.intro @Cs5 (And.intro @Cd2 (And.intro @Al9 (And.intro @Al8 (And.intro @Al7 (And.intro @Al6 (And.intro @Ds3 (And.intro @Dh6 (And.intro @Bb9 (And.intro @Dt7 (And.intro @Dr0 (And.intro @Dr3 (And.intro @qj (And.intro @Cm6 (And.intro @Ad1 (And.intro @Ad3 (And.intro @qn (And.intro @Cp0 (And.intro @Bn7 @Bn9)))))))))))))))))))
end Go.X
namespace Go.X.G
open Go Go.X
def addS (g:List SetR) (r:Rec):List SetR:=
 match g.getLast? with
 |some x=>if x.name=r.name∧x.typ=r.typ then g.dropLast++[⟨x.name,x.typ,if r.ttl<x.ttl then r.ttl else x.ttl,x.data++[r.data]⟩] else g++[⟨r.name,r.typ,r.ttl,[r.data]⟩]
 |none=>[⟨r.name,r.typ,r.ttl,[r.data]⟩]
def Cd3 (l:List Rec):List SetR:=l.foldl addS []
def setsR (l:List Rec):List SetR:=Cd3 (Hr l)
def Hf (g:List SetR):List Dat:=((g.getLast?).map SetR.data).getD []
def Zg {g:List SetR} {x:SetR} (h:g.getLast? =some x) (y:SetR):g.set (g.length - 1) y=g.dropLast++[y]:=by obtain ⟨a,rfl⟩:=List.getLast?_eq_some_iff.1 h;simp
def t7 (g:List SetR) (r:Rec):(addS g r).length≤g.length+1:=by
 unfold addS;split
 ·split
  ·simp
  ·simp
 ·simp
def Ac8 (x:SetR) (g:List SetR) (c:Rec) (s:List Rec) (i:Nat) (p0 p2 p3:PV) (d:List Dat) (N:Nat) (hc:s[i]? =some c) (hg:g.getLast? =some x) (hl:g.length≤1000000) (hd:d.length≤1000000) (hi:i≤1000000) (hxd:x.data=d):
  Eq5.ev S N [p0,Ag s,p2,p3, .i .i64 (i:Int),Dx g,Ek d, .i .i64 (g.length:Int)]=some (.yld 1 [Dx (g.dropLast++[⟨x.name,x.typ,if c.ttl<x.ttl then c.ttl else x.ttl,d++[c.data]⟩]),Ek (d++[c.data]), .i .i64 ((i+1:Nat):Int)]):=by
 have hpos:0<g.length:=by cases g<;>simp at hg ⊢
 have e1:((g.length:Int) - 1).toNat=g.length - 1:=by omega
 have hx:g[((g.length:Int) - 1).toNat]? =some x:=by rw [e1,←Hq];exact hg
 have hw:IntKind.i64.wrap ((g.length:Int) - 1)=(g.length:Int) - 1:=w64 (by omega) (by omega);let y:SetR:=⟨x.name,x.typ,if c.ttl<x.ttl then c.ttl else x.ttl,x.data⟩;let z:SetR:=⟨x.name,x.typ,if c.ttl<x.ttl then c.ttl else x.ttl,d++[c.data]⟩;have s1:Kv 4 2 [.i .i64 (if c.ttl<x.ttl then c.ttl else x.ttl)] (Dx g) (.i .i64 ((g.length:Int) - 1))=some (Dx (g.set (g.length - 1) y)):=by rw [←e1];exact Wc (by omega) hx rfl
 have hl2:(g.set (g.length - 1) y).length=g.length:=by simp
 have hx2:(g.set (g.length - 1) y)[((g.length:Int) - 1).toNat]? =some y:=by rw [e1,Vt (by omega)]
 have s2:Kv 4 3 [Ek (d++[c.data])] (Dx (g.set (g.length - 1) y)) (.i .i64 ((g.length:Int) - 1))=some (Dx (g.dropLast++[z])):=by rw [Wc (x:=y) (y:=z) (by omega) hx2 rfl,e1,List.set_set,Zg hg]
 have hmn:Cl8 (.i .i64 x.ttl) (.i .i64 c.ttl)=some (.i .i64 (if c.ttl<x.ttl then c.ttl else x.ttl)):=by simp [Cl8]
 have hy3:Bh 3 y.pv=some (Ek x.data):=rfl;have i1:Ht 4 (Dx (g.set (g.length - 1) y)) (.i .i64 ((g.length:Int) - 1))=some y.pv:=by rw [qn _ _ _ (by omega),hx2];rfl
 have n1:Gd (Dx (g.set (g.length - 1) y))=some (.i .i64 (g.length:Int)):=by rw [qj,hl2]
 generalize hG:Dx (g.set (g.length - 1) y)=G at*;generalize hY:y.pv=Y at*;simp (disch:=omega) only [Df2,hc,hx,hw,hmn,s1,s2,i1,n1,hy3,Ox,xe,EVP,EV,simprocAttr]
 try rfl
structure SetsIn (g:List SetR) (i:Nat):Prop where
 len:g.length≤i
 each:∀x∈g,x.data.length≤i
def Bp2 {g:List SetR} {i:Nat} (h:SetsIn g i) (c:Rec):SetsIn (addS g c) (i+1):=by
 refine ⟨Cl (t7 g c) (by have:=h.len;omega),fun x hx=> ?_⟩;unfold addS at hx;split at hx
 ·rename_i y hy;have hym:y∈g:=Ax2 hy;split at hx
  ·rcases B4.1 hx with hx|hx
   ·have:=h.each x (List.dropLast_subset _ hx);omega
   ·rw [Bl.1 hx];have:=h.each y hym;simp;omega
  ·rcases B4.1 hx with hx|hx
   ·have:=h.each x hx;omega
   ·rw [Bl.1 hx];simp
 ·rw [Bl.1 hx];simp
def Ll (g:List SetR) (c:Rec):Hf (addS g c)=match g.getLast? with
  |some x=>if x.name=c.name∧x.typ=c.typ then x.data++[c.data] else [c.data]
  |none=>[c.data]:=by
 unfold addS Hf;split
 ·split<;>simp
 ·simp
def oc:∀(l acc:List Rec),(l.foldl (fun a x=>Xb x a) acc).length≤acc.length+l.length
 |[],acc=>by simp
 |x::l,acc=>by have h1:=oc l (Xb x acc);have h2:=Xz x acc;simp only [Fb0,A5];omega
def Wy (l:List Rec):(Hr l).length≤l.length:=by simpa [Hr] using oc l []
def Dj6 (l:List Rec) (hw:∀r∈l,r.wf) (hl:l.length≤100000):S Er5 1 [Ag l]=some [Dx (setsR l)]:=by
 have hs:=Dj4 l hw (by omega);have hsl:(Hr l).length≤1000000:=by have:=Wy l;omega
 generalize hsd:Hr l=s at*;obtain ⟨N,hN⟩:∃N,N=s.length+1:=⟨_,rfl⟩;refine Gr3 (N:=N) rfl ?_;have key:Es6.ev S N [Ag l,Ag s]=some (.yld 0 [Dx (s.foldl addS []),Ek (Hf (s.foldl addS []))]):=by
  refine D5 s (fun i (g:List SetR)=>[Dx g,Ek (Hf g), .i .i64 (i:Int)]) (fun i g r=> .yld 0 [Dx (r.foldl addS g),Ek (Hf (r.foldl addS g))]) (fun i g=>SetsIn g i) [] rfl ⟨Af _,fun x hx=>by cases hx⟩ (by omega) (fun i g c r hd hi hc hI=> ?_) (fun g hI=> ?_)
  ·left;refine ⟨addS g c,?_,Bp2 hI c,rfl⟩;have hgl:=hI.len;have hilt:(i:Int)<(s.length:Int):=by omega
   cases hg:g.getLast? with
   |none=>
    have hg0:g=[]:=List.getLast?_eq_none_iff.1 hg;subst hg0;have k:=Ac8 ⟨c.name,c.typ,c.ttl,[]⟩ [⟨c.name,c.typ,c.ttl,[]⟩] c s i (Ag l) (Dx []) (Ek (Hf [])) [] N hc rfl (by simp) (by simp) (by omega) rfl;have e1:(([⟨c.name,c.typ,c.ttl,[]⟩]:List SetR).length:Int)=1:=rfl;have e2:([⟨c.name,c.typ,c.ttl,[]⟩]:List SetR).dropLast++[⟨c.name,c.typ,if c.ttl<c.ttl then c.ttl else c.ttl,[]++[c.data]⟩]=addS [] c:=by simp [addS]
    have e3:([]++[c.data]:List Dat)=Hf (addS [] c):=by simp [addS,Hf]
    rw [e1,e2,e3] at k;generalize addS [] c=G at*;simp (disch:=omega) only [Df2,hc,hilt,k,Ox,xe,EVP,EV,simprocAttr]
   |some x=>
    have hpos:0<g.length:=by cases g<;>simp at hg ⊢
    have hx:g[((g.length:Int) - 1).toNat]? =some x:=by rw [show ((g.length:Int) - 1).toNat=g.length - 1 by omega,←Hq];exact hg
    have hxm:x∈g:=Ax2 hg;have hxd:=hI.each x hxm;have hn0:¬(g.length:Int)=0:=by omega
    have hld:Hf g=x.data:=by simp [Hf,hg]
    by_cases hk:x.name=c.name∧x.typ=c.typ
    ·have k:=Ac8 x g c s i (Ag l) (Dx g) (Ek (Hf g)) x.data N hc hg (by omega) (by omega) (by omega) rfl;have e2:g.dropLast++[⟨x.name,x.typ,if c.ttl<x.ttl then c.ttl else x.ttl,x.data++[c.data]⟩]=addS g c:=by simp [addS,hg,hk]
     have e3:x.data++[c.data]=Hf (addS g c):=by rw [Ll,hg];simp [hk]
     rw [e2,e3,hld] at k;rw [hld];generalize addS g c=G at*;simp (disch:=omega) only [Df2,hc,hilt,hx,hn0,hk.1,hk.2,k,Ox,xe,EVP,EV,simprocAttr]
    ·have k:=Ac8 ⟨c.name,c.typ,c.ttl,[]⟩ (g++[⟨c.name,c.typ,c.ttl,[]⟩]) c s i (Ag l) (Dx g) (Ek (Hf g)) [] N hc (by simp) (by simp;omega) (by simp) (by omega) rfl;have e1:((g++[⟨c.name,c.typ,c.ttl,[]⟩]:List SetR).length:Int)=(g.length:Int)+1:=by simp
     have e2:(g++[⟨c.name,c.typ,c.ttl,[]⟩]:List SetR).dropLast++[⟨c.name,c.typ,if c.ttl<c.ttl then c.ttl else c.ttl,[]++[c.data]⟩]=addS g c:=by simp [addS,hg,hk]
     have e3:([]++[c.data]:List Dat)=Hf (addS g c):=by rw [Ll,hg];simp [hk]
     rw [e1,e2,e3,hld] at k;rw [hld];generalize addS g c=G at*;by_cases h1:x.name=c.name
     ·have h2:¬x.typ=c.typ:=fun h=>hk ⟨h1,h⟩;simp (disch:=omega) only [Df2,hc,hilt,hx,hn0,h1,h2,k,Ox,xe,EVP,EV,simprocAttr]
     ·simp (disch:=omega) only [Df2,hc,hilt,hx,hn0,h1,k,Ox,xe,EVP,EV,simprocAttr]
  ·simp (disch:=omega) only [Df2,Ox,xe,EVP,EV,simprocAttr];simp [Out.goes]
 simp (disch:=omega) only [Df2,hs,key,Ox,xe,EVP,EV,simprocAttr];simp [setsR,Cd3,hsd]
end Go.X.G
/- Records with names and texts of at most 300 bytes. -/
namespace Go.X.G
open Go Go.X
def c3 (s:List UInt8):List UInt8:=s.take 300
end Go.X.G
/- What the laws on lists of records call. -/
namespace Go.X.G
open Go Go.X
end Go.X.G
/- Lists side by side: slices.Concat. -/
namespace Go.X.G
open Go Go.X
end Go.X.G
/- The reference's lists of records: sets, unions, differences. -/
namespace Go.X.G
open Go Go.X
def gq (x:SetR) (g:List SetR) (c:Rec) (s:List Rec) (i:Nat) (p0 p2 p3:PV) (d:List Dat) (N:Nat) (hc:s[i]? =some c) (hg:g.getLast? =some x) (hl:g.length≤1000000) (hd:d.length≤1000000) (hi:i≤1000000) (hxd:x.data=d):
  Vg.ev S N [p0,Ag s,p2,p3, .i .i64 (i:Int),Dx g,Ek d, .i .i64 (g.length:Int)]=some (.yld 1 [Dx (g.dropLast++[⟨x.name,x.typ,if c.ttl<x.ttl then c.ttl else x.ttl,d++[c.data]⟩]),Ek (d++[c.data]), .i .i64 ((i+1:Nat):Int)]):=by
 have hpos:0<g.length:=by cases g<;>simp at hg ⊢
 have e1:((g.length:Int) - 1).toNat=g.length - 1:=by omega
 have hx:g[((g.length:Int) - 1).toNat]? =some x:=by rw [e1,←Hq];exact hg
 have hw:IntKind.i64.wrap ((g.length:Int) - 1)=(g.length:Int) - 1:=w64 (by omega) (by omega);have s2:∀u:Int,Kv 4 0 [.s x.name, .i .i64 x.typ, .i .i64 u,Ek (d++[c.data])] (Dx g) (.i .i64 ((g.length:Int) - 1))=some (Dx (g.dropLast++[⟨x.name,x.typ,u,d++[c.data]⟩])):=fun u=>by rw [Wc (x:=x) (y:=⟨x.name,x.typ,u,d++[c.data]⟩) (by omega) hx rfl,e1,Zg hg]
 by_cases ht:c.ttl<x.ttl
 ·rw [if_pos ht];simp (disch:=omega) only [Y1,hc,hx,hw,ht,s2,Ox,xe,EVP,EV,simprocAttr]
  try rfl
 ·rw [if_neg ht];simp (disch:=omega) only [Y1,hc,hx,hw,ht,s2,Ox,xe,EVP,EV,simprocAttr]
  try rfl
def Dj7 (l:List Rec) (hw:∀r∈l,r.wf) (hl:l.length≤100000):S Bw1 1 [Ag l]=some [Dx (setsR l)]:=by
 have hs:=Oq l hw (by omega);have hsl:(Hr l).length≤1000000:=by have:=Wy l;omega
 generalize hsd:Hr l=s at*;obtain ⟨N,hN⟩:∃N,N=s.length+1:=⟨_,rfl⟩;refine Gw0 (N:=N) rfl ?_;have key:Dz8.ev S N [Ag l,Ag s]=some (.yld 0 [Dx (s.foldl addS []),Ek (Hf (s.foldl addS []))]):=by
  refine D5 s (fun i (g:List SetR)=>[Dx g,Ek (Hf g), .i .i64 (i:Int)]) (fun i g r=> .yld 0 [Dx (r.foldl addS g),Ek (Hf (r.foldl addS g))]) (fun i g=>SetsIn g i) [] rfl ⟨Af _,fun x hx=>by cases hx⟩ (by omega) (fun i g c r hd hi hc hI=> ?_) (fun g hI=> ?_)
  ·left;refine ⟨addS g c,?_,Bp2 hI c,rfl⟩;have hgl:=hI.len;have hilt:(i:Int)<(s.length:Int):=by omega
   cases hg:g.getLast? with
   |none=>
    have hg0:g=[]:=List.getLast?_eq_none_iff.1 hg;subst hg0;have k:=gq ⟨c.name,c.typ,c.ttl,[]⟩ [⟨c.name,c.typ,c.ttl,[]⟩] c s i (Ag l) (Dx []) (Ek (Hf [])) [] N hc rfl (by simp) (by simp) (by omega) rfl;have e1:(([⟨c.name,c.typ,c.ttl,[]⟩]:List SetR).length:Int)=1:=rfl;have e2:([⟨c.name,c.typ,c.ttl,[]⟩]:List SetR).dropLast++[⟨c.name,c.typ,if c.ttl<c.ttl then c.ttl else c.ttl,[]++[c.data]⟩]=addS [] c:=by simp [addS]
    have e3:([]++[c.data]:List Dat)=Hf (addS [] c):=by simp [addS,Hf]
    rw [e1,e2,e3] at k;generalize addS [] c=G at*;generalize hC7:Vg=C7 at*;simp (disch:=omega) only [Y1,hC7,hc,hilt,k,Ox,xe,EVP,EV,simprocAttr]
   |some x=>
    have hpos:0<g.length:=by cases g<;>simp at hg ⊢
    have hx:g[((g.length:Int) - 1).toNat]? =some x:=by rw [show ((g.length:Int) - 1).toNat=g.length - 1 by omega,←Hq];exact hg
    have hxm:x∈g:=Ax2 hg;have hxd:=hI.each x hxm;have hn0:¬(g.length:Int)=0:=by omega
    have hld:Hf g=x.data:=by simp [Hf,hg]
    by_cases hk:x.name=c.name∧x.typ=c.typ
    ·have k:=gq x g c s i (Ag l) (Dx g) (Ek (Hf g)) x.data N hc hg (by omega) (by omega) (by omega) rfl;have e2:g.dropLast++[⟨x.name,x.typ,if c.ttl<x.ttl then c.ttl else x.ttl,x.data++[c.data]⟩]=addS g c:=by simp [addS,hg,hk]
     have e3:x.data++[c.data]=Hf (addS g c):=by rw [Ll,hg];simp [hk]
     rw [e2,e3,hld] at k;rw [hld];generalize addS g c=G at*;generalize hC7:Vg=C7 at*;simp (disch:=omega) only [Y1,hC7,hc,hilt,hx,hn0,hk.1,hk.2,k,Ox,xe,EVP,EV,simprocAttr]
    ·have k:=gq ⟨c.name,c.typ,c.ttl,[]⟩ (g++[⟨c.name,c.typ,c.ttl,[]⟩]) c s i (Ag l) (Dx g) (Ek (Hf g)) [] N hc (by simp) (by simp;omega) (by simp) (by omega) rfl;have e1:((g++[⟨c.name,c.typ,c.ttl,[]⟩]:List SetR).length:Int)=(g.length:Int)+1:=by simp
     have e2:(g++[⟨c.name,c.typ,c.ttl,[]⟩]:List SetR).dropLast++[⟨c.name,c.typ,if c.ttl<c.ttl then c.ttl else c.ttl,[]++[c.data]⟩]=addS g c:=by simp [addS,hg,hk]
     have e3:([]++[c.data]:List Dat)=Hf (addS g c):=by rw [Ll,hg];simp [hk]
     rw [e1,e2,e3,hld] at k;rw [hld];generalize addS g c=G at*;generalize hC7:Vg=C7 at*;by_cases h1:x.name=c.name
     ·have h2:¬x.typ=c.typ:=fun h=>hk ⟨h1,h⟩;simp (disch:=omega) only [Y1,hC7,hc,hilt,hx,hn0,h1,h2,k,Ox,xe,EVP,EV,simprocAttr]
     ·simp (disch:=omega) only [Y1,hC7,hc,hilt,hx,hn0,h1,k,Ox,xe,EVP,EV,simprocAttr]
  ·simp (disch:=omega) only [Y1,Ey3,Ox,xe,EVP,EV,simprocAttr];simp [Out.goes]
 simp (disch:=omega) only [Y1,hs,key,Ox,xe,EVP,EV,simprocAttr]
 try simp [setsR,Cd3,hsd]
end Go.X.G
/- prove: the signatures of the sets of a list, by the program and by the document. -/
namespace Go.X.G
open Go Go.X
def covR (z:Zone) (n:List UInt8) (t:Int):List Rec:=z.recs.filter fun r=>decide (r.name=n) && decide (r.typ=46) && decide (r.data.a=t)
def Bd7 (z:Zone) (n:List UInt8) (t:Int):(findR z.recs n 46).filter (fun r=> !decide (r.data.a≠t))=covR z n t:=by unfold findR covR;rw [List.filter_filter];refine List.filter_congr fun r _=> ?_;unfold isK;by_cases h1:r.name=n<;>by_cases h2:r.typ=46<;>by_cases h3:r.data.a=t<;>simp [h1,h2,h3]
def Qt (z:Zone) (n:List UInt8) (t:Int):(covR z n t).length≤z.recs.length:=Ft _ _
def sigsOf (z:Zone) (n:List UInt8) (t:Int):List Rec:=
 if under n z.origin=false∨exB z n=true then covR z n t
 else if Kg (P5 z n)=true then (covR z (starN (P5 z n)) t).map (Wl n) else []
def Jw (z:Zone) (n:List UInt8) (t:Int):(sigsOf z n t).length≤z.recs.length:=by
 unfold sigsOf;split
 ·exact Qt z n t
 ·split
  ·rw [Dr];exact Qt z _ t
  ·simp
def eq (z:Zone) (x:SetR):List Rec:=if x.typ=46 then [] else sigsOf z x.name x.typ
def sigsR (z:Zone) (l:List Rec):List Rec:=(setsR l).flatMap (eq z)
def Cc9 (r:Rec) (t:Int):S y9 1 [r.pv, .i .i64 t]=some [.b (decide (r.data.a≠t))]:=by refine Gj7 (N:=1) rfl ?_;by_cases h:r.data.a=t<;>simp (disch:=omega) only [Fg4,h,EVC,xe,EVP,EV,simprocAttr]<;>simp
def od (z:Zone) (n:List UInt8) (t:Int) (hl:z.recs.length≤1000):S zc 3 [z.pv, .s n, .i .i64 t]=some [Ag (covR z n t)]:=by refine Gv5 (N:=1) rfl ?_;have k1:=Bs4 z n 46 (by omega);have hl2:=Aj2 z n 46;have k2:=d6 (findR z.recs n 46) (by omega);have k3:=Av9 (findR z.recs n 46) y9 [.i .i64 t] (fun r=>decide (r.data.a≠t)) (by omega) (fun r _=>Cc9 r t);rw [Bd7] at k3;generalize findR z.recs n 46=fl at*;generalize covR z n t=cv at*;simp (disch:=omega) only [Fh5,k1,k2,k3,Ex,L4,EVC,xe,EVP,EV,simprocAttr]
def Gx2 (z:Zone) (x:SetR) (l:List Rec) (p2 p3 p4 p5 p6 p7:PV) (N:Nat) (hN:l.length<N) (hl:l.length≤1000000):
  Db0.ev S N [z.pv,x.pv,p2,p3,p4,p5,p6,p7,Ag l]=some (.yld 0 [Ag (l.map (Wl x.name))]):=by
 refine D5 l (fun i (g:List Rec)=>[Ag g, .i .i64 (i:Int)]) (fun i g r=> .yld 0 [Ag (l.map (Wl x.name))]) (fun i g=>g=(l.take i).map (Wl x.name)++l.drop i) l rfl (by simp) hN (fun i g c r hd hi hc hI=> ?_) (fun g hI=> ?_)
 ·left;obtain ⟨h1,h2,h3⟩:=o4 l x.name i c r g hd hi hc hI;refine ⟨g.set i {c with name:=x.name},?_,h3,rfl⟩;have hs:Kv 16 0 [.s x.name] (Ag g) (.i .i64 (i:Int))=some (Ag (g.set i {c with name:=x.name})):=by have:=Zf g .i64 (i:Int) x.name c (by omega) (by rw [Es];exact h1);rwa [Es] at this
  have hil:(i:Int)<(l.length:Int):=by omega
  generalize g.set i {c with name:=x.name}=g' at*;simp (disch:=omega) only [ul,h1,hs,hil,Ox,EVC,xe,EVP,EV,simprocAttr]
 ·have e:g=l.map (Wl x.name):=by rw [hI];simp
  rw [←e];simp (disch:=omega) only [ul,Ey3,Ox,EVC,xe,EVP,EV,simprocAttr]
  try simp [Out.goes]
def Gx1 (z:Zone) (x:SetR) (hz:z.wf) (hl:z.recs.length≤1000) (hn:x.name.length≤9223372036854775807):S Bw3 2 [z.pv,x.pv]=some [Ag (sigsOf z x.name x.typ)]:=by
 refine Gw2 (N:=2000) rfl ?_;have g1:=hz.origin;unfold Mc at g1;have k1:=Lk x.name z.origin hn g1;have k2:=uw z x.name hz hl;have k3:=Yh z x.name hz hl hn;have el:=rv z x.name;have k4:=Dj2 (P5 z x.name) (by omega);have k5:=od z x.name x.typ hl;have k6:=od z (starN (P5 z x.name)) x.typ hl;have cl:=Qt z (starN (P5 z x.name)) x.typ;have k7:=fun p2 p3 p4 p5 p6 p7=>Gx2 z x (covR z (starN (P5 z x.name)) x.typ) p2 p3 p4 p5 p6 p7 2000 (by omega) (by omega);unfold sigsOf;generalize covR z (starN (P5 z x.name)) x.typ=cs at*;generalize covR z x.name x.typ=cn at*;rcases Aq (under x.name z.origin) with h1|h1
 ·rcases Aq (exB z x.name) with h2|h2
  ·rw [if_pos (.inr h2)];simp (disch:=omega) only [ul,k1,k2,k5,h1,h2,Ox,EVC,xe,EVP,EV,simprocAttr]
  ·rw [if_neg (by simp [h1,h2])];generalize starN (P5 z x.name)=st at*;rcases Aq (Kg (P5 z x.name)) with h3|h3
   ·rw [if_pos h3];generalize cs.map (Wl x.name)=cm at*;simp (disch:=omega) only [ul,k1,k2,k3,k4,k6,k7,h1,h2,h3,Ox,EVC,xe,EVP,EV,simprocAttr]
   ·rw [if_neg (by simp [h3])];simp (disch:=omega) only [ul,k1,k2,k3,k4,h1,h2,h3,Ox,EVC,xe,EVP,EV,simprocAttr]
 ·rw [if_pos (.inl h1)];simp (disch:=omega) only [ul,k1,k5,h1,Ox,EVC,xe,EVP,EV,simprocAttr]
def ol:∀(l:List Rec) (g:List SetR),(l.foldl addS g).length≤g.length+l.length
 |[],_=>Af _
 |r::l,g=>by have h1:=ol l (addS g r);have h2:=t7 g r;rw [Fb0,A5];omega
def Wb (l:List Rec):(setsR l).length≤l.length:=by have h1:=ol (Hr l) [];have h2:=Wy l;unfold setsR Cd3;rw [Bz] at h1;omega
def Ew7 {P:List UInt8→Prop} {g:List SetR} {r:Rec} (hg:∀x∈g,P x.name) (hr:P r.name):∀x∈addS g r,P x.name:=by
 intro x hx;unfold addS at hx;split at hx
 ·rename_i y hy;split at hx
  ·rcases B4.1 hx with h|h
   ·exact hg x (List.dropLast_subset _ h)
   ·rw [Bl.1 h];exact hg y (Ax2 hy)
  ·rcases B4.1 hx with h|h
   ·exact hg x h
   ·rw [Bl.1 h];exact hr
 ·rw [Bl.1 hx];exact hr
def oh {P:List UInt8→Prop}:∀(l:List Rec) (g:List SetR),(∀x∈g,P x.name)→(∀r∈l,P r.name)→∀x∈l.foldl addS g,P x.name
 |[],_,hg,_=>hg
 |r::l,g,hg,hl=>oh l (addS g r) (Ew7 hg (hl r (.head _))) (fun y hy=>hl y (.tail _ hy))
def og (l:List Rec) (hw:∀r∈l,r.wf):∀x∈setsR l,x.name.length≤9223372036854775807:=
 oh (P:=fun n=>n.length≤9223372036854775807) (Hr l) [] (by simp) (fun r hr=>by have:=(hw r (((Ub l).2 r).1 hr).mem).name;unfold Mc at this;exact this)
def uv (z:Zone) (l:List Rec) (hz:z.wf) (hl:z.recs.length≤1000) (hw:∀r∈l,r.wf) (hll:l.length≤1000):S Ex3 2 [z.pv,Ag l]=some [Ag (sigsR z l)]:=by
 have k1:=Dj6 l hw (by omega);have hn:=og l hw;have hs:=Wb l;unfold sigsR;generalize setsR l=s at*;refine Gr7 (N:=s.length+1) rfl ?_;have key:Es9.ev S (s.length+1) [z.pv,Ag l,Dx s]=some (.yld 0 [Ag ([]++s.flatMap (eq z))]):=by
  refine D5 s (fun i (g:List Rec)=>[Ag g, .i .i64 (i:Int)]) (fun i g r=> .yld 0 [Ag (g++r.flatMap (eq z))]) (fun i g=>g.length≤i*1000) [] rfl (B9 _) (by omega) (fun i g c r hd hi hc hI=> ?_) (fun g hI=> ?_)
  ·left;refine ⟨g++eq z c,?_,?_,by rw [D9,Am]⟩
   ·have ko:=Gx1 z c hz hl (hn c (Ar hc));have sl:=Jw z c.name c.typ;have hil:(i:Int)<(s.length:Int):=by omega
    unfold eq;generalize sigsOf z c.name c.typ=so at*;by_cases h:c.typ=46
    ·rw [if_pos h,Dw];simp (disch:=omega) only [Fb2,hc,hil,h,Ox,EVC,xe,EVP,EV,simprocAttr]
    ·rw [if_neg h];simp (disch:=omega) only [Fb2,hc,hil,h,ko,Ox,EVC,xe,EVP,EV,simprocAttr]
   ·have sl:=Jw z c.name c.typ;unfold eq;rw [Ab];split
    ·exact Cl hI (Bj _ (Nat.le_succ i))
    ·omega
  ·simp (disch:=omega) only [Fb2,Ey3,Ox,EVC,xe,EVP,EV,simprocAttr];simp [Out.goes]
 rw [Cj] at key;generalize s.flatMap (eq z)=out at*;simp (disch:=omega) only [Fb2,k1,key,Ox,EVC,xe,EVP,EV,simprocAttr]
def N7 (z:Zone) (n:List UInt8) (t:Int) (hl:z.recs.length≤1000):S zy 3 [z.pv, .s n, .i .i64 t]=some [Ag (covR z n t)]:=by
 refine Gq2 (N:=z.recs.length+1) rfl ?_;have key:Dy9.ev S (z.recs.length+1) [z.pv, .s n, .i .i64 t]=some (.yld 0 [Ag ([]++covR z n t)]):=by
  refine D5 z.recs (fun i (g:List Rec)=>[Ag g, .i .i64 (i:Int)]) (fun i g r=> .yld 0 [Ag (g++r.filter fun r=>decide (r.name=n) && decide (r.typ=46) && decide (r.data.a=t))]) (fun i g=>g.length≤i) [] rfl (B9 _) (by omega) (fun i g c r hd hi hc hI=> ?_) (fun g hI=> ?_)
  ·left;have hil:(i:Int)<(z.recs.length:Int):=by omega
   by_cases h1:c.name=n
   ·by_cases h2:c.typ=46
    ·by_cases h3:c.data.a=t
     ·refine ⟨g++[c],?_,by simp;omega,by rw [D6 (by simp [h1,h2,h3]),Am];rfl⟩;simp (disch:=omega) only [uz,hc,hil,h1,h2,h3,EVC,xe,EVP,EV,simprocAttr]
     ·refine ⟨g,?_,by omega,by rw [Q3 (by simp [h3])]⟩;simp (disch:=omega) only [uz,hc,hil,h1,h2,h3,EVC,xe,EVP,EV,simprocAttr]
    ·refine ⟨g,?_,by omega,by rw [Q3 (by simp [h2])]⟩;simp (disch:=omega) only [uz,hc,hil,h1,h2,EVC,xe,EVP,EV,simprocAttr]
   ·refine ⟨g,?_,by omega,by rw [Q3 (by simp [h1])]⟩;simp (disch:=omega) only [uz,hc,hil,h1,EVC,xe,EVP,EV,simprocAttr]
  ·simp (disch:=omega) only [uz,Ey3,EVC,xe,EVP,EV,simprocAttr];simp [Out.goes,covR]
 rw [Cj] at key;generalize covR z n t=out at*;simp (disch:=omega) only [uz,key,EVC,xe,EVP,EV,simprocAttr]
def Cd1 (z:Zone) (n:List UInt8) (t:Int) (l:List Rec) (p3 p4 p5 p6 p7 p8:PV) (N:Nat) (hN:l.length<N) (hl:l.length≤1000000):
  Dz7.ev S N [z.pv, .s n, .i .i64 t,p3,p4,p5,p6,p7,p8,Ag l]=some (.yld 0 [Ag (l.map (Wl n))]):=by
 refine D5 l (fun i (g:List Rec)=>[Ag g, .i .i64 (i:Int)]) (fun i g r=> .yld 0 [Ag (l.map (Wl n))]) (fun i g=>g=(l.take i).map (Wl n)++l.drop i) l rfl (by simp) hN (fun i g c r hd hi hc hI=> ?_) (fun g hI=> ?_)
 ·left;obtain ⟨h1,h2,h3⟩:=o4 l n i c r g hd hi hc hI;refine ⟨g.set i {c with name:=n},?_,h3,rfl⟩;have hs:Kv 16 0 [.s n] (Ag g) (.i .i64 (i:Int))=some (Ag (g.set i {c with name:=n})):=by have:=Zf g .i64 (i:Int) n c (by omega) (by rw [Es];exact h1);rwa [Es] at this
  have hil:(i:Int)<(g.length:Int):=by omega
  generalize g.set i {c with name:=n}=g' at*;simp (disch:=omega) only [uh,h1,hs,hil,EVC,xe,EVP,EV,simprocAttr]
 ·have e:g=l.map (Wl n):=by rw [hI];simp
  have hgl:g.length=l.length:=by rw [e,Dr]
  rw [←e];have hil:¬(l.length:Int)<(g.length:Int):=by omega
  simp (disch:=omega) only [uh,hil,EVC,xe,EVP,EV,simprocAttr]
  try simp [Out.goes]
def Cd0 (z:Zone) (n:List UInt8) (t:Int) (hz:z.wf) (hl:z.recs.length≤1000) (hn:n.length≤9223372036854775807):S Bw0 3 [z.pv, .s n, .i .i64 t]=some [Ag (sigsOf z n t)]:=by
 refine Gv9 (N:=2000) rfl ?_;have g1:=hz.origin;unfold Mc at g1;have k1:=Gf n z.origin hn g1;have k2:=wq z n hz hl;have k3:=Zr z n hz hl hn;have el:=rv z n;have k4:=Dj3 (P5 z n) (by omega);have k5:=N7 z n t hl;have k6:=N7 z (starN (P5 z n)) t hl;have cl:=Qt z (starN (P5 z n)) t;have k7:=fun p3 p4 p5 p6 p7 p8=>Cd1 z n t (covR z (starN (P5 z n)) t) p3 p4 p5 p6 p7 p8 2000 (by omega) (by omega);unfold sigsOf;generalize covR z (starN (P5 z n)) t=cs at*;generalize covR z n t=cn at*;rcases Aq (exB z n) with h2|h2
 ·rw [if_pos (.inr h2)];simp (disch:=omega) only [uh,k2,k5,h2,EVC,xe,EVP,EV,simprocAttr]
 ·rcases Aq (under n z.origin) with h1|h1
  ·rw [if_neg (by simp [h1,h2])];generalize starN (P5 z n)=st at*;rcases Aq (Kg (P5 z n)) with h3|h3
   ·rw [if_pos h3];generalize cs.map (Wl n)=cm at*;simp (disch:=omega) only [uh,k1,k2,k3,k4,k6,k7,h1,h2,h3,EVC,xe,EVP,EV,simprocAttr]
   ·rw [if_neg (by simp [h3])];simp (disch:=omega) only [uh,k1,k2,k3,k4,h1,h2,h3,EVC,xe,EVP,EV,simprocAttr]
  ·rw [if_pos (.inl h1)];simp (disch:=omega) only [uh,k1,k2,k5,h1,h2,EVC,xe,EVP,EV,simprocAttr]
def Bp5 (z:Zone) (l:List Rec) (hz:z.wf) (hl:z.recs.length≤1000) (hw:∀r∈l,r.wf) (hll:l.length≤1000):S Er6 2 [z.pv,Ag l]=some [Ag (sigsR z l)]:=by
 have k1:=Dj7 l hw (by omega);have hn:=og l hw;have hs:=Wb l;unfold sigsR;generalize setsR l=s at*;refine Gr4 (N:=s.length+1) rfl ?_;have key:Es7.ev S (s.length+1) [z.pv,Ag l,Dx s]=some (.yld 0 [Ag ([]++s.flatMap (eq z))]):=by
  refine D5 s (fun i (g:List Rec)=>[Ag g, .i .i64 (i:Int)]) (fun i g r=> .yld 0 [Ag (g++r.flatMap (eq z))]) (fun i g=>g.length≤i*1000) [] rfl (B9 _) (by omega) (fun i g c r hd hi hc hI=> ?_) (fun g hI=> ?_)
  ·left;refine ⟨g++eq z c,?_,?_,by rw [D9,Am]⟩
   ·have ko:=Cd0 z c.name c.typ hz hl (hn c (Ar hc));have sl:=Jw z c.name c.typ;have hil:(i:Int)<(s.length:Int):=by omega
    unfold eq;generalize sigsOf z c.name c.typ=so at*;by_cases h:c.typ=46
    ·rw [if_pos h,Dw];simp (disch:=omega) only [Fb1,hc,hil,h,Ox,EVC,xe,EVP,EV,simprocAttr]
    ·rw [if_neg h];simp (disch:=omega) only [Fb1,hc,hil,h,ko,Ox,EVC,xe,EVP,EV,simprocAttr]
   ·have sl:=Jw z c.name c.typ;unfold eq;rw [Ab];split
    ·exact Cl hI (Bj _ (Nat.le_succ i))
    ·omega
  ·simp (disch:=omega) only [Fb1,Ey3,Ox,EVC,xe,EVP,EV,simprocAttr];simp [Out.goes]
 rw [Cj] at key;generalize s.flatMap (eq z)=out at*;simp (disch:=omega) only [Fb1,k1,key,Ox,EVC,xe,EVP,EV,simprocAttr]
def Ac6 (z:Zone) (l:List Rec) (hl:z.recs.length≤60) (hll:l.length≤60):(sigsR z l).length≤1000000:=by
 have h:∀s:List SetR,(s.flatMap (eq z)).length≤s.length*60:=fun s=>by
  induction s with
  |nil=>simp
  |cons x s ih=>
   rw [D9,Ab,A5];have:(eq z x).length≤60:=by
    unfold eq;split
    ·simp
    ·exact Cl (Jw z _ _) hl
   omega
 have h1:=h (setsR l);have h2:=Wb l;unfold sigsR;omega
def vk:Zone:=⟨[120,46],[⟨[120,46],2,9,⟨false,0,0,[110,46],[],[],0,0,0,0,0,0,0⟩⟩,
 ⟨[120,46],6,9,⟨false,0,0,[110,46],[109,46],[],3,0,0,0,5,0,0⟩⟩,
 ⟨[120,46],47,5,⟨false,0,0,[42,46,120,46],[],[],0,0,0,0,0,0,211106232533060⟩⟩,
 ⟨[42,46,120,46],1,9,⟨false,0,1,[],[],[],0,0,0,0,0,0,0⟩⟩,
 ⟨[42,46,120,46],46,9,⟨false,0,0,[120,46],[],[115],1,1,9,9,0,0,0⟩⟩,
 ⟨[42,46,120,46],47,5,⟨false,0,0,[120,46],[],[],0,0,0,0,0,0,211106232532994⟩⟩]⟩
def At2:Rec:=⟨[97,46,120,46],1,0,⟨false,0,0,[],[],[],0,0,0,0,0,0,0⟩⟩
def Dl5:Rec:=⟨[97,46,120,46],46,9,⟨false,0,0,[120,46],[],[115],1,1,9,9,0,0,0⟩⟩
def gv:S Fc0 0 []=some [vk.pv]:=(Mg ext_mono).2 ⟨3,by kernel_rfl⟩
def Cc7:vk.wf:=by refine ⟨by unfold Mc;decide,by decide,fun r hr=> ?_⟩;simp only [vk,An,List.mem_nil_iff,or_false] at hr;rcases hr with rfl|rfl|rfl|rfl|rfl|rfl<;>(constructor<;>(try constructor))<;>simp [Ex1,ez,Mc]
def Cl2:∀r∈[At2],r.wf:=by intro r hr;rw [Bl.1 hr];constructor<;>(try constructor)<;>simp [Ex1,ez,Mc,At2]
def vj:sigsR vk [At2]=[Dl5]:=by kernel_rfl
def Tr (a:List Rec) (ha:a.length≤1000000):S Er7 2 [Ag a,Ag a]=some [.b true]:=by
 refine Gr5 (N:=a.length+1) rfl ?_;have key:Es8.ev S (a.length+1) [Ag a,Ag a]=some (.yld 0 []):=by
  refine Dh a (fun i=>[.i .i64 (i:Int)]) (fun _ _=> .yld 0 []) rfl (by omega) (fun i c r hd hi hc=> ?_) ?_
  ·left;simp (disch:=omega) only [Ff5,hc,EVC,xe,EVP,EV,simprocAttr]
   try simp
  ·simp (disch:=omega) only [Ff5,EVC,xe,EVP,EV,simprocAttr];simp [Out.goes]
 simp (disch:=omega) only [Ff5,key,EVC,xe,EVP,EV,simprocAttr]
def vq (z:Zone) (hz:z.wf):S Er8 1 [z.pv]=some [.b (decide (z.recs.length≤60) && decide (Vd z=0))]:=by
 refine Gr6 (N:=1) rfl ?_;by_cases hl:z.recs.length≤60
 ·have hl':(z.recs.length:Int)≤60:=by omega
  have k:=Aw0 z hz;by_cases h:Vd z=0
  ·rw [h] at k ⊢;simp (disch:=omega) only [Ff9,k,hl',EVC,xe,EVP,EV,simprocAttr];simp [hl]
  ·simp (disch:=omega) only [Ff9,k,hl',h,EVC,xe,EVP,EV,simprocAttr];simp [h]
 ·have hl':¬(z.recs.length:Int)≤60:=by omega
  simp (disch:=omega) only [Ff9,hl',EVC,xe,EVP,EV,simprocAttr];simp [hl]
def law_ProveSigs (z:Zone) (l:List Rec) (hz:z.wf) (hr:gf l):S Er9 2 [z.pv,Ag l]=some [.b true]:=by
 have k0:=gv;have k1:=uv vk [At2] Cc7 (by decide) Cl2 (by decide);rw [vj] at k1;have k2:=vq z hz;unfold At2 at k1;have q2:([Dl5]:List Rec)[0]? =some Dl5:=rfl;have q3:Dl5.name=[97,46,120,46]:=rfl;have q4:Dl5.data.text=[115]:=rfl;have q5:(([Dl5]:List Rec).length:Int)=1:=rfl;refine Gr8 (N:=l.length+1) rfl ?_;by_cases hs:(decide (z.recs.length≤60) && decide (Vd z=0))=true
 ·rw [hs] at k2;simp only [Ay,decide_eq_true_eq] at hs;by_cases hl:l.length≤60
  ·have hl':¬(l.length:Int)>60:=by omega
   have k3:=uv z l hz (by omega) hr.2 (by omega);have k4:=Bp5 z l hz (by omega) hr.2 (by omega);have k5:=Tr (sigsR z l) (Ac6 z l hs.1 hl);generalize sigsR z l=out at*;have key:∀p2 p3 p4,∃b:Bool,Et0.ev S (l.length+1) [z.pv,Ag l,p2,p3,p4]=some (if b=true then .ret [.b true] else .yld 0 []):=fun p2 p3 p4=>by
    refine ⟨l.any fun r=>decide ((300:Int)<(r.name.length:Int)),?_⟩;refine Dh l (fun i=>[.i .i64 (i:Int)]) (fun i r=>if (r.any fun r=>decide ((300:Int)<(r.name.length:Int)))=true then .ret [.b true] else .yld 0 []) rfl (by omega) (fun i c r hd hi hc=> ?_) ?_
    ·have hil:(i:Int)<(l.length:Int):=by omega
     by_cases h:(300:Int)<(c.name.length:Int)
     ·right;simp (disch:=omega) only [Df8,hc,hil,h,EVC,xe,EVP,EV,simprocAttr];simp [h,Out.goes]
     ·left;simp (disch:=omega) only [Df8,hc,hil,h,EVC,xe,EVP,EV,simprocAttr];simp [h]
    ·simp (disch:=omega) only [Df8,Ey3,EVC,xe,EVP,EV,simprocAttr];simp [Out.goes]
   obtain ⟨b,kb⟩:=key vk.pv (Ag [Dl5]) (.b true);cases b
   ·simp (disch:=omega) only [Df8,k0,k1,k2,k3,k4,k5,kb,hl',q2,q3,q4,q5,EVC,xe,EVP,EV,simprocAttr]
   ·simp (disch:=omega) only [Df8,k0,k1,k2,kb,hl',q2,q3,q4,q5,EVC,xe,EVP,EV,simprocAttr]
  ·have hl':(l.length:Int)>60:=by omega
   simp (disch:=omega) only [Df8,k0,k1,k2,hl',q2,q3,q4,q5,EVC,xe,EVP,EV,simprocAttr]
 ·have hs':(decide (z.recs.length≤60) && decide (Vd z=0))=false:=by simpa using hs
  rw [hs'] at k2;simp (disch:=omega) only [Df8,k0,k1,k2,q2,q3,q4,q5,EVC,xe,EVP,EV,simprocAttr]
end Go.X.G
