/- Records compacted: the library's function. -/
import Derived.Test.YtfnmphjdknjkmaaGreatDoorNsecCoversG12
import Derived.Test.YtfnmphjdknjkmaaGreatDoorNsecCoversG11
import Derived.Test.YtfnmphjdknjkmaaGreatDoorNsecCoversG9
import Derived.Test.YtfnmphjdknjkmaaGreatDoorNsecCoversG8
open Bool renaming eq_false_or_eq_true→Aq,and_eq_true→Aw,false_eq_true→Ad,or_eq_true→Ap,not_eq_true'→A7,eq_iff_iff→C1,not_eq_false→Fz
open Classical renaming not_not→I7
open Int renaming toNat_natCast→Gs
open List renaming getElem?_eq_some_iff→Av,getElem?_eq_getElem→Az,length_append→Ac,mem_cons→Am,length_take→Ar,append_assoc→As,pairwise_cons→A0,length_cons→A3,getElem?_drop→A8,mem_of_getElem?→Bv,all_eq_true→Bz,length_pos_iff→Bc,length_nil→Bf,getElem?_map→Bg,mem_append_right→Bm,take_append_drop→Bt,mem_filter→B0,length_drop→B3,mem_append_left→Ck,any_eq_true→Cc,nil_append→Cg,take_add_one→Cl,drop_eq_getElem_cons→Ct,drop_drop→C2,take_length→Db,take_of_length_le→Dd,mem_map→Dr,getElem_mem→Dt,drop_zero→D2,length_map→E6,count_cons_of_ne→Fh,map_cons→Fp,length_set→F2,count_cons_self→Gv,length_filter_le→Hv,drop_append_of_le_length→Ic,getLast_eq_getElem→I4,flatMap_cons→I6,filter_cons→Kh,length_mergeSort→fh,getElem_take→oq,mem_nil_iff→Dd7,drop_set_of_lt→Fp0,map_mergeSort→Iz3,count_eq_zero→Iz4
open Nat renaming le_refl→Af,zero_le→Cz,le_trans→C4,add_zero→C8,add_sub_cancel→Vh
open Option renaming bind_some→Ay
set_option maxHeartbeats 1000000
set_option linter.unusedVariables false
set_option linter.unusedSimpArgs false
namespace Go.X.G
open Go Go.X
theorem ng (l:List Rec) (g:Nat) (caps:List PV) (eq2:Rec→Rec→Bool) (h:∀x∈l,∀y∈l,S g 2 (x.pv::y.pv::caps)=some [.b (eq2 x y)]) (hl:l.length≤1000000):S br 1048578 [Al l, .f g caps]=some [Al (cpt eq2 l)]:=by
 refine Hb1 (N:=l.length+2) rfl ?_;by_cases h2:(l.length:Int)<2
 ·have e:cpt eq2 l=l:=by
   match l,h2 with
   |[],_=>rfl
   |[x],_=>rfl
   |_::_::_,h=>simp at h;omega
  rw [e];simp (disch:=omega) only [M6,h2,EVT,EVM,EVC,xe,EVP,EV,simprocAttr]
 ·-- the inner F5, from a place where two neighbours are equal
  have inner:∀k:Nat,1≤k→k<l.length→cpt eq2 (l.take (k+1))=l.take k→∃s:List Rec,s.length=l.length∧s.take (cpt eq2 l).length=cpt eq2 l∧Bp7.ev S (l.length+2) [Al l, .f g caps, .i .i64 (k:Int),Al l, .b true]=some (.yld 2 [.i .i64 ((cpt eq2 l).length:Int),Al s]):=by
   intro k hk1 hk hcp;have key:=G1 (fn:=S) (N:=l.length+2) (η:=[Al l, .f g caps, .i .i64 (k:Int),Al l, .b true]) (id:=3) (init:=[(.v 2),(.c (.i .i64 (1))),(.v 3)]) (body:=mb) (α:=Nat×Nat×List Rec)
    (fun a=>[.i .i64 (a.1:Int), .i .i64 (a.2.1:Int),Al a.2.2])
    (fun o=>∃s:List Rec,s.length=l.length∧s.take (cpt eq2 l).length=cpt eq2 l∧o= .yld 2 [.i .i64 ((cpt eq2 l).length:Int),Al s])
    (fun a=>1≤a.2.1∧k+a.2.1≤l.length∧a.1<k+a.2.1∧a.2.2.length=l.length∧a.2.2.take a.1=cpt eq2 (l.take (k+a.2.1))∧(cpt eq2 (l.take (k+a.2.1))).length=a.1∧a.2.2.drop (k+a.2.1 - 1)=l.drop (k+a.2.1 - 1))
    (fun a=>l.length - a.2.1) (k,1,l) (by simp (disch:=omega) only [EVT,EVM,EVC,xe,EVP,EV,simprocAttr])
    ⟨by simp,by simp;omega,by simp,rfl,by simp only;rw [hcp],by simp only;rw [hcp,Ar];omega,rfl⟩ (by simp only;omega) ?_
   ·obtain ⟨o,h3,s,h4,h5,rfl⟩:=key;exact ⟨s,h4,h5,h3⟩
   ·rintro ⟨i,j,s⟩ ⟨a1,a2,a3,a4,a5,a6,a7⟩;simp only at a1 a2 a3 a4 a5 a6 a7;by_cases hj:k+j<l.length
    ·left;have c1:s[k+j]? =l[k+j]? :=by have:=congrArg (fun q=>q[1]?) a7;simp only [A8] at this;rwa [show k+j - 1+1=k+j by omega] at this
     have c0:s[k+j - 1]? =l[k+j - 1]? :=by have:=congrArg (fun q=>q[0]?) a7;simpa only [A8,C8] using this
     have g1:l[k+j]? =some (l[k+j]'hj):=Az hj;have g0:l[k+j - 1]? =some (l[k+j - 1]'(by omega)):=Az (by omega);have tk:l.take (k+(j+1))=l.take (k+j)++[l[k+j]'hj]:=by rw [show k+(j+1)=(k+j)+1 by omega,Cl,g1];rfl
     have ne:l.take (k+j)≠[]:=by intro h;have:=congrArg List.length h;rw [Ar,Bf] at this;omega
     have gl:(l.take (k+j)).getLast ne=l[k+j - 1]'(by omega):=by rw [I4];simp only [oq,Ar];congr 1;omega
     have cs:=L3 eq2 (l[k+j]'hj) (l.take (k+j)) ne;rw [←tk,gl] at cs;have hc:=h (l[k+j]'hj) (Dt _) (l[k+j - 1]'(by omega)) (Dt _);generalize l[k+j]'hj=x at*;generalize l[k+j - 1]'(by omega)=y at*;have hjj:(j:Int)<(s.length:Int) - (k:Int):=by omega
     have i1:Hf 16 (Al s) (.i .i64 ((k:Int)+(j:Int)))=some x.pv:=by rw [Nt _ _ _ (by omega),show ((k:Int)+(j:Int)).toNat=k+j by omega,c1,g1];rfl
     have i0:Hf 16 (Al s) (.i .i64 ((k:Int)+((j:Int) - 1)))=some y.pv:=by rw [Nt _ _ _ (by omega),show ((k:Int)+((j:Int) - 1)).toNat=k+j - 1 by omega,c0,g0];rfl
     have ls:H9 16 (Al s) (.i .i64 (k:Int)) (.i .i64 (s.length:Int))=some (Al (s.drop k)):=by rw [Ls _ _ _ _ _ (by omega) (by omega) (by omega)];simp
     have e1:(s.drop k)[j]? =some x:=by rw [A8,c1,g1]
     have e0:(s.drop k)[j - 1]? =some y:=by rw [A8,show k+(j - 1)=k+j - 1 by omega,c0,g0]
     have si:∃w,s[i]? =some w:=⟨_,Az (by omega)⟩;obtain ⟨w,si⟩:=si;have ej:((j:Int) - 1).toNat=j - 1:=by omega
     by_cases hxy:eq2 x y=true
     ·refine ⟨(i,j+1,s),?_,⟨by simp,by simp only;omega,by simp only;omega,a4,?_,?_,?_⟩,by simp only;omega⟩
      ·simp (disch:=omega) only [M6,hjj,i1,i0,ls,e1,e0,ej,hc,hxy,EVT,EVM,EVC,xe,EVP,EV,simprocAttr]
      ·simp only;rw [cs,a5];simp [hxy]
      ·simp only;rw [cs,Ac,a6];simp [hxy]
      ·simp only;rw [show k+(j+1) - 1=(k+j - 1)+1 by omega,←C2,←C2,a7]
     ·refine ⟨(i+1,j+1,s.set i x),?_,⟨by simp,by simp only;omega,by simp only;omega,by simpa using a4,?_,?_,?_⟩,by simp only;omega⟩
      ·simp (disch:=omega) only [M6,hjj,i1,i0,ls,e1,e0,ej,si,hc,hxy,EVT,EVM,EVC,xe,EVP,EV,simprocAttr]
      ·simp only;rw [cs,Cl,List.getElem?_set_self (by omega),List.take_set_of_le (by omega),a5];simp [hxy]
      ·simp only;rw [cs,Ac,a6];simp [hxy]
      ·simp only;rw [show k+(j+1) - 1=(k+j - 1)+1 by omega,Fp0 (by omega),←C2,←C2,a7]
    ·right;have ek:k+j=l.length:=by omega
     rw [ek,Db] at a5 a6;have hjj:¬(j:Int)<(s.length:Int) - (k:Int):=by omega
     refine ⟨.yld 2 [.i .i64 (i:Int),Al s],?_,rfl,s,a4,by rw [a6];exact a5,by rw [a6]⟩;simp (disch:=omega) only [M6,hjj,EVT,EVM,EVC,xe,EVP,EV,simprocAttr]
  have key:Bs6.ev S (l.length+2) [Al l, .f g caps]=some (if cpt eq2 l=l then .yld 0 [Al l] else .ret [Al (cpt eq2 l)]):=by
   have:=G1 (fn:=S) (N:=l.length+2) (η:=[Al l, .f g caps]) (id:=1) (init:=[(.c (.i .i64 (1))),(.v 0)]) (body:=m7) (α:=Nat)
    (fun k=>[.i .i64 (k:Int),Al l]) (fun o=>o=if cpt eq2 l=l then .yld 0 [Al l] else .ret [Al (cpt eq2 l)])
    (fun k=>1≤k∧k≤l.length∧cpt eq2 (l.take k)=l.take k) (fun k=>l.length - k) 1 (by simp (disch:=omega) only [EVT,EVM,EVC,xe,EVP,EV,simprocAttr])
    ⟨Af 1,by omega,by cases l with
     |nil=>simp at h2
     |cons x r=>rfl⟩ (by omega) ?_
   ·obtain ⟨o,h3,h4⟩:=this;rw [←h4];exact h3
   ·rintro k ⟨k1,k2,k3⟩;by_cases hk:k<l.length
    ·have g1:l[k]? =some l[k]:=Az hk;have g0:l[k - 1]? =some (l[k - 1]'(by omega)):=Az (by omega);have tk:l.take (k+1)=l.take k++[l[k]]:=by rw [Cl,g1];rfl
     have ne:l.take k≠[]:=by intro h;have:=congrArg List.length h;rw [Ar,Bf] at this;omega
     have gl:(l.take k).getLast ne=l[k - 1]'(by omega):=by rw [I4];simp only [oq,Ar];congr 1;omega
     have cs:=L3 eq2 l[k] (l.take k) ne;rw [←tk,gl,k3] at cs;have hkk:(k:Int)<(l.length:Int):=by omega
     have i1:Hf 16 (Al l) (.i .i64 (k:Int))=some (l[k]).pv:=by rw [Nt _ _ _ (by omega),show ((k:Int)).toNat=k by omega,g1];rfl
     have i0:Hf 16 (Al l) (.i .i64 ((k:Int) - 1))=some (l[k - 1]'(by omega)).pv:=by rw [Nt _ _ _ (by omega),show ((k:Int) - 1).toNat=k - 1 by omega,g0];rfl
     have hc:=h l[k] (Dt _) (l[k - 1]'(by omega)) (Dt _);by_cases hxy:eq2 l[k] (l[k - 1]'(by omega))=true
     ·right;have cs':cpt eq2 (l.take (k+1))=l.take k:=by rw [cs];simp [hxy]
      obtain ⟨s,s1,s2,s3⟩:=inner k k1 hk cs';have hlt:cpt eq2 l≠l:=by
       intro h;have q:(cpt eq2 l).length≤(cpt eq2 (l.take (k+1))).length+(l.drop (k+1)).length:=by
        have:∀(b a:List Rec),a≠[]→(cpt eq2 (a++b)).length≤(cpt eq2 a).length+b.length:=by
         intro b
         induction b with
         |nil=>intro a _;simp
         |cons x r ih=>
          intro a ha;have h1:=ih (a++[x]) (by simp);rw [L3 _ _ _ ha] at h1;rw [show a++x::r=a++[x]++r by simp];refine C4 h1 ?_;rw [Ac];split<;>simp<;>omega
        have h3:=this (l.drop (k+1)) (l.take (k+1)) (by intro h;have:=congrArg List.length h;rw [Ar,Bf] at this;omega);rwa [Bt] at h3
       rw [h,cs',Ar,B3] at q;omega
      have hlen:=Xf eq2 l;refine ⟨.ret [Al (cpt eq2 l)],?_,rfl,by rw [if_neg hlt]⟩;generalize cpt eq2 l=fl at*;have ls:H9 16 (Al l) (.i .i64 (k:Int)) (.i .i64 (l.length:Int))=some (Al (l.drop k)):=by rw [Ls _ _ _ _ _ (by omega) (by omega) (by omega)];simp
      have hsl1:H9 16 (Al s) (.i .i64 ((fl.length:Nat):Int)) (.i .i64 (s.length:Int))=some (Al (s.drop fl.length)):=by rw [Ls _ _ _ _ _ (by omega) (by omega) (by omega)];simp
      have hsl2:H9 16 (Al s) (.i .i64 0) (.i .i64 ((fl.length:Nat):Int))=some (Al fl):=by rw [Ls _ _ _ _ _ (by omega) (by omega) (by omega)];simp [s2]
      have hrep:K1 16 (.i .i64 ((s.length:Int) - (fl.length:Int))) Ap6=some (Al (List.replicate (s.length - fl.length) zr)):=by rw [Ds7 _ (by omega) (by omega)];congr 3;omega
      have happ:Ik 16 (Al fl) (Al (List.replicate (s.length - fl.length) zr))=some (Al (fl++List.replicate (s.length - fl.length) zr)):=X6 _ _ (by simp;omega);have hsl3:H9 16 (Al (fl++List.replicate (s.length - fl.length) zr)) (.i .i64 0) (.i .i64 ((fl.length:Nat):Int))=some (Al fl):=by rw [Ls _ _ _ _ _ (by omega) (by omega) (by simp;omega)];simp
      simp (disch:=omega) only [M6,hkk,i1,i0,hc,hxy,ls,s3,hsl1,hsl2,hrep,happ,hsl3,EVT,EVM,EVC,xe,EVP,EV,simprocAttr]
     ·left;refine ⟨k+1,?_,⟨by omega,by omega,?_⟩,by omega⟩
      ·simp (disch:=omega) only [M6,hkk,i1,i0,hc,hxy,EVT,EVM,EVC,xe,EVP,EV,simprocAttr]
      ·rw [cs,tk];simp [hxy]
    ·right;have e:k=l.length:=by omega
     subst e;rw [Db] at k3;refine ⟨_,?_,?_,rfl⟩
     ·rw [if_pos k3];simp (disch:=omega) only [M6,EVT,EVM,EVC,xe,EVP,EV,simprocAttr]
     ·rw [if_pos k3];rfl
  by_cases hh:cpt eq2 l=l
  ·rw [if_pos hh] at key;rw [hh];simp (disch:=omega) only [M6,h2,key,EVT,EVM,EVC,xe,EVP,EV,simprocAttr]
  ·rw [if_neg hh] at key;simp (disch:=omega) only [M6,h2,key,EVT,EVM,EVC,xe,EVP,EV,simprocAttr]
end Go.X.G
/- Lists of records in the program: which are valid, their order, their sorting. -/
namespace Go.X.G
open Go Go.X
theorem Dz5 (r:Rec) (h:r.wf):S Bg9 1 [r.pv]=some [.b (Oy r)]:=by
 refine Il4 (N:=1) rfl ?_;have g:r.name.length≤9223372036854775807:=h.name;have h1:=Br r.name g;have h2:=Cf r.typ;have h3:=Tt r.typ r.data h.data;unfold Oy;by_cases k0:0≤r.ttl<;>by_cases k1:r.ttl≤2147483647
 all_goals rcases ch3 (vld r.name) (knw r.typ) (D9 r.typ r.data) with e0|⟨e0,e1⟩|⟨e0,e1,e2⟩|⟨e0,e1,e2⟩
 all_goals simp only [*] at h1 h2 h3
 all_goals simp (disch:=omega) only [Ib2,Xq,E3,h1,h2,h3,EVC,xe,EVP,EV,simprocAttr, *]
 all_goals simp
theorem Fn7 (x:Int):S Uj 1 [.i .i64 x]=some [.b false]:=by refine Hw8 (N:=1) rfl ?_;simp (disch:=omega) only [Gr3,EVC,xe,EVP,EV,simprocAttr]
theorem Db8 (a b:Int):S Uy 2 [.i .i64 a, .i .i64 b]=some [.i .i64 (v7 a b)]:=by
 refine Hy0 (N:=1) rfl ?_;have h1:=Fn7 a;have h2:=Fn7 b;unfold v7;by_cases k1:a<b
 ·simp (disch:=omega) only [As3,h1,h2,k1,EVC,xe,EVP,EV,simprocAttr]
 ·by_cases k2:b<a
  ·simp (disch:=omega) only [As3,h1,h2,k1,k2,EVC,xe,EVP,EV,simprocAttr]
  ·simp (disch:=omega) only [As3,h1,h2,k1,k2,EVC,xe,EVP,EV,simprocAttr]
theorem tl (a b:Rec) (ha:a.wf) (hb:b.wf):S Ug 2 [a.pv,b.pv]=some [.i .i64 (Tj a b)]:=by
 refine Hz9 (N:=1) rfl ?_;have g1:a.name.length≤9223372036854775807:=ha.name;have g2:b.name.length≤9223372036854775807:=hb.name;have h1:=Hj a.name b.name g1 g2;have h2:=Db8 a.typ b.typ;have h3:=nd a.typ a.data b.data ha.data hb.data;unfold Tj;by_cases k1:Hq a.name b.name=0
 ·by_cases k2:v7 a.typ b.typ=0
  ·rw [k1] at h1;rw [k2] at h2;simp (disch:=omega) only [As8,Xq,E3,h1,h2,h3,EVC,xe,EVP,EV,simprocAttr];simp [k1,k2]
  ·rw [k1] at h1;simp (disch:=omega) only [As8,h1,h2,k2,EVC,xe,EVP,EV,simprocAttr];simp [k1,k2]
 ·simp (disch:=omega) only [As8,h1,k1,EVC,xe,EVP,EV,simprocAttr]
theorem ny (a b:Rec) (ha:a.wf) (hb:b.wf):S Ul 2 [a.pv,b.pv]=some [.i .i64 (Gb8 a b)]:=by
 refine Hb2 (N:=1) rfl ?_;have h1:=tl a b ha hb;have h2:=Db8 a.ttl b.ttl;unfold Gb8;by_cases k1:Tj a b=0
 ·rw [k1] at h1;simp (disch:=omega) only [Ed8,h1,h2,EVC,xe,EVP,EV,simprocAttr];simp [k1]
 ·simp (disch:=omega) only [Ed8,h1,k1,EVC,xe,EVP,EV,simprocAttr]
theorem Iv9:Cmp Ul [] Gb8 Rec.wf:=⟨fun x y hx hy=>ny x y hx hy⟩
theorem Ev8:leC Gb8=leR:=rfl
theorem Ec2 (a b:Rec) (ha:a.wf) (hb:b.wf):S Uh 2 [a.pv,b.pv]=some [.b (eqF a b)]:=by refine Hb0 (N:=1) rfl ?_;have h1:=tl a b ha hb;simp (disch:=omega) only [Gs6,h1,EVC,xe,EVP,EV,simprocAttr]
theorem Ec1 (l:List Rec) (hw:∀r∈l,r.wf) (hl:l.length≤1000000):S Bg7 1 [Al l]=some [Al (sortR l)]:=by refine Il2 (N:=1) rfl ?_;have h0:=Db9 l hl;obtain ⟨r,h1,h2,h3⟩:=N8 Iv9 (by rw [Ev8];exact Ix8) l hw hl;rw [Ev8] at h1;have hm:=h1.mem Ix8;have h4:=ng r Uh [] eqF (fun x hx y hy=>Ec2 x y (hw x ((hm x).1 hx)) (hw y ((hm y).1 hy))) (by omega);rw [tj h1] at h4;simp (disch:=omega) only [Ib1,h0,h3,h4,D3,Kr,EVT,EVM,EVC,xe,EVP,EV,simprocAttr]
end Go.X.G
/- Delegations and names of a zone, as the program finds them. -/
namespace Go.X.G
open Go Go.X
def cutsN (z:Zone):List (List UInt8):=setN ((z.recs.filter (En z)).map Rec.name)
theorem d4 (z:Zone) (x:List UInt8):x∈cutsN z↔∃r∈z.recs,En z r=true∧r.name=x:=by unfold cutsN;rw [Lg,Dr];simp only [B0,and_assoc]
theorem Ds1 {l:List (List UInt8)} (h:∀x∈l,x.length≤9223372036854775807):∀x∈setN l,x.length≤9223372036854775807:=fun x hx=>h x ((Lg l x).1 hx)
theorem ow (z:Zone) (hz:z.wf) (hl:z.recs.length≤1000000):S Af3 1 [z.pv]=some [Bd (cutsN z)]:=by
 refine Im1 (N:=z.recs.length+1) rfl ?_;have g1:=hz.origin;unfold S7 at g1;have key:Em2.ev S (z.recs.length+1) [z.pv]=some (.yld 0 [Bd ([]++(z.recs.filter (En z)).map Rec.name)]):=by
  refine Fb z.recs (fun i (b:List (List UInt8))=>[Bd b, .i .i64 (i:Int)]) (fun i b r=> .yld 0 [Bd (b++(r.filter (En z)).map Rec.name)]) (fun i b=>b.length≤i) [] rfl (Cz _) (by omega) (fun i b c r hd hi hc hI=> ?_) (fun b hI=> ?_)
  ·left;have g2:=(hz.recs.2 c (Bv hc)).name;unfold S7 at g2;refine ⟨if En z c then b++[c.name] else b,?_,by split<;>(try rw [Ac,List.length_singleton])<;>omega,by rcases Aq (En z c) with q|q<;>simp [q]⟩;by_cases h1:c.typ=2
   ·by_cases h2:c.name=z.origin
    ·simp (disch:=omega) only [Aw7,hc,h1,h2,EVM,EVC,xe,EVP,EV,simprocAttr];simp [En,Fv,h2]
    ·have k1:=E5 c.name z.origin g2 g1;rcases Aq (under c.name z.origin) with h3|h3
     ·rw [h3] at k1;simp (disch:=omega) only [Aw7,hc,h1,h2,h3,k1,EVM,EVC,xe,EVP,EV,simprocAttr];simp [En,Fv,h1,h2,h3]
     ·rw [h3] at k1;simp (disch:=omega) only [Aw7,hc,h1,h2,h3,k1,EVM,EVC,xe,EVP,EV,simprocAttr];simp [En,Fv,h1,h2,h3]
   ·simp (disch:=omega) only [Aw7,hc,h1,EVM,EVC,xe,EVP,EV,simprocAttr];simp [En,h1]
  ·simp (disch:=omega) only [Aw7,EVM,EVC,xe,EVP,EV,simprocAttr];simp [Out.goes]
 rw [Cg] at key;have hlen:((z.recs.filter (En z)).map Rec.name).length≤1000000:=by rw [E6];exact C4 (Hv _ _) hl
 have hw:∀x∈(z.recs.filter (En z)).map Rec.name,x.length≤9223372036854775807:=fun x hx=>by obtain ⟨r,hr,rfl⟩:=Dr.1 hx;exact (hz.recs.2 r (B0.1 hr).1).name
 have k1:=Yj _ hlen hw;have k2:=Mp (((z.recs.filter (En z)).map Rec.name).mergeSort fun x y=> !decide (Hq y x<0)) (by rw [fh];exact hlen);rw [show cpt eqs (((z.recs.filter (En z)).map Rec.name).mergeSort fun x y=> !decide (Hq y x<0))=cutsN z from rfl] at k2;generalize ((z.recs.filter (En z)).map Rec.name).mergeSort (fun x y=> !decide (Hq y x<0))=so at*;generalize (z.recs.filter (En z)).map Rec.name=un at*;simp (disch:=omega) only [Aw7,key,k1,k2,D3,Kr,EVM,EVC,xe,EVP,EV,simprocAttr]
theorem Bv6 (l:List Rec) (hl:l.length≤1000000) (hw:∀r∈l,r.wf):S cw 1 [Al l]=some [Bd (setN (l.map Rec.name))]:=by
 refine Hc3 (N:=l.length+1) rfl ?_;have key:Bs9.ev S (l.length+1) [Al l]=some (.yld 0 [Bd ([]++l.map Rec.name)]):=by
  refine Fb l (fun i (b:List (List UInt8))=>[Bd b, .i .i64 (i:Int)]) (fun i b r=> .yld 0 [Bd (b++r.map Rec.name)]) (fun i b=>b.length≤i) [] rfl (Cz _) (by omega) (fun i b c r hd hi hc hI=> ?_) (fun b hI=> ?_)
  ·left;refine ⟨b++[c.name],?_,by simp;omega,by simp⟩;simp (disch:=omega) only [As9,hc,EVM,EVC,xe,EVP,EV,simprocAttr]
  ·simp (disch:=omega) only [As9,EVM,EVC,xe,EVP,EV,simprocAttr];simp [Out.goes]
 rw [Cg] at key;have hlen:(l.map Rec.name).length≤1000000:=by rw [E6];exact hl
 have hw:∀x∈l.map Rec.name,x.length≤9223372036854775807:=fun x hx=>by obtain ⟨r,hr,rfl⟩:=Dr.1 hx;exact (hw r hr).name
 have k1:=Yj _ hlen hw;have k2:=Mp ((l.map Rec.name).mergeSort fun x y=> !decide (Hq y x<0)) (by rw [fh];exact hlen);rw [show cpt eqs ((l.map Rec.name).mergeSort fun x y=> !decide (Hq y x<0))=setN (l.map Rec.name) from rfl] at k2;generalize setN (l.map Rec.name)=se at*;generalize (l.map Rec.name).mergeSort (fun x y=> !decide (Hq y x<0))=so at*;generalize l.map Rec.name=un at*;simp (disch:=omega) only [As9,key,k1,k2,D3,Kr,EVM,EVC,xe,EVP,EV,simprocAttr]
theorem Dz9 (c owner:List UInt8) (hc:c.length≤9223372036854775807) (ho:owner.length≤9223372036854775807):S Ur 1 [.s c, .s owner]=some [.b (decide (c≠owner) && under owner c)]:=by
 refine Hc2 (N:=1) rfl ?_;have k1:=E5 owner c ho hc;by_cases h:c=owner
 ·simp (disch:=omega) only [Ef0,h,EVM,EVC,xe,EVP,EV,simprocAttr];simp
 ·simp (disch:=omega) only [Ef0,h,k1,EVM,EVC,xe,EVP,EV,simprocAttr];simp
theorem Ap9 (z:Zone) (acc:List (List UInt8)) (n:List UInt8) (p1 p2 p3 p4 p5 p6:PV) (N:Nat) (hu:under n z.origin=true) (ha:acc.length≤1000000) (hN:1000<N) (hp2:Hf 1 p2 p4=some (.s n)):
  Bp3.ev S N [z.pv,p1,p2,Bd acc,p4,p5,p6]=some (.yld 2 [Bd (acc++upN z.origin n)]):=by
 obtain ⟨v1,v2,_⟩:=Dm.1 hu;have hlb:=Ip n;have h0:jn ((lbl n).drop 0)=n:=Gw9 v1;have e0:upN z.origin n=(upN z.origin n).take ((lbl n).length - (lbl z.origin).length+1):=by rw [Dd];simp [upN]
 have:=G0 (fn:=S) (N:=N) (η:=[z.pv,p1,p2,Bd acc,p4,p5,p6]) (id:=3) (init:=[(.v 3),(.proj 0 (.idx 1 (.v 2) (.v 4)))]) (body:=Dx3) ((lbl n).length - (lbl z.origin).length) (fun k=>[Bd (acc++(upN z.origin n).take k), .s (jn ((lbl n).drop k))])
  (fun _=> .yld 2 [Bd (acc++upN z.origin n)]) ?_ (by omega) (fun k hk=> ?_) ?_
 ·exact this
 ·rw [h0];simp (disch:=omega) only [hp2,EVM,EVC,xe,EVP,EV,simprocAttr];simp
 ·left;obtain ⟨q1,q2⟩:=Hj8 hu hk;have q3:¬jn ((lbl n).drop k)=z.origin:=fun h=>by have:=(Ef1 hu (Nat.le_of_lt hk)).1 h;omega
  have q4:=Bt4 v1 k;have k1:=Vd (jn ((lbl n).drop k)) (by omega);rw [q1,q2] at k1;have q5:(upN z.origin n).take (k+1)=(upN z.origin n).take k++[jn ((lbl n).drop k)]:=by rw [Cl,At2 (Nat.le_of_lt hk)];rfl
  rw [q5,←As];have q6:(acc++(upN z.origin n).take k).length≤1000300:=by rw [Ac,Ar];omega
  generalize acc++(upN z.origin n).take k=a at*;refine ⟨?_,rfl⟩;generalize jn ((lbl n).drop (k+1))=nx at*;generalize jn ((lbl n).drop k)=cu at*;simp (disch:=omega) only [f7,q3,k1,EVM,EVC,xe,EVP,EV,simprocAttr]
 ·have q3:=(Ef1 hu (Af _)).2 rfl;have q5:(upN z.origin n)=(upN z.origin n).take ((lbl n).length - (lbl z.origin).length)++[jn ((lbl n).drop ((lbl n).length - (lbl z.origin).length))]:=by have:=Cl (l:=upN z.origin n) (i:=(lbl n).length - (lbl z.origin).length);rw [At2 (Af _)] at this;rw [←e0] at this;exact this
  rw [q3] at q5 ⊢;have q6:(acc++(upN z.origin n).take ((lbl n).length - (lbl z.origin).length)).length≤1000300:=by rw [Ac,Ar];omega
  refine ⟨?_,rfl⟩
  conv=>rhs;rw [q5,←As]
  generalize acc++(upN z.origin n).take ((lbl n).length - (lbl z.origin).length)=a at*;simp (disch:=omega) only [f7,EVM,EVC,xe,EVP,EV,simprocAttr]
theorem Ey9 (z:Zone) (owner:List UInt8):((cutsN z).any fun c=>decide (c≠owner) && under owner c)=jd z owner:=by
 rw [C1];unfold jd;simp only [Cc,Aw,decide_eq_true_eq,d4];constructor
 ·rintro ⟨x,⟨r,hr,h1,rfl⟩,h2,h3⟩;exact ⟨r,hr,⟨h1,h2⟩,h3⟩
 ·rintro ⟨r,hr,⟨h1,h2⟩,h3⟩;exact ⟨r.name,⟨r,hr,h1,rfl⟩,h2,h3⟩
def H2 (z:Zone) (n:List UInt8):Bool:=under n z.origin && !jd z n
theorem Ap8 (z:Zone) (hz:z.wf) (hl:z.recs.length≤1000):S Bh3 1 [z.pv]=some [Bd (namesN z)]:=by
 refine Im0 (N:=z.recs.length+1001) rfl ?_;have g1:=hz.origin;unfold S7 at g1;have k1:=ow z hz (by omega);have k2:=Bv6 z.recs (by omega) (fun r hr=>hz.recs.2 r hr);have hol:(setN (z.recs.map Rec.name)).length≤z.recs.length:=by have:=Qx (z.recs.map Rec.name);rwa [E6] at this
 have how:∀x∈setN (z.recs.map Rec.name),x.length≤9223372036854775807:=Ds1 fun x hx=>by obtain ⟨r,hr,rfl⟩:=Dr.1 hx;exact (hz.recs.2 r hr).name
 have hcl:(cutsN z).length≤1000000:=by have:=Qx ((z.recs.filter (En z)).map Rec.name);rw [E6] at this;have h2:=Hv (En z) z.recs;show (setN ((z.recs.filter (En z)).map Rec.name)).length≤1000000;omega
 have hcw:∀x∈cutsN z,x.length≤9223372036854775807:=fun x hx=>by obtain ⟨r,hr,_,rfl⟩:=(d4 z x).1 hx;exact (hz.recs.2 r hr).name
 have hmem:∀x,x∈((setN (z.recs.map Rec.name)).filter (H2 z)).flatMap (upN z.origin)↔Ht8 z x:=by
  intro x;unfold Ht8 H2;simp only [List.mem_flatMap,B0,Lg,Dr,Aw,A7];constructor
  ·rintro ⟨o,⟨⟨r,hr,rfl⟩,h1,h2⟩,h3⟩;obtain ⟨h4,h5⟩:=(V2 h1).1 h3;exact ⟨r,hr,h1,h2,h4,h5⟩
  ·rintro ⟨r,hr,h1,h2,h4,h5⟩;exact ⟨r.name,⟨⟨r,hr,rfl⟩,h1,h2⟩,(V2 h1).2 ⟨h4,h5⟩⟩
 generalize hO:setN (z.recs.map Rec.name)=O at*;have key:Em1.ev S (z.recs.length+1001) [z.pv,Bd (cutsN z),Bd O]=some (.yld 0 [Bd ([]++(O.filter (H2 z)).flatMap (upN z.origin))]):=by
  refine Fb O (fun i (b:List (List UInt8))=>[Bd b, .i .i64 (i:Int)]) (fun i b r=> .yld 0 [Bd (b++(r.filter (H2 z)).flatMap (upN z.origin))]) (fun i b=>b.length≤256*i) [] rfl (Cz _) (by omega) (fun i b c r hd hi hc hI=> ?_) (fun b hI=> ?_)
  ·left;have g2:=how c (Bv hc);have k3:=E5 c z.origin g2 g1;have hid:=Ey9 z c;rcases Aq (under c z.origin) with h1|h1
   ·have k4:=Kf (cutsN z) Ur [.s c] _ hcl (fun x hx=>Dz9 x c (hcw x hx) g2);rw [hid] at k4;rw [h1] at k3;rcases Aq (jd z c) with h2|h2
    ·refine ⟨b,?_,by omega,by simp [H2,h1,h2]⟩;rw [h2] at k4;generalize cutsN z=cz at*;simp (disch:=omega) only [f7,hc,k3,k4,EVM,EVC,xe,EVP,EV,simprocAttr]
    ·have hu:=gk z.origin c;refine ⟨b++upN z.origin c,?_,by rw [Ac];omega,by simp [H2,h1,h2]⟩;rw [h2] at k4;have k5:∀p5 p6,Bp3.ev S (z.recs.length+1001) [z.pv,Bd (cutsN z),Bd O,Bd b, .i .i64 (i:Int),p5,p6]=some (.yld 2 [Bd (b++upN z.origin c)]):=fun p5 p6=>Ap9 z b c _ _ (Bd b) _ p5 p6 _ h1 (by omega) (by omega) (by rw [L1 _ _ _ (by omega)];simp [hc]);generalize b++upN z.origin c=b' at*;generalize cutsN z=cz at*;simp (disch:=omega) only [f7,hc,k3,k4,k5,EVM,EVC,xe,EVP,EV,simprocAttr]
   ·refine ⟨b,?_,by omega,by simp [H2,h1]⟩;rw [h1] at k3;generalize cutsN z=cz at*;simp (disch:=omega) only [f7,hc,k3,EVM,EVC,xe,EVP,EV,simprocAttr]
  ·generalize cutsN z=cz at*;simp (disch:=omega) only [f7,EVM,EVC,xe,EVP,EV,simprocAttr];simp [Out.goes]
 rw [Cg] at key;have hxl:((O.filter (H2 z)).flatMap (upN z.origin)).length≤256*O.length:=by
  have:∀l:List (List UInt8),(l.flatMap (upN z.origin)).length≤256*l.length:=by
   intro l
   induction l with
   |nil=>simp
   |cons x r ih=>
    have:=gk z.origin x;rw [I6,Ac,A3];omega
  refine C4 (this _) ?_;have:=Hv (H2 z) O;omega
 have hxw:∀x∈(O.filter (H2 z)).flatMap (upN z.origin),x.length≤9223372036854775807:=fun x hx=>by obtain ⟨r,hr,_,_,h4,_⟩:=(hmem x).1 hx;have:=Jt (Dm.1 h4).2.1;omega
 have he:setN ((O.filter (H2 z)).flatMap (upN z.origin))=namesN z:=Eq2 z _ hmem;generalize (O.filter (H2 z)).flatMap (upN z.origin)=un at*;have k6:=Yj un (by omega) hxw;have k7:=Mp (un.mergeSort fun x y=> !decide (Hq y x<0)) (by rw [fh];omega);rw [show cpt eqs (un.mergeSort fun x y=> !decide (Hq y x<0))=setN un from rfl,he] at k7;generalize un.mergeSort (fun x y=> !decide (Hq y x<0))=so at*;generalize namesN z=nz at*;generalize cutsN z=cz at*;simp (disch:=omega) only [f7,k1,k2,key,k6,k7,D3,Kr,EVM,EVC,xe,EVP,EV,simprocAttr]
end Go.X.G
/- Zones in the program: what is asked of the records of one name. -/
namespace Go.X.G
open Go Go.X
abbrev ltC:List UInt8×Int→List UInt8×Int→Prop:=fun p q=>ltB p.1 q.1∨(p.1=q.1∧p.2<q.2)
theorem to_C:TO ltC:=Dc5.prod Hk1
def ltQ (a b:Ques):Prop:=ltC (a.name,a.typ) (b.name,b.typ)
theorem to_Q:TO ltQ where
 irr:=fun a=>to_C.irr _
 tr:=fun a b c=>to_C.tr _ _ _
 tri:=fun a b=>by
  rcases to_C.tri (a.name,a.typ) (b.name,b.typ) with h|h|h
  ·exact .inl h
  ·injection h with h1 h2;refine .inr (.inl ?_);cases a;cases b;simp only at h1 h2;rw [h1,h2]
  ·exact .inr (.inr h)
def kv (a b:Ques):Int:=if (Op.bytesLess a.name b.name||(decide (a.name=b.name) && decide (a.typ<b.typ)))=true then -1 else if a=b then 0 else 1
theorem Gd (a b:Ques):kv a b<0↔ltQ a b:=by
 unfold kv ltQ ltC;simp only;have e:(Op.bytesLess a.name b.name||(decide (a.name=b.name) && decide (a.typ<b.typ)))=true↔(ltB a.name b.name∨a.name=b.name∧a.typ<b.typ):=by simp only [Ap,Aw,decide_eq_true_eq,Ss]
 by_cases h:ltB a.name b.name∨a.name=b.name∧a.typ<b.typ
 ·rw [if_pos (e.2 h)];simp [h]
 ·rw [if_neg (fun q=>h (e.1 q))];simp only [h,iff_false];split<;>omega
theorem kq (a b:Ques):S Mw 2 [a.pv,b.pv]=some [.i .i64 (kv a b)]:=by
 refine Hb5 (N:=1) rfl ?_;unfold kv;rcases Aq (Op.bytesLess a.name b.name) with h1|h1
 ·simp (disch:=omega) only [Yr,h1,EVM,EVC,xe,EVP,EV,simprocAttr];simp
 ·by_cases h2:a.name=b.name
  ·by_cases h3:a.typ<b.typ
   ·rw [h2] at h1;simp (disch:=omega) only [Yr,h1,h2,h3,EVM,EVC,xe,EVP,EV,simprocAttr];simp
   ·rw [h2] at h1;by_cases h4:a=b
    ·simp (disch:=omega) only [Yr,h1,h2,h3,EVM,EVC,xe,EVP,EV,simprocAttr];simp [h4]
    ·simp (disch:=omega) only [Yr,h1,h2,h3,h4,EVM,EVC,xe,EVP,EV,simprocAttr];simp [h4]
  ·have h4:¬a=b:=fun e=>h2 (by rw [e]);simp (disch:=omega) only [Yr,h1,h2,h4,EVM,EVC,xe,EVP,EV,simprocAttr];simp [h4]
def H7 (l:List Ques):PV:= .l 2 (l.map Ques.pv)
theorem Ij (l:List Ques):Ft (H7 l)=some (.i .i64 (l.length:Int)):=by simp [H7,Ft]
theorem J8 (l:List Ques) (k:IntKind) (z:Int) (h:0≤z):Hf 2 (H7 l) (.i k z)=(l[z.toNat]?).map Ques.pv:=by simp [H7,W9 _ _ _ _ h]
theorem Ev1 (x:Ques):I2 2 [x.pv]=some (H7 [x]):=rfl
theorem Dz2 (l:List Ques) (x:Ques) (h:l.length+1≤1073741824):Ik 2 (H7 l) (H7 [x])=some (H7 (l++[x])):=by have:=S5 2 (l.map Ques.pv) [x.pv] (by simpa using h);simpa [H7] using this
def tg:PV→PV→Int
 | .a [.s a, .i _ t], .a [.s b, .i _ u]=>kv ⟨a,t⟩ ⟨b,u⟩
 |_,_=>0
theorem Ec0 (l:List Ques) (hl:l.length≤1000000):S Rn 1048578 [H7 l, .f Mw []]=some [H7 (l.mergeSort fun x y=> !decide (kv y x<0))]:=by
 have hm:∀x∈l.map Ques.pv,∃a∈l,x=a.pv:=fun x hx=>by obtain ⟨a,h1,h2⟩:=Dr.1 hx;exact ⟨a,h1,h2.symm⟩
 have hc:∀a b:Ques,tg a.pv b.pv=kv a b:=fun a b=>rfl;have h:=tq (tab:=tab) (xs:=Gy0) (ss:=Tv) (f:=Rn) (s:=Bk3) Ft1 Ft7 (g:=Mw) (caps:=[]) (l:=l.map Ques.pv) (by decide) (by simp;omega)
  (fun x hx=>by obtain ⟨a,_,rfl⟩:=hm x hx;rfl) tg
  (fun x hx y hy=>by obtain ⟨a,ha,rfl⟩:=hm x hx;obtain ⟨b,hb,rfl⟩:=hm y hy;exact kq a b)
  (fun x hx=>by obtain ⟨a,_,rfl⟩:=hm x hx;rw [hc,Gd];exact to_Q.irr a)
  (fun x hx y hy z hz h1 h2=>by obtain ⟨a,_,rfl⟩:=hm x hx;obtain ⟨b,_,rfl⟩:=hm y hy;obtain ⟨c,_,rfl⟩:=hm z hz;rw [hc] at*;exact (Gd a c).2 (to_Q.tr _ _ _ ((Gd a b).1 h1) ((Gd b c).1 h2)))
  (fun x hx y hy z hz h1 h2=>by obtain ⟨a,_,rfl⟩:=hm x hx;obtain ⟨b,_,rfl⟩:=hm y hy;obtain ⟨c,_,rfl⟩:=hm z hz;rw [hc] at*;exact fun h3=>to_Q.ntr (fun q=>h1 ((Gd a b).2 q)) (fun q=>h2 ((Gd b c).2 q)) ((Gd a c).1 h3))
  (fun x hx y hy h1 h2=>by
   obtain ⟨a,_,rfl⟩:=hm x hx;obtain ⟨b,_,rfl⟩:=hm y hy;rw [hc] at*;rcases to_Q.tri a b with q|q|q
   ·exact absurd ((Gd a b).2 q) h1
   ·rw [q]
   ·exact absurd ((Gd b a).2 q) h2)
 have e:(l.map Ques.pv).mergeSort (fun x y=> !decide (tg y x<0))=(l.mergeSort fun x y=> !decide (kv y x<0)).map Ques.pv:=(Iz3 (r:=fun x y=> !decide (kv y x<0)) (s:=fun x y=> !decide (tg y x<0)) (f:=Ques.pv) fun a _ b _=>rfl).symm;rw [e] at h;exact h
def Wj (p:Option Ques) (n:Nat):List Ques→Bool
 |[]=>false
 |k::r=>if 64<(if p=some k then n+1 else 1) then true else Wj (some k) (if p=some k then n+1 else 1) r
theorem V9:∀(l:List Ques) (p:Ques) (n:Nat),(p::l).Pairwise (fun a b=>¬ltQ b a)→n≤64→(Wj (some p) n l=true↔(∃k,k≠p∧64<l.count k)∨64<n+l.count p)
 |[],p,n,_,hn=>by simp [Wj];omega
 |k::r,p,n,hs,hn=>by
  obtain ⟨h1,h2⟩:=A0.1 hs;by_cases e:p=k
  ·subst e;by_cases hg:64<n+1
   ·simp only [Wj,if_true,hg];refine ⟨fun _=> .inr ?_,fun _=>trivial⟩;rw [Gv];omega
   ·simp only [Wj,if_true,hg,if_false];rw [V9 r p (n+1) h2 (by omega),Gv];constructor
    ·rintro (⟨q,q1,q2⟩|q)
     ·exact .inl ⟨q,q1,by rw [Fh (fun e=>q1 e.symm)];exact q2⟩
     ·exact .inr (by omega)
    ·rintro (⟨q,q1,q2⟩|q)
     ·exact .inl ⟨q,q1,by rw [Fh (fun e=>q1 e.symm)] at q2;exact q2⟩
     ·exact .inr (by omega)
  ·have e':¬(some p=some k):=fun q=>e (by injection q);simp only [Wj,if_neg e',show¬64<1 by omega,if_false];rw [V9 r k 1 h2 (by omega)];have hlt:ltQ p k:=by
    rcases to_Q.tri p k with q|q|q
    ·exact q
    ·exact absurd q e
    ·exact absurd q (h1 k (.head _))
   have hno:∀y∈k::r,y≠p:=fun y hy q=>by
    subst q;rcases Am.1 hy with q|hy
    ·exact e q
    ·exact (A0.1 h2).1 y hy hlt
   have h0:(k::r).count p=0:=Iz4.2 fun hm=>hno p hm rfl;have h0r:r.count p=0:=Iz4.2 fun hm=>hno p (.tail _ hm) rfl;rw [h0];constructor
   ·rintro (⟨q,q1,q2⟩|q)
    ·refine .inl ⟨q,fun w=>by rw [w,h0r] at q2;omega,?_⟩;rw [Fh (fun w=>q1 w.symm)];exact q2
    ·refine .inl ⟨k,fun w=>e w.symm,?_⟩;rw [Gv];omega
   ·rintro (⟨q,q1,q2⟩|q)
    ·by_cases w:q=k
     ·subst w;rw [Gv] at q2;exact .inr (by omega)
     ·rw [Fh (fun v=>w v.symm)] at q2;exact .inl ⟨q,w,q2⟩
    ·omega
theorem Ds5 (l:List Ques) (hs:l.Pairwise (fun a b=>¬ltQ b a)):Wj none 0 l=true↔∃k,64<l.count k:=by
 cases l with
 |nil=>simp [Wj]
 |cons k r=>
  have e:¬((none:Option Ques)=some k):=by simp
  simp only [Wj,if_neg e,show¬64<1 by omega,if_false];rw [V9 r k 1 hs (by omega)];constructor
  ·rintro (⟨q,q1,q2⟩|q)
   ·exact ⟨q,by rw [Fh (fun w=>q1 w.symm)];exact q2⟩
   ·exact ⟨k,by rw [Gv];omega⟩
  ·rintro ⟨q,q2⟩;by_cases w:q=k
   ·subst w;rw [Gv] at q2;exact .inr (by omega)
   ·rw [Fh (fun v=>w v.symm)] at q2;exact .inl ⟨q,w,q2⟩
def kyQ (r:Rec):Ques:=⟨r.name,r.typ⟩
def Pp (l:List Rec):Bool:=Wj none 0 ((l.map kyQ).mergeSort fun x y=> !decide (kv y x<0))
theorem Xh (n:List UInt8) (t:Int):∀l:List Rec,(l.map kyQ).count ⟨n,t⟩=(findR l n t).length
 |[]=>rfl
 |r::l=>by
  have ih:=Xh n t l;unfold findR at ih ⊢;rw [Fp,Kh];by_cases h:isK n t r=true
  ·rw [if_pos h];unfold isK at h;simp only [Aw,decide_eq_true_eq] at h;have:kyQ r=⟨n,t⟩:=by unfold kyQ;rw [h.1,h.2]
   rw [this,Gv,ih,A3]
  ·rw [if_neg h];have:kyQ r≠⟨n,t⟩:=fun e=>h (by unfold kyQ at e;injection e with e1 e2;unfold isK;simp [e1,e2])
   rw [Fh this,ih]
theorem Gq5 (l:List Ques):(l.mergeSort fun x y=> !decide (kv y x<0)).Pairwise (fun a b=>¬ltQ b a):=by
 have:=List.pairwise_mergeSort (le:=fun x y:Ques=> !decide (kv y x<0)) (fun a b c h1 h2=>by
  simp only [A7,decide_eq_false_iff_not,Gd] at h1 h2 ⊢;exact to_Q.ntr h2 h1) (fun a b=>by
  simp only [Ap,A7,decide_eq_false_iff_not,Gd];rcases to_Q.tri a b with h|h|h
  ·exact .inl (to_Q.asym h)
  ·subst h;exact .inl (to_Q.irr a)
  ·exact .inr (to_Q.asym h)) l
 refine this.imp fun {a b} h=> ?_;simpa only [A7,decide_eq_false_iff_not,Gd] using h
theorem Al2 (l:List Rec):Pp l= !(l.all fun r=>decide ((findR l r.name r.typ).length≤64)):=by
 rw [C1];unfold Pp;rw [Ds5 _ (Gq5 _)];have hc:∀k,((l.map kyQ).mergeSort fun x y=> !decide (kv y x<0)).count k=(l.map kyQ).count k:=fun k=>(List.mergeSort_perm _ _).count_eq k;simp only [hc,A7,List.all_eq_false,decide_eq_true_eq];constructor
 ·rintro ⟨⟨n,t⟩,h⟩;rw [Xh] at h;have hp:0<(findR l n t).length:=by omega
  obtain ⟨x,hx⟩:=List.length_pos_iff_exists_mem.1 hp;obtain ⟨h3,h4⟩:=B0.1 hx;unfold isK at h4;simp only [Aw,decide_eq_true_eq] at h4;exact ⟨x,h3,by rw [h4.1,h4.2];omega⟩
 ·rintro ⟨r,h1,h2⟩;exact ⟨kyQ r,by show 64<(l.map kyQ).count ⟨r.name,r.typ⟩;rw [Xh];omega⟩
theorem Al1 (l:List Rec) (hl:l.length≤1000000):S Bh1 1 [Al l]=some [.b (Pp l)]:=by
 obtain ⟨N,hN⟩:∃N,N=l.length+1:=⟨_,rfl⟩;refine Il6 (N:=N) rfl ?_;have k0:El8.ev S N [Al l]=some (.yld 0 [H7 (l.map kyQ)]):=by
  refine E2 l (fun i=>[H7 ((l.take i).map kyQ), .i .i64 (i:Int)]) (fun i r=> .yld 0 [H7 (l.map kyQ)]) rfl (by omega) (fun i c r hd hi hc=> ?_) ?_
  ·left;refine ⟨?_,rfl⟩;have e:(l.take (i+1)).map kyQ=(l.take i).map kyQ++[kyQ c]:=by rw [Cl,hc];simp
   have hsub:Jf 0 2 c.pv=some (kyQ c).pv:=rfl;have hlen:((l.take i).map kyQ).length≤1000000:=by rw [E6,Ar];omega
   rw [e];generalize (l.take i).map kyQ=a at*;simp (disch:=omega) only [Vr,hc,hsub,Ev1,Dz2,Ij,J8,EVM,EVC,xe,EVP,EV,simprocAttr]
  ·refine ⟨?_,rfl⟩;have e:l.take l.length=l:=Db;simp (disch:=omega) only [Vr,e,Ij,J8,EVM,EVC,xe,EVP,EV,simprocAttr]
 have hs:=Ec0 (l.map kyQ) (by simpa using hl);have hlen:((l.map kyQ).mergeSort fun x y=> !decide (kv y x<0)).length=l.length:=by simp
 unfold Pp;generalize ((l.map kyQ).mergeSort fun x y=> !decide (kv y x<0))=ks at*;have k1:Eh9.ev S N [Al l,H7 (l.map kyQ),H7 ks]=some (if Wj none 0 ks=true then .ret [.b true] else .yld 0 []):=by
  refine Fb ks (fun i (g:Nat)=>[.i .i64 (g:Int), .i .i64 (i:Int)]) (fun i g r=>if Wj (if i=0 then none else ks[i - 1]?) g r=true then .ret [.b true] else .yld 0 []) (fun i g=>g≤64) 0 ?_ (by omega) (by omega) (fun i g c r hd hi hc hg=> ?_) (fun g hg=> ?_)
  ·simp (disch:=omega) only [EVC,xe,EVP,EV,simprocAttr]
  ·have hp:(if i=0 then none else ks[i - 1]?)=some c↔(0<i∧ks[i - 1]? =some c):=by
    by_cases h:i=0
    ·simp [h]
    ·simp [h];omega
   have hci:(if i+1=0 then none else ks[i+1 - 1]?)=some c:=by rw [if_neg (by omega),Vh,hc]
   have hsub:Jf 0 2 c.pv=some c.pv:=rfl;have eqq:∀x:Ques,Kl false true [.s,(.i .i64)] x.pv c.pv=some (.b (decide (x=c))):=fun x=>Jy8 false x c;by_cases hsame:0<i∧ks[i - 1]? =some c
   ·have hp':=hp.2 hsame;have hi0:(0:Int)<(i:Int):=by omega
    have ei:((i:Int) - 1).toNat=i - 1:=by omega
    have ei2:(i:Int).toNat=i:=by omega
    by_cases hgt:64<g+1
    ·right;have hgt':(64:Int)<(g:Int)+1:=by omega
     have er:Wj (if i=0 then none else ks[i - 1]?) g (c::r)=true:=by rw [hp'];simp [Wj,hgt]
     rw [er];refine ⟨?_,rfl⟩;simp (disch:=omega) only [Vr,hc,hsame.2,hi0,ei,ei2,hgt',Ij,J8,EVM,EVC,xe,EVP,EV,simprocAttr]
    ·left;have hgt':¬(64:Int)<(g:Int)+1:=by omega
     refine ⟨g+1,?_,by omega,?_⟩
     ·simp (disch:=omega) only [Vr,hc,hsame.2,hi0,ei,ei2,hgt',Ij,J8,EVM,EVC,xe,EVP,EV,simprocAttr]
     ·rw [hp',hci];simp [Wj,hgt]
   ·left;have hp':¬(if i=0 then none else ks[i - 1]?)=some c:=fun q=>hsame (hp.1 q);have ei:((i:Int) - 1).toNat=i - 1:=by omega
    have ei2:(i:Int).toNat=i:=by omega
    refine ⟨1,?_,by omega,?_⟩
    ·by_cases hi0:0<i
     ·have hi0':(0:Int)<(i:Int):=by omega
      obtain ⟨y,hy⟩:∃y,ks[i - 1]? =some y:=⟨_,Az (by omega)⟩;have hyc:¬y=c:=fun q=>hsame ⟨hi0,by rw [hy,q]⟩;simp (disch:=omega) only [Vr,hc,hy,hyc,hi0',ei,ei2,Ij,J8,EVM,EVC,xe,EVP,EV,simprocAttr]
     ·have hi0':¬(0:Int)<(i:Int):=by omega
      simp (disch:=omega) only [Vr,hc,hi0',ei2,Ij,J8,EVM,EVC,xe,EVP,EV,simprocAttr]
    ·rw [hci];simp [Wj,hp']
  ·refine ⟨?_,by simp [Wj,Out.goes]⟩;have hlt:¬(ks.length:Int)<(ks.length:Int):=by omega
   simp (disch:=omega) only [Vr,hlt,Ij,J8,EVM,EVC,xe,EVP,EV,simprocAttr];simp [Wj]
 have hrep:∃p,K1 2 (.i .i64 (l.length:Int)) (Ques.pv ⟨[],0⟩)=some p:=by
  have h1:(l.length:Int)≤(LIM:Int):=by simp only [LIM];omega
  have h2:(Ques.pv ⟨[],0⟩).cells.length=2:=rfl;simp [K1,h1,h2]
 obtain ⟨p,hrep⟩:=hrep;rcases Aq (Wj none 0 ks) with h|h
 ·rw [h,if_pos rfl] at k1;rw [h];simp (disch:=omega) only [Vr,hrep,k0,hs,k1,Ij,D3,Kr,EVM,EVC,xe,EVP,EV,simprocAttr]
 ·rw [h,if_neg (by simp)] at k1;rw [h];simp (disch:=omega) only [Vr,hrep,k0,hs,k1,Ij,D3,Kr,EVM,EVC,xe,EVP,EV,simprocAttr]
end Go.X.G
/- Zones in the program: Check, the Mc. -/
namespace Go.X.G
open Go Go.X
theorem Am7 (t:Int):S bj 1 [.i .i64 t]=some [.b (decide (t=6)||decide (t=5)||decide (t=39))]:=by
 refine Hx8 (N:=1) rfl ?_;by_cases h1:t=6
 ·simp (disch:=omega) only [As2,h1,EVC,xe,EVP,EV,simprocAttr];simp
 ·by_cases h2:t=5
  ·simp (disch:=omega) only [As2,h2,EVC,xe,EVP,EV,simprocAttr];simp
  ·simp (disch:=omega) only [As2,h1,h2,EVC,xe,EVP,EV,simprocAttr];simp
theorem Dd8 (r:Rec) (t:Int):S Uf 1 [r.pv, .i .i64 t]=some [.b (decide (r.typ=t))]:=by refine Hz6 (N:=1) rfl ?_;simp (disch:=omega) only [Gs4,EVC,xe,EVP,EV,simprocAttr]
theorem Jr (g:List Rec) (t:Int) (hl:g.length≤1000000):S Ng 2 [Al g, .i .i64 t]=some [.b (F0 g t)]:=by refine Ih9 (N:=1) rfl ?_;have h:=Fx g Uf [.i .i64 t] (fun r=>decide (r.typ=t)) hl (fun r _=>Dd8 r t);simp (disch:=omega) only [Ib0,h,EVC,xe,EVP,EV,simprocAttr];rfl
def Jq (l:List Int):PV:= .l 1 (l.map (PV.i .i64))
theorem Nm (l:List Int):Ft (Jq l)=some (.i .i64 (l.length:Int)):=by simp [Jq,Ft]
theorem Xj (l:List Int) (k:IntKind) (z:Int) (h:0≤z):Hf 1 (Jq l) (.i k z)=(l[z.toNat]?).map (PV.i .i64):=by simp [Jq,W9 _ _ _ _ h]
theorem Zr (l:List Int):Bn 0 (Jq l)=some (Jq l):=rfl
theorem Bq1 (l:List Int):Ih (Jq l)=some (Jq l):=rfl
theorem Db1 (l:List Int) (x:Int) (hl:l.length≤1000000):∃k:Int,(0≤k↔x∈l)∧S af 2 [Jq l, .i .i64 x]=some [.i .i64 k]:=by
 have go:∀(i:Nat) (l:List Int),∃k:Int,k=(match l.findIdx? (·=x) with|some j=>((i+j:Nat):Int)|none=> -1)∧(0≤k↔x∈l):=by
  intro i l;refine ⟨_,rfl,?_⟩;cases h:l.findIdx? (·=x) with
  |none=>
   rw [List.findIdx?_eq_none_iff] at h;simp only;constructor
   ·intro h2;omega
   ·intro h2;have:=h x h2;simp at this
  |some j=>
   simp only;constructor
   ·intro _;rw [List.findIdx?_eq_some_iff_getElem] at h;obtain ⟨h1,h2,_⟩:=h;simp at h2;rw [←h2];exact Dt _
   ·intro _;omega
 obtain ⟨k,hk,hk2⟩:=go 0 l;refine ⟨k,hk2,?_⟩;refine Hw6 (N:=l.length+1) rfl ?_;have key:Br8.ev S (l.length+1) [Jq l, .i .i64 x]=some (match l.findIdx? (·=x) with|some j=> .ret [.i .i64 ((0+j:Nat):Int)]|none=> .yld 0 []):=by
  refine E2 l (fun i=>[.i .i64 (i:Int)]) (fun i r=>match r.findIdx? (·=x) with|some j=> .ret [.i .i64 ((i+j:Nat):Int)]|none=> .yld 0 []) rfl (by omega) (fun i c r hd hi hc=> ?_) ?_
  ·by_cases h:x=c
   ·right;subst h;simp (disch:=omega) only [Ym,hc,Nm,Xj,EVM,EVC,xe,EVP,EV,simprocAttr];simp [List.findIdx?_cons,Out.goes]
   ·left;have h':¬c=x:=fun e=>h e.symm;simp (disch:=omega) only [Ym,hc,h,h',Nm,Xj,EVM,EVC,xe,EVP,EV,simprocAttr];refine ⟨trivial,?_⟩;simp only [List.findIdx?_cons,h',decide_false,Ad,if_false];cases r.findIdx? (·=x) with
    |none=>rfl
    |some j=>simp;omega
  ·simp (disch:=omega) only [Ym,Nm,Xj,EVM,EVC,xe,EVP,EV,simprocAttr];simp [Out.goes]
 rw [hk];cases h:l.findIdx? (·=x) with
 |none=>
  rw [h] at key;simp (disch:=omega) only [Ym,key,Nm,EVM,EVC,xe,EVP,EV,simprocAttr]
 |some j=>
  rw [h] at key;simp (disch:=omega) only [Ym,key,Nm,EVM,EVC,xe,EVP,EV,simprocAttr]
theorem fk (l:List Int) (x:Int) (hl:l.length≤1000000):S am 2 [Jq l, .i .i64 x]=some [.b (decide (x∈l))]:=by refine Hx6 (N:=1) rfl ?_;obtain ⟨k,h1,h2⟩:=Db1 l x hl;simp (disch:=omega) only [Gr8,h2,EVM,EVC,xe,EVP,EV,simprocAttr];simp [h1]
theorem Ap7 (r:Rec) (ts:List Int) (hl:ts.length≤1000000):S Ux 1 [r.pv,Jq ts]=some [.b (!decide (r.typ∈ts))]:=by refine Hx7 (N:=1) rfl ?_;have h:=fk ts r.typ hl;simp (disch:=omega) only [Gr9,Zr,h,EVC,xe,EVP,EV,simprocAttr]
theorem Vn (g:List Rec) (ts:List Int) (hl:g.length≤1000000) (ht:ts.length≤1000000):S Mq 2 [Al g,Jq ts]=some [.b (I1 g ts)]:=by
 refine Hz7 (N:=1) rfl ?_;have h:=Fx g Ux [Jq ts] (fun r=> !decide (r.typ∈ts)) hl (fun r _=>Ap7 r ts ht);have e:(!(g.any fun r=> !decide (r.typ∈ts)))=I1 g ts:=by unfold I1;rw [List.not_any_eq_all_not];simp
 rw [←e];generalize (g.any fun r=> !decide (r.typ∈ts))=b at*;simp (disch:=omega) only [Gs5,Zr,Bq1,h,EVC,xe,EVP,EV,simprocAttr]
theorem f4 (g:List Rec) (hl:g.length≤1000000):S bn 1 [Al g]=some [.b (Dc4 g)]:=by
 obtain ⟨N,hN⟩:∃N,N=g.length+2:=⟨_,rfl⟩;refine Hz8 (N:=N) rfl ?_;have key:Bs5.ev S N [Al g]=some (if Dc4 g=true then .yld 0 [] else .ret [.b false]):=by
  cases g with
  |nil=>
   refine G0 0 (fun _=>[.i .i64 1]) (fun _=> .yld 0 []) ?_ (by omega) (fun i hi=>absurd hi (by omega)) ⟨?_,rfl⟩
   ·simp (disch:=omega) only [EVC,xe,EVP,EV,simprocAttr]
   ·have hlt:¬(1:Int)<(([]:List Rec).length:Int):=by simp
    simp (disch:=omega) only [M5,hlt,EVC,xe,EVP,EV,simprocAttr]
  |cons p r=>
   have hlr:(p::r).length=r.length+1:=rfl;have:=E2 (fn:=S) (N:=N) (η:=[Al (p::r)]) (id:=1) (init:=[.c (.i .i64 1)]) (body:=mt) r (fun i=>[.i .i64 ((i:Int)+1)]) (fun i l=>if (match (p::r)[i]? with|some q=>Tg q l|none=>true)=true then .yld 0 [] else .ret [.b false]) ?_ (by omega) (fun i c l hd hi hc=> ?_) ?_
   ·exact this
   ·simp (disch:=omega) only [EVC,xe,EVP,EV,simprocAttr]
    try rfl
   ·obtain ⟨q,hq⟩:∃q,(p::r)[i]? =some q:=⟨_,Az (by rw [hlr];omega)⟩;have hc':(p::r)[i+1]? =some c:=by simpa using hc
    have e1:((i:Int)+1 - 1).toNat=i:=by omega
    have e2:((i:Int)+1).toNat=i+1:=by omega
    have hlt:(i:Int)+1<((p::r).length:Int):=by rw [hlr];omega
    have hsg:=Am7 c.typ;rw [hq,hc'];generalize (p::r)=g' at*;have step:Tg q (c::l)=((!decide (c.typ=q.typ)||(!(decide (c.typ=6)||decide (c.typ=5)||decide (c.typ=39)) && (decide (c.typ=46)||decide (c.ttl=q.ttl)))) && Tg c l):=rfl;by_cases h1:c.typ=q.typ
    ·rcases Aq (decide (c.typ=6)||decide (c.typ=5)||decide (c.typ=39)) with h2|h2
     ·right;have er:Tg q (c::l)=false:=by rw [step,h2];simp [h1]
      rw [h2] at hsg;simp only [er,Ad,if_false];refine ⟨?_,rfl⟩;rw [h1] at hsg;simp (disch:=omega) only [M5,hlt,e1,e2,hq,hc',h1,hsg,EVC,xe,EVP,EV,simprocAttr]
     ·rw [h2] at hsg;rw [h2] at step;rw [h1] at hsg;by_cases h3:c.typ=46
      ·left;have er:Tg q (c::l)=Tg c l:=by rw [step];simp [h3]
       have h3':q.typ=46:=by rw [←h1];exact h3
       rw [h3'] at hsg;refine ⟨?_,by simp only [er]⟩;simp (disch:=omega) only [M5,hlt,e1,e2,hq,hc',h1,h3',hsg,EVC,xe,EVP,EV,simprocAttr]
       try simp
      ·have h3':¬q.typ=46:=by rw [←h1];exact h3
       by_cases h4:c.ttl=q.ttl
       ·left;have er:Tg q (c::l)=Tg c l:=by rw [step];simp [h4]
        refine ⟨?_,by simp only [er]⟩;simp (disch:=omega) only [M5,hlt,e1,e2,hq,hc',h1,h3',h4,hsg,EVC,xe,EVP,EV,simprocAttr]
        try simp
       ·right;have er:Tg q (c::l)=false:=by rw [step];simp [h1,h3',h4]
        simp only [er,Ad,if_false];refine ⟨?_,rfl⟩;simp (disch:=omega) only [M5,hlt,e1,e2,hq,hc',h1,h3',h4,hsg,EVC,xe,EVP,EV,simprocAttr]
    ·left;have er:Tg q (c::l)=Tg c l:=by rw [step];simp [h1]
     refine ⟨?_,by simp only [er]⟩;simp (disch:=omega) only [M5,hlt,e1,e2,hq,hc',h1,EVC,xe,EVP,EV,simprocAttr]
     try simp
   ·have hlt:¬(r.length:Int)+1<((p::r).length:Int):=by rw [hlr];omega
    obtain ⟨q,hq⟩:∃q,(p::r)[r.length]? =some q:=⟨_,Az (by rw [hlr];omega)⟩;rw [hq];refine ⟨?_,by simp [Tg,Out.goes]⟩;generalize (p::r)=g' at*;simp (disch:=omega) only [M5,hlt,EVC,xe,EVP,EV,simprocAttr];simp [Tg]
 rcases Aq (Dc4 g) with h|h
 ·rw [h,if_pos rfl] at key;rw [h];simp (disch:=omega) only [M5,key,EVC,xe,EVP,EV,simprocAttr]
 ·rw [h,if_neg (by simp)] at key;rw [h];simp (disch:=omega) only [M5,key,EVC,xe,EVP,EV,simprocAttr]
theorem Db3 (a b:List Rec) (ha:a.length≤1000000) (hb:b.length≤1000000):S Bg8 2 [Al a,Al b]=some [.b (decide (a=b))]:=by
 obtain ⟨N,hN⟩:∃N,N=a.length+1:=⟨_,rfl⟩;refine Il3 (N:=N) rfl ?_;by_cases hl:a.length=b.length
 ·have key:El7.ev S N [Al a,Al b]=some (if a.drop 0=b.drop 0 then .yld 0 [] else .ret [.b false]):=by
   refine G0 a.length (fun i=>[.i .i64 (i:Int)]) (fun i=>if a.drop i=b.drop i then .yld 0 [] else .ret [.b false]) rfl (by omega) (fun i hi=> ?_) ?_
   ·have h1:a[i]? =some a[i]:=Az hi;have h2:b[i]? =some b[i]:=Az (by omega);have d1:a.drop i=a[i]::a.drop (i+1):=Ct hi;have d2:b.drop i=b[i]::b.drop (i+1):=Ct (by omega);rw [d1,d2];generalize a[i]=x at*;generalize b[i]'(by omega)=y at*;have hlt:(i:Int)<(a.length:Int):=by omega
    by_cases h:x=y
    ·left;subst h;refine ⟨?_,by simp⟩;simp (disch:=omega) only [Aw6,hlt,h1,h2,EVC,xe,EVP,EV,simprocAttr]
     try simp
    ·right;rw [if_neg (by simp [h])];refine ⟨?_,rfl⟩;simp (disch:=omega) only [Aw6,hlt,h1,h2,h,EVC,xe,EVP,EV,simprocAttr]
   ·have hlt:¬(a.length:Int)<(a.length:Int):=by omega
    have e:a.drop a.length=b.drop a.length:=by rw [List.drop_length,hl,List.drop_length]
    rw [if_pos e];refine ⟨?_,rfl⟩;simp (disch:=omega) only [Aw6,hlt,EVC,xe,EVP,EV,simprocAttr]
  have hl':(a.length:Int)=(b.length:Int):=by omega
  rw [D2,D2] at key;by_cases h:a=b
  ·rw [if_pos h] at key;have e:decide (a=b)=true:=by simp [h]
   rw [e];simp (disch:=omega) only [Aw6,hl',key,EVC,xe,EVP,EV,simprocAttr]
  ·rw [if_neg h] at key;have e:decide (a=b)=false:=by simp [h]
   rw [e];simp (disch:=omega) only [Aw6,hl',key,EVC,xe,EVP,EV,simprocAttr]
 ·have hl':¬(a.length:Int)=(b.length:Int):=by omega
  have e:decide (a=b)=false:=decide_eq_false fun q=>hl (by rw [q]);rw [e];simp (disch:=omega) only [Aw6,hl',EVC,xe,EVP,EV,simprocAttr]
end Go.X.G
/- Zones in the program: proper. -/
namespace Go.X.G
open Go Go.X
section
variable (o cut red:List UInt8) (g:List Rec) (x:Rec) (N:Nat)
def Ax9 (n:List UInt8):Bool:=decide (n[0]? =some 42)
theorem Ip9 (hx:g[0]? =some x) (hl:g.length≤1000000) (hn:x.name≠[]) (p4 p5 p6 p7 p8 p9 p10 p11 p12 p13:PV):
  Ch0.ev S N [.s o,Al g, .s cut, .s red,p4,p5,p6,p7,p8,p9,p10,p11,p12,p13]=some (.ret [.b (!Ax9 x.name||(!F0 g 2 && !F0 g 39))]):=by
 have k2:=Jr g 2 hl;have k39:=Jr g 39 hl;obtain ⟨c,hc⟩:∃c,x.name[0]? =some c:=⟨_,Az (Bc.2 hn)⟩;unfold Ax9;rw [hc];by_cases h1:c=42
 ·have h1':(c.toNat:Int)=42:=by rw [h1];rfl
  rcases Aq (F0 g 2) with h2|h2
  ·rw [h2] at k2;simp (disch:=omega) only [Fp6,hx,hc,h1',k2,EVC,xe,EVP,EV,simprocAttr];simp [h1,h2]
  ·rw [h2] at k2;simp (disch:=omega) only [Fp6,hx,hc,h1',k2,k39,EVC,xe,EVP,EV,simprocAttr];simp [h1,h2]
 ·have h1':¬(c.toNat:Int)=42:=fun q=>h1 (UInt8.toNat_inj.1 (show c.toNat=42 by omega));simp (disch:=omega) only [Fp6,hx,hc,h1',EVC,xe,EVP,EV,simprocAttr];simp [h1]
theorem Ip8 (hx:g[0]? =some x) (hl:g.length≤1000000) (hn:x.name≠[]) (p4 p5 p6 p7 p8 p9 p10:PV):
  wv.ev S N [.s o,Al g, .s cut, .s red,p4,p5,p6,p7,p8,p9,p10]=some (.ret [.b ((if (!decide (x.name=o) && F0 g 2)=true then I1 g [2,43,47,46,1,28] else !F0 g 43) && (!Ax9 x.name||(!F0 g 2 && !F0 g 39)))]):=by
 have k2:=Jr g 2 hl;have k43:=Jr g 43 hl;have kd:S Mq 2 [Al g, .l 1 [.i .i64 2, .i .i64 43, .i .i64 47, .i .i64 46, .i .i64 1, .i .i64 28]]=some [.b (I1 g [2,43,47,46,1,28])]:=Vn g [2,43,47,46,1,28] hl (by decide);have hlit:I2 1 [.i .i64 2, .i .i64 43, .i .i64 47, .i .i64 46, .i .i64 1, .i .i64 28]=some (.l 1 [.i .i64 2, .i .i64 43, .i .i64 47, .i .i64 46, .i .i64 1, .i .i64 28]):=rfl;have t:=fun p11 p12 p13=>Ip9 o cut red g x N hx hl hn p4 p5 p6 p7 p8 p9 p10 p11 p12 p13;have x7:=Bq wv.eq_1;have x6:=Bq Cy3.eq_1;have x5:=Bq Cz3.eq_1;have x4:=Bq Cb9.eq_1;have x3:=Bq Cd8.eq_1;by_cases h0:x.name=o
 ·rcases Aq (F0 g 43) with h1|h1<;>rw [h1] at k43<;>simp (disch:=omega) only [x7,x6,x5,x4,x3,t,hx,h0,k43,hlit,EVC,xe,EVP,EV,simprocAttr]<;>simp [h1]
 ·rcases Aq (F0 g 2) with h2|h2
  ·rw [h2] at k2;rcases Aq (I1 g [2,43,47,46,1,28]) with h3|h3<;>rw [h3] at kd<;>simp (disch:=omega) only [x7,x6,x5,x4,x3,t,hx,h0,k2,kd,hlit,EVC,xe,EVP,EV,simprocAttr]<;>simp [h0,h2,h3]
  ·rw [h2] at k2;rcases Aq (F0 g 43) with h1|h1<;>rw [h1] at k43<;>simp (disch:=omega) only [x7,x6,x5,x4,x3,t,hx,h0,k2,k43,hlit,EVC,xe,EVP,EV,simprocAttr]<;>simp [h0,h1,h2]
theorem Hd9 (hx:g[0]? =some x) (hl:g.length≤1000000) (hn:x.name≠[]) (p4 p5 p6 p7:PV):
  Xt.ev S N [.s o,Al g, .s cut, .s red,p4,p5,p6,p7]=some (.ret [.b ((!F0 g 5||I1 g [5,46,47]) && decide (red=[]) && (decide (cut=[])||I1 g [1,28]) && ((if (!decide (x.name=o) && F0 g 2)=true then I1 g [2,43,47,46,1,28] else !F0 g 43) && (!Ax9 x.name||(!F0 g 2 && !F0 g 39))))]):=by
 have k5:=Jr g 5 hl;have kc:S Mq 2 [Al g, .l 1 [.i .i64 5, .i .i64 46, .i .i64 47]]=some [.b (I1 g [5,46,47])]:=Vn g [5,46,47] hl (by decide);have ka:S Mq 2 [Al g, .l 1 [.i .i64 1, .i .i64 28]]=some [.b (I1 g [1,28])]:=Vn g [1,28] hl (by decide);have hlit1:I2 1 [.i .i64 5, .i .i64 46, .i .i64 47]=some (.l 1 [.i .i64 5, .i .i64 46, .i .i64 47]):=rfl;have hlit2:I2 1 [.i .i64 1, .i .i64 28]=some (.l 1 [.i .i64 1, .i .i64 28]):=rfl;have t:=fun p8 p9 p10=>Ip8 o cut red g x N hx hl hn p4 p5 p6 p7 p8 p9 p10;generalize ((if (!decide (x.name=o) && F0 g 2)=true then I1 g [2,43,47,46,1,28] else !F0 g 43) && (!Ax9 x.name||(!F0 g 2 && !F0 g 39)))=B at*;have x13:=Bq Xt.eq_1;have x12:=Bq l8.eq_1;have x11:=Bq l9.eq_1;have x10:=Bq mj.eq_1;have x9:=Bq Cw0.eq_1;have x8:=Bq Cw7.eq_1;rcases Aq (F0 g 5) with h1|h1<;>rw [h1] at k5
 ·rcases Aq (I1 g [5,46,47]) with h2|h2<;>rw [h2] at kc
  ·by_cases h3:red=[]
   ·replace h3:=eq_true h3;by_cases h4:cut=[]
    ·replace h4:=eq_true h4;simp (disch:=omega) only [x13,x12,x11,x10,x9,x8,t,k5,kc,h3,h4,hlit1,hlit2,EVC,xe,EVP,EV,simprocAttr]
     (clear x13 x12 x11 x10 x9 x8 t;simp [*])
    ·rcases Aq (I1 g [1,28]) with h5|h5<;>rw [h5] at ka<;>simp (disch:=omega) only [x13,x12,x11,x10,x9,x8,t,k5,kc,ka,h3,h4,hlit1,hlit2,EVC,xe,EVP,EV,simprocAttr]<;>(clear x13 x12 x11 x10 x9 x8 t;simp [*])
   ·simp (disch:=omega) only [x13,x12,x11,x10,x9,x8,t,k5,kc,h3,hlit1,hlit2,EVC,xe,EVP,EV,simprocAttr]
    (clear x13 x12 x11 x10 x9 x8 t;simp [*])
  ·simp (disch:=omega) only [x13,x12,x11,k5,kc,hlit1,hlit2,EVC,xe,EVP,EV,simprocAttr]
   (clear x13 x12 x11 x10 x9 x8 t;simp [*])
 ·by_cases h3:red=[]
  ·replace h3:=eq_true h3;by_cases h4:cut=[]
   ·replace h4:=eq_true h4;simp (disch:=omega) only [x13,x12,x11,x10,x9,x8,t,k5,h3,h4,hlit1,hlit2,EVC,xe,EVP,EV,simprocAttr]
    (clear x13 x12 x11 x10 x9 x8 t;simp [*])
   ·rcases Aq (I1 g [1,28]) with h5|h5<;>rw [h5] at ka<;>simp (disch:=omega) only [x13,x12,x11,x10,x9,x8,t,k5,ka,h3,h4,hlit1,hlit2,EVC,xe,EVP,EV,simprocAttr]<;>(clear x13 x12 x11 x10 x9 x8 t;simp [*])
  ·simp (disch:=omega) only [x13,x12,x11,x10,x9,x8,t,k5,h3,hlit1,hlit2,EVC,xe,EVP,EV,simprocAttr]
   (clear x13 x12 x11 x10 x9 x8 t;simp [*])
end
theorem Aw5 (o cut red:List UInt8) (g:List Rec) (hg:g≠[]) (hl:g.length≤1000000) (ho:o.length≤9223372036854775807) (hn:(nmG g).length≤9223372036854775807):
  S Bg5 4 [.s o,Al g, .s cut, .s red]=some [.b (propG o g (decide (cut≠[])) (decide (red≠[])))]:=by
 obtain ⟨x,r,rfl⟩:∃x r,g=x::r:=by
  cases g with
  |nil=>exact absurd rfl hg
  |cons x r=>exact ⟨x,r,rfl⟩
 have hx:(x::r)[0]? =some x:=rfl;have hnm:nmG (x::r)=x.name:=rfl;rw [hnm] at hn;unfold propG;rw [hnm];generalize (x::r)=g at*;obtain ⟨N,hN⟩:∃N,N=1:=⟨_,rfl⟩;refine Il0 (N:=N) rfl ?_;have hu:=E5 x.name o hn ho;have k6:=Jr g 6 hl;have k2:=Jr g 2 hl;have ku:=f4 g hl;have xt:=Bq At7.eq_1;have x18:=Bq lm.eq_1;have x17:=Bq lp.eq_1;have x16:=Bq lr.eq_1;have x15:=Bq l5.eq_1;have x14:=Bq l6.eq_1;have e1:decide (cut≠[])= !decide (cut=[]):=by simp
 have e2:decide (red≠[])= !decide (red=[]):=by simp
 rw [e1,e2,Bool.not_not,Bool.not_not];rcases Aq (under x.name o) with h0|h0<;>rw [h0] at hu
 ·have hne:x.name≠[]:=fp (Dm.1 h0).1;have t:=fun p4 p5 p6 p7=>Hd9 o cut red g x N hx hl hne p4 p5 p6 p7;have eS:Ax9 x.name=decide (x.name[0]? =some 42):=rfl;rw [eS] at t;generalize hA:(!F0 g 5||I1 g [5,46,47])=A at*;generalize hB:(if (!decide (x.name=o) && F0 g 2)=true then I1 g [2,43,47,46,1,28] else !F0 g 43)=B at*;generalize hC:(!decide (x.name[0]? =some 42)||(!F0 g 2 && !F0 g 39))=C at*;generalize decide (red=[])=D at*;generalize (decide (cut=[])||I1 g [1,28])=E' at*;clear hB hC hA;rcases Aq (F0 g 6) with h6|h6<;>rw [h6] at k6
  ·by_cases hno:x.name=o
   ·replace hno:=eq_true hno;rcases Aq (Dc4 g) with h1|h1<;>rw [h1] at ku
    ·rcases Aq (F0 g 2) with h2|h2<;>rw [h2] at k2
     ·simp (disch:=omega) only [xt,x18,x17,x16,x15,x14,t,hx,hu,k6,hno,ku,k2,EVC,xe,EVP,EV,simprocAttr]
      (clear xt x18 x17 x16 x15 x14 t;simp [*,Bool.and_assoc])
     ·simp (disch:=omega) only [xt,x18,x17,x16,x15,x14,t,hx,hu,k6,hno,ku,k2,EVC,xe,EVP,EV,simprocAttr]
      (clear xt x18 x17 x16 x15 x14 t;simp [*])
    ·simp (disch:=omega) only [xt,x18,x17,x16,x15,x14,t,hx,hu,k6,hno,ku,EVC,xe,EVP,EV,simprocAttr]
     (clear xt x18 x17 x16 x15 x14 t;simp [*])
   ·simp (disch:=omega) only [xt,x18,x17,x16,x15,x14,t,hx,hu,k6,hno,EVC,xe,EVP,EV,simprocAttr]
    (clear xt x18 x17 x16 x15 x14 t;simp [*])
  ·by_cases hno:x.name=o
   ·replace hno:=eq_true hno;simp (disch:=omega) only [xt,x18,x17,x16,x15,x14,t,hx,hu,k6,hno,EVC,xe,EVP,EV,simprocAttr]
    (clear xt x18 x17 x16 x15 x14 t;simp [*])
   ·rcases Aq (Dc4 g) with h1|h1<;>rw [h1] at ku
    ·simp (disch:=omega) only [xt,x18,x17,x16,x15,x14,t,hx,hu,k6,hno,ku,EVC,xe,EVP,EV,simprocAttr]
     (clear xt x18 x17 x16 x15 x14 t;simp [*,Bool.and_assoc])
    ·simp (disch:=omega) only [xt,x18,x17,x16,x15,x14,t,hx,hu,k6,hno,ku,EVC,xe,EVP,EV,simprocAttr]
     (clear xt x18 x17 x16 x15 x14 t;simp [*])
 ·simp (disch:=omega) only [xt,x18,x17,x16,x15,x14,hx,hu,EVC,xe,EVP,EV,simprocAttr]
  (clear xt x18 x17 x16 x15 x14;simp [*])
end Go.X.G
/- Zones in the program: Check and New. -/
namespace Go.X.G
open Go Go.X
def F7 (gs:List (List Rec)):PV:= .l 1 (gs.map Al)
theorem Nn (l:List (List Rec)):Ft (F7 l)=some (.i .i64 (l.length:Int)):=by simp [F7,Ft]
theorem Ed (l:List (List Rec)) (k:IntKind) (z:Int) (h:0≤z):Hf 1 (F7 l) (.i k z)=(l[z.toNat]?).map Al:=by simp [F7,W9 _ _ _ _ h]
theorem Bn1 (x:List Rec):I2 1 [Al x]=some (F7 [x]):=rfl
theorem eq (l:List (List Rec)) (x:List Rec) (h:l.length+1≤1073741824):Ik 1 (F7 l) (F7 [x])=some (F7 (l++[x])):=by have:=S5 1 (l.map Al) [Al x] (by simpa using h);simpa [F7] using this
theorem Ft8 {α:Type} (l:List α) (s i:Nat) (c:α) (h:l[i]? =some c) (hs:s≤i):sl l s (i+1)=sl l s i++[c]:=by unfold sl;have hi:=(Av.1 h).1;rw [Cl,h,Ic (by rw [Ar];omega)];rfl
theorem Cj9 (l:List Rec) (hl:l.length≤1000000):S Bg6 1 [Al l]=some [F7 (grp l)]:=by
 obtain ⟨N,hN⟩:∃N,N=l.length+1:=⟨_,rfl⟩;refine Il1 (N:=N) rfl ?_;have key:El6.ev S N [Al l]=some (.yld 0 [F7 ([]++Tz (sl l 0 0) l)]):=by
  refine Fb l (fun i (g:List (List Rec)×Nat)=>[F7 g.1, .i .i64 (g.2:Int), .i .i64 (i:Int)]) (fun i g r=> .yld 0 [F7 (g.1++Tz (sl l g.2 i) r)]) (fun i g=>g.2≤i∧g.1.length≤i) ([],0) ?_ (by simp) (by omega) (fun i g c r hd hi hc hI=> ?_) (fun g hI=> ?_)
  ·rfl
  ·left;obtain ⟨out,st⟩:=g;obtain ⟨hI1,hI2⟩:=hI;simp only at hI1 hI2 ⊢;have hlt:(i:Int)<(l.length:Int):=by omega
   have e1:((i:Int)+1).toNat=i+1:=by omega
   have e2:(i:Int).toNat=i:=by omega
   have e3:(st:Int).toNat=st:=by omega
   have hsl:=Ft8 l st i c hc hI1;have hsl2:List.drop st (List.take (i+1) l)=sl l st i++[c]:=hsl;have hsl3:sl l st st=[]:=by unfold sl;rw [List.drop_eq_nil_iff,Ar];omega
   have hsl4:sl l (i+1) (i+1)=[]:=by unfold sl;rw [List.drop_eq_nil_iff,Ar];omega
   have hr:r=l.drop (i+1):=by have:=congrArg List.tail hd;simpa using this.symm
   by_cases hc2:(match r with|[]=>true|y::_=> !decide (y.name=c.name))=true
   ·refine ⟨(out++[sl l st i++[c]],i+1),?_,⟨by simp,by simp;omega⟩,?_⟩
    ·cases r with
     |nil=>
      have hend:(i:Int)+1=(l.length:Int):=by have:=congrArg List.length hr;simp at this;omega
      simp only;simp (disch:=omega) only [Ar4,hlt,hend.symm,e1,e2,e3,hc,hsl2,Bn1,eq,EVC,xe,EVP,EV,simprocAttr]
      try (congr 3;omega)
     |cons y r'=>
      have hy:l[i+1]? =some y:=by have:=congrArg (fun q=>q[0]?) hr;simpa [A8] using this.symm
      have hyl:=(Av.1 hy).1;have hend:¬(i:Int)+1=(l.length:Int):=by omega
      have hyc:¬y.name=c.name:=by simpa using hc2
      simp only;simp (disch:=omega) only [Ar4,hlt,hend,e1,e2,e3,hc,hy,hyc,hsl2,Bn1,eq,EVC,xe,EVP,EV,simprocAttr]
      try congr 3
    ·have eg:Tz (sl l st i) (c::r)=(sl l st i++[c])::Tz [] r:=by
      cases r with
      |nil=>rfl
      |cons y r'=>rw [Tz,if_pos hc2]
     simp only [eg,hsl4];simp
   ·refine ⟨(out,st),?_,⟨by simp;omega,by simp;omega⟩,?_⟩
    ·cases r with
     |nil=>simp at hc2
     |cons y r'=>
      have hy:l[i+1]? =some y:=by have:=congrArg (fun q=>q[0]?) hr;simpa [A8] using this.symm
      have hyl:=(Av.1 hy).1;have hend:¬(i:Int)+1=(l.length:Int):=by omega
      have hyc:y.name=c.name:=by simpa using hc2
      simp only;simp (disch:=omega) only [Ar4,hlt,hend,e1,e2,e3,hc,hy,hyc,EVC,xe,EVP,EV,simprocAttr]
      try rfl
    ·have eg:Tz (sl l st i) (c::r)=Tz (sl l st i++[c]) r:=by
      cases r with
      |nil=>simp at hc2
      |cons y r'=>rw [Tz,if_neg hc2]
     simp only [eg,hsl]
  ·have hlt:¬(l.length:Int)<(l.length:Int):=by omega
   refine ⟨?_,rfl⟩;simp (disch:=omega) only [Ar4,hlt,EVC,xe,EVP,EV,simprocAttr];simp [Tz]
 have e:[]++Tz (sl l 0 0) l=grp l:=by simp [sl,grp]
 rw [e] at key;generalize grp l=gs at*;simp (disch:=omega) only [Ar4,key,EVC,xe,EVP,EV,simprocAttr]
def Al6 (o:List UInt8):List (List Rec)→List UInt8→List UInt8→Bool→Option Bool
 |[],_,_,soa=>some soa
 |g::gs,cut,red,soa=>
  if propG o g (decide (Dz (nmG g) cut≠[])) (decide (Dz (nmG g) red≠[]))=true then
   Al6 o gs (if Dz (nmG g) cut=[]∧nmG g≠o∧F0 g 2=true then nmG g else Dz (nmG g) cut) (if F0 g 39=true then nmG g else Dz (nmG g) red) (soa||decide (nmG g=o))
  else none
theorem Cv6 (o:List UInt8):∀(gs:List (List Rec)) (cut red:List UInt8) (soa:Bool),kz o gs cut red soa=decide (Al6 o gs cut red soa=some true)
 |[],_,_,soa=>by simp [kz,Al6]
 |g::gs,cut,red,soa=>by
  simp only [kz,Al6];split
  ·exact Cv6 o gs _ _ _
  ·simp
def Iy0:Option Bool→Out
 |some b=> .yld 0 [.b b]
 |none=> .ret [.i .i64 13]
section
variable (z:Zone) (g:List Rec) (gs:List (List Rec)) (x:Rec) (N:Nat) (i:Nat) (cut red:List UInt8) (soa:Bool)
theorem Jz8 (hi:gs[i]? =some g) (hx:g[0]? =some x) (hxl:x.name.length≤9223372036854775807) (hcl:cut.length≤9223372036854775807) (p1 p2 p3 p4 p5:PV):
  ∃p11,Sp.ev S N [z.pv,p1,p2,p3,p4,p5,F7 gs, .s cut, .s red, .b soa, .i .i64 (i:Int)]=Sr.ev S N [z.pv,p1,p2,p3,p4,p5,F7 gs, .s cut, .s red, .b soa, .i .i64 (i:Int),p11, .s (Dz x.name cut)]:=by
 have x17:=Bq Sp.eq_1;have x16:=Bq l4.eq_1;have x0:=Bq Dk6.eq_1;have hu:=E5 x.name cut hxl hcl;have ei:(i:Int).toNat=i:=by omega
 by_cases h1:cut=[]
 ·refine ⟨.u,?_⟩;have e:Dz x.name cut=cut:=by unfold Dz;simp [h1]
  rw [e];replace h1:=eq_true h1;simp (disch:=omega) only [x17,x16,x0,h1,hi,hx,ei,Ed,EVC,xe,EVP,EV,simprocAttr]
 ·rcases Aq (under x.name cut) with h2|h2<;>rw [h2] at hu
  ·refine ⟨.b true,?_⟩;have e:Dz x.name cut=cut:=by unfold Dz;simp [h2]
   rw [e];simp (disch:=omega) only [x17,x16,x0,h1,hu,hi,hx,ei,Ed,EVC,xe,EVP,EV,simprocAttr]
  ·refine ⟨.b false,?_⟩;have e:Dz x.name cut=[]:=by unfold Dz;simp [h1,h2]
   rw [e];simp (disch:=omega) only [x17,x16,x0,h1,hu,hi,hx,ei,Ed,EVC,xe,EVP,EV,simprocAttr]
theorem Jz7 (hi:gs[i]? =some g) (hx:g[0]? =some x) (hxl:x.name.length≤9223372036854775807) (hrl:red.length≤9223372036854775807) (p1 p2 p3 p4 p5 p11 p12:PV):
  ∃p13,Sr.ev S N [z.pv,p1,p2,p3,p4,p5,F7 gs, .s cut, .s red, .b soa, .i .i64 (i:Int),p11,p12]=X0.ev S N [z.pv,p1,p2,p3,p4,p5,F7 gs, .s cut, .s red, .b soa, .i .i64 (i:Int),p11,p12,p13, .s (Dz x.name red)]:=by
 have x15:=Bq Sr.eq_1;have x14:=Bq l7.eq_1;have x1:=Bq Cp0.eq_1;have hu:=E5 x.name red hxl hrl;have ei:(i:Int).toNat=i:=by omega
 by_cases h1:red=[]
 ·refine ⟨.u,?_⟩;have e:Dz x.name red=red:=by unfold Dz;simp [h1]
  rw [e];replace h1:=eq_true h1;simp (disch:=omega) only [x15,x14,x1,h1,hi,hx,ei,Ed,EVC,xe,EVP,EV,simprocAttr]
 ·rcases Aq (under x.name red) with h2|h2<;>rw [h2] at hu
  ·refine ⟨.b true,?_⟩;have e:Dz x.name red=red:=by unfold Dz;simp [h2]
   rw [e];simp (disch:=omega) only [x15,x14,x1,h1,hu,hi,hx,ei,Ed,EVC,xe,EVP,EV,simprocAttr]
  ·refine ⟨.b false,?_⟩;have e:Dz x.name red=[]:=by unfold Dz;simp [h1,h2]
   rw [e];simp (disch:=omega) only [x15,x14,x1,h1,hu,hi,hx,ei,Ed,EVC,xe,EVP,EV,simprocAttr]
theorem Jz6 (hi:gs[i]? =some g) (hx:g[0]? =some x) (hnm:nmG g=x.name) (hg:g≠[]) (hl:g.length≤1000000) (hil:i≤1000000) (hxl:x.name.length≤9223372036854775807) (hzl:z.origin.length≤9223372036854775807) (cu re:List UInt8) (p1 p2 p3 p4 p5 p7 p8 p11 p13:PV):
  X0.ev S N [z.pv,p1,p2,p3,p4,p5,F7 gs,p7,p8, .b soa, .i .i64 (i:Int),p11, .s cu,p13, .s re]=
   some (if propG z.origin g (decide (cu≠[])) (decide (re≠[]))=true then .yld 1 [.s (if cu=[]∧x.name≠z.origin∧F0 g 2=true then x.name else cu), .s (if F0 g 39=true then x.name else re), .b (soa||decide (x.name=z.origin)), .i .i64 ((i:Int)+1)] else .ret [.i .i64 13]):=by
 have hp:=Aw5 z.origin cu re g hg hl hzl (by rw [hnm];exact hxl);have k2:=Jr g 2 hl;have k39:=Jr g 39 hl;have ei:(i:Int).toNat=i:=by omega
 generalize propG z.origin g (decide (cu≠[])) (decide (re≠[]))=P at*;cases P
 ·simp (disch:=omega) only [Qr,hp,hi,hx,ei,Ed,EVC,xe,EVP,EV,simprocAttr]
  try simp
 ·by_cases h1:cu=[]
  ·by_cases h2:x.name=z.origin
   ·rcases Aq (F0 g 39) with h3|h3<;>rw [h3] at k39
    ·cases soa<;>(have h1':=eq_true h1;have h2':=eq_true h2;simp (disch:=omega) only [Qr,hp,hi,hx,ei,h1',h2',k39,Ed,EVC,xe,EVP,EV,simprocAttr];simp [h2,h3])
    ·cases soa<;>(have h1':=eq_true h1;have h2':=eq_true h2;simp (disch:=omega) only [Qr,hp,hi,hx,ei,h1',h2',k39,Ed,EVC,xe,EVP,EV,simprocAttr];simp [h2,h3])
   ·rcases Aq (F0 g 2) with h4|h4<;>rw [h4] at k2
    ·rcases Aq (F0 g 39) with h3|h3<;>rw [h3] at k39
     ·cases soa<;>(have h1':=eq_true h1;simp (disch:=omega) only [Qr,hp,hi,hx,ei,h1',h2,k2,k39,Ed,EVC,xe,EVP,EV,simprocAttr];simp [h1,h2,h3,h4])
     ·cases soa<;>(have h1':=eq_true h1;simp (disch:=omega) only [Qr,hp,hi,hx,ei,h1',h2,k2,k39,Ed,EVC,xe,EVP,EV,simprocAttr];simp [h1,h2,h3,h4])
    ·rcases Aq (F0 g 39) with h3|h3<;>rw [h3] at k39
     ·cases soa<;>(have h1':=eq_true h1;simp (disch:=omega) only [Qr,hp,hi,hx,ei,h1',h2,k2,k39,Ed,EVC,xe,EVP,EV,simprocAttr];simp [h2,h3,h4])
     ·cases soa<;>(have h1':=eq_true h1;simp (disch:=omega) only [Qr,hp,hi,hx,ei,h1',h2,k2,k39,Ed,EVC,xe,EVP,EV,simprocAttr];simp [h2,h3,h4])
  ·by_cases h2:x.name=z.origin
   ·rcases Aq (F0 g 39) with h3|h3<;>rw [h3] at k39
    ·cases soa<;>(have h2':=eq_true h2;simp (disch:=omega) only [Qr,hp,hi,hx,ei,h1,h2',k39,Ed,EVC,xe,EVP,EV,simprocAttr];simp [h1,h2,h3])
    ·cases soa<;>(have h2':=eq_true h2;simp (disch:=omega) only [Qr,hp,hi,hx,ei,h1,h2',k39,Ed,EVC,xe,EVP,EV,simprocAttr];simp [h1,h2,h3])
   ·rcases Aq (F0 g 39) with h3|h3<;>rw [h3] at k39
    ·cases soa<;>(simp (disch:=omega) only [Qr,hp,hi,hx,ei,h1,h2,k39,Ed,EVC,xe,EVP,EV,simprocAttr];simp [h1,h2,h3])
    ·cases soa<;>(simp (disch:=omega) only [Qr,hp,hi,hx,ei,h1,h2,k39,Ed,EVC,xe,EVP,EV,simprocAttr];simp [h1,h2,h3])
end
theorem u9:∀(n:Nat) (l:List Rec),l.length≤n→(∀g∈grp l,g≠[]∧∀x∈g,x∈l)∧(grp l).length≤l.length
 |_,[],_=>by simp [grp,Tz]
 |0,x::r,hn=>by simp at hn
 |n+1,x::r,hn=>by
  obtain ⟨g,l',h1,h2,h3,h4,h5⟩:=Qd x r;have hlen:=congrArg List.length h1;have hg0:0<g.length:=Bc.2 h2;simp only [Ac,A3] at hlen hn;obtain ⟨i1,i2⟩:=u9 n l' (by omega);rw [h5];refine ⟨fun g' hg'=> ?_,by simp;omega⟩;rcases Am.1 hg' with rfl|hg'
  ·exact ⟨h2,fun w hw=>by rw [h1];exact Ck _ hw⟩
  ·obtain ⟨j1,j2⟩:=i1 g' hg';exact ⟨j1,fun w hw=>by rw [h1];exact Bm _ (j2 w hw)⟩
theorem Bt8 (p:Prop) [Decidable p] (a b:List UInt8) (ha:a.length≤9223372036854775807) (hb:b.length≤9223372036854775807):(if p then a else b).length≤9223372036854775807:=by split<;>assumption
theorem Jx7 (z:Zone) (hz:z.wf) (hl:z.recs.length≤1000000) (N:Nat) (hN:z.recs.length+1<N) (p1 p2 p3 p4 p5:PV):
  Em4.ev S N [z.pv,p1,p2,p3,p4,p5,F7 (grp z.recs)]=some (Iy0 (Al6 z.origin (grp z.recs) [] [] false)):=by
 obtain ⟨gf1,gf2⟩:=u9 z.recs.length z.recs (Af _);have hgl:∀g∈grp z.recs,g.length≤1000000:=fun g hg=>by
  have:∀(n:Nat) (l:List Rec),l.length≤n→∀g∈grp l,g.length≤l.length:=by
   intro n
   induction n with
   |zero=>intro l hl g hg;cases l with
    |nil=>simp [grp,Tz] at hg
    |cons x r=>simp at hl
   |succ n ih=>
    intro l hl g hg;cases l with
    |nil=>simp [grp,Tz] at hg
    |cons x r=>
     obtain ⟨g0,l',h1,h2,h3,h4,h5⟩:=Qd x r;have hlen:=congrArg List.length h1;have hg0:0<g0.length:=Bc.2 h2;simp only [Ac,A3] at hlen hl;rw [h5] at hg;rcases Am.1 hg with rfl|hg
     ·simp only [A3];omega
     ·have:=ih l' (by omega) g hg;simp only [A3];omega
  exact C4 (this _ _ (Af _) g hg) hl
 generalize grp z.recs=gs at*;have:=Fb (fn:=S) (N:=N) (η:=[z.pv,p1,p2,p3,p4,p5,F7 gs]) (id:=1) (init:=[.c (.s []), .c (.s []), .c (.b false), .c (.i .i64 0)]) (body:=Vy) gs (fun i (a:List UInt8×List UInt8×Bool)=>[.s a.1, .s a.2.1, .b a.2.2, .i .i64 (i:Int)]) (fun i a r=>Iy0 (Al6 z.origin r a.1 a.2.1 a.2.2)) (fun i a=>a.1.length≤9223372036854775807∧a.2.1.length≤9223372036854775807) ([],[],false) ?_ (by simp) (by omega) (fun i a g r hd hi hc hI=> ?_) (fun a hI=> ?_)
 ·exact this
 ·simp (disch:=omega) only [EVC,xe,EVP,EV,simprocAttr]
  try rfl
 ·obtain ⟨cut,red,soa⟩:=a;obtain ⟨hI1,hI2⟩:=hI;simp only at hI1 hI2 ⊢;have hgm:=Bv hc;obtain ⟨hg,hgz⟩:=gf1 g hgm;obtain ⟨x,hx,hxm⟩:∃x,g[0]? =some x∧x∈g:=by
   cases g with
   |nil=>exact absurd rfl hg
   |cons x r=>exact ⟨x,rfl, .head _⟩
  have hnm:nmG g=x.name:=by
   cases g with
   |nil=>exact absurd rfl hg
   |cons y r=>simp at hx;rw [←hx];rfl
  have hxl:x.name.length≤9223372036854775807:=(hz.recs.2 x (hgz x hxm)).name;have hzl:z.origin.length≤9223372036854775807:=hz.origin;obtain ⟨p11,kA⟩:=Jz8 z g gs x N i cut red soa hc hx hxl hI1 p1 p2 p3 p4 p5;have hku:(Dz x.name cut).length≤9223372036854775807:=by unfold Dz;split<;>simp [hI1]
  have hkr:(Dz x.name red).length≤9223372036854775807:=by unfold Dz;split<;>simp [hI2]
  obtain ⟨p13,kB⟩:=Jz7 z g gs x N i cut red soa hc hx hxl hI2 p1 p2 p3 p4 p5 p11 (.s (Dz x.name cut));have kC:=Jz6 z g gs x N i soa hc hx hnm hg (hgl g hgm) (by omega) hxl hzl (Dz x.name cut) (Dz x.name red) p1 p2 p3 p4 p5 (.s cut) (.s red) p11 p13;have kall:=kA.trans (kB.trans kC);have hlt:(i:Int)<(gs.length:Int):=by omega
  have hb:Vy.ev S N [z.pv,p1,p2,p3,p4,p5,F7 gs, .s cut, .s red, .b soa, .i .i64 (i:Int)]=Sp.ev S N [z.pv,p1,p2,p3,p4,p5,F7 gs, .s cut, .s red, .b soa, .i .i64 (i:Int)]:=by have xb:=Bq Vy.eq_1;simp (disch:=omega) only [xb,hlt,Nn,EVC,xe,EVP,EV,simprocAttr]
  have hb2:=hb.trans kall;have estep:Al6 z.origin (g::r) cut red soa=if propG z.origin g (decide (Dz x.name cut≠[])) (decide (Dz x.name red≠[]))=true then Al6 z.origin r (if Dz x.name cut=[]∧x.name≠z.origin∧F0 g 2=true then x.name else Dz x.name cut) (if F0 g 39=true then x.name else Dz x.name red) (soa||decide (x.name=z.origin)) else none:=by simp only [Al6,hnm]
  by_cases hP:propG z.origin g (decide (Dz x.name cut≠[])) (decide (Dz x.name red≠[]))=true
  ·left;rw [if_pos hP] at hb2 estep;refine ⟨(if Dz x.name cut=[]∧x.name≠z.origin∧F0 g 2=true then x.name else Dz x.name cut,if F0 g 39=true then x.name else Dz x.name red,soa||decide (x.name=z.origin)),hb2,⟨?_,?_⟩,?_⟩
   ·exact Bt8 _ _ _ hxl hku
   ·exact Bt8 _ _ _ hxl hkr
   ·rw [estep]
  ·right;rw [if_neg hP] at hb2 estep;rw [estep];exact ⟨hb2,rfl⟩
 ·have hlt:¬(gs.length:Int)<(gs.length:Int):=by omega
  have xb:=Bq Vy.eq_1;refine ⟨?_,rfl⟩;simp (disch:=omega) only [xb,hlt,Nn,EVC,xe,EVP,EV,simprocAttr];rfl
theorem nr (z:Zone) (hz:z.wf):Pr z=if vld z.origin=false then 2 else if 2048<z.recs.length∨Pp z.recs=true then 9 else if z.recs.all Oy=false then 5 else if z.recs≠sortR z.recs then 7 else if Al6 z.origin (grp z.recs) [] [] false=some true then 0 else 13:=by
 unfold Pr;rcases Aq (vld z.origin) with h1|h1
 ·have n1:¬vld z.origin=false:=by simp [h1]
  rw [if_neg n1,if_neg n1];by_cases h2:2048<z.recs.length
  ·rw [if_pos h2,if_pos (.inl h2)]
  ·rw [if_neg h2];have hcr:=Al2 z.recs;rcases Aq (z.recs.all fun r=>decide ((findR z.recs r.name r.typ).length≤64)) with h3|h3
   ·rw [h3] at hcr;have hn2:¬(2048<z.recs.length∨Pp z.recs=true):=by
     rintro (q|q)
     ·exact h2 q
     ·rw [hcr] at q;cases q
    have n3:¬(z.recs.all fun r=>decide ((findR z.recs r.name r.typ).length≤64))=false:=by simp only [h3];simp
    rw [if_neg n3,if_neg hn2];rcases Aq (z.recs.all Oy) with h4|h4
    ·have n4:¬z.recs.all Oy=false:=by simp only [h4];simp
     rw [if_neg n4,if_neg n4];by_cases h5:z.recs=sortR z.recs
     ·have n5:¬z.recs≠sortR z.recs:=by simpa using h5
      rw [if_neg n5,if_neg n5];have hv:∀r∈z.recs,Oy r=true:=Bz.1 h4;have hr:z.recs.Pairwise ltR:=by rw [h5];exact (Pv z.recs hv).1
      have hk:=wk z (fun r h=>Y2 (hv r h)) (Bq7 hr) z.recs.length [] z.recs [] [] false (Af _) rfl (by simp) ⟨by simp,by simp,by simp,by simp⟩;rw [Cv6,decide_eq_true_eq] at hk;have hk2:=Bw0 z hv hr;have hk3:Al6 z.origin (grp z.recs) [] [] false=some true↔(findR z.recs z.origin 6).length=1∧dx z.recs z.origin 2=true∧∀r∈z.recs,Rx z r=true:=by rw [hk,←hk2];simp
      by_cases h6:Al6 z.origin (grp z.recs) [] [] false=some true
      ·obtain ⟨a,b,c⟩:=hk3.1 h6;have c':z.recs.all (Rx z)=true:=Bz.2 c;have n7:¬((findR z.recs z.origin 6).length≠1∨dx z.recs z.origin 2=false):=by simp [a,b]
       have n8:¬z.recs.all (Rx z)=false:=by simp only [c'];simp
       rw [if_pos h6,if_neg n7,if_neg n8]
      ·rw [if_neg h6];by_cases h7:(findR z.recs z.origin 6).length≠1∨dx z.recs z.origin 2=false
       ·rw [if_pos h7]
       ·rw [if_neg h7];by_cases h8:z.recs.all (Rx z)=false
        ·rw [if_pos h8]
        ·exfalso;simp only [not_or,ne_eq,I7,Fz] at h7 h8;exact h6 (hk3.2 ⟨h7.1,h7.2,Bz.1 h8⟩)
     ·rw [if_pos h5,if_pos h5]
    ·rw [if_pos h4,if_pos h4]
   ·rw [h3] at hcr;rw [if_pos h3,if_pos (.inr hcr)]
 ·rw [if_pos h1,if_pos h1]
theorem Dc0 (z:Zone) (hz:z.wf) (hl:z.recs.length≤1000000):S Bl6 1 [z.pv]=some [.i .i64 (Pr z)]:=by
 obtain ⟨N,hN⟩:∃N,N=z.recs.length+2:=⟨_,rfl⟩;refine In9 (N:=N) rfl ?_;rw [nr z hz];have hzl:z.origin.length≤9223372036854775807:=hz.origin;have k1:=Br z.origin hzl;have k2:=Al1 z.recs hl;have k3:=Fx z.recs Bh0 [] (fun r=> !Oy r) hl (fun r hr=>by refine Il5 (N:=1) rfl ?_;have:=Dz5 r (hz.recs.2 r hr);simp (disch:=omega) only [Ib3,this,EVC,xe,EVP,EV,simprocAttr])
 have e3:(z.recs.any fun r=> !Oy r)= !z.recs.all Oy:=by rw [List.not_all_eq_any_not]
 rw [e3] at k3;have k4:=Ec1 z.recs hz.recs.2 hl;have hsl:(sortR z.recs).length≤1000000:=by obtain ⟨r,h1,h2,_⟩:=N8 Iv9 (by rw [Ev8];exact Ix8) z.recs hz.recs.2 hl;rw [Ev8] at h1;have:=Xf eqF r;rw [tj h1] at this;omega
 have k5:=Db3 z.recs (sortR z.recs) hl hsl;have k6:=Cj9 z.recs hl;have k7:=fun p1 p2 p3 p4 p5=>Jx7 z hz hl N (by omega) p1 p2 p3 p4 p5;have xt:=Bq At9.eq_1;have x28:=Bq kr.eq_1;have x27:=Bq lj.eq_1;have x26:=Bq lq.eq_1;have x25:=Bq lv.eq_1;have x24:=Bq lw.eq_1;have x23:=Bq lz.eq_1;have x22:=Bq lc.eq_1;have x21:=Bq lf.eq_1;have x20:=Bq lg.eq_1;have x19:=Bq lh.eq_1;have x18:=Bq ln.eq_1;rcases Aq (vld z.origin) with h1|h1
 ·have n1:¬vld z.origin=false:=by simp [h1]
  rw [if_neg n1];rw [h1] at k1;by_cases h2:2048<z.recs.length
  ·rw [if_pos (.inl h2)];have h2':(2048:Int)<(z.recs.length:Int):=by omega
   simp (disch:=omega) only [xt,x28,x27,x26,k1,h2',EVC,xe,EVP,EV,simprocAttr]
  ·have h2':¬(2048:Int)<(z.recs.length:Int):=by omega
   rcases Aq (Pp z.recs) with h3|h3<;>rw [h3] at k2
   ·rw [if_pos (.inr h3)];simp (disch:=omega) only [xt,x28,x27,x26,k1,k2,h2',EVC,xe,EVP,EV,simprocAttr]
   ·have n2:¬(2048<z.recs.length∨Pp z.recs=true):=by simp only [h2,h3];simp
    rw [if_neg n2];rcases Aq (z.recs.all Oy) with h4|h4<;>rw [h4] at k3
    ·have n4:¬z.recs.all Oy=false:=by simp only [h4];simp
     rw [if_neg n4];by_cases h5:z.recs=sortR z.recs
     ·have n5:¬z.recs≠sortR z.recs:=by simpa using h5
      rw [if_neg n5];have e5:decide (z.recs=sortR z.recs)=true:=decide_eq_true h5;rw [e5] at k5;clear h5 e5;generalize sortR z.recs=sr at*;cases h6:Al6 z.origin (grp z.recs) [] [] false with
      |none=>
       rw [h6] at k7;simp only [Iy0] at k7;generalize grp z.recs=gs at*;rw [if_neg (by simp)];simp (disch:=omega) only [xt,x28,x27,x26,x25,x24,x23,x22,x21,x20,x19,x18,k1,k2,h2',k3,k4,k5,k6,k7,Nn,EVC,xe,EVP,EV,simprocAttr]
      |some b=>
       rw [h6] at k7;simp only [Iy0] at k7;generalize grp z.recs=gs at*;cases b
       ·rw [if_neg (by simp)];simp (disch:=omega) only [xt,x28,x27,x26,x25,x24,x23,x22,x21,x20,x19,x18,k1,k2,h2',k3,k4,k5,k6,k7,Nn,EVC,xe,EVP,EV,simprocAttr]
       ·rw [if_pos rfl];simp (disch:=omega) only [xt,x28,x27,x26,x25,x24,x23,x22,x21,x20,x19,x18,k1,k2,h2',k3,k4,k5,k6,k7,Nn,EVC,xe,EVP,EV,simprocAttr]
     ·rw [if_pos h5];have e5:decide (z.recs=sortR z.recs)=false:=decide_eq_false h5;rw [e5] at k5;clear h5 e5;generalize sortR z.recs=sr at*;simp (disch:=omega) only [xt,x28,x27,x26,x25,x24,x23,x22,x21,k1,k2,h2',k3,k4,k5,EVC,xe,EVP,EV,simprocAttr]
    ·rw [if_pos h4];simp (disch:=omega) only [xt,x28,x27,x26,x25,x24,k1,k2,h2',k3,EVC,xe,EVP,EV,simprocAttr]
     try simp
 ·rw [if_pos h1];rw [h1] at k1;simp (disch:=omega) only [xt,x28,k1,EVC,xe,EVP,EV,simprocAttr]
end Go.X.G
/- Delegations and names of a zone, as the reference finds them; what exists. -/
namespace Go.X.G
open Go Go.X
def Cj5 (x:List UInt8):List (List UInt8)→List (List UInt8)
 |[]=>[x]
 |y::r=>if Hq y x<0 then y::Cj5 x r else if y=x then y::r else x::y::r
theorem insN_mem (x z:List UInt8):∀(l:List (List UInt8)),z∈Cj5 x l↔z=x∨z∈l
 |[]=>by simp [Cj5]
 |y::r=>by
  have ih:=insN_mem x z r;simp only [Cj5];split
  ·simp only [Am,ih];grind
  ·split
   ·rename_i h;subst h;simp only [Am];grind
   ·simp only [Am]
theorem R8 (x:List UInt8):∀(l:List (List UInt8)),l.Pairwise ltN→(Cj5 x l).Pairwise ltN
 |[],_=>by simp [Cj5]
 |y::r,h=>by
  obtain ⟨h1,h2⟩:=A0.1 h;have ih:=R8 x r h2;simp only [Cj5];by_cases c:Hq y x<0
  ·rw [if_pos c];refine A0.2 ⟨fun w hw=> ?_,ih⟩;rcases (insN_mem x w r).1 hw with rfl|hw
   ·exact (Ef _ _).1 c
   ·exact h1 w hw
  ·rw [if_neg c];by_cases e:y=x
   ·rw [if_pos e];exact h
   ·rw [if_neg e];have hxy:ltN x y:=by
     rcases to_N.tri x y with q|q|q
     ·exact q
     ·exact absurd q.symm e
     ·exact absurd ((Ef _ _).2 q) c
    refine A0.2 ⟨fun w hw=> ?_,h⟩;rcases Am.1 hw with rfl|hw
    ·exact hxy
    ·exact to_N.tr _ _ _ hxy (h1 w hw)
def Eh4 (l:List (List UInt8)):List (List UInt8):=l.foldl (fun a x=>Cj5 x a) []
theorem Z7 (l:List (List UInt8)):Eh4 l=setN l:=by
 have:∀(l a:List (List UInt8)),a.Pairwise ltN→(l.foldl (fun a x=>Cj5 x a) a).Pairwise ltN∧∀z,z∈l.foldl (fun a x=>Cj5 x a) a↔z∈a∨z∈l:=by
  intro l
  induction l with
  |nil=>intro a h;exact ⟨h,fun z=>by simp⟩
  |cons x r ih=>
   intro a h;obtain ⟨h1,h2⟩:=ih (Cj5 x a) (R8 x a h);refine ⟨h1,fun z=> ?_⟩;rw [List.foldl_cons,h2,insN_mem,Am]
   grind
 obtain ⟨h1,h2⟩:=this l [] List.Pairwise.nil;exact Rq to_N _ _ h1 (Mf l) fun x=>by rw [Lg];rw [Eh4,h2 x];simp
end Go.X.G
/- What exists in a zone, and what encloses a name; names with another end. -/
namespace Go.X.G
open Go Go.X
theorem Ad7 (z:Zone) (hl:z.recs.length≤1000):(namesN z).length≤1000000:=by
 have h1:=Qx (Gp9 z);have h2:∀l:List Rec,(l.flatMap fun r=>upN z.origin r.name).length≤256*l.length:=by
  intro l
  induction l with
  |nil=>simp
  |cons x r ih=>
   have:=gk z.origin x.name;rw [I6,Ac,A3];omega
 have h3:=h2 (z.recs.filter fun r=>under r.name z.origin && !jd z r.name);have h4:=Hv (fun r=>under r.name z.origin && !jd z r.name) z.recs;show (setN (Gp9 z)).length≤1000000;unfold Gp9 at h1 ⊢;omega
end Go.X.G
/- Records with names and texts of at most 300 bytes. -/
namespace Go.X.G
open Go Go.X
def c3 (s:List UInt8):List UInt8:=s.take 300
end Go.X.G
/- The laws of zones: what they call. -/
namespace Go.X.G
open Go Go.X
theorem Sk (o:List UInt8) (l:List Rec):PV.a [.s o,Al l]=Zone.pv ⟨o,l⟩:=rfl
theorem Xw (z:Zone):(⟨z.origin,z.recs⟩:Zone)=z:=rfl
end Go.X.G
/- Names with another end; redirections; what records of a name say. -/
namespace Go.X
structure Res where
 kind:Int
 owner:List UInt8
 wild:Bool
 target:List UInt8
 recs:List Rec
 deriving DecidableEq
def Res.cells (x:Res):List PV:=[.i .i64 x.kind, .s x.owner, .b x.wild, .s x.target,Al x.recs]
def Res.pv (x:Res):PV:= .a x.cells
end Go.X
namespace Go.X.G
open Go Go.X
end Go.X.G
/- What a zone says about a question: the program and the reference. -/
namespace Go.X.G
open Go Go.X
theorem Df1 (z:Zone) (n:List UInt8) (t:Int) (hl:z.recs.length≤1000000):S Bh4 3 [z.pv, .s n, .i .i64 t]=some [Al (findR z.recs n t)]:=by refine Im2 (N:=1) rfl ?_;have k1:=Ec3 z.recs n t hl;simp (disch:=omega) only [Ib5,k1,EVM,EVC,xe,EVP,EV,simprocAttr]
end Go.X.G
/- nsec: the chain of a zone. -/
namespace Go.X.G
open Go Go.X
def anB (x y:Int):Int:=IntKind.u64.wrap ((BitVec.ofInt IntKind.u64.bits x &&& ~~~ BitVec.ofInt IntKind.u64.bits y).toNat:Int)
def adB (x y:Int):Int:=IntKind.u64.wrap ((BitVec.ofInt IntKind.u64.bits x &&& BitVec.ofInt IntKind.u64.bits y).toNat:Int)
def orB (x y:Int):Int:=IntKind.u64.wrap ((BitVec.ofInt IntKind.u64.bits x|||BitVec.ofInt IntKind.u64.bits y).toNat:Int)
theorem Ix0 (x y:Int):X.bin .andNot (.i .u64 x) (.i .u64 y)=some (.i .u64 (anB x y)):=by rw [Cq];rfl
theorem Ix2 (x y:Int):X.bin .and (.i .u64 x) (.i .u64 y)=some (.i .u64 (adB x y)):=by rw [S2];rfl
theorem Hf5 (x y:Int):X.bin .or (.i .u64 x) (.i .u64 y)=some (.i .u64 (orB x y)):=by rw [Fl9];rfl
theorem T6 (l:List Int) (hk:∀t∈l,knw t=true) (hl:l.length≤1000000):S aj 1 [Hb l]=some [.i .u64 (l.foldl bitO 0)]:=by refine Im3 (N:=1) rfl ?_;have h:=Dz8 l hk hl;generalize l.foldl bitO 0=v at*;simp (disch:=omega) only [Ib6,h,EVC,xe,EVP,EV,simprocAttr]
def Ek0:Int:=211106232532992
def Eg9:Int:=8796093022212
theorem Hf3:S aj 1 [.l 1 [.i .i64 47, .i .i64 46]]=some [.i .u64 Ek0]:=by
 have:=T6 [47,46] (by decide) (by decide);have e:[47,46].foldl bitO 0=Ek0:=by kernel_rfl
 rw [e] at this;exact this
theorem Hf2:S aj 1 [.l 1 [.i .i64 2, .i .i64 43]]=some [.i .u64 Eg9]:=by
 have:=T6 [2,43] (by decide) (by decide);have e:[2,43].foldl bitO 0=Eg9:=by kernel_rfl
 rw [e] at this;exact this
def tyO (z:Zone) (n:List UInt8):Int:=anB ((typesR z.recs n).foldl bitO 0) Ek0
def chBits (z:Zone) (n:List UInt8):Int:=orB (if n∈cutsN z then adB (tyO z n) Eg9 else tyO z n) Ek0
def Ps (z:Zone) (ttl:Int) (n:List UInt8):Option Rec:=
 if tyO z n=0 then none else some ⟨n,47,ttl,⟨false,0,0,z.origin,[],[],0,0,0,0,0,0,chBits z n⟩⟩
def chain0 (z:Zone) (ttl:Int):List Rec:=(namesN z).filterMap (Ps z ttl)
def Bm3 (z:Zone):Int:=match findR z.recs z.origin 6 with|[]=>0|r::_=>r.data.e
def Hq6 (h:List UInt8) (r:Rec):Rec:={r with data:={r.data with host:=h}}
def lnk (g:List Rec) (i:Nat):List Rec:=
 if 0<i then match g[i - 1]?,g[i]? with
  |some a,some b=>g.set (i - 1) (Hq6 b.name a)
  |_,_=>g
 else g
def Gv5:Nat→Nat→List Rec→List Rec
 |0,_,g=>g
 |k+1,i,g=>Gv5 k (i+1) (lnk g i)
def chainN (z:Zone):List Rec:=Gv5 (chain0 z (Bm3 z)).length 0 (chain0 z (Bm3 z))
theorem Gv4 (g:List Rec) (i:Nat):(lnk g i).length=g.length:=by
 unfold lnk;split
 ·split
  ·rw [F2]
  ·rfl
 ·rfl
theorem Ig4 (l:List Rec) (j:Nat) (h:List UInt8) (x:Rec) (hx:l[j]? =some x):Q7 16 6 [.s h] (Al l) (.i .i64 (j:Int))=some (Al (l.set j (Hq6 h x))):=by
 have h1:=(Av.1 hx).1;have h3:(l.map Rec.pv)[j]? =some x.pv:=by rw [Bg,hx];rfl
 have h0:(0:Int)≤(j:Int):=by omega
 simp only [Q7,Al,h0,Gs,h3,and_self,if_true,Ay];have h4:Oh x.pv 6 [.s h]=some (Hq6 h x).pv:=rfl;rw [h4];simp [List.map_set]
theorem Ec5 (z:Zone) (ttl:Int) (s:List Rec) (hz:z.wf) (hl:z.recs.length≤1000000) (cl:(cutsN z).length≤1000000) (hn:(namesN z).length≤1000000) (hs:∃r,s=[r]∧r.data.e=ttl) (p1:PV) (N:Nat) (hN:(namesN z).length<N):
  Em5.ev S N [z.pv,p1, .i .u64 Ek0, .i .u64 Eg9,Al s,Bd (cutsN z),Bd (namesN z)]=some (.yld 0 [Al (chain0 z ttl)]):=by
 obtain ⟨r0,rfl,hr0⟩:=hs;have hor:(chain0 z ttl)=[]++(namesN z).filterMap (Ps z ttl):=rfl;rw [hor];have ki:=fun n=>Px (cutsN z) n cl;have kt:=fun n=>Dz7 z.recs n hl;refine Fb (N:=N) (namesN z) (fun i (g:List Rec)=>[Al g, .i .i64 (i:Int)]) (fun i g r=> .yld 0 [Al (g++r.filterMap (Ps z ttl))]) (fun i g=>g.length≤i) [] rfl (Cz _) hN (fun i g c r hd hi hc hI=> ?_) (fun g hI=> ?_)
 ·left;have e1:=Ix0 ((typesR z.recs c).foldl bitO 0) Ek0;have e2:anB ((typesR z.recs c).foldl bitO 0) Ek0=tyO z c:=rfl;rw [e2] at e1;have kt:=kt c;have ki:=ki c;have eb:chBits z c=orB (if c∈cutsN z then adB (tyO z c) Eg9 else tyO z c) Ek0:=rfl;have hil:(i:Int)<((namesN z).length:Int):=by omega
  generalize (typesR z.recs c).foldl bitO 0=ty at*;by_cases h0:tyO z c=0
  ·have hci:Ps z ttl c=none:=by unfold Ps;rw [if_pos h0]
   refine ⟨g,?_,by omega,by rw [List.filterMap_cons,hci]⟩;rw [h0] at e1;generalize namesN z=nn at*;generalize cutsN z=cc at*;simp (disch:=omega) only [Vt,hc,hil,kt,ki,e1,EVC,xe,EVP,EV,simprocAttr]
  ·have hci:Ps z ttl c=some ⟨c,47,ttl,⟨false,0,0,z.origin,[],[],0,0,0,0,0,0,chBits z c⟩⟩:=by unfold Ps;rw [if_neg h0]
   have ho:=Hf5 (if c∈cutsN z then adB (tyO z c) Eg9 else tyO z c) Ek0;rw [←eb] at ho;refine ⟨g++[⟨c,47,ttl,⟨false,0,0,z.origin,[],[],0,0,0,0,0,0,chBits z c⟩⟩],?_,by simp;omega,by rw [List.filterMap_cons,hci,As];rfl⟩;have ea:=Ix2 (tyO z c) Eg9;generalize chBits z c=bits at*;generalize tyO z c=t at*;generalize adB t Eg9=u at*;generalize namesN z=nn at*;by_cases h1:c∈cutsN z
   ·rw [if_pos h1] at ho;generalize cutsN z=cc at*;simp (disch:=omega) only [Vt,hc,hil,kt,ki,e1,ea,ho,h0,h1,hr0,EVC,xe,EVP,EV,simprocAttr]
   ·rw [if_neg h1] at ho;generalize cutsN z=cc at*;simp (disch:=omega) only [Vt,hc,hil,kt,ki,e1,ea,ho,h0,h1,hr0,EVC,xe,EVP,EV,simprocAttr]
 ·generalize namesN z=nn at*;simp (disch:=omega) only [Vt,Int.lt_irrefl,EVC,xe,EVP,EV,simprocAttr];simp [Out.goes]
theorem Ec4 (c0:List Rec) (hl:c0.length≤1000000) (N:Nat) (hN:c0.length<N) (p0 p1 p2 p3 p4 p5 p6:PV):
  El0.ev S N [p0,p1,p2,p3,p4,p5,p6,Al c0]=some (.yld 0 [Al (Gv5 c0.length 0 c0)]):=by
 refine Fb (N:=N) c0 (fun i (g:List Rec)=>[Al g, .i .i64 (i:Int)]) (fun i g r=> .yld 0 [Al (Gv5 r.length i g)]) (fun i g=>g.length=c0.length) c0 rfl rfl hN (fun i g c r hd hi hc hI=> ?_) (fun g hI=> ?_)
 ·left;refine ⟨lnk g i,?_,by rw [Gv4];exact hI,rfl⟩;have hil:(i:Int)<(c0.length:Int):=by omega
  unfold lnk;by_cases h0:0<i
  ·have a1:g[i - 1]? =some (g[i - 1]'(by omega)):=Az (by omega);have a2:g[i]? =some (g[i]'(by omega)):=Az (by omega);generalize g[i - 1]'(by omega)=a at*;generalize g[i]'(by omega)=b at*;rw [if_pos h0,a1,a2];simp only;have e1:(i:Int) - 1=((i - 1:Nat):Int):=by omega
   have e2:IntKind.i64.wrap ((i:Int) - 1)=((i - 1:Nat):Int):=by rw [w64 (by omega) (by omega)];exact e1
   have e3:=Ig4 g (i - 1) b.name a a1;have h0':(0:Int)<(i:Int):=by omega
   simp (disch:=omega) only [Vt,hil,h0',e1,e2,e3,a1,a2,EVC,xe,EVP,EV,simprocAttr]
  ·have h0':¬(0:Int)<(i:Int):=by omega
   rw [if_neg h0];simp (disch:=omega) only [Vt,hil,h0',EVC,xe,EVP,EV,simprocAttr]
 ·simp (disch:=omega) only [Vt,Int.lt_irrefl,EVC,xe,EVP,EV,simprocAttr];simp [Out.goes,Gv5]
theorem Al7 (z:Zone) (ttl:Int):(chain0 z ttl).length≤(namesN z).length:=List.length_filterMap_le _ _
theorem Ey8 (z:Zone) (hl:z.recs.length≤1000):(cutsN z).length≤1000000:=by have:=Qx ((z.recs.filter (En z)).map Rec.name);have h2:=Hv (En z) z.recs;rw [E6] at this;unfold cutsN;omega
theorem Dc1 (z:Zone) (hz:z.wf) (hl:z.recs.length≤1000):S Bl8 1 [z.pv]=some (if Pr z=0 then [Al (chainN z), .i .i64 0] else [Al [], .i .i64 13]):=by
 have hn:=Ad7 z hl;have hc:=Ey8 z hl;have hcl:=Al7 z (Bm3 z);refine Ip0 (N:=(namesN z).length+1) rfl ?_;have k1:=Dc0 z hz (by omega);by_cases h:Pr z=0
 ·rw [if_pos h];rw [h] at k1;have ho:=Cv7 h;obtain ⟨s,es⟩:=List.length_eq_one_iff.1 ho.soa;have k2:=Df1 z z.origin 6 (by omega);have k3:=ow z hz (by omega);have k4:=Ap8 z hz (by omega);have em:Bm3 z=s.data.e:=by unfold Bm3;rw [es]
  have l0:=Ec5 z (Bm3 z) [s] hz (by omega) hc hn ⟨s,rfl,em.symm⟩ (.i .i64 0) ((namesN z).length+1) (by omega);have l1:=Ec4 (chain0 z (Bm3 z)) (by omega) ((namesN z).length+1) (by omega);rw [es] at k2;have ec:Gv5 (chain0 z (Bm3 z)).length 0 (chain0 z (Bm3 z))=chainN z:=rfl;rw [ec] at l1;generalize chainN z=cn at*;generalize chain0 z (Bm3 z)=c0 at*;generalize cutsN z=cc at*;generalize namesN z=nn at*;have o1:=Hf3;have o2:=Hf2;have q1:I2 1 [.i .i64 47, .i .i64 46]=some (.l 1 [.i .i64 47, .i .i64 46]):=rfl;have q2:I2 1 [.i .i64 2, .i .i64 43]=some (.l 1 [.i .i64 2, .i .i64 43]):=rfl;simp (disch:=omega) only [Vt,k1,k2,k3,k4,l0,l1,o1,o2,q1,q2,Sk,Xw,EVC,xe,EVP,EV,simprocAttr]
 ·rw [if_neg h];simp (disch:=omega) only [Vt,k1,h,Sk,Xw,EVC,xe,EVP,EV,simprocAttr]
end Go.X.G
/- nsec: the sample, and the laws NsecCovers, NsecAbsent, NsecEmpty. -/
namespace Go.X.G
open Go Go.X
def smp20:Zone:=⟨[120,46],[⟨[120,46],2,9,⟨false,0,0,[110,46],[],[],0,0,0,0,0,0,0⟩⟩,
 ⟨[120,46],6,9,⟨false,0,0,[110,46],[109,46],[],3,0,0,0,5,0,0⟩⟩,
 ⟨[98,46,120,46],1,9,⟨false,0,1,[],[],[],0,0,0,0,0,0,0⟩⟩]⟩
theorem ij:S Eq3 0 []=some [smp20.pv]:=(Mg ext_mono).2 ⟨3,by kernel_rfl⟩
theorem Dr8:smp20.wf:=by refine ⟨by unfold S7;decide,by decide,fun r hr=> ?_⟩;simp only [smp20,Am,Dd7,or_false] at hr;rcases hr with rfl|rfl|rfl<;>(constructor<;>(try constructor))<;>simp [Gn4,fy,S7]
theorem g8:Pr smp20=0:=by kernel_rfl
theorem g7:namesN smp20=[[120,46],[98,46,120,46]]:=by unfold namesN;rw [←Z7];kernel_rfl
theorem Ay1:cutsN smp20=[]:=by unfold cutsN;rw [←Z7];kernel_rfl
def c20a:Rec:=⟨[120,46],47,5,⟨false,0,0,[98,46,120,46],[],[],0,0,0,0,0,0,211106232533060⟩⟩
def c20b:Rec:=⟨[98,46,120,46],47,5,⟨false,0,0,[120,46],[],[],0,0,0,0,0,0,211106232532994⟩⟩
theorem g9:chainN smp20=[c20a,c20b]:=by
 have e:chain0 smp20 (Bm3 smp20)=[Hq6 [120,46] c20a,c20b]:=by
  unfold chain0;rw [g7];unfold Ps chBits;rw [Ay1]
  kernel_rfl
 have e2:chainN smp20=Gv5 2 0 [Hq6 [120,46] c20a,c20b]:=by unfold chainN;rw [e];rfl
 exact e2.trans (by kernel_rfl)
theorem Cm8:∀r∈[c20a,c20b],r.wf:=by intro r hr;simp only [Am,Dd7,or_false] at hr;rcases hr with rfl|rfl<;>(constructor<;>(try constructor))<;>simp [Gn4,fy,S7,c20a,c20b]
theorem Am3:S Bm2 0 []=some [.b true]:=by
 refine Ip6 (N:=1) rfl ?_;have k1:=ij;have k2:=Dc1 smp20 Dr8 (by decide);rw [if_pos g8,g9] at k2;have a1:=Vf [c20a,c20b] [120,46] [99,46,120,46] Cm8 (by decide) (by decide) (by decide);have a2:=Vf [c20a,c20b] [120,46] [98,46,120,46] Cm8 (by decide) (by decide) (by decide);have a3:=Db4 [c20a,c20b] [120,46] ⟨[98,46,120,46],15⟩ Cm8 (by decide) (by decide) (by decide);have e1:X7 [c20a,c20b] [120,46] [99,46,120,46]=true:=by kernel_rfl
 have e2:X7 [c20a,c20b] [120,46] [98,46,120,46]=false:=by kernel_rfl
 have e3:Ck8 [c20a,c20b] [120,46] ⟨[98,46,120,46],15⟩=true:=by kernel_rfl
 rw [e1] at a1;rw [e2] at a2;rw [e3] at a3;have h0:[c20a,c20b][0]? =some c20a:=rfl;have h1:[c20a,c20b][1]? =some c20b:=rfl;have hl:[c20a,c20b].length=2:=rfl;have n0:c20a.name=[120,46]:=rfl;have n1:c20a.data.host=[98,46,120,46]:=rfl;have n2:c20b.data.host=[120,46]:=rfl;have n3:c20b.ttl=5:=rfl;generalize [c20a,c20b]=l at*;generalize c20a=ra at*;generalize c20b=rb at*;generalize smp20=z at*;simp (disch:=first|omega|decide) only [Ic6,k1,k2,a1,a2,a3,h0,h1,hl,n0,n1,n2,n3,Em7,Sk,Xw,EVM,EVC,xe,EVP,EV,simprocAttr]
theorem law_NsecCovers (r:Rec) (zone name:List UInt8) (hr:r.wf) (hz:S7 zone) (hn:S7 name):S Hh0 3 [r.pv, .s zone, .s name]=some [.b true]:=by
 refine Jz2 (N:=1) rfl ?_;have ka:=Am3;have ks:=Ay2 [r];unfold S7 at hz hn;rcases Aq (Bk5 [r]) with h1|h1
 ·by_cases h2:zone.length≤300
  ·by_cases h3:name.length≤300
   ·have k1:=Oj r zone name hr (by omega) (by omega);have k2:=nv r zone name hr (by omega) (by omega);simp (disch:=omega) only [Ix7,ka,ks,h1,k1,k2,Iq6,beq_self_eq_true,EVM,EVC,xe,EVP,EV,simprocAttr]
   ·simp (disch:=omega) only [Ix7,ka,ks,h1,EVM,EVC,xe,EVP,EV,simprocAttr]
  ·simp (disch:=omega) only [Ix7,ka,ks,h1,EVM,EVC,xe,EVP,EV,simprocAttr]
 ·simp (disch:=omega) only [Ix7,ka,ks,h1,EVM,EVC,xe,EVP,EV,simprocAttr]
end Go.X.G
