/- Records compacted: the library's function. -/
import Derived.Test.YtfnmphjdknjkmaaGreatDoorNsecOrderG12
import Derived.Test.YtfnmphjdknjkmaaGreatDoorNsecOrderG11
import Derived.Test.YtfnmphjdknjkmaaGreatDoorNsecOrderG9
import Derived.Test.YtfnmphjdknjkmaaGreatDoorNsecOrderG8
open Bool renaming eq_false_or_eq_true→Aq,and_eq_true→Aw,false_eq_true→Ad,or_eq_true→Ap,not_eq_true'→A8,eq_iff_iff→Cp,not_eq_false→Fx
open Classical renaming not_not→I7
open Int renaming toNat_natCast→I6
open List renaming getElem?_eq_some_iff→Av,getElem?_eq_getElem→Az,length_append→Ac,mem_cons→Am,length_take→Ar,append_assoc→As,pairwise_cons→A0,mem_of_getElem?→A4,length_cons→A6,getElem?_drop→A9,all_eq_true→Bz,length_pos_iff→Bc,length_nil→Bd,getElem?_map→Bg,mem_append_right→Bm,mem_filter→Bn,take_append_drop→B0,length_drop→B3,any_eq_true→B6,mem_append_left→Cv,nil_append→Cf,take_add_one→Ct,drop_drop→C2,mem_map→Dw,drop_eq_getElem_cons→Dz,take_length→Df,take_of_length_le→Dh,getElem_mem→Dt,drop_zero→D2,count_cons_of_ne→Ff,map_cons→Fh,length_set→F0,length_map→F1,count_cons_self→Gy,pairwise_iff_getElem→G9,length_filter_le→Hk,getLast_eq_getElem→I3,flatMap_cons→I5,filter_cons→Kh,getElem?_set_ne→M2,length_mergeSort→gx,getElem_take→og,mem_nil_iff→Dc8,filterMap_cons→Fg5,drop_set_of_lt→Fg6,mem_filterMap→Iv2,map_mergeSort→Iv3,count_eq_zero→Iv4
open Nat renaming le_refl→Af,zero_le→Cn,le_trans→C3,add_zero→C7,add_sub_cancel→V1
open Option renaming bind_some→Ay
set_option maxHeartbeats 1000000
set_option linter.unusedVariables false
set_option linter.unusedSimpArgs false
namespace Go.X.G
open Go Go.X
theorem oz (l:List Rec) (g:Nat) (caps:List PV) (eq2:Rec→Rec→Bool) (h:∀x∈l,∀y∈l,S g 2 (x.pv::y.pv::caps)=some [.b (eq2 x y)]) (hl:l.length≤1000000):S cr 1048578 [Al l, .f g caps]=some [Al (cpt eq2 l)]:=by
 refine Hv4 (N:=l.length+2) rfl ?_;by_cases h2:(l.length:Int)<2
 ·have e:cpt eq2 l=l:=by
   match l,h2 with
   |[],_=>rfl
   |[x],_=>rfl
   |_::_::_,h=>simp at h;omega
  rw [e];simp (disch:=omega) only [M7,h2,EVT,EVM,EVC,xe,EVP,EV,simprocAttr]
 ·-- the inner F5, from a place where two neighbours are equal
  have inner:∀k:Nat,1≤k→k<l.length→cpt eq2 (l.take (k+1))=l.take k→∃s:List Rec,s.length=l.length∧s.take (cpt eq2 l).length=cpt eq2 l∧Br3.ev S (l.length+2) [Al l, .f g caps, .i .i64 (k:Int),Al l, .b true]=some (.yld 2 [.i .i64 ((cpt eq2 l).length:Int),Al s]):=by
   intro k hk1 hk hcp;have key:=G0 (fn:=S) (N:=l.length+2) (η:=[Al l, .f g caps, .i .i64 (k:Int),Al l, .b true]) (id:=3) (init:=[(.v 2),(.c (.i .i64 (1))),(.v 3)]) (body:=m8) (α:=Nat×Nat×List Rec)
    (fun a=>[.i .i64 (a.1:Int), .i .i64 (a.2.1:Int),Al a.2.2])
    (fun o=>∃s:List Rec,s.length=l.length∧s.take (cpt eq2 l).length=cpt eq2 l∧o= .yld 2 [.i .i64 ((cpt eq2 l).length:Int),Al s])
    (fun a=>1≤a.2.1∧k+a.2.1≤l.length∧a.1<k+a.2.1∧a.2.2.length=l.length∧a.2.2.take a.1=cpt eq2 (l.take (k+a.2.1))∧(cpt eq2 (l.take (k+a.2.1))).length=a.1∧a.2.2.drop (k+a.2.1 - 1)=l.drop (k+a.2.1 - 1))
    (fun a=>l.length - a.2.1) (k,1,l) (by simp (disch:=omega) only [EVT,EVM,EVC,xe,EVP,EV,simprocAttr])
    ⟨by simp,by simp;omega,by simp,rfl,by simp only;rw [hcp],by simp only;rw [hcp,Ar];omega,rfl⟩ (by simp only;omega) ?_
   ·obtain ⟨o,h3,s,h4,h5,rfl⟩:=key;exact ⟨s,h4,h5,h3⟩
   ·rintro ⟨i,j,s⟩ ⟨a1,a2,a3,a4,a5,a6,a7⟩;simp only at a1 a2 a3 a4 a5 a6 a7;by_cases hj:k+j<l.length
    ·left;have c1:s[k+j]? =l[k+j]? :=by have:=congrArg (fun q=>q[1]?) a7;simp only [A9] at this;rwa [show k+j - 1+1=k+j by omega] at this
     have c0:s[k+j - 1]? =l[k+j - 1]? :=by have:=congrArg (fun q=>q[0]?) a7;simpa only [A9,C7] using this
     have g1:l[k+j]? =some (l[k+j]'hj):=Az hj;have g0:l[k+j - 1]? =some (l[k+j - 1]'(by omega)):=Az (by omega);have tk:l.take (k+(j+1))=l.take (k+j)++[l[k+j]'hj]:=by rw [show k+(j+1)=(k+j)+1 by omega,Ct,g1];rfl
     have ne:l.take (k+j)≠[]:=by intro h;have:=congrArg List.length h;rw [Ar,Bd] at this;omega
     have gl:(l.take (k+j)).getLast ne=l[k+j - 1]'(by omega):=by rw [I3];simp only [og,Ar];congr 1;omega
     have cs:=L1 eq2 (l[k+j]'hj) (l.take (k+j)) ne;rw [←tk,gl] at cs;have hc:=h (l[k+j]'hj) (Dt _) (l[k+j - 1]'(by omega)) (Dt _);generalize l[k+j]'hj=x at*;generalize l[k+j - 1]'(by omega)=y at*;have hjj:(j:Int)<(s.length:Int) - (k:Int):=by omega
     have i1:Hc 16 (Al s) (.i .i64 ((k:Int)+(j:Int)))=some x.pv:=by rw [Nt _ _ _ (by omega),show ((k:Int)+(j:Int)).toNat=k+j by omega,c1,g1];rfl
     have i0:Hc 16 (Al s) (.i .i64 ((k:Int)+((j:Int) - 1)))=some y.pv:=by rw [Nt _ _ _ (by omega),show ((k:Int)+((j:Int) - 1)).toNat=k+j - 1 by omega,c0,g0];rfl
     have ls:H8 16 (Al s) (.i .i64 (k:Int)) (.i .i64 (s.length:Int))=some (Al (s.drop k)):=by rw [Lr _ _ _ _ _ (by omega) (by omega) (by omega)];simp
     have e1:(s.drop k)[j]? =some x:=by rw [A9,c1,g1]
     have e0:(s.drop k)[j - 1]? =some y:=by rw [A9,show k+(j - 1)=k+j - 1 by omega,c0,g0]
     have si:∃w,s[i]? =some w:=⟨_,Az (by omega)⟩;obtain ⟨w,si⟩:=si;have ej:((j:Int) - 1).toNat=j - 1:=by omega
     by_cases hxy:eq2 x y=true
     ·refine ⟨(i,j+1,s),?_,⟨by simp,by simp only;omega,by simp only;omega,a4,?_,?_,?_⟩,by simp only;omega⟩
      ·simp (disch:=omega) only [M7,hjj,i1,i0,ls,e1,e0,ej,hc,hxy,EVT,EVM,EVC,xe,EVP,EV,simprocAttr]
      ·simp only;rw [cs,a5];simp [hxy]
      ·simp only;rw [cs,Ac,a6];simp [hxy]
      ·simp only;rw [show k+(j+1) - 1=(k+j - 1)+1 by omega,←C2,←C2,a7]
     ·refine ⟨(i+1,j+1,s.set i x),?_,⟨by simp,by simp only;omega,by simp only;omega,by simpa using a4,?_,?_,?_⟩,by simp only;omega⟩
      ·simp (disch:=omega) only [M7,hjj,i1,i0,ls,e1,e0,ej,si,hc,hxy,EVT,EVM,EVC,xe,EVP,EV,simprocAttr]
      ·simp only;rw [cs,Ct,List.getElem?_set_self (by omega),List.take_set_of_le (by omega),a5];simp [hxy]
      ·simp only;rw [cs,Ac,a6];simp [hxy]
      ·simp only;rw [show k+(j+1) - 1=(k+j - 1)+1 by omega,Fg6 (by omega),←C2,←C2,a7]
    ·right;have ek:k+j=l.length:=by omega
     rw [ek,Df] at a5 a6;have hjj:¬(j:Int)<(s.length:Int) - (k:Int):=by omega
     refine ⟨.yld 2 [.i .i64 (i:Int),Al s],?_,rfl,s,a4,by rw [a6];exact a5,by rw [a6]⟩;simp (disch:=omega) only [M7,hjj,EVT,EVM,EVC,xe,EVP,EV,simprocAttr]
  have key:Bt0.ev S (l.length+2) [Al l, .f g caps]=some (if cpt eq2 l=l then .yld 0 [Al l] else .ret [Al (cpt eq2 l)]):=by
   have:=G0 (fn:=S) (N:=l.length+2) (η:=[Al l, .f g caps]) (id:=1) (init:=[(.c (.i .i64 (1))),(.v 0)]) (body:=nc) (α:=Nat)
    (fun k=>[.i .i64 (k:Int),Al l]) (fun o=>o=if cpt eq2 l=l then .yld 0 [Al l] else .ret [Al (cpt eq2 l)])
    (fun k=>1≤k∧k≤l.length∧cpt eq2 (l.take k)=l.take k) (fun k=>l.length - k) 1 (by simp (disch:=omega) only [EVT,EVM,EVC,xe,EVP,EV,simprocAttr])
    ⟨Af 1,by omega,by cases l with
     |nil=>simp at h2
     |cons x r=>rfl⟩ (by omega) ?_
   ·obtain ⟨o,h3,h4⟩:=this;rw [←h4];exact h3
   ·rintro k ⟨k1,k2,k3⟩;by_cases hk:k<l.length
    ·have g1:l[k]? =some l[k]:=Az hk;have g0:l[k - 1]? =some (l[k - 1]'(by omega)):=Az (by omega);have tk:l.take (k+1)=l.take k++[l[k]]:=by rw [Ct,g1];rfl
     have ne:l.take k≠[]:=by intro h;have:=congrArg List.length h;rw [Ar,Bd] at this;omega
     have gl:(l.take k).getLast ne=l[k - 1]'(by omega):=by rw [I3];simp only [og,Ar];congr 1;omega
     have cs:=L1 eq2 l[k] (l.take k) ne;rw [←tk,gl,k3] at cs;have hkk:(k:Int)<(l.length:Int):=by omega
     have i1:Hc 16 (Al l) (.i .i64 (k:Int))=some (l[k]).pv:=by rw [Nt _ _ _ (by omega),show ((k:Int)).toNat=k by omega,g1];rfl
     have i0:Hc 16 (Al l) (.i .i64 ((k:Int) - 1))=some (l[k - 1]'(by omega)).pv:=by rw [Nt _ _ _ (by omega),show ((k:Int) - 1).toNat=k - 1 by omega,g0];rfl
     have hc:=h l[k] (Dt _) (l[k - 1]'(by omega)) (Dt _);by_cases hxy:eq2 l[k] (l[k - 1]'(by omega))=true
     ·right;have cs':cpt eq2 (l.take (k+1))=l.take k:=by rw [cs];simp [hxy]
      obtain ⟨s,s1,s2,s3⟩:=inner k k1 hk cs';have hlt:cpt eq2 l≠l:=by
       intro h;have q:(cpt eq2 l).length≤(cpt eq2 (l.take (k+1))).length+(l.drop (k+1)).length:=by
        have:∀(b a:List Rec),a≠[]→(cpt eq2 (a++b)).length≤(cpt eq2 a).length+b.length:=by
         intro b
         induction b with
         |nil=>intro a _;simp
         |cons x r ih=>
          intro a ha;have h1:=ih (a++[x]) (by simp);rw [L1 _ _ _ ha] at h1;rw [show a++x::r=a++[x]++r by simp];refine C3 h1 ?_;rw [Ac];split<;>simp<;>omega
        have h3:=this (l.drop (k+1)) (l.take (k+1)) (by intro h;have:=congrArg List.length h;rw [Ar,Bd] at this;omega);rwa [B0] at h3
       rw [h,cs',Ar,B3] at q;omega
      have hlen:=Xt eq2 l;refine ⟨.ret [Al (cpt eq2 l)],?_,rfl,by rw [if_neg hlt]⟩;generalize cpt eq2 l=fl at*;have ls:H8 16 (Al l) (.i .i64 (k:Int)) (.i .i64 (l.length:Int))=some (Al (l.drop k)):=by rw [Lr _ _ _ _ _ (by omega) (by omega) (by omega)];simp
      have hsl1:H8 16 (Al s) (.i .i64 ((fl.length:Nat):Int)) (.i .i64 (s.length:Int))=some (Al (s.drop fl.length)):=by rw [Lr _ _ _ _ _ (by omega) (by omega) (by omega)];simp
      have hsl2:H8 16 (Al s) (.i .i64 0) (.i .i64 ((fl.length:Nat):Int))=some (Al fl):=by rw [Lr _ _ _ _ _ (by omega) (by omega) (by omega)];simp [s2]
      have hrep:K1 16 (.i .i64 ((s.length:Int) - (fl.length:Int))) Ar9=some (Al (List.replicate (s.length - fl.length) zr)):=by rw [Dr0 _ (by omega) (by omega)];congr 3;omega
      have happ:Ik 16 (Al fl) (Al (List.replicate (s.length - fl.length) zr))=some (Al (fl++List.replicate (s.length - fl.length) zr)):=Yy _ _ (by simp;omega);have hsl3:H8 16 (Al (fl++List.replicate (s.length - fl.length) zr)) (.i .i64 0) (.i .i64 ((fl.length:Nat):Int))=some (Al fl):=by rw [Lr _ _ _ _ _ (by omega) (by omega) (by simp;omega)];simp
      simp (disch:=omega) only [M7,hkk,i1,i0,hc,hxy,ls,s3,hsl1,hsl2,hrep,happ,hsl3,EVT,EVM,EVC,xe,EVP,EV,simprocAttr]
     ·left;refine ⟨k+1,?_,⟨by omega,by omega,?_⟩,by omega⟩
      ·simp (disch:=omega) only [M7,hkk,i1,i0,hc,hxy,EVT,EVM,EVC,xe,EVP,EV,simprocAttr]
      ·rw [cs,tk];simp [hxy]
    ·right;have e:k=l.length:=by omega
     subst e;rw [Df] at k3;refine ⟨_,?_,?_,rfl⟩
     ·rw [if_pos k3];simp (disch:=omega) only [M7,EVT,EVM,EVC,xe,EVP,EV,simprocAttr]
     ·rw [if_pos k3];rfl
  by_cases hh:cpt eq2 l=l
  ·rw [if_pos hh] at key;rw [hh];simp (disch:=omega) only [M7,h2,key,EVT,EVM,EVC,xe,EVP,EV,simprocAttr]
  ·rw [if_neg hh] at key;simp (disch:=omega) only [M7,h2,key,EVT,EVM,EVC,xe,EVP,EV,simprocAttr]
end Go.X.G
/- Lists of records in the program: which are valid, their order, their sorting. -/
namespace Go.X.G
open Go Go.X
theorem Dz2 (r:Rec) (h:r.wf):S Bh7 1 [r.pv]=some [.b (Ob r)]:=by
 refine Ic8 (N:=1) rfl ?_;have g:r.name.length≤9223372036854775807:=h.name;have h1:=Bs r.name g;have h2:=Cd r.typ;have h3:=T5 r.typ r.data h.data;unfold Ob;by_cases k0:0≤r.ttl<;>by_cases k1:r.ttl≤2147483647
 all_goals rcases ch3 (vld r.name) (knw r.typ) (D9 r.typ r.data) with e0|⟨e0,e1⟩|⟨e0,e1,e2⟩|⟨e0,e1,e2⟩
 all_goals simp only [*] at h1 h2 h3
 all_goals simp (disch:=omega) only [Iw0,Xg,E3,h1,h2,h3,EVC,xe,EVP,EV,simprocAttr, *]
 all_goals simp
theorem Fg2 (x:Int):S Uy 1 [.i .i64 x]=some [.b false]:=by refine Hj2 (N:=1) rfl ?_;simp (disch:=omega) only [Gh9,EVC,xe,EVP,EV,simprocAttr]
theorem Db4 (a b:Int):S Ug 2 [.i .i64 a, .i .i64 b]=some [.i .i64 (wn a b)]:=by
 refine Hk4 (N:=1) rfl ?_;have h1:=Fg2 a;have h2:=Fg2 b;unfold wn;by_cases k1:a<b
 ·simp (disch:=omega) only [At5,h1,h2,k1,EVC,xe,EVP,EV,simprocAttr]
 ·by_cases k2:b<a
  ·simp (disch:=omega) only [At5,h1,h2,k1,k2,EVC,xe,EVP,EV,simprocAttr]
  ·simp (disch:=omega) only [At5,h1,h2,k1,k2,EVC,xe,EVP,EV,simprocAttr]
theorem uq (a b:Rec) (ha:a.wf) (hb:b.wf):S Ur 2 [a.pv,b.pv]=some [.i .i64 (Tw a b)]:=by
 refine Hv2 (N:=1) rfl ?_;have g1:a.name.length≤9223372036854775807:=ha.name;have g2:b.name.length≤9223372036854775807:=hb.name;have h1:=G8 a.name b.name g1 g2;have h2:=Db4 a.typ b.typ;have h3:=oy a.typ a.data b.data ha.data hb.data;unfold Tw;by_cases k1:H1 a.name b.name=0
 ·by_cases k2:wn a.typ b.typ=0
  ·rw [k1] at h1;rw [k2] at h2;simp (disch:=omega) only [At9,Xg,E3,h1,h2,h3,EVC,xe,EVP,EV,simprocAttr];simp [k1,k2]
  ·rw [k1] at h1;simp (disch:=omega) only [At9,h1,h2,k2,EVC,xe,EVP,EV,simprocAttr];simp [k1,k2]
 ·simp (disch:=omega) only [At9,h1,k1,EVC,xe,EVP,EV,simprocAttr]
theorem ov (a b:Rec) (ha:a.wf) (hb:b.wf):S Ut 2 [a.pv,b.pv]=some [.i .i64 (Gw1 a b)]:=by
 refine Hv5 (N:=1) rfl ?_;have h1:=uq a b ha hb;have h2:=Db4 a.ttl b.ttl;unfold Gw1;by_cases k1:Tw a b=0
 ·rw [k1] at h1;simp (disch:=omega) only [Ec5,h1,h2,EVC,xe,EVP,EV,simprocAttr];simp [k1]
 ·simp (disch:=omega) only [Ec5,h1,k1,EVC,xe,EVP,EV,simprocAttr]
theorem Ht0:Cmp Ut [] Gw1 Rec.wf:=⟨fun x y hx hy=>ov x y hx hy⟩
theorem Eq2:leC Gw1=leR:=rfl
theorem Ez8 (a b:Rec) (ha:a.wf) (hb:b.wf):S Us 2 [a.pv,b.pv]=some [.b (eqF a b)]:=by refine Hv3 (N:=1) rfl ?_;have h1:=uq a b ha hb;simp (disch:=omega) only [Gm2,h1,EVC,xe,EVP,EV,simprocAttr]
theorem Ez7 (l:List Rec) (hw:∀r∈l,r.wf) (hl:l.length≤1000000):S Bh5 1 [Al l]=some [Al (sortR l)]:=by refine Ic6 (N:=1) rfl ?_;have h0:=Db5 l hl;obtain ⟨r,h1,h2,h3⟩:=N9 Ht0 (by rw [Eq2];exact Ik4) l hw hl;rw [Eq2] at h1;have hm:=h1.mem Ik4;have h4:=oz r Us [] eqF (fun x hx y hy=>Ez8 x y (hw x ((hm x).1 hx)) (hw y ((hm y).1 hy))) (by omega);rw [tn h1] at h4;simp (disch:=omega) only [Iv9,h0,h3,h4,D3,Kr,EVT,EVM,EVC,xe,EVP,EV,simprocAttr]
end Go.X.G
/- Delegations and names of a zone, as the program finds them. -/
namespace Go.X.G
open Go Go.X
def cutsN (z:Zone):List (List UInt8):=setN ((z.recs.filter (Ey z)).map Rec.name)
theorem ew (z:Zone) (x:List UInt8):x∈cutsN z↔∃r∈z.recs,Ey z r=true∧r.name=x:=by unfold cutsN;rw [J2,Dw];simp only [Bn,and_assoc]
theorem Dp3 {l:List (List UInt8)} (h:∀x∈l,x.length≤9223372036854775807):∀x∈setN l,x.length≤9223372036854775807:=fun x hx=>h x ((J2 l x).1 hx)
theorem ol (z:Zone) (hz:z.wf) (hl:z.recs.length≤1000000):S Ah0 1 [z.pv]=some [Bl (cutsN z)]:=by
 refine Id5 (N:=z.recs.length+1) rfl ?_;have g1:=hz.origin;unfold Tj at g1;have key:Eh8.ev S (z.recs.length+1) [z.pv]=some (.yld 0 [Bl ([]++(z.recs.filter (Ey z)).map Rec.name)]):=by
  refine F2 z.recs (fun i (b:List (List UInt8))=>[Bl b, .i .i64 (i:Int)]) (fun i b r=> .yld 0 [Bl (b++(r.filter (Ey z)).map Rec.name)]) (fun i b=>b.length≤i) [] rfl (Cn _) (by omega) (fun i b c r hd hi hc hI=> ?_) (fun b hI=> ?_)
  ·left;have g2:=(hz.recs.2 c (A4 hc)).name;unfold Tj at g2;refine ⟨if Ey z c then b++[c.name] else b,?_,by split<;>(try rw [Ac,List.length_singleton])<;>omega,by rcases Aq (Ey z c) with q|q<;>simp [q]⟩;by_cases h1:c.typ=2
   ·by_cases h2:c.name=z.origin
    ·simp (disch:=omega) only [Ay2,hc,h1,h2,EVM,EVC,xe,EVP,EV,simprocAttr];simp [Ey,E4,h2]
    ·have k1:=E6 c.name z.origin g2 g1;rcases Aq (under c.name z.origin) with h3|h3
     ·rw [h3] at k1;simp (disch:=omega) only [Ay2,hc,h1,h2,h3,k1,EVM,EVC,xe,EVP,EV,simprocAttr];simp [Ey,E4,h1,h2,h3]
     ·rw [h3] at k1;simp (disch:=omega) only [Ay2,hc,h1,h2,h3,k1,EVM,EVC,xe,EVP,EV,simprocAttr];simp [Ey,E4,h1,h2,h3]
   ·simp (disch:=omega) only [Ay2,hc,h1,EVM,EVC,xe,EVP,EV,simprocAttr];simp [Ey,h1]
  ·simp (disch:=omega) only [Ay2,EVM,EVC,xe,EVP,EV,simprocAttr];simp [Out.goes]
 rw [Cf] at key;have hlen:((z.recs.filter (Ey z)).map Rec.name).length≤1000000:=by rw [F1];exact C3 (Hk _ _) hl
 have hw:∀x∈(z.recs.filter (Ey z)).map Rec.name,x.length≤9223372036854775807:=fun x hx=>by obtain ⟨r,hr,rfl⟩:=Dw.1 hx;exact (hz.recs.2 r (Bn.1 hr).1).name
 have k1:=Yd _ hlen hw;have k2:=Mr (((z.recs.filter (Ey z)).map Rec.name).mergeSort fun x y=> !decide (H1 y x<0)) (by rw [gx];exact hlen);rw [show cpt eqs (((z.recs.filter (Ey z)).map Rec.name).mergeSort fun x y=> !decide (H1 y x<0))=cutsN z from rfl] at k2;generalize ((z.recs.filter (Ey z)).map Rec.name).mergeSort (fun x y=> !decide (H1 y x<0))=so at*;generalize (z.recs.filter (Ey z)).map Rec.name=un at*;simp (disch:=omega) only [Ay2,key,k1,k2,D3,Kr,EVM,EVC,xe,EVP,EV,simprocAttr]
theorem Bw6 (l:List Rec) (hl:l.length≤1000000) (hw:∀r∈l,r.wf):S c8 1 [Al l]=some [Bl (setN (l.map Rec.name))]:=by
 refine Hw6 (N:=l.length+1) rfl ?_;have key:Bt3.ev S (l.length+1) [Al l]=some (.yld 0 [Bl ([]++l.map Rec.name)]):=by
  refine F2 l (fun i (b:List (List UInt8))=>[Bl b, .i .i64 (i:Int)]) (fun i b r=> .yld 0 [Bl (b++r.map Rec.name)]) (fun i b=>b.length≤i) [] rfl (Cn _) (by omega) (fun i b c r hd hi hc hI=> ?_) (fun b hI=> ?_)
  ·left;refine ⟨b++[c.name],?_,by simp;omega,by simp⟩;simp (disch:=omega) only [Bj0,hc,EVM,EVC,xe,EVP,EV,simprocAttr]
  ·simp (disch:=omega) only [Bj0,EVM,EVC,xe,EVP,EV,simprocAttr];simp [Out.goes]
 rw [Cf] at key;have hlen:(l.map Rec.name).length≤1000000:=by rw [F1];exact hl
 have hw:∀x∈l.map Rec.name,x.length≤9223372036854775807:=fun x hx=>by obtain ⟨r,hr,rfl⟩:=Dw.1 hx;exact (hw r hr).name
 have k1:=Yd _ hlen hw;have k2:=Mr ((l.map Rec.name).mergeSort fun x y=> !decide (H1 y x<0)) (by rw [gx];exact hlen);rw [show cpt eqs ((l.map Rec.name).mergeSort fun x y=> !decide (H1 y x<0))=setN (l.map Rec.name) from rfl] at k2;generalize setN (l.map Rec.name)=se at*;generalize (l.map Rec.name).mergeSort (fun x y=> !decide (H1 y x<0))=so at*;generalize l.map Rec.name=un at*;simp (disch:=omega) only [Bj0,key,k1,k2,D3,Kr,EVM,EVC,xe,EVP,EV,simprocAttr]
theorem Dz6 (c owner:List UInt8) (hc:c.length≤9223372036854775807) (ho:owner.length≤9223372036854775807):S U3 1 [.s c, .s owner]=some [.b (decide (c≠owner) && under owner c)]:=by
 refine Hw5 (N:=1) rfl ?_;have k1:=E6 owner c ho hc;by_cases h:c=owner
 ·simp (disch:=omega) only [Ec7,h,EVM,EVC,xe,EVP,EV,simprocAttr];simp
 ·simp (disch:=omega) only [Ec7,h,k1,EVM,EVC,xe,EVP,EV,simprocAttr];simp
theorem As2 (z:Zone) (acc:List (List UInt8)) (n:List UInt8) (p1 p2 p3 p4 p5 p6:PV) (N:Nat) (hu:under n z.origin=true) (ha:acc.length≤1000000) (hN:1000<N) (hp2:Hc 1 p2 p4=some (.s n)):
  Bp9.ev S N [z.pv,p1,p2,Bl acc,p4,p5,p6]=some (.yld 2 [Bl (acc++upN z.origin n)]):=by
 obtain ⟨v1,v2,_⟩:=Dj.1 hu;have hlb:=Mn n;have h0:jn ((lbl n).drop 0)=n:=Gj3 v1;have e0:upN z.origin n=(upN z.origin n).take ((lbl n).length - (lbl z.origin).length+1):=by rw [Dh];simp [upN]
 have:=Gt (fn:=S) (N:=N) (η:=[z.pv,p1,p2,Bl acc,p4,p5,p6]) (id:=3) (init:=[(.v 3),(.proj 0 (.idx 1 (.v 2) (.v 4)))]) (body:=Dx3) ((lbl n).length - (lbl z.origin).length) (fun k=>[Bl (acc++(upN z.origin n).take k), .s (jn ((lbl n).drop k))])
  (fun _=> .yld 2 [Bl (acc++upN z.origin n)]) ?_ (by omega) (fun k hk=> ?_) ?_
 ·exact this
 ·rw [h0];simp (disch:=omega) only [hp2,EVM,EVC,xe,EVP,EV,simprocAttr];simp
 ·left;obtain ⟨q1,q2⟩:=Gp3 hu hk;have q3:¬jn ((lbl n).drop k)=z.origin:=fun h=>by have:=(Ec8 hu (Nat.le_of_lt hk)).1 h;omega
  have q4:=Bt8 v1 k;have k1:=Vr (jn ((lbl n).drop k)) (by omega);rw [q1,q2] at k1;have q5:(upN z.origin n).take (k+1)=(upN z.origin n).take k++[jn ((lbl n).drop k)]:=by rw [Ct,Bj3 (Nat.le_of_lt hk)];rfl
  rw [q5,←As];have q6:(acc++(upN z.origin n).take k).length≤1000300:=by rw [Ac,Ar];omega
  generalize acc++(upN z.origin n).take k=a at*;refine ⟨?_,rfl⟩;generalize jn ((lbl n).drop (k+1))=nx at*;generalize jn ((lbl n).drop k)=cu at*;simp (disch:=omega) only [gp,q3,k1,EVM,EVC,xe,EVP,EV,simprocAttr]
 ·have q3:=(Ec8 hu (Af _)).2 rfl;have q5:(upN z.origin n)=(upN z.origin n).take ((lbl n).length - (lbl z.origin).length)++[jn ((lbl n).drop ((lbl n).length - (lbl z.origin).length))]:=by have:=Ct (l:=upN z.origin n) (i:=(lbl n).length - (lbl z.origin).length);rw [Bj3 (Af _)] at this;rw [←e0] at this;exact this
  rw [q3] at q5 ⊢;have q6:(acc++(upN z.origin n).take ((lbl n).length - (lbl z.origin).length)).length≤1000300:=by rw [Ac,Ar];omega
  refine ⟨?_,rfl⟩
  conv=>rhs;rw [q5,←As]
  generalize acc++(upN z.origin n).take ((lbl n).length - (lbl z.origin).length)=a at*;simp (disch:=omega) only [gp,EVM,EVC,xe,EVP,EV,simprocAttr]
theorem Ex6 (z:Zone) (owner:List UInt8):((cutsN z).any fun c=>decide (c≠owner) && under owner c)=Xd z owner:=by
 rw [Cp];unfold Xd;simp only [B6,Aw,decide_eq_true_eq,ew];constructor
 ·rintro ⟨x,⟨r,hr,h1,rfl⟩,h2,h3⟩;exact ⟨r,hr,⟨h1,h2⟩,h3⟩
 ·rintro ⟨r,hr,⟨h1,h2⟩,h3⟩;exact ⟨r.name,⟨r,hr,h1,rfl⟩,h2,h3⟩
def H2 (z:Zone) (n:List UInt8):Bool:=under n z.origin && !Xd z n
theorem As1 (z:Zone) (hz:z.wf) (hl:z.recs.length≤1000):S Bl1 1 [z.pv]=some [Bl (namesN z)]:=by
 refine Id4 (N:=z.recs.length+1001) rfl ?_;have g1:=hz.origin;unfold Tj at g1;have k1:=ol z hz (by omega);have k2:=Bw6 z.recs (by omega) (fun r hr=>hz.recs.2 r hr);have hol:(setN (z.recs.map Rec.name)).length≤z.recs.length:=by have:=Qy (z.recs.map Rec.name);rwa [F1] at this
 have how:∀x∈setN (z.recs.map Rec.name),x.length≤9223372036854775807:=Dp3 fun x hx=>by obtain ⟨r,hr,rfl⟩:=Dw.1 hx;exact (hz.recs.2 r hr).name
 have hcl:(cutsN z).length≤1000000:=by have:=Qy ((z.recs.filter (Ey z)).map Rec.name);rw [F1] at this;have h2:=Hk (Ey z) z.recs;show (setN ((z.recs.filter (Ey z)).map Rec.name)).length≤1000000;omega
 have hcw:∀x∈cutsN z,x.length≤9223372036854775807:=fun x hx=>by obtain ⟨r,hr,_,rfl⟩:=(ew z x).1 hx;exact (hz.recs.2 r hr).name
 have hmem:∀x,x∈((setN (z.recs.map Rec.name)).filter (H2 z)).flatMap (upN z.origin)↔El3 z x:=by
  intro x;unfold El3 H2;simp only [List.mem_flatMap,Bn,J2,Dw,Aw,A8];constructor
  ·rintro ⟨o,⟨⟨r,hr,rfl⟩,h1,h2⟩,h3⟩;obtain ⟨h4,h5⟩:=(Wq h1).1 h3;exact ⟨r,hr,h1,h2,h4,h5⟩
  ·rintro ⟨r,hr,h1,h2,h4,h5⟩;exact ⟨r.name,⟨⟨r,hr,rfl⟩,h1,h2⟩,(Wq h1).2 ⟨h4,h5⟩⟩
 generalize hO:setN (z.recs.map Rec.name)=O at*;have key:Eh7.ev S (z.recs.length+1001) [z.pv,Bl (cutsN z),Bl O]=some (.yld 0 [Bl ([]++(O.filter (H2 z)).flatMap (upN z.origin))]):=by
  refine F2 O (fun i (b:List (List UInt8))=>[Bl b, .i .i64 (i:Int)]) (fun i b r=> .yld 0 [Bl (b++(r.filter (H2 z)).flatMap (upN z.origin))]) (fun i b=>b.length≤256*i) [] rfl (Cn _) (by omega) (fun i b c r hd hi hc hI=> ?_) (fun b hI=> ?_)
  ·left;have g2:=how c (A4 hc);have k3:=E6 c z.origin g2 g1;have hid:=Ex6 z c;rcases Aq (under c z.origin) with h1|h1
   ·have k4:=Kf (cutsN z) U3 [.s c] _ hcl (fun x hx=>Dz6 x c (hcw x hx) g2);rw [hid] at k4;rw [h1] at k3;rcases Aq (Xd z c) with h2|h2
    ·refine ⟨b,?_,by omega,by simp [H2,h1,h2]⟩;rw [h2] at k4;generalize cutsN z=cz at*;simp (disch:=omega) only [gp,hc,k3,k4,EVM,EVC,xe,EVP,EV,simprocAttr]
    ·have hu:=g8 z.origin c;refine ⟨b++upN z.origin c,?_,by rw [Ac];omega,by simp [H2,h1,h2]⟩;rw [h2] at k4;have k5:∀p5 p6,Bp9.ev S (z.recs.length+1001) [z.pv,Bl (cutsN z),Bl O,Bl b, .i .i64 (i:Int),p5,p6]=some (.yld 2 [Bl (b++upN z.origin c)]):=fun p5 p6=>As2 z b c _ _ (Bl b) _ p5 p6 _ h1 (by omega) (by omega) (by rw [L0 _ _ _ (by omega)];simp [hc]);generalize b++upN z.origin c=b' at*;generalize cutsN z=cz at*;simp (disch:=omega) only [gp,hc,k3,k4,k5,EVM,EVC,xe,EVP,EV,simprocAttr]
   ·refine ⟨b,?_,by omega,by simp [H2,h1]⟩;rw [h1] at k3;generalize cutsN z=cz at*;simp (disch:=omega) only [gp,hc,k3,EVM,EVC,xe,EVP,EV,simprocAttr]
  ·generalize cutsN z=cz at*;simp (disch:=omega) only [gp,EVM,EVC,xe,EVP,EV,simprocAttr];simp [Out.goes]
 rw [Cf] at key;have hxl:((O.filter (H2 z)).flatMap (upN z.origin)).length≤256*O.length:=by
  have:∀l:List (List UInt8),(l.flatMap (upN z.origin)).length≤256*l.length:=by
   intro l
   induction l with
   |nil=>simp
   |cons x r ih=>
    have:=g8 z.origin x;rw [I5,Ac,A6];omega
  refine C3 (this _) ?_;have:=Hk (H2 z) O;omega
 have hxw:∀x∈(O.filter (H2 z)).flatMap (upN z.origin),x.length≤9223372036854775807:=fun x hx=>by obtain ⟨r,hr,_,_,h4,_⟩:=(hmem x).1 hx;have:=Jz (Dj.1 h4).2.1;omega
 have he:setN ((O.filter (H2 z)).flatMap (upN z.origin))=namesN z:=Ej6 z _ hmem;generalize (O.filter (H2 z)).flatMap (upN z.origin)=un at*;have k6:=Yd un (by omega) hxw;have k7:=Mr (un.mergeSort fun x y=> !decide (H1 y x<0)) (by rw [gx];omega);rw [show cpt eqs (un.mergeSort fun x y=> !decide (H1 y x<0))=setN un from rfl,he] at k7;generalize un.mergeSort (fun x y=> !decide (H1 y x<0))=so at*;generalize namesN z=nz at*;generalize cutsN z=cz at*;simp (disch:=omega) only [gp,k1,k2,key,k6,k7,D3,Kr,EVM,EVC,xe,EVP,EV,simprocAttr]
end Go.X.G
/- Zones in the program: what is asked of the records of one name. -/
namespace Go.X.G
open Go Go.X
abbrev ltC:List UInt8×Int→List UInt8×Int→Prop:=fun p q=>ltB p.1 q.1∨(p.1=q.1∧p.2<q.2)
theorem to_C:TO ltC:=Dc0.prod Gp6
def ltQ (a b:Ques):Prop:=ltC (a.name,a.typ) (b.name,b.typ)
theorem to_Q:TO ltQ where
 irr:=fun a=>to_C.irr _
 tr:=fun a b c=>to_C.tr _ _ _
 tri:=fun a b=>by
  rcases to_C.tri (a.name,a.typ) (b.name,b.typ) with h|h|h
  ·exact .inl h
  ·injection h with h1 h2;refine .inr (.inl ?_);cases a;cases b;simp only at h1 h2;rw [h1,h2]
  ·exact .inr (.inr h)
def lj (a b:Ques):Int:=if (Op.bytesLess a.name b.name||(decide (a.name=b.name) && decide (a.typ<b.typ)))=true then -1 else if a=b then 0 else 1
theorem Gg (a b:Ques):lj a b<0↔ltQ a b:=by
 unfold lj ltQ ltC;simp only;have e:(Op.bytesLess a.name b.name||(decide (a.name=b.name) && decide (a.typ<b.typ)))=true↔(ltB a.name b.name∨a.name=b.name∧a.typ<b.typ):=by simp only [Ap,Aw,decide_eq_true_eq,S3]
 by_cases h:ltB a.name b.name∨a.name=b.name∧a.typ<b.typ
 ·rw [if_pos (e.2 h)];simp [h]
 ·rw [if_neg (fun q=>h (e.1 q))];simp only [h,iff_false];split<;>omega
theorem km (a b:Ques):S Mx 2 [a.pv,b.pv]=some [.i .i64 (lj a b)]:=by
 refine Hv8 (N:=1) rfl ?_;unfold lj;rcases Aq (Op.bytesLess a.name b.name) with h1|h1
 ·simp (disch:=omega) only [Y6,h1,EVM,EVC,xe,EVP,EV,simprocAttr];simp
 ·by_cases h2:a.name=b.name
  ·by_cases h3:a.typ<b.typ
   ·rw [h2] at h1;simp (disch:=omega) only [Y6,h1,h2,h3,EVM,EVC,xe,EVP,EV,simprocAttr];simp
   ·rw [h2] at h1;by_cases h4:a=b
    ·simp (disch:=omega) only [Y6,h1,h2,h3,EVM,EVC,xe,EVP,EV,simprocAttr];simp [h4]
    ·simp (disch:=omega) only [Y6,h1,h2,h3,h4,EVM,EVC,xe,EVP,EV,simprocAttr];simp [h4]
  ·have h4:¬a=b:=fun e=>h2 (by rw [e]);simp (disch:=omega) only [Y6,h1,h2,h4,EVM,EVC,xe,EVP,EV,simprocAttr];simp [h4]
def H6 (l:List Ques):PV:= .l 2 (l.map Ques.pv)
theorem H9 (l:List Ques):Fp (H6 l)=some (.i .i64 (l.length:Int)):=by simp [H6,Fp]
theorem J9 (l:List Ques) (k:IntKind) (z:Int) (h:0≤z):Hc 2 (H6 l) (.i k z)=(l[z.toNat]?).map Ques.pv:=by simp [H6,Xb _ _ _ _ h]
theorem Ek5 (x:Ques):I1 2 [x.pv]=some (H6 [x]):=rfl
theorem Dz0 (l:List Ques) (x:Ques) (h:l.length+1≤1073741824):Ik 2 (H6 l) (H6 [x])=some (H6 (l++[x])):=by have:=S8 2 (l.map Ques.pv) [x.pv] (by simpa using h);simpa [H6] using this
def uj:PV→PV→Int
 | .a [.s a, .i _ t], .a [.s b, .i _ u]=>lj ⟨a,t⟩ ⟨b,u⟩
 |_,_=>0
theorem Ez6 (l:List Ques) (hl:l.length≤1000000):S Rs 1048578 [H6 l, .f Mx []]=some [H6 (l.mergeSort fun x y=> !decide (lj y x<0))]:=by
 have hm:∀x∈l.map Ques.pv,∃a∈l,x=a.pv:=fun x hx=>by obtain ⟨a,h1,h2⟩:=Dw.1 hx;exact ⟨a,h1,h2.symm⟩
 have hc:∀a b:Ques,uj a.pv b.pv=lj a b:=fun a b=>rfl;have h:=tp (tab:=tab) (xs:=Gk4) (ss:=Ty) (f:=Rs) (s:=Bq4) Fm4 Fn0 (g:=Mx) (caps:=[]) (l:=l.map Ques.pv) (by decide) (by simp;omega)
  (fun x hx=>by obtain ⟨a,_,rfl⟩:=hm x hx;rfl) uj
  (fun x hx y hy=>by obtain ⟨a,ha,rfl⟩:=hm x hx;obtain ⟨b,hb,rfl⟩:=hm y hy;exact km a b)
  (fun x hx=>by obtain ⟨a,_,rfl⟩:=hm x hx;rw [hc,Gg];exact to_Q.irr a)
  (fun x hx y hy z hz h1 h2=>by obtain ⟨a,_,rfl⟩:=hm x hx;obtain ⟨b,_,rfl⟩:=hm y hy;obtain ⟨c,_,rfl⟩:=hm z hz;rw [hc] at*;exact (Gg a c).2 (to_Q.tr _ _ _ ((Gg a b).1 h1) ((Gg b c).1 h2)))
  (fun x hx y hy z hz h1 h2=>by obtain ⟨a,_,rfl⟩:=hm x hx;obtain ⟨b,_,rfl⟩:=hm y hy;obtain ⟨c,_,rfl⟩:=hm z hz;rw [hc] at*;exact fun h3=>to_Q.ntr (fun q=>h1 ((Gg a b).2 q)) (fun q=>h2 ((Gg b c).2 q)) ((Gg a c).1 h3))
  (fun x hx y hy h1 h2=>by
   obtain ⟨a,_,rfl⟩:=hm x hx;obtain ⟨b,_,rfl⟩:=hm y hy;rw [hc] at*;rcases to_Q.tri a b with q|q|q
   ·exact absurd ((Gg a b).2 q) h1
   ·rw [q]
   ·exact absurd ((Gg b a).2 q) h2)
 have e:(l.map Ques.pv).mergeSort (fun x y=> !decide (uj y x<0))=(l.mergeSort fun x y=> !decide (lj y x<0)).map Ques.pv:=(Iv3 (r:=fun x y=> !decide (lj y x<0)) (s:=fun x y=> !decide (uj y x<0)) (f:=Ques.pv) fun a _ b _=>rfl).symm;rw [e] at h;exact h
def Wg (p:Option Ques) (n:Nat):List Ques→Bool
 |[]=>false
 |k::r=>if 64<(if p=some k then n+1 else 1) then true else Wg (some k) (if p=some k then n+1 else 1) r
theorem Wd:∀(l:List Ques) (p:Ques) (n:Nat),(p::l).Pairwise (fun a b=>¬ltQ b a)→n≤64→(Wg (some p) n l=true↔(∃k,k≠p∧64<l.count k)∨64<n+l.count p)
 |[],p,n,_,hn=>by simp [Wg];omega
 |k::r,p,n,hs,hn=>by
  obtain ⟨h1,h2⟩:=A0.1 hs;by_cases e:p=k
  ·subst e;by_cases hg:64<n+1
   ·simp only [Wg,if_true,hg];refine ⟨fun _=> .inr ?_,fun _=>trivial⟩;rw [Gy];omega
   ·simp only [Wg,if_true,hg,if_false];rw [Wd r p (n+1) h2 (by omega),Gy];constructor
    ·rintro (⟨q,q1,q2⟩|q)
     ·exact .inl ⟨q,q1,by rw [Ff (fun e=>q1 e.symm)];exact q2⟩
     ·exact .inr (by omega)
    ·rintro (⟨q,q1,q2⟩|q)
     ·exact .inl ⟨q,q1,by rw [Ff (fun e=>q1 e.symm)] at q2;exact q2⟩
     ·exact .inr (by omega)
  ·have e':¬(some p=some k):=fun q=>e (by injection q);simp only [Wg,if_neg e',show¬64<1 by omega,if_false];rw [Wd r k 1 h2 (by omega)];have hlt:ltQ p k:=by
    rcases to_Q.tri p k with q|q|q
    ·exact q
    ·exact absurd q e
    ·exact absurd q (h1 k (.head _))
   have hno:∀y∈k::r,y≠p:=fun y hy q=>by
    subst q;rcases Am.1 hy with q|hy
    ·exact e q
    ·exact (A0.1 h2).1 y hy hlt
   have h0:(k::r).count p=0:=Iv4.2 fun hm=>hno p hm rfl;have h0r:r.count p=0:=Iv4.2 fun hm=>hno p (.tail _ hm) rfl;rw [h0];constructor
   ·rintro (⟨q,q1,q2⟩|q)
    ·refine .inl ⟨q,fun w=>by rw [w,h0r] at q2;omega,?_⟩;rw [Ff (fun w=>q1 w.symm)];exact q2
    ·refine .inl ⟨k,fun w=>e w.symm,?_⟩;rw [Gy];omega
   ·rintro (⟨q,q1,q2⟩|q)
    ·by_cases w:q=k
     ·subst w;rw [Gy] at q2;exact .inr (by omega)
     ·rw [Ff (fun v=>w v.symm)] at q2;exact .inl ⟨q,w,q2⟩
    ·omega
theorem Dp8 (l:List Ques) (hs:l.Pairwise (fun a b=>¬ltQ b a)):Wg none 0 l=true↔∃k,64<l.count k:=by
 cases l with
 |nil=>simp [Wg]
 |cons k r=>
  have e:¬((none:Option Ques)=some k):=by simp
  simp only [Wg,if_neg e,show¬64<1 by omega,if_false];rw [Wd r k 1 hs (by omega)];constructor
  ·rintro (⟨q,q1,q2⟩|q)
   ·exact ⟨q,by rw [Ff (fun w=>q1 w.symm)];exact q2⟩
   ·exact ⟨k,by rw [Gy];omega⟩
  ·rintro ⟨q,q2⟩;by_cases w:q=k
   ·subst w;rw [Gy] at q2;exact .inr (by omega)
   ·rw [Ff (fun v=>w v.symm)] at q2;exact .inl ⟨q,w,q2⟩
def kyQ (r:Rec):Ques:=⟨r.name,r.typ⟩
def Ps (l:List Rec):Bool:=Wg none 0 ((l.map kyQ).mergeSort fun x y=> !decide (lj y x<0))
theorem X1 (n:List UInt8) (t:Int):∀l:List Rec,(l.map kyQ).count ⟨n,t⟩=(findR l n t).length
 |[]=>rfl
 |r::l=>by
  have ih:=X1 n t l;unfold findR at ih ⊢;rw [Fh,Kh];by_cases h:isK n t r=true
  ·rw [if_pos h];unfold isK at h;simp only [Aw,decide_eq_true_eq] at h;have:kyQ r=⟨n,t⟩:=by unfold kyQ;rw [h.1,h.2]
   rw [this,Gy,ih,A6]
  ·rw [if_neg h];have:kyQ r≠⟨n,t⟩:=fun e=>h (by unfold kyQ at e;injection e with e1 e2;unfold isK;simp [e1,e2])
   rw [Ff this,ih]
theorem Fs1 (l:List Ques):(l.mergeSort fun x y=> !decide (lj y x<0)).Pairwise (fun a b=>¬ltQ b a):=by
 have:=List.pairwise_mergeSort (le:=fun x y:Ques=> !decide (lj y x<0)) (fun a b c h1 h2=>by
  simp only [A8,decide_eq_false_iff_not,Gg] at h1 h2 ⊢;exact to_Q.ntr h2 h1) (fun a b=>by
  simp only [Ap,A8,decide_eq_false_iff_not,Gg];rcases to_Q.tri a b with h|h|h
  ·exact .inl (to_Q.asym h)
  ·subst h;exact .inl (to_Q.irr a)
  ·exact .inr (to_Q.asym h)) l
 refine this.imp fun {a b} h=> ?_;simpa only [A8,decide_eq_false_iff_not,Gg] using h
theorem Am7 (l:List Rec):Ps l= !(l.all fun r=>decide ((findR l r.name r.typ).length≤64)):=by
 rw [Cp];unfold Ps;rw [Dp8 _ (Fs1 _)];have hc:∀k,((l.map kyQ).mergeSort fun x y=> !decide (lj y x<0)).count k=(l.map kyQ).count k:=fun k=>(List.mergeSort_perm _ _).count_eq k;simp only [hc,A8,List.all_eq_false,decide_eq_true_eq];constructor
 ·rintro ⟨⟨n,t⟩,h⟩;rw [X1] at h;have hp:0<(findR l n t).length:=by omega
  obtain ⟨x,hx⟩:=List.length_pos_iff_exists_mem.1 hp;obtain ⟨h3,h4⟩:=Bn.1 hx;unfold isK at h4;simp only [Aw,decide_eq_true_eq] at h4;exact ⟨x,h3,by rw [h4.1,h4.2];omega⟩
 ·rintro ⟨r,h1,h2⟩;exact ⟨kyQ r,by show 64<(l.map kyQ).count ⟨r.name,r.typ⟩;rw [X1];omega⟩
theorem Am6 (l:List Rec) (hl:l.length≤1000000):S Bh9 1 [Al l]=some [.b (Ps l)]:=by
 obtain ⟨N,hN⟩:∃N,N=l.length+1:=⟨_,rfl⟩;refine Id0 (N:=N) rfl ?_;have k0:Eh4.ev S N [Al l]=some (.yld 0 [H6 (l.map kyQ)]):=by
  refine E2 l (fun i=>[H6 ((l.take i).map kyQ), .i .i64 (i:Int)]) (fun i r=> .yld 0 [H6 (l.map kyQ)]) rfl (by omega) (fun i c r hd hi hc=> ?_) ?_
  ·left;refine ⟨?_,rfl⟩;have e:(l.take (i+1)).map kyQ=(l.take i).map kyQ++[kyQ c]:=by rw [Ct,hc];simp
   have hsub:Jf 0 2 c.pv=some (kyQ c).pv:=rfl;have hlen:((l.take i).map kyQ).length≤1000000:=by rw [F1,Ar];omega
   rw [e];generalize (l.take i).map kyQ=a at*;simp (disch:=omega) only [V7,hc,hsub,Ek5,Dz0,H9,J9,EVM,EVC,xe,EVP,EV,simprocAttr]
  ·refine ⟨?_,rfl⟩;have e:l.take l.length=l:=Df;simp (disch:=omega) only [V7,e,H9,J9,EVM,EVC,xe,EVP,EV,simprocAttr]
 have hs:=Ez6 (l.map kyQ) (by simpa using hl);have hlen:((l.map kyQ).mergeSort fun x y=> !decide (lj y x<0)).length=l.length:=by simp
 unfold Ps;generalize ((l.map kyQ).mergeSort fun x y=> !decide (lj y x<0))=ks at*;have k1:Eg6.ev S N [Al l,H6 (l.map kyQ),H6 ks]=some (if Wg none 0 ks=true then .ret [.b true] else .yld 0 []):=by
  refine F2 ks (fun i (g:Nat)=>[.i .i64 (g:Int), .i .i64 (i:Int)]) (fun i g r=>if Wg (if i=0 then none else ks[i - 1]?) g r=true then .ret [.b true] else .yld 0 []) (fun i g=>g≤64) 0 ?_ (by omega) (by omega) (fun i g c r hd hi hc hg=> ?_) (fun g hg=> ?_)
  ·simp (disch:=omega) only [EVC,xe,EVP,EV,simprocAttr]
  ·have hp:(if i=0 then none else ks[i - 1]?)=some c↔(0<i∧ks[i - 1]? =some c):=by
    by_cases h:i=0
    ·simp [h]
    ·simp [h];omega
   have hci:(if i+1=0 then none else ks[i+1 - 1]?)=some c:=by rw [if_neg (by omega),V1,hc]
   have hsub:Jf 0 2 c.pv=some c.pv:=rfl;have eqq:∀x:Ques,Km false true [.s,(.i .i64)] x.pv c.pv=some (.b (decide (x=c))):=fun x=>Jk5 false x c;by_cases hsame:0<i∧ks[i - 1]? =some c
   ·have hp':=hp.2 hsame;have hi0:(0:Int)<(i:Int):=by omega
    have ei:((i:Int) - 1).toNat=i - 1:=by omega
    have ei2:(i:Int).toNat=i:=by omega
    by_cases hgt:64<g+1
    ·right;have hgt':(64:Int)<(g:Int)+1:=by omega
     have er:Wg (if i=0 then none else ks[i - 1]?) g (c::r)=true:=by rw [hp'];simp [Wg,hgt]
     rw [er];refine ⟨?_,rfl⟩;simp (disch:=omega) only [V7,hc,hsame.2,hi0,ei,ei2,hgt',H9,J9,EVM,EVC,xe,EVP,EV,simprocAttr]
    ·left;have hgt':¬(64:Int)<(g:Int)+1:=by omega
     refine ⟨g+1,?_,by omega,?_⟩
     ·simp (disch:=omega) only [V7,hc,hsame.2,hi0,ei,ei2,hgt',H9,J9,EVM,EVC,xe,EVP,EV,simprocAttr]
     ·rw [hp',hci];simp [Wg,hgt]
   ·left;have hp':¬(if i=0 then none else ks[i - 1]?)=some c:=fun q=>hsame (hp.1 q);have ei:((i:Int) - 1).toNat=i - 1:=by omega
    have ei2:(i:Int).toNat=i:=by omega
    refine ⟨1,?_,by omega,?_⟩
    ·by_cases hi0:0<i
     ·have hi0':(0:Int)<(i:Int):=by omega
      obtain ⟨y,hy⟩:∃y,ks[i - 1]? =some y:=⟨_,Az (by omega)⟩;have hyc:¬y=c:=fun q=>hsame ⟨hi0,by rw [hy,q]⟩;simp (disch:=omega) only [V7,hc,hy,hyc,hi0',ei,ei2,H9,J9,EVM,EVC,xe,EVP,EV,simprocAttr]
     ·have hi0':¬(0:Int)<(i:Int):=by omega
      simp (disch:=omega) only [V7,hc,hi0',ei2,H9,J9,EVM,EVC,xe,EVP,EV,simprocAttr]
    ·rw [hci];simp [Wg,hp']
  ·refine ⟨?_,by simp [Wg,Out.goes]⟩;have hlt:¬(ks.length:Int)<(ks.length:Int):=by omega
   simp (disch:=omega) only [V7,hlt,H9,J9,EVM,EVC,xe,EVP,EV,simprocAttr];simp [Wg]
 have hrep:∃p,K1 2 (.i .i64 (l.length:Int)) (Ques.pv ⟨[],0⟩)=some p:=by
  have h1:(l.length:Int)≤(LIM:Int):=by simp only [LIM];omega
  have h2:(Ques.pv ⟨[],0⟩).cells.length=2:=rfl;simp [K1,h1,h2]
 obtain ⟨p,hrep⟩:=hrep;rcases Aq (Wg none 0 ks) with h|h
 ·rw [h,if_pos rfl] at k1;rw [h];simp (disch:=omega) only [V7,hrep,k0,hs,k1,H9,D3,Kr,EVM,EVC,xe,EVP,EV,simprocAttr]
 ·rw [h,if_neg (by simp)] at k1;rw [h];simp (disch:=omega) only [V7,hrep,k0,hs,k1,H9,D3,Kr,EVM,EVC,xe,EVP,EV,simprocAttr]
end Go.X.G
/- Zones in the program: Check, the Md. -/
namespace Go.X.G
open Go Go.X
theorem Ap1 (t:Int):S bl 1 [.i .i64 t]=some [.b (decide (t=6)||decide (t=5)||decide (t=39))]:=by
 refine Hk2 (N:=1) rfl ?_;by_cases h1:t=6
 ·simp (disch:=omega) only [At4,h1,EVC,xe,EVP,EV,simprocAttr];simp
 ·by_cases h2:t=5
  ·simp (disch:=omega) only [At4,h2,EVC,xe,EVP,EV,simprocAttr];simp
  ·simp (disch:=omega) only [At4,h1,h2,EVC,xe,EVP,EV,simprocAttr];simp
theorem Dc9 (r:Rec) (t:Int):S Up 1 [r.pv, .i .i64 t]=some [.b (decide (r.typ=t))]:=by refine Hq9 (N:=1) rfl ?_;simp (disch:=omega) only [Gm0,EVC,xe,EVP,EV,simprocAttr]
theorem Jr (g:List Rec) (t:Int) (hl:g.length≤1000000):S Ng 2 [Al g, .i .i64 t]=some [.b (Fs g t)]:=by refine Ic3 (N:=1) rfl ?_;have h:=Fv g Up [.i .i64 t] (fun r=>decide (r.typ=t)) hl (fun r _=>Dc9 r t);simp (disch:=omega) only [Iv8,h,EVC,xe,EVP,EV,simprocAttr];rfl
def Jk (l:List Int):PV:= .l 1 (l.map (PV.i .i64))
theorem Nm (l:List Int):Fp (Jk l)=some (.i .i64 (l.length:Int)):=by simp [Jk,Fp]
theorem Xc (l:List Int) (k:IntKind) (z:Int) (h:0≤z):Hc 1 (Jk l) (.i k z)=(l[z.toNat]?).map (PV.i .i64):=by simp [Jk,Xb _ _ _ _ h]
theorem Z7 (l:List Int):Bp 0 (Jk l)=some (Jk l):=rfl
theorem Bv0 (l:List Int):Ih (Jk l)=some (Jk l):=rfl
theorem Dz8 (l:List Int) (x:Int) (hl:l.length≤1000000):∃k:Int,(0≤k↔x∈l)∧S bd 2 [Jk l, .i .i64 x]=some [.i .i64 k]:=by
 have go:∀(i:Nat) (l:List Int),∃k:Int,k=(match l.findIdx? (·=x) with|some j=>((i+j:Nat):Int)|none=> -1)∧(0≤k↔x∈l):=by
  intro i l;refine ⟨_,rfl,?_⟩;cases h:l.findIdx? (·=x) with
  |none=>
   rw [List.findIdx?_eq_none_iff] at h;simp only;constructor
   ·intro h2;omega
   ·intro h2;have:=h x h2;simp at this
  |some j=>
   simp only;constructor
   ·intro _;rw [List.findIdx?_eq_some_iff_getElem] at h;obtain ⟨h1,h2,_⟩:=h;simp at h2;rw [←h2];exact Dt _
   ·intro _;omega
 obtain ⟨k,hk,hk2⟩:=go 0 l;refine ⟨k,hk2,?_⟩;refine Hj0 (N:=l.length+1) rfl ?_;have key:Bs3.ev S (l.length+1) [Jk l, .i .i64 x]=some (match l.findIdx? (·=x) with|some j=> .ret [.i .i64 ((0+j:Nat):Int)]|none=> .yld 0 []):=by
  refine E2 l (fun i=>[.i .i64 (i:Int)]) (fun i r=>match r.findIdx? (·=x) with|some j=> .ret [.i .i64 ((i+j:Nat):Int)]|none=> .yld 0 []) rfl (by omega) (fun i c r hd hi hc=> ?_) ?_
  ·by_cases h:x=c
   ·right;subst h;simp (disch:=omega) only [Y3,hc,Nm,Xc,EVM,EVC,xe,EVP,EV,simprocAttr];simp [List.findIdx?_cons,Out.goes]
   ·left;have h':¬c=x:=fun e=>h e.symm;simp (disch:=omega) only [Y3,hc,h,h',Nm,Xc,EVM,EVC,xe,EVP,EV,simprocAttr];refine ⟨trivial,?_⟩;simp only [List.findIdx?_cons,h',decide_false,Ad,if_false];cases r.findIdx? (·=x) with
    |none=>rfl
    |some j=>simp;omega
  ·simp (disch:=omega) only [Y3,Nm,Xc,EVM,EVC,xe,EVP,EV,simprocAttr];simp [Out.goes]
 rw [hk];cases h:l.findIdx? (·=x) with
 |none=>
  rw [h] at key;simp (disch:=omega) only [Y3,key,Nm,EVM,EVC,xe,EVP,EV,simprocAttr]
 |some j=>
  rw [h] at key;simp (disch:=omega) only [Y3,key,Nm,EVM,EVC,xe,EVP,EV,simprocAttr]
theorem fm (l:List Int) (x:Int) (hl:l.length≤1000000):S bh 2 [Jk l, .i .i64 x]=some [.b (decide (x∈l))]:=by refine Hk0 (N:=1) rfl ?_;obtain ⟨k,h1,h2⟩:=Dz8 l x hl;simp (disch:=omega) only [Gl4,h2,EVM,EVC,xe,EVP,EV,simprocAttr];simp [h1]
theorem As0 (r:Rec) (ts:List Int) (hl:ts.length≤1000000):S Uf 1 [r.pv,Jk ts]=some [.b (!decide (r.typ∈ts))]:=by refine Hk1 (N:=1) rfl ?_;have h:=fm ts r.typ hl;simp (disch:=omega) only [Gl5,Z7,h,EVC,xe,EVP,EV,simprocAttr]
theorem V5 (g:List Rec) (ts:List Int) (hl:g.length≤1000000) (ht:ts.length≤1000000):S Mw 2 [Al g,Jk ts]=some [.b (I0 g ts)]:=by
 refine Hv0 (N:=1) rfl ?_;have h:=Fv g Uf [Jk ts] (fun r=> !decide (r.typ∈ts)) hl (fun r _=>As0 r ts ht);have e:(!(g.any fun r=> !decide (r.typ∈ts)))=I0 g ts:=by unfold I0;rw [List.not_any_eq_all_not];simp
 rw [←e];generalize (g.any fun r=> !decide (r.typ∈ts))=b at*;simp (disch:=omega) only [Gm1,Z7,Bv0,h,EVC,xe,EVP,EV,simprocAttr]
theorem gf (g:List Rec) (hl:g.length≤1000000):S cp 1 [Al g]=some [.b (Db8 g)]:=by
 obtain ⟨N,hN⟩:∃N,N=g.length+2:=⟨_,rfl⟩;refine Hv1 (N:=N) rfl ?_;have key:Bs9.ev S N [Al g]=some (if Db8 g=true then .yld 0 [] else .ret [.b false]):=by
  cases g with
  |nil=>
   refine Gt 0 (fun _=>[.i .i64 1]) (fun _=> .yld 0 []) ?_ (by omega) (fun i hi=>absurd hi (by omega)) ⟨?_,rfl⟩
   ·simp (disch:=omega) only [EVC,xe,EVP,EV,simprocAttr]
   ·have hlt:¬(1:Int)<(([]:List Rec).length:Int):=by simp
    simp (disch:=omega) only [M6,hlt,EVC,xe,EVP,EV,simprocAttr]
  |cons p r=>
   have hlr:(p::r).length=r.length+1:=rfl;have:=E2 (fn:=S) (N:=N) (η:=[Al (p::r)]) (id:=1) (init:=[.c (.i .i64 1)]) (body:=nb) r (fun i=>[.i .i64 ((i:Int)+1)]) (fun i l=>if (match (p::r)[i]? with|some q=>Ts q l|none=>true)=true then .yld 0 [] else .ret [.b false]) ?_ (by omega) (fun i c l hd hi hc=> ?_) ?_
   ·exact this
   ·simp (disch:=omega) only [EVC,xe,EVP,EV,simprocAttr]
    try rfl
   ·obtain ⟨q,hq⟩:∃q,(p::r)[i]? =some q:=⟨_,Az (by rw [hlr];omega)⟩;have hc':(p::r)[i+1]? =some c:=by simpa using hc
    have e1:((i:Int)+1 - 1).toNat=i:=by omega
    have e2:((i:Int)+1).toNat=i+1:=by omega
    have hlt:(i:Int)+1<((p::r).length:Int):=by rw [hlr];omega
    have hsg:=Ap1 c.typ;rw [hq,hc'];generalize (p::r)=g' at*;have step:Ts q (c::l)=((!decide (c.typ=q.typ)||(!(decide (c.typ=6)||decide (c.typ=5)||decide (c.typ=39)) && (decide (c.typ=46)||decide (c.ttl=q.ttl)))) && Ts c l):=rfl;by_cases h1:c.typ=q.typ
    ·rcases Aq (decide (c.typ=6)||decide (c.typ=5)||decide (c.typ=39)) with h2|h2
     ·right;have er:Ts q (c::l)=false:=by rw [step,h2];simp [h1]
      rw [h2] at hsg;simp only [er,Ad,if_false];refine ⟨?_,rfl⟩;rw [h1] at hsg;simp (disch:=omega) only [M6,hlt,e1,e2,hq,hc',h1,hsg,EVC,xe,EVP,EV,simprocAttr]
     ·rw [h2] at hsg;rw [h2] at step;rw [h1] at hsg;by_cases h3:c.typ=46
      ·left;have er:Ts q (c::l)=Ts c l:=by rw [step];simp [h3]
       have h3':q.typ=46:=by rw [←h1];exact h3
       rw [h3'] at hsg;refine ⟨?_,by simp only [er]⟩;simp (disch:=omega) only [M6,hlt,e1,e2,hq,hc',h1,h3',hsg,EVC,xe,EVP,EV,simprocAttr]
       try simp
      ·have h3':¬q.typ=46:=by rw [←h1];exact h3
       by_cases h4:c.ttl=q.ttl
       ·left;have er:Ts q (c::l)=Ts c l:=by rw [step];simp [h4]
        refine ⟨?_,by simp only [er]⟩;simp (disch:=omega) only [M6,hlt,e1,e2,hq,hc',h1,h3',h4,hsg,EVC,xe,EVP,EV,simprocAttr]
        try simp
       ·right;have er:Ts q (c::l)=false:=by rw [step];simp [h1,h3',h4]
        simp only [er,Ad,if_false];refine ⟨?_,rfl⟩;simp (disch:=omega) only [M6,hlt,e1,e2,hq,hc',h1,h3',h4,hsg,EVC,xe,EVP,EV,simprocAttr]
    ·left;have er:Ts q (c::l)=Ts c l:=by rw [step];simp [h1]
     refine ⟨?_,by simp only [er]⟩;simp (disch:=omega) only [M6,hlt,e1,e2,hq,hc',h1,EVC,xe,EVP,EV,simprocAttr]
     try simp
   ·have hlt:¬(r.length:Int)+1<((p::r).length:Int):=by rw [hlr];omega
    obtain ⟨q,hq⟩:∃q,(p::r)[r.length]? =some q:=⟨_,Az (by rw [hlr];omega)⟩;rw [hq];refine ⟨?_,by simp [Ts,Out.goes]⟩;generalize (p::r)=g' at*;simp (disch:=omega) only [M6,hlt,EVC,xe,EVP,EV,simprocAttr];simp [Ts]
 rcases Aq (Db8 g) with h|h
 ·rw [h,if_pos rfl] at key;rw [h];simp (disch:=omega) only [M6,key,EVC,xe,EVP,EV,simprocAttr]
 ·rw [h,if_neg (by simp)] at key;rw [h];simp (disch:=omega) only [M6,key,EVC,xe,EVP,EV,simprocAttr]
theorem Dz9 (a b:List Rec) (ha:a.length≤1000000) (hb:b.length≤1000000):S Bh6 2 [Al a,Al b]=some [.b (decide (a=b))]:=by
 obtain ⟨N,hN⟩:∃N,N=a.length+1:=⟨_,rfl⟩;refine Ic7 (N:=N) rfl ?_;by_cases hl:a.length=b.length
 ·have key:Eh3.ev S N [Al a,Al b]=some (if a.drop 0=b.drop 0 then .yld 0 [] else .ret [.b false]):=by
   refine Gt a.length (fun i=>[.i .i64 (i:Int)]) (fun i=>if a.drop i=b.drop i then .yld 0 [] else .ret [.b false]) rfl (by omega) (fun i hi=> ?_) ?_
   ·have h1:a[i]? =some a[i]:=Az hi;have h2:b[i]? =some b[i]:=Az (by omega);have d1:a.drop i=a[i]::a.drop (i+1):=Dz hi;have d2:b.drop i=b[i]::b.drop (i+1):=Dz (by omega);rw [d1,d2];generalize a[i]=x at*;generalize b[i]'(by omega)=y at*;have hlt:(i:Int)<(a.length:Int):=by omega
    by_cases h:x=y
    ·left;subst h;refine ⟨?_,by simp⟩;simp (disch:=omega) only [Ay1,hlt,h1,h2,EVC,xe,EVP,EV,simprocAttr]
     try simp
    ·right;rw [if_neg (by simp [h])];refine ⟨?_,rfl⟩;simp (disch:=omega) only [Ay1,hlt,h1,h2,h,EVC,xe,EVP,EV,simprocAttr]
   ·have hlt:¬(a.length:Int)<(a.length:Int):=by omega
    have e:a.drop a.length=b.drop a.length:=by rw [List.drop_length,hl,List.drop_length]
    rw [if_pos e];refine ⟨?_,rfl⟩;simp (disch:=omega) only [Ay1,hlt,EVC,xe,EVP,EV,simprocAttr]
  have hl':(a.length:Int)=(b.length:Int):=by omega
  rw [D2,D2] at key;by_cases h:a=b
  ·rw [if_pos h] at key;have e:decide (a=b)=true:=by simp [h]
   rw [e];simp (disch:=omega) only [Ay1,hl',key,EVC,xe,EVP,EV,simprocAttr]
  ·rw [if_neg h] at key;have e:decide (a=b)=false:=by simp [h]
   rw [e];simp (disch:=omega) only [Ay1,hl',key,EVC,xe,EVP,EV,simprocAttr]
 ·have hl':¬(a.length:Int)=(b.length:Int):=by omega
  have e:decide (a=b)=false:=decide_eq_false fun q=>hl (by rw [q]);rw [e];simp (disch:=omega) only [Ay1,hl',EVC,xe,EVP,EV,simprocAttr]
end Go.X.G
/- Zones in the program: proper. -/
namespace Go.X.G
open Go Go.X
section
variable (o cut red:List UInt8) (g:List Rec) (x:Rec) (N:Nat)
def Az6 (n:List UInt8):Bool:=decide (n[0]? =some 42)
theorem Ig9 (hx:g[0]? =some x) (hl:g.length≤1000000) (hn:x.name≠[]) (p4 p5 p6 p7 p8 p9 p10 p11 p12 p13:PV):
  Ch2.ev S N [.s o,Al g, .s cut, .s red,p4,p5,p6,p7,p8,p9,p10,p11,p12,p13]=some (.ret [.b (!Az6 x.name||(!Fs g 2 && !Fs g 39))]):=by
 have k2:=Jr g 2 hl;have k39:=Jr g 39 hl;obtain ⟨c,hc⟩:∃c,x.name[0]? =some c:=⟨_,Az (Bc.2 hn)⟩;unfold Az6;rw [hc];by_cases h1:c=42
 ·have h1':(c.toNat:Int)=42:=by rw [h1];rfl
  rcases Aq (Fs g 2) with h2|h2
  ·rw [h2] at k2;simp (disch:=omega) only [Fh2,hx,hc,h1',k2,EVC,xe,EVP,EV,simprocAttr];simp [h1,h2]
  ·rw [h2] at k2;simp (disch:=omega) only [Fh2,hx,hc,h1',k2,k39,EVC,xe,EVP,EV,simprocAttr];simp [h1,h2]
 ·have h1':¬(c.toNat:Int)=42:=fun q=>h1 (UInt8.toNat_inj.1 (show c.toNat=42 by omega));simp (disch:=omega) only [Fh2,hx,hc,h1',EVC,xe,EVP,EV,simprocAttr];simp [h1]
theorem Ig8 (hx:g[0]? =some x) (hl:g.length≤1000000) (hn:x.name≠[]) (p4 p5 p6 p7 p8 p9 p10:PV):
  xj.ev S N [.s o,Al g, .s cut, .s red,p4,p5,p6,p7,p8,p9,p10]=some (.ret [.b ((if (!decide (x.name=o) && Fs g 2)=true then I0 g [2,43,47,46,1,28] else !Fs g 43) && (!Az6 x.name||(!Fs g 2 && !Fs g 39)))]):=by
 have k2:=Jr g 2 hl;have k43:=Jr g 43 hl;have kd:S Mw 2 [Al g, .l 1 [.i .i64 2, .i .i64 43, .i .i64 47, .i .i64 46, .i .i64 1, .i .i64 28]]=some [.b (I0 g [2,43,47,46,1,28])]:=V5 g [2,43,47,46,1,28] hl (by decide);have hlit:I1 1 [.i .i64 2, .i .i64 43, .i .i64 47, .i .i64 46, .i .i64 1, .i .i64 28]=some (.l 1 [.i .i64 2, .i .i64 43, .i .i64 47, .i .i64 46, .i .i64 1, .i .i64 28]):=rfl;have t:=fun p11 p12 p13=>Ig9 o cut red g x N hx hl hn p4 p5 p6 p7 p8 p9 p10 p11 p12 p13;have x7:=Bv xj.eq_1;have x6:=Bv Cy6.eq_1;have x5:=Bv Cz6.eq_1;have x4:=Bv Cc2.eq_1;have x3:=Bv Cf1.eq_1;by_cases h0:x.name=o
 ·rcases Aq (Fs g 43) with h1|h1<;>rw [h1] at k43<;>simp (disch:=omega) only [x7,x6,x5,x4,x3,t,hx,h0,k43,hlit,EVC,xe,EVP,EV,simprocAttr]<;>simp [h1]
 ·rcases Aq (Fs g 2) with h2|h2
  ·rw [h2] at k2;rcases Aq (I0 g [2,43,47,46,1,28]) with h3|h3<;>rw [h3] at kd<;>simp (disch:=omega) only [x7,x6,x5,x4,x3,t,hx,h0,k2,kd,hlit,EVC,xe,EVP,EV,simprocAttr]<;>simp [h0,h2,h3]
  ·rw [h2] at k2;rcases Aq (Fs g 43) with h1|h1<;>rw [h1] at k43<;>simp (disch:=omega) only [x7,x6,x5,x4,x3,t,hx,h0,k2,k43,hlit,EVC,xe,EVP,EV,simprocAttr]<;>simp [h0,h1,h2]
theorem Hy2 (hx:g[0]? =some x) (hl:g.length≤1000000) (hn:x.name≠[]) (p4 p5 p6 p7:PV):
  X9.ev S N [.s o,Al g, .s cut, .s red,p4,p5,p6,p7]=some (.ret [.b ((!Fs g 5||I0 g [5,46,47]) && decide (red=[]) && (decide (cut=[])||I0 g [1,28]) && ((if (!decide (x.name=o) && Fs g 2)=true then I0 g [2,43,47,46,1,28] else !Fs g 43) && (!Az6 x.name||(!Fs g 2 && !Fs g 39))))]):=by
 have k5:=Jr g 5 hl;have kc:S Mw 2 [Al g, .l 1 [.i .i64 5, .i .i64 46, .i .i64 47]]=some [.b (I0 g [5,46,47])]:=V5 g [5,46,47] hl (by decide);have ka:S Mw 2 [Al g, .l 1 [.i .i64 1, .i .i64 28]]=some [.b (I0 g [1,28])]:=V5 g [1,28] hl (by decide);have hlit1:I1 1 [.i .i64 5, .i .i64 46, .i .i64 47]=some (.l 1 [.i .i64 5, .i .i64 46, .i .i64 47]):=rfl;have hlit2:I1 1 [.i .i64 1, .i .i64 28]=some (.l 1 [.i .i64 1, .i .i64 28]):=rfl;have t:=fun p8 p9 p10=>Ig8 o cut red g x N hx hl hn p4 p5 p6 p7 p8 p9 p10;generalize ((if (!decide (x.name=o) && Fs g 2)=true then I0 g [2,43,47,46,1,28] else !Fs g 43) && (!Az6 x.name||(!Fs g 2 && !Fs g 39)))=B at*;have x13:=Bv X9.eq_1;have x12:=Bv mf.eq_1;have x11:=Bv ml.eq_1;have x10:=Bv mm.eq_1;have x9:=Bv Cw3.eq_1;have x8:=Bv Cx0.eq_1;rcases Aq (Fs g 5) with h1|h1<;>rw [h1] at k5
 ·rcases Aq (I0 g [5,46,47]) with h2|h2<;>rw [h2] at kc
  ·by_cases h3:red=[]
   ·replace h3:=eq_true h3;by_cases h4:cut=[]
    ·replace h4:=eq_true h4;simp (disch:=omega) only [x13,x12,x11,x10,x9,x8,t,k5,kc,h3,h4,hlit1,hlit2,EVC,xe,EVP,EV,simprocAttr]
     (clear x13 x12 x11 x10 x9 x8 t;simp [*])
    ·rcases Aq (I0 g [1,28]) with h5|h5<;>rw [h5] at ka<;>simp (disch:=omega) only [x13,x12,x11,x10,x9,x8,t,k5,kc,ka,h3,h4,hlit1,hlit2,EVC,xe,EVP,EV,simprocAttr]<;>(clear x13 x12 x11 x10 x9 x8 t;simp [*])
   ·simp (disch:=omega) only [x13,x12,x11,x10,x9,x8,t,k5,kc,h3,hlit1,hlit2,EVC,xe,EVP,EV,simprocAttr]
    (clear x13 x12 x11 x10 x9 x8 t;simp [*])
  ·simp (disch:=omega) only [x13,x12,x11,k5,kc,hlit1,hlit2,EVC,xe,EVP,EV,simprocAttr]
   (clear x13 x12 x11 x10 x9 x8 t;simp [*])
 ·by_cases h3:red=[]
  ·replace h3:=eq_true h3;by_cases h4:cut=[]
   ·replace h4:=eq_true h4;simp (disch:=omega) only [x13,x12,x11,x10,x9,x8,t,k5,h3,h4,hlit1,hlit2,EVC,xe,EVP,EV,simprocAttr]
    (clear x13 x12 x11 x10 x9 x8 t;simp [*])
   ·rcases Aq (I0 g [1,28]) with h5|h5<;>rw [h5] at ka<;>simp (disch:=omega) only [x13,x12,x11,x10,x9,x8,t,k5,ka,h3,h4,hlit1,hlit2,EVC,xe,EVP,EV,simprocAttr]<;>(clear x13 x12 x11 x10 x9 x8 t;simp [*])
  ·simp (disch:=omega) only [x13,x12,x11,x10,x9,x8,t,k5,h3,hlit1,hlit2,EVC,xe,EVP,EV,simprocAttr]
   (clear x13 x12 x11 x10 x9 x8 t;simp [*])
end
theorem Ay0 (o cut red:List UInt8) (g:List Rec) (hg:g≠[]) (hl:g.length≤1000000) (ho:o.length≤9223372036854775807) (hn:(nmG g).length≤9223372036854775807):
  S Bh3 4 [.s o,Al g, .s cut, .s red]=some [.b (propG o g (decide (cut≠[])) (decide (red≠[])))]:=by
 obtain ⟨x,r,rfl⟩:∃x r,g=x::r:=by
  cases g with
  |nil=>exact absurd rfl hg
  |cons x r=>exact ⟨x,r,rfl⟩
 have hx:(x::r)[0]? =some x:=rfl;have hnm:nmG (x::r)=x.name:=rfl;rw [hnm] at hn;unfold propG;rw [hnm];generalize (x::r)=g at*;obtain ⟨N,hN⟩:∃N,N=1:=⟨_,rfl⟩;refine Ic4 (N:=N) rfl ?_;have hu:=E6 x.name o hn ho;have k6:=Jr g 6 hl;have k2:=Jr g 2 hl;have ku:=gf g hl;have xt:=Bv Bj8.eq_1;have x18:=Bv mj.eq_1;have x17:=Bv mw.eq_1;have x16:=Bv my.eq_1;have x15:=Bv mb.eq_1;have x14:=Bv mc.eq_1;have e1:decide (cut≠[])= !decide (cut=[]):=by simp
 have e2:decide (red≠[])= !decide (red=[]):=by simp
 rw [e1,e2,Bool.not_not,Bool.not_not];rcases Aq (under x.name o) with h0|h0<;>rw [h0] at hu
 ·have hne:x.name≠[]:=gz (Dj.1 h0).1;have t:=fun p4 p5 p6 p7=>Hy2 o cut red g x N hx hl hne p4 p5 p6 p7;have eS:Az6 x.name=decide (x.name[0]? =some 42):=rfl;rw [eS] at t;generalize hA:(!Fs g 5||I0 g [5,46,47])=A at*;generalize hB:(if (!decide (x.name=o) && Fs g 2)=true then I0 g [2,43,47,46,1,28] else !Fs g 43)=B at*;generalize hC:(!decide (x.name[0]? =some 42)||(!Fs g 2 && !Fs g 39))=C at*;generalize decide (red=[])=D at*;generalize (decide (cut=[])||I0 g [1,28])=E' at*;clear hB hC hA;rcases Aq (Fs g 6) with h6|h6<;>rw [h6] at k6
  ·by_cases hno:x.name=o
   ·replace hno:=eq_true hno;rcases Aq (Db8 g) with h1|h1<;>rw [h1] at ku
    ·rcases Aq (Fs g 2) with h2|h2<;>rw [h2] at k2
     ·simp (disch:=omega) only [xt,x18,x17,x16,x15,x14,t,hx,hu,k6,hno,ku,k2,EVC,xe,EVP,EV,simprocAttr]
      (clear xt x18 x17 x16 x15 x14 t;simp [*,Bool.and_assoc])
     ·simp (disch:=omega) only [xt,x18,x17,x16,x15,x14,t,hx,hu,k6,hno,ku,k2,EVC,xe,EVP,EV,simprocAttr]
      (clear xt x18 x17 x16 x15 x14 t;simp [*])
    ·simp (disch:=omega) only [xt,x18,x17,x16,x15,x14,t,hx,hu,k6,hno,ku,EVC,xe,EVP,EV,simprocAttr]
     (clear xt x18 x17 x16 x15 x14 t;simp [*])
   ·simp (disch:=omega) only [xt,x18,x17,x16,x15,x14,t,hx,hu,k6,hno,EVC,xe,EVP,EV,simprocAttr]
    (clear xt x18 x17 x16 x15 x14 t;simp [*])
  ·by_cases hno:x.name=o
   ·replace hno:=eq_true hno;simp (disch:=omega) only [xt,x18,x17,x16,x15,x14,t,hx,hu,k6,hno,EVC,xe,EVP,EV,simprocAttr]
    (clear xt x18 x17 x16 x15 x14 t;simp [*])
   ·rcases Aq (Db8 g) with h1|h1<;>rw [h1] at ku
    ·simp (disch:=omega) only [xt,x18,x17,x16,x15,x14,t,hx,hu,k6,hno,ku,EVC,xe,EVP,EV,simprocAttr]
     (clear xt x18 x17 x16 x15 x14 t;simp [*,Bool.and_assoc])
    ·simp (disch:=omega) only [xt,x18,x17,x16,x15,x14,t,hx,hu,k6,hno,ku,EVC,xe,EVP,EV,simprocAttr]
     (clear xt x18 x17 x16 x15 x14 t;simp [*])
 ·simp (disch:=omega) only [xt,x18,x17,x16,x15,x14,hx,hu,EVC,xe,EVP,EV,simprocAttr]
  (clear xt x18 x17 x16 x15 x14;simp [*])
end Go.X.G
/- Zones in the program: Check and New. -/
namespace Go.X.G
open Go Go.X
def F7 (gs:List (List Rec)):PV:= .l 1 (gs.map Al)
theorem Nn (l:List (List Rec)):Fp (F7 l)=some (.i .i64 (l.length:Int)):=by simp [F7,Fp]
theorem Ef (l:List (List Rec)) (k:IntKind) (z:Int) (h:0≤z):Hc 1 (F7 l) (.i k z)=(l[z.toNat]?).map Al:=by simp [F7,Xb _ _ _ _ h]
theorem Bn7 (x:List Rec):I1 1 [Al x]=some (F7 [x]):=rfl
theorem fy (l:List (List Rec)) (x:List Rec) (h:l.length+1≤1073741824):Ik 1 (F7 l) (F7 [x])=some (F7 (l++[x])):=by have:=S8 1 (l.map Al) [Al x] (by simpa using h);simpa [F7] using this
theorem Fn1 {α:Type} (l:List α) (s i:Nat) (c:α) (h:l[i]? =some c) (hs:s≤i):sl l s (i+1)=sl l s i++[c]:=by unfold sl;have hi:=(Av.1 h).1;rw [Ct,h,List.drop_append_of_le_length (by rw [Ar];omega)];rfl
theorem Ck4 (l:List Rec) (hl:l.length≤1000000):S Bh4 1 [Al l]=some [F7 (grp l)]:=by
 obtain ⟨N,hN⟩:∃N,N=l.length+1:=⟨_,rfl⟩;refine Ic5 (N:=N) rfl ?_;have key:Eh2.ev S N [Al l]=some (.yld 0 [F7 ([]++Tg (sl l 0 0) l)]):=by
  refine F2 l (fun i (g:List (List Rec)×Nat)=>[F7 g.1, .i .i64 (g.2:Int), .i .i64 (i:Int)]) (fun i g r=> .yld 0 [F7 (g.1++Tg (sl l g.2 i) r)]) (fun i g=>g.2≤i∧g.1.length≤i) ([],0) ?_ (by simp) (by omega) (fun i g c r hd hi hc hI=> ?_) (fun g hI=> ?_)
  ·rfl
  ·left;obtain ⟨out,st⟩:=g;obtain ⟨hI1,hI2⟩:=hI;simp only at hI1 hI2 ⊢;have hlt:(i:Int)<(l.length:Int):=by omega
   have e1:((i:Int)+1).toNat=i+1:=by omega
   have e2:(i:Int).toNat=i:=by omega
   have e3:(st:Int).toNat=st:=by omega
   have hsl:=Fn1 l st i c hc hI1;have hsl2:List.drop st (List.take (i+1) l)=sl l st i++[c]:=hsl;have hsl3:sl l st st=[]:=by unfold sl;rw [List.drop_eq_nil_iff,Ar];omega
   have hsl4:sl l (i+1) (i+1)=[]:=by unfold sl;rw [List.drop_eq_nil_iff,Ar];omega
   have hr:r=l.drop (i+1):=by have:=congrArg List.tail hd;simpa using this.symm
   by_cases hc2:(match r with|[]=>true|y::_=> !decide (y.name=c.name))=true
   ·refine ⟨(out++[sl l st i++[c]],i+1),?_,⟨by simp,by simp;omega⟩,?_⟩
    ·cases r with
     |nil=>
      have hend:(i:Int)+1=(l.length:Int):=by have:=congrArg List.length hr;simp at this;omega
      simp only;simp (disch:=omega) only [As7,hlt,hend.symm,e1,e2,e3,hc,hsl2,Bn7,fy,EVC,xe,EVP,EV,simprocAttr]
      try (congr 3;omega)
     |cons y r'=>
      have hy:l[i+1]? =some y:=by have:=congrArg (fun q=>q[0]?) hr;simpa [A9] using this.symm
      have hyl:=(Av.1 hy).1;have hend:¬(i:Int)+1=(l.length:Int):=by omega
      have hyc:¬y.name=c.name:=by simpa using hc2
      simp only;simp (disch:=omega) only [As7,hlt,hend,e1,e2,e3,hc,hy,hyc,hsl2,Bn7,fy,EVC,xe,EVP,EV,simprocAttr]
      try congr 3
    ·have eg:Tg (sl l st i) (c::r)=(sl l st i++[c])::Tg [] r:=by
      cases r with
      |nil=>rfl
      |cons y r'=>rw [Tg,if_pos hc2]
     simp only [eg,hsl4];simp
   ·refine ⟨(out,st),?_,⟨by simp;omega,by simp;omega⟩,?_⟩
    ·cases r with
     |nil=>simp at hc2
     |cons y r'=>
      have hy:l[i+1]? =some y:=by have:=congrArg (fun q=>q[0]?) hr;simpa [A9] using this.symm
      have hyl:=(Av.1 hy).1;have hend:¬(i:Int)+1=(l.length:Int):=by omega
      have hyc:y.name=c.name:=by simpa using hc2
      simp only;simp (disch:=omega) only [As7,hlt,hend,e1,e2,e3,hc,hy,hyc,EVC,xe,EVP,EV,simprocAttr]
      try rfl
    ·have eg:Tg (sl l st i) (c::r)=Tg (sl l st i++[c]) r:=by
      cases r with
      |nil=>simp at hc2
      |cons y r'=>rw [Tg,if_neg hc2]
     simp only [eg,hsl]
  ·have hlt:¬(l.length:Int)<(l.length:Int):=by omega
   refine ⟨?_,rfl⟩;simp (disch:=omega) only [As7,hlt,EVC,xe,EVP,EV,simprocAttr];simp [Tg]
 have e:[]++Tg (sl l 0 0) l=grp l:=by simp [sl,grp]
 rw [e] at key;generalize grp l=gs at*;simp (disch:=omega) only [As7,key,EVC,xe,EVP,EV,simprocAttr]
def An1 (o:List UInt8):List (List Rec)→List UInt8→List UInt8→Bool→Option Bool
 |[],_,_,soa=>some soa
 |g::gs,cut,red,soa=>
  if propG o g (decide (Dc (nmG g) cut≠[])) (decide (Dc (nmG g) red≠[]))=true then
   An1 o gs (if Dc (nmG g) cut=[]∧nmG g≠o∧Fs g 2=true then nmG g else Dc (nmG g) cut) (if Fs g 39=true then nmG g else Dc (nmG g) red) (soa||decide (nmG g=o))
  else none
theorem Cw0 (o:List UInt8):∀(gs:List (List Rec)) (cut red:List UInt8) (soa:Bool),lz o gs cut red soa=decide (An1 o gs cut red soa=some true)
 |[],_,_,soa=>by simp [lz,An1]
 |g::gs,cut,red,soa=>by
  simp only [lz,An1];split
  ·exact Cw0 o gs _ _ _
  ·simp
def Ik7:Option Bool→Out
 |some b=> .yld 0 [.b b]
 |none=> .ret [.i .i64 13]
section
variable (z:Zone) (g:List Rec) (gs:List (List Rec)) (x:Rec) (N:Nat) (i:Nat) (cut red:List UInt8) (soa:Bool)
theorem Jq4 (hi:gs[i]? =some g) (hx:g[0]? =some x) (hxl:x.name.length≤9223372036854775807) (hcl:cut.length≤9223372036854775807) (p1 p2 p3 p4 p5:PV):
  ∃p11,S1.ev S N [z.pv,p1,p2,p3,p4,p5,F7 gs, .s cut, .s red, .b soa, .i .i64 (i:Int)]=S2.ev S N [z.pv,p1,p2,p3,p4,p5,F7 gs, .s cut, .s red, .b soa, .i .i64 (i:Int),p11, .s (Dc x.name cut)]:=by
 have x17:=Bv S1.eq_1;have x16:=Bv mz.eq_1;have x0:=Bv Dk5.eq_1;have hu:=E6 x.name cut hxl hcl;have ei:(i:Int).toNat=i:=by omega
 by_cases h1:cut=[]
 ·refine ⟨.u,?_⟩;have e:Dc x.name cut=cut:=by unfold Dc;simp [h1]
  rw [e];replace h1:=eq_true h1;simp (disch:=omega) only [x17,x16,x0,h1,hi,hx,ei,Ef,EVC,xe,EVP,EV,simprocAttr]
 ·rcases Aq (under x.name cut) with h2|h2<;>rw [h2] at hu
  ·refine ⟨.b true,?_⟩;have e:Dc x.name cut=cut:=by unfold Dc;simp [h2]
   rw [e];simp (disch:=omega) only [x17,x16,x0,h1,hu,hi,hx,ei,Ef,EVC,xe,EVP,EV,simprocAttr]
  ·refine ⟨.b false,?_⟩;have e:Dc x.name cut=[]:=by unfold Dc;simp [h1,h2]
   rw [e];simp (disch:=omega) only [x17,x16,x0,h1,hu,hi,hx,ei,Ef,EVC,xe,EVP,EV,simprocAttr]
theorem Jq3 (hi:gs[i]? =some g) (hx:g[0]? =some x) (hxl:x.name.length≤9223372036854775807) (hrl:red.length≤9223372036854775807) (p1 p2 p3 p4 p5 p11 p12:PV):
  ∃p13,S2.ev S N [z.pv,p1,p2,p3,p4,p5,F7 gs, .s cut, .s red, .b soa, .i .i64 (i:Int),p11,p12]=Yj.ev S N [z.pv,p1,p2,p3,p4,p5,F7 gs, .s cut, .s red, .b soa, .i .i64 (i:Int),p11,p12,p13, .s (Dc x.name red)]:=by
 have x15:=Bv S2.eq_1;have x14:=Bv md.eq_1;have x1:=Bv Cp1.eq_1;have hu:=E6 x.name red hxl hrl;have ei:(i:Int).toNat=i:=by omega
 by_cases h1:red=[]
 ·refine ⟨.u,?_⟩;have e:Dc x.name red=red:=by unfold Dc;simp [h1]
  rw [e];replace h1:=eq_true h1;simp (disch:=omega) only [x15,x14,x1,h1,hi,hx,ei,Ef,EVC,xe,EVP,EV,simprocAttr]
 ·rcases Aq (under x.name red) with h2|h2<;>rw [h2] at hu
  ·refine ⟨.b true,?_⟩;have e:Dc x.name red=red:=by unfold Dc;simp [h2]
   rw [e];simp (disch:=omega) only [x15,x14,x1,h1,hu,hi,hx,ei,Ef,EVC,xe,EVP,EV,simprocAttr]
  ·refine ⟨.b false,?_⟩;have e:Dc x.name red=[]:=by unfold Dc;simp [h1,h2]
   rw [e];simp (disch:=omega) only [x15,x14,x1,h1,hu,hi,hx,ei,Ef,EVC,xe,EVP,EV,simprocAttr]
theorem Jq2 (hi:gs[i]? =some g) (hx:g[0]? =some x) (hnm:nmG g=x.name) (hg:g≠[]) (hl:g.length≤1000000) (hil:i≤1000000) (hxl:x.name.length≤9223372036854775807) (hzl:z.origin.length≤9223372036854775807) (cu re:List UInt8) (p1 p2 p3 p4 p5 p7 p8 p11 p13:PV):
  Yj.ev S N [z.pv,p1,p2,p3,p4,p5,F7 gs,p7,p8, .b soa, .i .i64 (i:Int),p11, .s cu,p13, .s re]=
   some (if propG z.origin g (decide (cu≠[])) (decide (re≠[]))=true then .yld 1 [.s (if cu=[]∧x.name≠z.origin∧Fs g 2=true then x.name else cu), .s (if Fs g 39=true then x.name else re), .b (soa||decide (x.name=z.origin)), .i .i64 ((i:Int)+1)] else .ret [.i .i64 13]):=by
 have hp:=Ay0 z.origin cu re g hg hl hzl (by rw [hnm];exact hxl);have k2:=Jr g 2 hl;have k39:=Jr g 39 hl;have ei:(i:Int).toNat=i:=by omega
 generalize propG z.origin g (decide (cu≠[])) (decide (re≠[]))=P at*;cases P
 ·simp (disch:=omega) only [Q0,hp,hi,hx,ei,Ef,EVC,xe,EVP,EV,simprocAttr]
  try simp
 ·by_cases h1:cu=[]
  ·by_cases h2:x.name=z.origin
   ·rcases Aq (Fs g 39) with h3|h3<;>rw [h3] at k39
    ·cases soa<;>(have h1':=eq_true h1;have h2':=eq_true h2;simp (disch:=omega) only [Q0,hp,hi,hx,ei,h1',h2',k39,Ef,EVC,xe,EVP,EV,simprocAttr];simp [h2,h3])
    ·cases soa<;>(have h1':=eq_true h1;have h2':=eq_true h2;simp (disch:=omega) only [Q0,hp,hi,hx,ei,h1',h2',k39,Ef,EVC,xe,EVP,EV,simprocAttr];simp [h2,h3])
   ·rcases Aq (Fs g 2) with h4|h4<;>rw [h4] at k2
    ·rcases Aq (Fs g 39) with h3|h3<;>rw [h3] at k39
     ·cases soa<;>(have h1':=eq_true h1;simp (disch:=omega) only [Q0,hp,hi,hx,ei,h1',h2,k2,k39,Ef,EVC,xe,EVP,EV,simprocAttr];simp [h1,h2,h3,h4])
     ·cases soa<;>(have h1':=eq_true h1;simp (disch:=omega) only [Q0,hp,hi,hx,ei,h1',h2,k2,k39,Ef,EVC,xe,EVP,EV,simprocAttr];simp [h1,h2,h3,h4])
    ·rcases Aq (Fs g 39) with h3|h3<;>rw [h3] at k39
     ·cases soa<;>(have h1':=eq_true h1;simp (disch:=omega) only [Q0,hp,hi,hx,ei,h1',h2,k2,k39,Ef,EVC,xe,EVP,EV,simprocAttr];simp [h2,h3,h4])
     ·cases soa<;>(have h1':=eq_true h1;simp (disch:=omega) only [Q0,hp,hi,hx,ei,h1',h2,k2,k39,Ef,EVC,xe,EVP,EV,simprocAttr];simp [h2,h3,h4])
  ·by_cases h2:x.name=z.origin
   ·rcases Aq (Fs g 39) with h3|h3<;>rw [h3] at k39
    ·cases soa<;>(have h2':=eq_true h2;simp (disch:=omega) only [Q0,hp,hi,hx,ei,h1,h2',k39,Ef,EVC,xe,EVP,EV,simprocAttr];simp [h1,h2,h3])
    ·cases soa<;>(have h2':=eq_true h2;simp (disch:=omega) only [Q0,hp,hi,hx,ei,h1,h2',k39,Ef,EVC,xe,EVP,EV,simprocAttr];simp [h1,h2,h3])
   ·rcases Aq (Fs g 39) with h3|h3<;>rw [h3] at k39
    ·cases soa<;>(simp (disch:=omega) only [Q0,hp,hi,hx,ei,h1,h2,k39,Ef,EVC,xe,EVP,EV,simprocAttr];simp [h1,h2,h3])
    ·cases soa<;>(simp (disch:=omega) only [Q0,hp,hi,hx,ei,h1,h2,k39,Ef,EVC,xe,EVP,EV,simprocAttr];simp [h1,h2,h3])
end
theorem vm:∀(n:Nat) (l:List Rec),l.length≤n→(∀g∈grp l,g≠[]∧∀x∈g,x∈l)∧(grp l).length≤l.length
 |_,[],_=>by simp [grp,Tg]
 |0,x::r,hn=>by simp at hn
 |n+1,x::r,hn=>by
  obtain ⟨g,l',h1,h2,h3,h4,h5⟩:=Qh x r;have hlen:=congrArg List.length h1;have hg0:0<g.length:=Bc.2 h2;simp only [Ac,A6] at hlen hn;obtain ⟨i1,i2⟩:=vm n l' (by omega);rw [h5];refine ⟨fun g' hg'=> ?_,by simp;omega⟩;rcases Am.1 hg' with rfl|hg'
  ·exact ⟨h2,fun w hw=>by rw [h1];exact Cv _ hw⟩
  ·obtain ⟨j1,j2⟩:=i1 g' hg';exact ⟨j1,fun w hw=>by rw [h1];exact Bm _ (j2 w hw)⟩
theorem Cj2 (p:Prop) [Decidable p] (a b:List UInt8) (ha:a.length≤9223372036854775807) (hb:b.length≤9223372036854775807):(if p then a else b).length≤9223372036854775807:=by split<;>assumption
theorem Jj3 (z:Zone) (hz:z.wf) (hl:z.recs.length≤1000000) (N:Nat) (hN:z.recs.length+1<N) (p1 p2 p3 p4 p5:PV):
  El1.ev S N [z.pv,p1,p2,p3,p4,p5,F7 (grp z.recs)]=some (Ik7 (An1 z.origin (grp z.recs) [] [] false)):=by
 obtain ⟨gf1,gf2⟩:=vm z.recs.length z.recs (Af _);have hgl:∀g∈grp z.recs,g.length≤1000000:=fun g hg=>by
  have:∀(n:Nat) (l:List Rec),l.length≤n→∀g∈grp l,g.length≤l.length:=by
   intro n
   induction n with
   |zero=>intro l hl g hg;cases l with
    |nil=>simp [grp,Tg] at hg
    |cons x r=>simp at hl
   |succ n ih=>
    intro l hl g hg;cases l with
    |nil=>simp [grp,Tg] at hg
    |cons x r=>
     obtain ⟨g0,l',h1,h2,h3,h4,h5⟩:=Qh x r;have hlen:=congrArg List.length h1;have hg0:0<g0.length:=Bc.2 h2;simp only [Ac,A6] at hlen hl;rw [h5] at hg;rcases Am.1 hg with rfl|hg
     ·simp only [A6];omega
     ·have:=ih l' (by omega) g hg;simp only [A6];omega
  exact C3 (this _ _ (Af _) g hg) hl
 generalize grp z.recs=gs at*;have:=F2 (fn:=S) (N:=N) (η:=[z.pv,p1,p2,p3,p4,p5,F7 gs]) (id:=1) (init:=[.c (.s []), .c (.s []), .c (.b false), .c (.i .i64 0)]) (body:=Vm) gs (fun i (a:List UInt8×List UInt8×Bool)=>[.s a.1, .s a.2.1, .b a.2.2, .i .i64 (i:Int)]) (fun i a r=>Ik7 (An1 z.origin r a.1 a.2.1 a.2.2)) (fun i a=>a.1.length≤9223372036854775807∧a.2.1.length≤9223372036854775807) ([],[],false) ?_ (by simp) (by omega) (fun i a g r hd hi hc hI=> ?_) (fun a hI=> ?_)
 ·exact this
 ·simp (disch:=omega) only [EVC,xe,EVP,EV,simprocAttr]
  try rfl
 ·obtain ⟨cut,red,soa⟩:=a;obtain ⟨hI1,hI2⟩:=hI;simp only at hI1 hI2 ⊢;have hgm:=A4 hc;obtain ⟨hg,hgz⟩:=gf1 g hgm;obtain ⟨x,hx,hxm⟩:∃x,g[0]? =some x∧x∈g:=by
   cases g with
   |nil=>exact absurd rfl hg
   |cons x r=>exact ⟨x,rfl, .head _⟩
  have hnm:nmG g=x.name:=by
   cases g with
   |nil=>exact absurd rfl hg
   |cons y r=>simp at hx;rw [←hx];rfl
  have hxl:x.name.length≤9223372036854775807:=(hz.recs.2 x (hgz x hxm)).name;have hzl:z.origin.length≤9223372036854775807:=hz.origin;obtain ⟨p11,kA⟩:=Jq4 z g gs x N i cut red soa hc hx hxl hI1 p1 p2 p3 p4 p5;have hku:(Dc x.name cut).length≤9223372036854775807:=by unfold Dc;split<;>simp [hI1]
  have hkr:(Dc x.name red).length≤9223372036854775807:=by unfold Dc;split<;>simp [hI2]
  obtain ⟨p13,kB⟩:=Jq3 z g gs x N i cut red soa hc hx hxl hI2 p1 p2 p3 p4 p5 p11 (.s (Dc x.name cut));have kC:=Jq2 z g gs x N i soa hc hx hnm hg (hgl g hgm) (by omega) hxl hzl (Dc x.name cut) (Dc x.name red) p1 p2 p3 p4 p5 (.s cut) (.s red) p11 p13;have kall:=kA.trans (kB.trans kC);have hlt:(i:Int)<(gs.length:Int):=by omega
  have hb:Vm.ev S N [z.pv,p1,p2,p3,p4,p5,F7 gs, .s cut, .s red, .b soa, .i .i64 (i:Int)]=S1.ev S N [z.pv,p1,p2,p3,p4,p5,F7 gs, .s cut, .s red, .b soa, .i .i64 (i:Int)]:=by have xb:=Bv Vm.eq_1;simp (disch:=omega) only [xb,hlt,Nn,EVC,xe,EVP,EV,simprocAttr]
  have hb2:=hb.trans kall;have estep:An1 z.origin (g::r) cut red soa=if propG z.origin g (decide (Dc x.name cut≠[])) (decide (Dc x.name red≠[]))=true then An1 z.origin r (if Dc x.name cut=[]∧x.name≠z.origin∧Fs g 2=true then x.name else Dc x.name cut) (if Fs g 39=true then x.name else Dc x.name red) (soa||decide (x.name=z.origin)) else none:=by simp only [An1,hnm]
  by_cases hP:propG z.origin g (decide (Dc x.name cut≠[])) (decide (Dc x.name red≠[]))=true
  ·left;rw [if_pos hP] at hb2 estep;refine ⟨(if Dc x.name cut=[]∧x.name≠z.origin∧Fs g 2=true then x.name else Dc x.name cut,if Fs g 39=true then x.name else Dc x.name red,soa||decide (x.name=z.origin)),hb2,⟨?_,?_⟩,?_⟩
   ·exact Cj2 _ _ _ hxl hku
   ·exact Cj2 _ _ _ hxl hkr
   ·rw [estep]
  ·right;rw [if_neg hP] at hb2 estep;rw [estep];exact ⟨hb2,rfl⟩
 ·have hlt:¬(gs.length:Int)<(gs.length:Int):=by omega
  have xb:=Bv Vm.eq_1;refine ⟨?_,rfl⟩;simp (disch:=omega) only [xb,hlt,Nn,EVC,xe,EVP,EV,simprocAttr];rfl
theorem ob (z:Zone) (hz:z.wf):N5 z=if vld z.origin=false then 2 else if 2048<z.recs.length∨Ps z.recs=true then 9 else if z.recs.all Ob=false then 5 else if z.recs≠sortR z.recs then 7 else if An1 z.origin (grp z.recs) [] [] false=some true then 0 else 13:=by
 unfold N5;rcases Aq (vld z.origin) with h1|h1
 ·have n1:¬vld z.origin=false:=by simp [h1]
  rw [if_neg n1,if_neg n1];by_cases h2:2048<z.recs.length
  ·rw [if_pos h2,if_pos (.inl h2)]
  ·rw [if_neg h2];have hcr:=Am7 z.recs;rcases Aq (z.recs.all fun r=>decide ((findR z.recs r.name r.typ).length≤64)) with h3|h3
   ·rw [h3] at hcr;have hn2:¬(2048<z.recs.length∨Ps z.recs=true):=by
     rintro (q|q)
     ·exact h2 q
     ·rw [hcr] at q;cases q
    have n3:¬(z.recs.all fun r=>decide ((findR z.recs r.name r.typ).length≤64))=false:=by simp only [h3];simp
    rw [if_neg n3,if_neg hn2];rcases Aq (z.recs.all Ob) with h4|h4
    ·have n4:¬z.recs.all Ob=false:=by simp only [h4];simp
     rw [if_neg n4,if_neg n4];by_cases h5:z.recs=sortR z.recs
     ·have n5:¬z.recs≠sortR z.recs:=by simpa using h5
      rw [if_neg n5,if_neg n5];have hv:∀r∈z.recs,Ob r=true:=Bz.1 h4;have hr:z.recs.Pairwise ltR:=by rw [h5];exact (Py z.recs hv).1
      have hk:=w7 z (fun r h=>Zk (hv r h)) (Bv6 hr) z.recs.length [] z.recs [] [] false (Af _) rfl (by simp) ⟨by simp,by simp,by simp,by simp⟩;rw [Cw0,decide_eq_true_eq] at hk;have hk2:=Bx0 z hv hr;have hk3:An1 z.origin (grp z.recs) [] [] false=some true↔(findR z.recs z.origin 6).length=1∧dn z.recs z.origin 2=true∧∀r∈z.recs,Rb z r=true:=by rw [hk,←hk2];simp
      by_cases h6:An1 z.origin (grp z.recs) [] [] false=some true
      ·obtain ⟨a,b,c⟩:=hk3.1 h6;have c':z.recs.all (Rb z)=true:=Bz.2 c;have n7:¬((findR z.recs z.origin 6).length≠1∨dn z.recs z.origin 2=false):=by simp [a,b]
       have n8:¬z.recs.all (Rb z)=false:=by simp only [c'];simp
       rw [if_pos h6,if_neg n7,if_neg n8]
      ·rw [if_neg h6];by_cases h7:(findR z.recs z.origin 6).length≠1∨dn z.recs z.origin 2=false
       ·rw [if_pos h7]
       ·rw [if_neg h7];by_cases h8:z.recs.all (Rb z)=false
        ·rw [if_pos h8]
        ·exfalso;simp only [not_or,ne_eq,I7,Fx] at h7 h8;exact h6 (hk3.2 ⟨h7.1,h7.2,Bz.1 h8⟩)
     ·rw [if_pos h5,if_pos h5]
    ·rw [if_pos h4,if_pos h4]
   ·rw [h3] at hcr;rw [if_pos h3,if_pos (.inr hcr)]
 ·rw [if_pos h1,if_pos h1]
theorem fp (z:Zone) (hz:z.wf) (hl:z.recs.length≤1000000):S Ah6 1 [z.pv]=some [.i .i64 (N5 z)]:=by
 obtain ⟨N,hN⟩:∃N,N=z.recs.length+2:=⟨_,rfl⟩;refine Ig1 (N:=N) rfl ?_;rw [ob z hz];have hzl:z.origin.length≤9223372036854775807:=hz.origin;have k1:=Bs z.origin hzl;have k2:=Am6 z.recs hl;have k3:=Fv z.recs Bh8 [] (fun r=> !Ob r) hl (fun r hr=>by refine Ic9 (N:=1) rfl ?_;have:=Dz2 r (hz.recs.2 r hr);simp (disch:=omega) only [Iw1,this,EVC,xe,EVP,EV,simprocAttr])
 have e3:(z.recs.any fun r=> !Ob r)= !z.recs.all Ob:=by rw [List.not_all_eq_any_not]
 rw [e3] at k3;have k4:=Ez7 z.recs hz.recs.2 hl;have hsl:(sortR z.recs).length≤1000000:=by obtain ⟨r,h1,h2,_⟩:=N9 Ht0 (by rw [Eq2];exact Ik4) z.recs hz.recs.2 hl;rw [Eq2] at h1;have:=Xt eqF r;rw [tn h1] at this;omega
 have k5:=Dz9 z.recs (sortR z.recs) hl hsl;have k6:=Ck4 z.recs hl;have k7:=fun p1 p2 p3 p4 p5=>Jj3 z hz hl N (by omega) p1 p2 p3 p4 p5;have xt:=Bv Bk0.eq_1;have x28:=Bv lm.eq_1;have x27:=Bv ln.eq_1;have x26:=Bv lp.eq_1;have x25:=Bv lr.eq_1;have x24:=Bv l4.eq_1;have x23:=Bv l5.eq_1;have x22:=Bv l6.eq_1;have x21:=Bv l7.eq_1;have x20:=Bv l8.eq_1;have x19:=Bv l9.eq_1;have x18:=Bv mq.eq_1;rcases Aq (vld z.origin) with h1|h1
 ·have n1:¬vld z.origin=false:=by simp [h1]
  rw [if_neg n1];rw [h1] at k1;by_cases h2:2048<z.recs.length
  ·rw [if_pos (.inl h2)];have h2':(2048:Int)<(z.recs.length:Int):=by omega
   simp (disch:=omega) only [xt,x28,x27,x26,k1,h2',EVC,xe,EVP,EV,simprocAttr]
  ·have h2':¬(2048:Int)<(z.recs.length:Int):=by omega
   rcases Aq (Ps z.recs) with h3|h3<;>rw [h3] at k2
   ·rw [if_pos (.inr h3)];simp (disch:=omega) only [xt,x28,x27,x26,k1,k2,h2',EVC,xe,EVP,EV,simprocAttr]
   ·have n2:¬(2048<z.recs.length∨Ps z.recs=true):=by simp only [h2,h3];simp
    rw [if_neg n2];rcases Aq (z.recs.all Ob) with h4|h4<;>rw [h4] at k3
    ·have n4:¬z.recs.all Ob=false:=by simp only [h4];simp
     rw [if_neg n4];by_cases h5:z.recs=sortR z.recs
     ·have n5:¬z.recs≠sortR z.recs:=by simpa using h5
      rw [if_neg n5];have e5:decide (z.recs=sortR z.recs)=true:=decide_eq_true h5;rw [e5] at k5;clear h5 e5;generalize sortR z.recs=sr at*;cases h6:An1 z.origin (grp z.recs) [] [] false with
      |none=>
       rw [h6] at k7;simp only [Ik7] at k7;generalize grp z.recs=gs at*;rw [if_neg (by simp)];simp (disch:=omega) only [xt,x28,x27,x26,x25,x24,x23,x22,x21,x20,x19,x18,k1,k2,h2',k3,k4,k5,k6,k7,Nn,EVC,xe,EVP,EV,simprocAttr]
      |some b=>
       rw [h6] at k7;simp only [Ik7] at k7;generalize grp z.recs=gs at*;cases b
       ·rw [if_neg (by simp)];simp (disch:=omega) only [xt,x28,x27,x26,x25,x24,x23,x22,x21,x20,x19,x18,k1,k2,h2',k3,k4,k5,k6,k7,Nn,EVC,xe,EVP,EV,simprocAttr]
       ·rw [if_pos rfl];simp (disch:=omega) only [xt,x28,x27,x26,x25,x24,x23,x22,x21,x20,x19,x18,k1,k2,h2',k3,k4,k5,k6,k7,Nn,EVC,xe,EVP,EV,simprocAttr]
     ·rw [if_pos h5];have e5:decide (z.recs=sortR z.recs)=false:=decide_eq_false h5;rw [e5] at k5;clear h5 e5;generalize sortR z.recs=sr at*;simp (disch:=omega) only [xt,x28,x27,x26,x25,x24,x23,x22,x21,k1,k2,h2',k3,k4,k5,EVC,xe,EVP,EV,simprocAttr]
    ·rw [if_pos h4];simp (disch:=omega) only [xt,x28,x27,x26,x25,x24,k1,k2,h2',k3,EVC,xe,EVP,EV,simprocAttr]
     try simp
 ·rw [if_pos h1];rw [h1] at k1;simp (disch:=omega) only [xt,x28,k1,EVC,xe,EVP,EV,simprocAttr]
end Go.X.G
/- Delegations and names of a zone, as the reference finds them; what exists. -/
namespace Go.X.G
open Go Go.X
def Ck0 (x:List UInt8):List (List UInt8)→List (List UInt8)
 |[]=>[x]
 |y::r=>if H1 y x<0 then y::Ck0 x r else if y=x then y::r else x::y::r
theorem insN_mem (x z:List UInt8):∀(l:List (List UInt8)),z∈Ck0 x l↔z=x∨z∈l
 |[]=>by simp [Ck0]
 |y::r=>by
  have ih:=insN_mem x z r;simp only [Ck0];split
  ·simp only [Am,ih];grind
  ·split
   ·rename_i h;subst h;simp only [Am];grind
   ·simp only [Am]
theorem Sq (x:List UInt8):∀(l:List (List UInt8)),l.Pairwise ltN→(Ck0 x l).Pairwise ltN
 |[],_=>by simp [Ck0]
 |y::r,h=>by
  obtain ⟨h1,h2⟩:=A0.1 h;have ih:=Sq x r h2;simp only [Ck0];by_cases c:H1 y x<0
  ·rw [if_pos c];refine A0.2 ⟨fun w hw=> ?_,ih⟩;rcases (insN_mem x w r).1 hw with rfl|hw
   ·exact (Ev _ _).1 c
   ·exact h1 w hw
  ·rw [if_neg c];by_cases e:y=x
   ·rw [if_pos e];exact h
   ·rw [if_neg e];have hxy:ltN x y:=by
     rcases to_N.tri x y with q|q|q
     ·exact q
     ·exact absurd q.symm e
     ·exact absurd ((Ev _ _).2 q) c
    refine A0.2 ⟨fun w hw=> ?_,h⟩;rcases Am.1 hw with rfl|hw
    ·exact hxy
    ·exact to_N.tr _ _ _ hxy (h1 w hw)
def Eg1 (l:List (List UInt8)):List (List UInt8):=l.foldl (fun a x=>Ck0 x a) []
theorem ab (l:List (List UInt8)):Eg1 l=setN l:=by
 have:∀(l a:List (List UInt8)),a.Pairwise ltN→(l.foldl (fun a x=>Ck0 x a) a).Pairwise ltN∧∀z,z∈l.foldl (fun a x=>Ck0 x a) a↔z∈a∨z∈l:=by
  intro l
  induction l with
  |nil=>intro a h;exact ⟨h,fun z=>by simp⟩
  |cons x r ih=>
   intro a h;obtain ⟨h1,h2⟩:=ih (Ck0 x a) (Sq x a h);refine ⟨h1,fun z=> ?_⟩;rw [List.foldl_cons,h2,insN_mem,Am]
   grind
 obtain ⟨h1,h2⟩:=this l [] List.Pairwise.nil;exact Rx to_N _ _ h1 (Ig l) fun x=>by rw [J2];rw [Eg1,h2 x];simp
end Go.X.G
/- What exists in a zone, and what encloses a name; names with another end. -/
namespace Go.X.G
open Go Go.X
def exB (z:Zone) (x:List UInt8):Bool:=z.recs.any fun r=>under r.name z.origin && !Xd z r.name && under r.name x && under x z.origin
theorem Cq0 (z:Zone) (x:List UInt8):exB z x=true↔El3 z x:=by unfold exB El3;simp only [B6,Aw,A8,and_assoc]
theorem Xm (z:Zone) (x:List UInt8):decide (x∈namesN z)=exB z x:=by rw [Cp,Cq0,←Ag6];simp
theorem Uv (z:Zone) (hl:z.recs.length≤1000):(namesN z).length≤1000000:=by
 have h1:=Qy (Gh5 z);have h2:∀l:List Rec,(l.flatMap fun r=>upN z.origin r.name).length≤256*l.length:=by
  intro l
  induction l with
  |nil=>simp
  |cons x r ih=>
   have:=g8 z.origin x.name;rw [I5,Ac,A6];omega
 have h3:=h2 (z.recs.filter fun r=>under r.name z.origin && !Xd z r.name);have h4:=Hk (fun r=>under r.name z.origin && !Xd z r.name) z.recs;show (setN (Gh5 z)).length≤1000000;unfold Gh5 at h1 ⊢;omega
end Go.X.G
/- Records with names and texts of at most 300 bytes. -/
namespace Go.X.G
open Go Go.X
def c3 (s:List UInt8):List UInt8:=s.take 300
end Go.X.G
/- The laws of zones: what they call. -/
namespace Go.X.G
open Go Go.X
theorem Hh (o:List UInt8) (l:List Rec):PV.a [.s o,Al l]=Zone.pv ⟨o,l⟩:=rfl
theorem Jv (z:Zone):(⟨z.origin,z.recs⟩:Zone)=z:=rfl
end Go.X.G
/- Names with another end; redirections; what records of a name say. -/
namespace Go.X
structure Res where
 kind:Int
 owner:List UInt8
 wild:Bool
 target:List UInt8
 recs:List Rec
 deriving DecidableEq
def Res.cells (x:Res):List PV:=[.i .i64 x.kind, .s x.owner, .b x.wild, .s x.target,Al x.recs]
def Res.pv (x:Res):PV:= .a x.cells
end Go.X
namespace Go.X.G
open Go Go.X
end Go.X.G
/- What a zone says about a question: the program and the reference. -/
namespace Go.X.G
open Go Go.X
theorem Dd2 (z:Zone) (n:List UInt8) (t:Int) (hl:z.recs.length≤1000000):S Bl2 3 [z.pv, .s n, .i .i64 t]=some [Al (findR z.recs n t)]:=by refine Id6 (N:=1) rfl ?_;have k1:=Eb0 z.recs n t hl;simp (disch:=omega) only [Iw3,k1,EVM,EVC,xe,EVP,EV,simprocAttr]
end Go.X.G
/- nsec: the chain of a zone. -/
namespace Go.X.G
open Go Go.X
def anB (x y:Int):Int:=IntKind.u64.wrap ((BitVec.ofInt IntKind.u64.bits x &&& ~~~ BitVec.ofInt IntKind.u64.bits y).toNat:Int)
def adB (x y:Int):Int:=IntKind.u64.wrap ((BitVec.ofInt IntKind.u64.bits x &&& BitVec.ofInt IntKind.u64.bits y).toNat:Int)
def orB (x y:Int):Int:=IntKind.u64.wrap ((BitVec.ofInt IntKind.u64.bits x|||BitVec.ofInt IntKind.u64.bits y).toNat:Int)
theorem Ij7 (x y:Int):X.bin .andNot (.i .u64 x) (.i .u64 y)=some (.i .u64 (anB x y)):=by rw [Cw];rfl
theorem Ij9 (x y:Int):X.bin .and (.i .u64 x) (.i .u64 y)=some (.i .u64 (adB x y)):=by rw [S5];rfl
theorem Hy8 (x y:Int):X.bin .or (.i .u64 x) (.i .u64 y)=some (.i .u64 (orB x y)):=by rw [Fd5];rfl
theorem Uk (l:List Int) (hk:∀t∈l,knw t=true) (hl:l.length≤1000000):S ah 1 [Hy l]=some [.i .u64 (l.foldl bitO 0)]:=by refine Id7 (N:=1) rfl ?_;have h:=Dz5 l hk hl;generalize l.foldl bitO 0=v at*;simp (disch:=omega) only [Iw4,h,EVC,xe,EVP,EV,simprocAttr]
def uk:Int:=211106232532992
def Ef6:Int:=8796093022212
theorem Hy6:S ah 1 [.l 1 [.i .i64 47, .i .i64 46]]=some [.i .u64 uk]:=by
 have:=Uk [47,46] (by decide) (by decide);have e:[47,46].foldl bitO 0=uk:=by kernel_rfl
 rw [e] at this;exact this
theorem Hy5:S ah 1 [.l 1 [.i .i64 2, .i .i64 43]]=some [.i .u64 Ef6]:=by
 have:=Uk [2,43] (by decide) (by decide);have e:[2,43].foldl bitO 0=Ef6:=by kernel_rfl
 rw [e] at this;exact this
def tyO (z:Zone) (n:List UInt8):Int:=anB ((typesR z.recs n).foldl bitO 0) uk
def chBits (z:Zone) (n:List UInt8):Int:=orB (if n∈cutsN z then adB (tyO z n) Ef6 else tyO z n) uk
def Kb (z:Zone) (ttl:Int) (n:List UInt8):Option Rec:=
 if tyO z n=0 then none else some ⟨n,47,ttl,⟨false,0,0,z.origin,[],[],0,0,0,0,0,0,chBits z n⟩⟩
def chain0 (z:Zone) (ttl:Int):List Rec:=(namesN z).filterMap (Kb z ttl)
def P6 (z:Zone):Int:=match findR z.recs z.origin 6 with|[]=>0|r::_=>r.data.e
def Fn4 (h:List UInt8) (r:Rec):Rec:={r with data:={r.data with host:=h}}
def lnk (g:List Rec) (i:Nat):List Rec:=
 if 0<i then match g[i - 1]?,g[i]? with
  |some a,some b=>g.set (i - 1) (Fn4 b.name a)
  |_,_=>g
 else g
def Bn4:Nat→Nat→List Rec→List Rec
 |0,_,g=>g
 |k+1,i,g=>Bn4 k (i+1) (lnk g i)
def chainN (z:Zone):List Rec:=Bn4 (chain0 z (P6 z)).length 0 (chain0 z (P6 z))
theorem Xq (g:List Rec) (i:Nat):(lnk g i).length=g.length:=by
 unfold lnk;split
 ·split
  ·rw [F0]
  ·rfl
 ·rfl
theorem Ib2 (l:List Rec) (j:Nat) (h:List UInt8) (x:Rec) (hx:l[j]? =some x):Rj 16 6 [.s h] (Al l) (.i .i64 (j:Int))=some (Al (l.set j (Fn4 h x))):=by
 have h1:=(Av.1 hx).1;have h3:(l.map Rec.pv)[j]? =some x.pv:=by rw [Bg,hx];rfl
 have h0:(0:Int)≤(j:Int):=by omega
 simp only [Rj,Al,h0,I6,h3,and_self,if_true,Ay];have h4:Om x.pv 6 [.s h]=some (Fn4 h x).pv:=rfl;rw [h4];simp [List.map_set]
theorem Eb2 (z:Zone) (ttl:Int) (s:List Rec) (hz:z.wf) (hl:z.recs.length≤1000000) (cl:(cutsN z).length≤1000000) (hn:(namesN z).length≤1000000) (hs:∃r,s=[r]∧r.data.e=ttl) (p1:PV) (N:Nat) (hN:(namesN z).length<N):
  El2.ev S N [z.pv,p1, .i .u64 uk, .i .u64 Ef6,Al s,Bl (cutsN z),Bl (namesN z)]=some (.yld 0 [Al (chain0 z ttl)]):=by
 obtain ⟨r0,rfl,hr0⟩:=hs;have hor:(chain0 z ttl)=[]++(namesN z).filterMap (Kb z ttl):=rfl;rw [hor];have ki:=fun n=>Pb (cutsN z) n cl;have kt:=fun n=>Dz4 z.recs n hl;refine F2 (N:=N) (namesN z) (fun i (g:List Rec)=>[Al g, .i .i64 (i:Int)]) (fun i g r=> .yld 0 [Al (g++r.filterMap (Kb z ttl))]) (fun i g=>g.length≤i) [] rfl (Cn _) hN (fun i g c r hd hi hc hI=> ?_) (fun g hI=> ?_)
 ·left;have e1:=Ij7 ((typesR z.recs c).foldl bitO 0) uk;have e2:anB ((typesR z.recs c).foldl bitO 0) uk=tyO z c:=rfl;rw [e2] at e1;have kt:=kt c;have ki:=ki c;have eb:chBits z c=orB (if c∈cutsN z then adB (tyO z c) Ef6 else tyO z c) uk:=rfl;have hil:(i:Int)<((namesN z).length:Int):=by omega
  generalize (typesR z.recs c).foldl bitO 0=ty at*;by_cases h0:tyO z c=0
  ·have hci:Kb z ttl c=none:=by unfold Kb;rw [if_pos h0]
   refine ⟨g,?_,by omega,by rw [Fg5,hci]⟩;rw [h0] at e1;generalize namesN z=nn at*;generalize cutsN z=cc at*;simp (disch:=omega) only [V9,hc,hil,kt,ki,e1,EVC,xe,EVP,EV,simprocAttr]
  ·have hci:Kb z ttl c=some ⟨c,47,ttl,⟨false,0,0,z.origin,[],[],0,0,0,0,0,0,chBits z c⟩⟩:=by unfold Kb;rw [if_neg h0]
   have ho:=Hy8 (if c∈cutsN z then adB (tyO z c) Ef6 else tyO z c) uk;rw [←eb] at ho;refine ⟨g++[⟨c,47,ttl,⟨false,0,0,z.origin,[],[],0,0,0,0,0,0,chBits z c⟩⟩],?_,by simp;omega,by rw [Fg5,hci,As];rfl⟩;have ea:=Ij9 (tyO z c) Ef6;generalize chBits z c=bits at*;generalize tyO z c=t at*;generalize adB t Ef6=u at*;generalize namesN z=nn at*;by_cases h1:c∈cutsN z
   ·rw [if_pos h1] at ho;generalize cutsN z=cc at*;simp (disch:=omega) only [V9,hc,hil,kt,ki,e1,ea,ho,h0,h1,hr0,EVC,xe,EVP,EV,simprocAttr]
   ·rw [if_neg h1] at ho;generalize cutsN z=cc at*;simp (disch:=omega) only [V9,hc,hil,kt,ki,e1,ea,ho,h0,h1,hr0,EVC,xe,EVP,EV,simprocAttr]
 ·generalize namesN z=nn at*;simp (disch:=omega) only [V9,Int.lt_irrefl,EVC,xe,EVP,EV,simprocAttr];simp [Out.goes]
theorem Eb1 (c0:List Rec) (hl:c0.length≤1000000) (N:Nat) (hN:c0.length<N) (p0 p1 p2 p3 p4 p5 p6:PV):
  Eg7.ev S N [p0,p1,p2,p3,p4,p5,p6,Al c0]=some (.yld 0 [Al (Bn4 c0.length 0 c0)]):=by
 refine F2 (N:=N) c0 (fun i (g:List Rec)=>[Al g, .i .i64 (i:Int)]) (fun i g r=> .yld 0 [Al (Bn4 r.length i g)]) (fun i g=>g.length=c0.length) c0 rfl rfl hN (fun i g c r hd hi hc hI=> ?_) (fun g hI=> ?_)
 ·left;refine ⟨lnk g i,?_,by rw [Xq];exact hI,rfl⟩;have hil:(i:Int)<(c0.length:Int):=by omega
  unfold lnk;by_cases h0:0<i
  ·have a1:g[i - 1]? =some (g[i - 1]'(by omega)):=Az (by omega);have a2:g[i]? =some (g[i]'(by omega)):=Az (by omega);generalize g[i - 1]'(by omega)=a at*;generalize g[i]'(by omega)=b at*;rw [if_pos h0,a1,a2];simp only;have e1:(i:Int) - 1=((i - 1:Nat):Int):=by omega
   have e2:IntKind.i64.wrap ((i:Int) - 1)=((i - 1:Nat):Int):=by rw [w64 (by omega) (by omega)];exact e1
   have e3:=Ib2 g (i - 1) b.name a a1;have h0':(0:Int)<(i:Int):=by omega
   simp (disch:=omega) only [V9,hil,h0',e1,e2,e3,a1,a2,EVC,xe,EVP,EV,simprocAttr]
  ·have h0':¬(0:Int)<(i:Int):=by omega
   rw [if_neg h0];simp (disch:=omega) only [V9,hil,h0',EVC,xe,EVP,EV,simprocAttr]
 ·simp (disch:=omega) only [V9,Int.lt_irrefl,EVC,xe,EVP,EV,simprocAttr];simp [Out.goes,Bn4]
theorem Vg (z:Zone) (ttl:Int):(chain0 z ttl).length≤(namesN z).length:=List.length_filterMap_le _ _
theorem Ex5 (z:Zone) (hl:z.recs.length≤1000):(cutsN z).length≤1000000:=by have:=Qy ((z.recs.filter (Ey z)).map Rec.name);have h2:=Hk (Ey z) z.recs;rw [F1] at this;unfold cutsN;omega
theorem f3 (z:Zone) (hz:z.wf) (hl:z.recs.length≤1000):S Ah7 1 [z.pv]=some (if N5 z=0 then [Al (chainN z), .i .i64 0] else [Al [], .i .i64 13]):=by
 have hn:=Uv z hl;have hc:=Ex5 z hl;have hcl:=Vg z (P6 z);refine Ig2 (N:=(namesN z).length+1) rfl ?_;have k1:=fp z hz (by omega);by_cases h:N5 z=0
 ·rw [if_pos h];rw [h] at k1;have ho:=fj h;obtain ⟨s,es⟩:=List.length_eq_one_iff.1 ho.soa;have k2:=Dd2 z z.origin 6 (by omega);have k3:=ol z hz (by omega);have k4:=As1 z hz (by omega);have em:P6 z=s.data.e:=by unfold P6;rw [es]
  have l0:=Eb2 z (P6 z) [s] hz (by omega) hc hn ⟨s,rfl,em.symm⟩ (.i .i64 0) ((namesN z).length+1) (by omega);have l1:=Eb1 (chain0 z (P6 z)) (by omega) ((namesN z).length+1) (by omega);rw [es] at k2;have ec:Bn4 (chain0 z (P6 z)).length 0 (chain0 z (P6 z))=chainN z:=rfl;rw [ec] at l1;generalize chainN z=cn at*;generalize chain0 z (P6 z)=c0 at*;generalize cutsN z=cc at*;generalize namesN z=nn at*;have o1:=Hy6;have o2:=Hy5;have q1:I1 1 [.i .i64 47, .i .i64 46]=some (.l 1 [.i .i64 47, .i .i64 46]):=rfl;have q2:I1 1 [.i .i64 2, .i .i64 43]=some (.l 1 [.i .i64 2, .i .i64 43]):=rfl;simp (disch:=omega) only [V9,k1,k2,k3,k4,l0,l1,o1,o2,q1,q2,Hh,Jv,EVC,xe,EVP,EV,simprocAttr]
 ·rw [if_neg h];simp (disch:=omega) only [V9,k1,h,Hh,Jv,EVC,xe,EVP,EV,simprocAttr]
end Go.X.G
/- nsec: the sample, and the laws NsecCovers, NsecAbsent, NsecEmpty. -/
namespace Go.X.G
open Go Go.X
def smp20:Zone:=⟨[120,46],[⟨[120,46],2,9,⟨false,0,0,[110,46],[],[],0,0,0,0,0,0,0⟩⟩,
 ⟨[120,46],6,9,⟨false,0,0,[110,46],[109,46],[],3,0,0,0,5,0,0⟩⟩,
 ⟨[98,46,120,46],1,9,⟨false,0,1,[],[],[],0,0,0,0,0,0,0⟩⟩]⟩
theorem i4:S Ej7 0 []=some [smp20.pv]:=(Mg ext_mono).2 ⟨3,by kernel_rfl⟩
theorem Dp0:smp20.wf:=by refine ⟨by unfold Tj;decide,by decide,fun r hr=> ?_⟩;simp only [smp20,Am,Dc8,or_false] at hr;rcases hr with rfl|rfl|rfl<;>(constructor<;>(try constructor))<;>simp [Db9,P8,Tj]
theorem im:N5 smp20=0:=by kernel_rfl
theorem il:namesN smp20=[[120,46],[98,46,120,46]]:=by unfold namesN;rw [←ab];kernel_rfl
theorem Az8:cutsN smp20=[]:=by unfold cutsN;rw [←ab];kernel_rfl
def c20a:Rec:=⟨[120,46],47,5,⟨false,0,0,[98,46,120,46],[],[],0,0,0,0,0,0,211106232533060⟩⟩
def c20b:Rec:=⟨[98,46,120,46],47,5,⟨false,0,0,[120,46],[],[],0,0,0,0,0,0,211106232532994⟩⟩
theorem ir:chainN smp20=[c20a,c20b]:=by
 have e:chain0 smp20 (P6 smp20)=[Fn4 [120,46] c20a,c20b]:=by
  unfold chain0;rw [il];unfold Kb chBits;rw [Az8]
  kernel_rfl
 have e2:chainN smp20=Bn4 2 0 [Fn4 [120,46] c20a,c20b]:=by unfold chainN;rw [e];rfl
 exact e2.trans (by kernel_rfl)
theorem Cm9:∀r∈[c20a,c20b],r.wf:=by intro r hr;simp only [Am,Dc8,or_false] at hr;rcases hr with rfl|rfl<;>(constructor<;>(try constructor))<;>simp [Db9,P8,Tj,c20a,c20b]
theorem An7:S Bm7 0 []=some [.b true]:=by
 refine Ig6 (N:=1) rfl ?_;have k1:=i4;have k2:=f3 smp20 Dp0 (by decide);rw [if_pos im,ir] at k2;have a1:=Vs [c20a,c20b] [120,46] [99,46,120,46] Cm9 (by decide) (by decide) (by decide);have a2:=Vs [c20a,c20b] [120,46] [98,46,120,46] Cm9 (by decide) (by decide) (by decide);have a3:=Db0 [c20a,c20b] [120,46] ⟨[98,46,120,46],15⟩ Cm9 (by decide) (by decide) (by decide);have e1:Yz [c20a,c20b] [120,46] [99,46,120,46]=true:=by kernel_rfl
 have e2:Yz [c20a,c20b] [120,46] [98,46,120,46]=false:=by kernel_rfl
 have e3:Cq4 [c20a,c20b] [120,46] ⟨[98,46,120,46],15⟩=true:=by kernel_rfl
 rw [e1] at a1;rw [e2] at a2;rw [e3] at a3;have h0:[c20a,c20b][0]? =some c20a:=rfl;have h1:[c20a,c20b][1]? =some c20b:=rfl;have hl:[c20a,c20b].length=2:=rfl;have n0:c20a.name=[120,46]:=rfl;have n1:c20a.data.host=[98,46,120,46]:=rfl;have n2:c20b.data.host=[120,46]:=rfl;have n3:c20b.ttl=5:=rfl;generalize [c20a,c20b]=l at*;generalize c20a=ra at*;generalize c20b=rb at*;generalize smp20=z at*;simp (disch:=first|omega|decide) only [Ix3,k1,k2,a1,a2,a3,h0,h1,hl,n0,n1,n2,n3,El4,Hh,Jv,EVM,EVC,xe,EVP,EV,simprocAttr]
end Go.X.G
/- What a checked zone says of its names. -/
namespace Go.X.G
open Go Go.X
theorem Ay6 {n:List UInt8} (h:vld n=true):under n n=true:=Dj.2 ⟨h,h,List.suffix_refl _⟩
theorem Ay9 {a b:List UInt8} (h1:under a b=true) (h2:under b a=true):a=b:=by refine Ay7 h1 ?_;exact (Dj.1 h2).2.2.length_le
theorem Cj7 {z:Zone} {r:Rec}:Ey z r=true↔r.typ=2∧r.name≠z.origin∧under r.name z.origin=true:=by unfold Ey E4;simp only [Aw,decide_eq_true_eq,ne_eq]
theorem Sf {l:List Rec} {n:List UInt8} {t:Int} {r:Rec}:r∈findR l n t↔r∈l∧r.name=n∧r.typ=t:=by unfold findR;rw [Bn];simp only [isK,Aw,decide_eq_true_eq]
theorem ZOk.soaR {z:Zone} (h:ZOk z):∃r∈z.recs,r.name=z.origin∧r.typ=6:=by
 have:=h.soa;cases e:findR z.recs z.origin 6 with
 |nil=>rw [e] at this;cases this
 |cons r l=>
  have:r∈findR z.recs z.origin 6:=by rw [e];exact .head _
  exact ⟨r,(Sf.1 this).1,(Sf.1 this).2⟩
theorem Al3 (z:Zone):Xd z z.origin=false:=by
 cases h:Xd z z.origin with
 |false=>rfl
 |true=>
  unfold Xd at h;simp only [B6,Aw,decide_eq_true_eq] at h;obtain ⟨r,_,⟨h1,_⟩,h3⟩:=h;obtain ⟨_,h4,h5⟩:=Cj7.1 h1;exact absurd (Ay9 h5 h3) h4
theorem ZOk.exO {z:Zone} (h:ZOk z):exB z z.origin=true:=by obtain ⟨r,hr,e,_⟩:=h.soaR;have u:=Ay6 h.origin;exact (Cq0 z _).2 ⟨r,hr,by rw [e];exact u,by rw [e];exact Al3 z,by rw [e];exact u,u⟩
theorem Xl {z:Zone} {n:List UInt8} (h:exB z n=true):under n z.origin=true:=by obtain ⟨_,_,_,_,_,h⟩:=(Cq0 z n).1 h;exact h
end Go.X.G
/- nsec: what the chain of a checked zone is; the law NsecOrder. -/
namespace Go.X.G
open Go Go.X
def bv (x:Int):BitVec 64:=BitVec.ofInt 64 x
theorem Dw2 (v:BitVec 64):bv (IntKind.u64.wrap (v.toNat:Int))=v:=by have h:=v.isLt;rw [Gg0 (by omega) (by omega)];unfold bv;rw [BitVec.ofInt_natCast,BitVec.ofNat_toNat,BitVec.setWidth_eq]
theorem Jj4 (x y:Int):bv (anB x y)=bv x &&& ~~~ bv y:=Dw2 _
theorem Gb9 (g t:Int):bv (bitO g t)=bv g|||bv (shO t):=Dw2 _
theorem Dw3 (k:Nat):∀(l:List Int) (g:Int),(bv (l.foldl bitO g)).getLsbD k=((bv g).getLsbD k||l.any fun t=>(bv (shO t)).getLsbD k)
 |[],g=>by simp
 |t::l,g=>by rw [List.foldl_cons,Dw3 k l,Gb9,BitVec.getLsbD_or,List.any_cons,Bool.or_assoc]
theorem Ij3 (v:BitVec 64) (k:Nat):bit (IntKind.u64.wrap (v.toNat:Int)) k=if v.getLsbD k=true then 1 else 0:=by
 have h:=v.isLt;rw [Gg0 (by omega) (by omega)];unfold bit;have e:(((v.toNat / 2 ^ k % 2:Nat)):Int)=(v.toNat:Int) / 2 ^ k % 2:=by rw [Int.natCast_emod,Int.natCast_ediv];simp
 rw [←e,BitVec.getLsbD,Nat.testBit_eq_decide_div_mod_eq];by_cases h1:v.toNat / 2 ^ k % 2=1
 ·rw [h1];simp
 ·have:v.toNat / 2 ^ k % 2=0:=by omega
  rw [this];simp
theorem Fd3 (x y:Int) (k:Nat):bit (orB x y) k=if (bv x).getLsbD k||(bv y).getLsbD k then 1 else 0:=by unfold orB;rw [show IntKind.u64.bits=64 from rfl,Ij3,BitVec.getLsbD_or];rfl
theorem Ih4 (x:Int):bit (orB x uk) 47=1:=by rw [Fd3,show (bv uk).getLsbD 47=true by kernel_rfl,Bool.or_true];rfl
theorem Ih5 (x:Int):bit (orB x uk) 46=1:=by rw [Fd3,show (bv uk).getLsbD 46=true by kernel_rfl,Bool.or_true];rfl
theorem Df3 {z:Zone} {n:List UInt8} (h:tyO z n≠0):∃r∈z.recs,r.name=n:=by
 cases e:typesR z.recs n with
 |nil=>
  exfalso;apply h;unfold tyO;rw [e]
  kernel_rfl
 |cons t l=>
  have:t∈typesR z.recs n:=by rw [e];exact .head _
  simp only [typesR,Dw,Bn,Aw,decide_eq_true_eq] at this;obtain ⟨r,⟨hr,hn,_⟩,_⟩:=this;exact ⟨r,hr,hn⟩
theorem Fh8 {z:Zone} {n:List UInt8} {r:Rec} (hr:r∈z.recs) (hn:r.name=n) (hk:knw r.typ=true) (k:Nat) (h1:(bv (shO r.typ)).getLsbD k=true) (h2:(bv uk).getLsbD k=false):(bv (tyO z n)).getLsbD k=true:=by
 unfold tyO;rw [Jj4,BitVec.getLsbD_and,BitVec.getLsbD_not,h2,Dw3];have hlt:k<64:=BitVec.lt_of_getLsbD h1;have:(typesR z.recs n).any (fun t=>(bv (shO t)).getLsbD k)=true:=by rw [B6];refine ⟨r.typ,?_,h1⟩;simp only [typesR,Dw,Bn,Aw,decide_eq_true_eq];exact ⟨r,⟨hr,hn,hk⟩,rfl⟩
 rw [this];simp [hlt]
theorem Az1 {z:Zone} (ho:ZOk z):tyO z z.origin≠0:=by
 obtain ⟨r,hr,hn,ht⟩:=ho.soaR;have h:=Fh8 hr hn (by rw [ht];kernel_rfl) 6 (by rw [ht];kernel_rfl) (by kernel_rfl);intro e;rw [e] at h;have h2:(bv 0).getLsbD 6=false:=by kernel_rfl
 rw [h2] at h;cases h
theorem Bn3 (g:List Rec) (i j:Nat) (a:Rec) (hi:i<g.length) (ha:g[j]? =some a):(lnk g i)[j]? =some (if 0<i∧j=i - 1 then Fn4 (g[i]'hi).name a else a):=by
 unfold lnk;by_cases h0:0<i
 ·have a1:g[i - 1]? =some (g[i - 1]'(by omega)):=Az (by omega);have a2:g[i]? =some (g[i]'hi):=Az hi;rw [if_pos h0,a1,a2];simp only;by_cases hj:j=i - 1
  ·subst hj;rw [if_pos ⟨h0,rfl⟩,List.getElem?_set_self (by omega)];rw [a1] at ha;injection ha with ha;rw [ha]
  ·rw [if_neg (by omega),M2 (by omega),ha]
 ·rw [if_neg h0,if_neg (by omega),ha]
def nxt (g:List Rec) (j:Nat) (a:Rec):Rec:=match g[j+1]? with
 |some b=>Fn4 b.name a
 |none=>a
theorem vj:∀(k i:Nat) (g:List Rec),g.length=i+k→∀(j:Nat) (a:Rec),g[j]? =some a→(Bn4 k i g)[j]? =some (if i≤j+1 then nxt g j a else a)
 |0,i,g,hl,j,a,ha=>by
  show g[j]? =_;rw [ha];by_cases h:i≤j+1
  ·rw [if_pos h];have:g[j+1]? =none:=by rw [List.getElem?_eq_none_iff];omega
   unfold nxt;rw [this]
  ·rw [if_neg h]
 |k+1,i,g,hl,j,a,ha=>by
  show (Bn4 k (i+1) (lnk g i))[j]? =_;have hi:i<g.length:=by omega
  have hj:=Bn3 g i j a hi ha;rw [vj k (i+1) (lnk g i) (by rw [Xq];omega) j _ hj];by_cases h1:0<i∧j=i - 1
  ·rw [if_neg (by omega),if_pos h1,if_pos (by omega)];unfold nxt;have e:j+1=i:=by omega
   rw [e,Az hi]
  ·rw [if_neg h1];by_cases h2:i≤j+1
   ·have h3:i+1≤j+1:=by omega
    rw [if_pos h2,if_pos h3];unfold nxt;cases hb:g[j+1]? with
    |none=>
     have:(lnk g i)[j+1]? =none:=by rw [List.getElem?_eq_none_iff] at hb ⊢;rw [Xq];exact hb
     rw [this]
    |some b=>
     rw [Bn3 g i (j+1) b hi hb,if_neg (by omega)]
   ·rw [if_neg h2,if_neg (by omega)]
theorem u9:∀(k i:Nat) (g:List Rec),(Bn4 k i g).length=g.length
 |0,_,_=>rfl
 |k+1,i,g=>by show (Bn4 k (i+1) (lnk g i)).length=_;rw [u9,Xq]
theorem L3 (z:Zone):(chainN z).length=(chain0 z (P6 z)).length:=u9 _ _ _
theorem Vf {z:Zone} {j:Nat} {a:Rec} (h:(chain0 z (P6 z))[j]? =some a):(chainN z)[j]? =some (nxt (chain0 z (P6 z)) j a):=by unfold chainN;rw [vj _ 0 _ (by omega) j a h,if_pos (by omega)]
theorem Pj {z:Zone} {ttl:Int} {a:Rec} (h:a∈chain0 z ttl):∃n∈namesN z,tyO z n≠0∧a=⟨n,47,ttl,⟨false,0,0,z.origin,[],[],0,0,0,0,0,0,chBits z n⟩⟩:=by
 unfold chain0 at h;rw [Iv2] at h;obtain ⟨n,hn,ha⟩:=h;unfold Kb at ha;split at ha
 ·cases ha
 ·rename_i h0;injection ha with ha;exact ⟨n,hn,h0,ha.symm⟩
theorem X5 (z:Zone) (ttl:Int):(chain0 z ttl).Pairwise fun a b=>ltN a.name b.name:=by
 unfold chain0;have h:(namesN z).Pairwise ltN:=Ig _;generalize namesN z=l at*
 induction l with
 |nil=>exact .nil
 |cons n l ih=>
  obtain ⟨h1,h2⟩:=A0.1 h;rw [Fg5];split
  ·exact ih h2
  ·rename_i b hb;refine A0.2 ⟨fun w hw=> ?_,ih h2⟩;rw [Iv2] at hw;obtain ⟨m,hm,hw⟩:=hw;have e:∀{x:List UInt8} {y:Rec},Kb z ttl x=some y→y.name=x:=by
    intro x y hy;unfold Kb at hy;split at hy
    ·cases hy
    ·injection hy with hy;rw [←hy]
   rw [e hb,e hw];exact h1 m hm
theorem Ag5 {z:Zone} (ho:ZOk z):∃r,namesN z=z.origin::r:=by
 have hm:z.origin∈namesN z:=by have:=Xm z z.origin;rw [ho.exO] at this;simpa using this
 have hs:(namesN z).Pairwise ltN:=Ig _;have hu:∀x∈namesN z,under x z.origin=true:=fun x hx=>Xl (by rw [←Xm];simpa using hx);generalize namesN z=l at*;cases l with
 |nil=>cases hm
 |cons x r=>
  refine ⟨r,?_⟩;congr 1;rcases Am.1 hm with e|hm
  ·exact e.symm
  ·have h1:=(A0.1 hs).1 _ hm;apply Classical.byContradiction;intro hne;exact to_N.asym h1 (Wv (hu x (.head _)) hne)
theorem lf {z:Zone} (ho:ZOk z):∃a,(chain0 z (P6 z))[0]? =some a∧a.name=z.origin:=by obtain ⟨r,hr⟩:=Ag5 ho;unfold chain0;rw [hr,Fg5];unfold Kb;rw [if_neg (Az1 ho)];exact ⟨_,rfl,rfl⟩
structure ChainOk (z:Zone) (l:List Rec):Prop where
 pos:0<l.length
 first:∀a,l[0]? =some a→a.name=z.origin
 last:∀a,l[l.length - 1]? =some a→a.data.host=z.origin
 each:∀a∈l,a.typ=47∧bit a.data.bits 47=1∧bit a.data.bits 46=1∧(∃r∈z.recs,r.name=a.name)∧under a.name z.origin=true
 next:∀i a b,l[i]? =some a→l[i+1]? =some b→a.data.host=b.name∧ltN a.name b.name
theorem Qc (g:List Rec) (j:Nat) (a:Rec):(nxt g j a).name=a.name:=by unfold nxt;split<;>rfl
theorem Fr1 (g:List Rec) (j:Nat) (a:Rec):(nxt g j a).typ=a.typ:=by unfold nxt;split<;>rfl
theorem Ej4 (g:List Rec) (j:Nat) (a:Rec):(nxt g j a).data.bits=a.data.bits:=by unfold nxt;split<;>rfl
theorem Jm {z:Zone} {j:Nat} {b:Rec} (h:(chainN z)[j]? =some b):∃a,(chain0 z (P6 z))[j]? =some a∧b=nxt (chain0 z (P6 z)) j a:=by have hlt:=(Av.1 h).1;rw [L3] at hlt;have e:=Az hlt;refine ⟨_,e,?_⟩;rw [Vf e] at h;injection h with h;exact h.symm
theorem Ey1 {z:Zone} (ho:ZOk z):ChainOk z (chainN z):=by
 obtain ⟨a0,h0,n0⟩:=lf ho;have hp:0<(chain0 z (P6 z)).length:=(Av.1 h0).1;refine ⟨by rw [L3];exact hp,fun a ha=> ?_,fun a ha=> ?_,fun b hb=> ?_,fun i a b ha hb=> ?_⟩
 ·rw [Vf h0] at ha;injection ha with ha;rw [←ha,Qc];exact n0
 ·rw [L3] at ha;obtain ⟨c,hc,rfl⟩:=Jm ha;have:(chain0 z (P6 z))[(chain0 z (P6 z)).length - 1+1]? =none:=by rw [List.getElem?_eq_none_iff];omega
  unfold nxt;rw [this];obtain ⟨n,_,_,e⟩:=Pj (A4 hc);rw [e]
 ·obtain ⟨j,hj⟩:=List.mem_iff_getElem?.1 hb;obtain ⟨c,hc,rfl⟩:=Jm hj;obtain ⟨n,hn,h1,e⟩:=Pj (A4 hc);rw [Qc,Fr1,Ej4,e];exact ⟨rfl,Ih4 _,Ih5 _,Df3 h1,Xl (by rw [←Xm];simpa using hn)⟩
 ·obtain ⟨c,hc,rfl⟩:=Jm ha;obtain ⟨d,hd,rfl⟩:=Jm hb;rw [Qc,Qc];constructor
  ·unfold nxt;rw [hd];rfl
  ·have hs:=X5 z (P6 z);rw [G9] at hs;obtain ⟨h1,e1⟩:=Av.1 hc;obtain ⟨h2,e2⟩:=Av.1 hd;have:=hs i (i+1) h1 h2 (by omega);rw [e1,e2] at this;exact this
theorem kr {z:Zone} {a b:Rec} (h:a.data.host=b.name) (hu:under a.name z.origin=true):H3 a z.origin b.name=false:=by
 unfold H3;rw [h];by_cases e:b.name=z.origin
 ·rw [e];have:¬0<H1 z.origin a.name:=by
   by_cases ea:a.name=z.origin
   ·rw [ea,ed];omega
   ·have:=(Ev _ _).2 (Wv hu ea);omega
  simp [this]
 ·have:H1 b.name b.name=0:=ed _;simp [e,this]
end Go.X.G
/- The law NsecOrder. -/
namespace Go.X.G
open Go Go.X
def Ik6 (z:Zone) (n:List UInt8):Bool:=z.recs.any fun r=>decide (r.name=n)
theorem Ag0 (z:Zone) (n:List UInt8) (hl:z.recs.length≤1000000):S Bm4 2 [z.pv, .s n]=some [.b (Ik6 z n)]:=by
 refine Ig0 (N:=z.recs.length+1) rfl ?_;have key:El0.ev S (z.recs.length+1) [z.pv, .s n]=some (if Ik6 z n=true then .ret [.b true] else .yld 0 []):=by
  refine E2 z.recs (fun i=>[.i .i64 (i:Int)]) (fun i r=>if (r.any fun r=>decide (r.name=n))=true then .ret [.b true] else .yld 0 []) rfl (by omega) (fun i c r hd hi hc=> ?_) ?_
  ·by_cases h:c.name=n
   ·right;simp (disch:=omega) only [Dd6,hc,h,EVC,xe,EVP,EV,simprocAttr];simp [h,Out.goes]
   ·left;simp (disch:=omega) only [Dd6,hc,h,EVC,xe,EVP,EV,simprocAttr];simp [h]
  ·simp (disch:=omega) only [Dd6,EVC,xe,EVP,EV,simprocAttr];simp [Out.goes]
 rcases Aq (Ik6 z n) with h|h<;>rw [h] at key ⊢<;>simp (disch:=omega) only [Dd6,key,EVC,xe,EVP,EV,simprocAttr]<;>simp
theorem Dx0 (b:Int) (k:Nat) (hk:k<64) (h:bit b k=1):∃s,X.bin .shr (.i .u64 b) (.i .u64 (k:Int))=some (.i .u64 s)∧X.bin .and (.i .u64 s) (.i .u64 1)=some (.i .u64 1):=by refine ⟨b / 2 ^ k,Az9 _ _ _ _ (by show k<64;exact hk),?_⟩;rw [S5,Iq8];unfold bit at h;rw [h]
theorem Fp3 (x y:Int):Db9 (orB x y):=by have h:=(BitVec.ofInt IntKind.u64.bits x|||BitVec.ofInt IntKind.u64.bits y).isLt;have h2:(2:Nat) ^ IntKind.u64.bits=18446744073709551616:=rfl;unfold orB Db9;rw [Gg0 (by omega) (by omega)];omega
theorem Ej9 {z:Zone} (hz:z.wf):P8 (P6 z):=by
 unfold P6;cases e:findR z.recs z.origin 6 with
 |nil=>unfold P8;simp
 |cons r l=>
  have:r∈findR z.recs z.origin 6:=by rw [e];exact .head _
  exact (hz.recs.2 r (Sf.1 this).1).data.e
theorem fk {z:Zone} (hz:z.wf):∀a∈chain0 z (P6 z),a.wf:=fun a ha=>by obtain ⟨n,hn,_,rfl⟩:=Pj ha;have hv:=Jz (Dj.1 (Xl (z:=z) (n:=n) (by rw [←Xm];simpa using hn))).1;exact ⟨by unfold Tj;simp only;omega,by unfold P8;simp,Ej9 hz,⟨by unfold Db9;simp,by unfold Db9;simp,hz.origin,by unfold Tj;simp,by unfold Tj;simp,by unfold P8;simp,by unfold P8;simp,by unfold P8;simp,by unfold P8;simp,by unfold P8;simp,by unfold P8;simp,Fp3 _ _⟩⟩
theorem Fr3 {z:Zone} (hz:z.wf):∀a∈chainN z,a.wf:=fun b hb=>by
 obtain ⟨j,hj⟩:=List.mem_iff_getElem?.1 hb;obtain ⟨c,hc,rfl⟩:=Jm hj;have hw:=fk hz c (A4 hc);unfold nxt;split
 ·rename_i d hd;have hd:=fk hz d (A4 hd);exact ⟨hw.name,hw.typ,hw.ttl,⟨hw.data.hi,hw.data.lo,hd.name,hw.data.mail,hw.data.text,hw.data.a,hw.data.b,hw.data.c,hw.data.d,hw.data.e,hw.data.f,hw.data.bits⟩⟩
 ·exact hw
theorem Ez9 (z:Zone) (hz:z.wf) (hl:z.recs.length≤1000000) (l:List Rec) (hll:l.length≤1000000) (hw:∀a∈l,a.wf) (hc:ChainOk z l) (p1 p3 p4:PV):
  Hb5.ev S (l.length+1) [z.pv,p1,Al l,p3,p4]=some (.yld 0 []):=by
 have hzo:=hz.origin;unfold Tj at hzo;refine E2 l (fun i=>[.i .i64 (i:Int)]) (fun i r=> .yld 0 []) rfl (by omega) (fun i c r hd hi hc1=> ?_) ?_
 ·left;refine ⟨?_,rfl⟩;have hm:=A4 hc1;obtain ⟨h1,h2,h3,⟨w,h4,h5⟩,h6⟩:=hc.each c hm;obtain ⟨s1,a1',b1⟩:=Dx0 c.data.bits 47 (by decide) h2;obtain ⟨s2,a2',b2⟩:=Dx0 c.data.bits 46 (by decide) h3;have a1:X.bin .shr (.i .u64 c.data.bits) (.i .u64 47)=some (.i .u64 s1):=a1';have a2:X.bin .shr (.i .u64 c.data.bits) (.i .u64 46)=some (.i .u64 s2):=a2';have ho:Ik6 z c.name=true:=B6.2 ⟨w,h4,decide_eq_true h5⟩;have ko:=Ag0 z c.name hl;rw [ho] at ko;have hil:(i:Int)<(l.length:Int):=by omega
  by_cases h0:0<i
  ·have hp:l[i - 1]? =some (l[i - 1]'(by omega)):=Az (by omega);have hpm:=A4 hp;generalize l[i - 1]'(by omega)=a at*;have e1:i - 1+1=i:=by omega
   obtain ⟨n1,n2⟩:=hc.next (i - 1) a c hp (by rw [e1];exact hc1);have hcv:=kr n1 (hc.each a hpm).2.2.2.2;have hcn:=(hw c hm).name;unfold Tj at hcn;have kc:=Oq a z.origin c.name (hw a hpm) hzo hcn;rw [hcv] at kc;have h0':(0:Int)<(i:Int):=by omega
   have e2:(i:Int) - 1=((i - 1:Nat):Int):=by omega
   have e3:IntKind.i64.wrap ((i:Int) - 1)=((i - 1:Nat):Int):=by rw [w64 (by omega) (by omega)];exact e2
   simp (disch:=omega) only [Gf9,hil,hc1,hp,h1,a1,b1,a2,b2,ko,h0',e2,e3,n1,kc,Hh,Jv,EVC,xe,EVP,EV,simprocAttr]
  ·have h0':¬(0:Int)<(i:Int):=by omega
   simp (disch:=omega) only [Gf9,hil,hc1,h1,a1,b1,a2,b2,ko,h0',Hh,Jv,EVC,xe,EVP,EV,simprocAttr]
 ·refine ⟨?_,rfl⟩;simp (disch:=omega) only [Gf9,Int.lt_irrefl,EVC,xe,EVP,EV,simprocAttr]
theorem law_NsecOrder (z:Zone) (hz:z.wf):S Hb3 1 [z.pv]=some [.b true]:=by
 have ka:=An7;by_cases hl:z.recs.length≤60
 ·have k1:=f3 z hz (by omega);have k2:=fp z hz (by omega);refine Jk2 (N:=(chainN z).length+1) rfl ?_;by_cases h:N5 z=0
  ·have ho:=fj h;rw [if_pos h] at k1;rw [h] at k2;have hc:=Ey1 ho;have hcl:(chainN z).length≤1000000:=by have:=Vg z (P6 z);have:=Uv z (by omega);rw [L3];omega
   have l0:=fun p1 p3 p4=>Ez9 z hz (by omega) (chainN z) hcl (Fr3 hz) hc p1 p3 p4;generalize chainN z=l at*;have hp:=hc.pos;have g0:l[0]? =some (l[0]'hp):=Az hp;have g1:l[l.length - 1]? =some (l[l.length - 1]'(by omega)):=Az (by omega);have n0:=hc.first _ g0;have n1:=hc.last _ g1;generalize l[0]'hp=a at*;generalize l[l.length - 1]'(by omega)=b at*;have e2:(l.length:Int) - 1=((l.length - 1:Nat):Int):=by omega
   have e3:IntKind.i64.wrap ((l.length:Int) - 1)=((l.length - 1:Nat):Int):=by rw [w64 (by omega) (by omega)];exact e2
   have hne:¬(l.length:Int)=0:=by omega
   simp (disch:=omega) only [Gf9,ka,k1,k2,l0,g0,g1,n0,n1,e2,e3,hne,Hh,Jv,EVC,xe,EVP,EV,simprocAttr]
  ·rw [if_neg h] at k1;simp (disch:=omega) only [Gf9,ka,k1,k2,h,Hh,Jv,EVC,xe,EVP,EV,simprocAttr]
 ·refine Jk2 (N:=1) rfl ?_;have hl':(z.recs.length:Int)>60:=by omega
  simp (disch:=omega) only [Gf9,ka,hl',Hh,Jv,EVC,xe,EVP,EV,simprocAttr]
end Go.X.G
