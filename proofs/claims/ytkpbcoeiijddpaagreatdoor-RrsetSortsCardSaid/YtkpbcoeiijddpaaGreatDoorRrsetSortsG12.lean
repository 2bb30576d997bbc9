/- Merging in place: the library's function, the Lb. -/
import Derived.Test.YtkpbcoeiijddpaaGreatDoorRrsetSortsG11
import Derived.Test.YtkpbcoeiijddpaaGreatDoorRrsetSortsG9
import Derived.Test.YtkpbcoeiijddpaaGreatDoorRrsetSortsG8
import Derived.Test.YtkpbcoeiijddpaaGreatDoorRrsetSortsG10
open Int renaming toNat_natCast→Hh
open List renaming getElem?_eq_some_iff→Aq,getElem?_eq_getElem→Ay,length_append→Ab,length_take→An,mem_cons→Ap,append_assoc→As,getElem?_append_right→A4,getElem?_append_left→A5,getElem?_drop→A6,mem_of_getElem?→A8,eq_nil_of_length_eq_zero→Bq,pairwise_cons→Bv,length_cons→Bw,length_nil→Bz,length_pos_iff→Bl,length_drop→Bp,take_append_drop→Br,mem_append_right→B3,getElem?_cons_zero→B6,mem_append→Cb,take_of_length_le→Cp,getElem?_cons_succ→Ct,take_add_one→C6,nil_append→C7,drop_drop→Db,take_length→Dl,append_nil→D3,mem_of_mem_take→Eb,drop_zero→Ec,getElem_mem→Fh,length_set→Gv,mem_map→G1,mem_of_mem_drop→G9,getLast_eq_getElem→Hf,length_map→K7,pairwise_append→K9,getElem_take→br,take_take→pc,getElem?_set_ne→pd,drop_set_of_lt→Eb3
open Nat renaming le_refl→Af,mul_le_mul_right→Bj,zero_le→C0,add_zero→C4,le_trans→Dz,min_eq_left→K5,add_sub_cancel→Gp6
set_option maxHeartbeats 1000000
set_option linter.unusedVariables false
set_option linter.unusedSimpArgs false
namespace Go.X.G
open Go Go.X
section
variable {g:Nat} {caps:List PV} {c:Rec→Rec→Int} {P:Rec→Prop}
theorem Hk2 (hC:Cmp g caps c P) (X A B Y:List Rec) (s:List Rec) (hsd:s=X++(A++(B++Y))) (a m b mid:Int) (h i0 j0:Nat) (ha:a=X.length) (hm:m=a+A.length) (hb:b=m+B.length) (hM:(a+b) / 2=mid) (hmid:mid=a+h)
  (h1:i0≤j0) (h2:j0≤A.length) (h3:j0≤h) (h4:h≤i0+B.length) (hs:s.length≤1000000) (hP:∀y∈s,P y) (N:Nat) (hN:A.length<N):
  ∃i:Nat,zl.ev S N [Al s, .i .i64 a, .i .i64 m, .i .i64 b, .f g caps, .i .i64 (a+i0), .i .i64 (a+j0)]=some (.yld 0 [.i .i64 (a+i)])∧i0≤i∧i≤j0∧
   (∀x y,i≠i0→A[i - 1]? =some x→B[h - i]? =some y→¬c y x<0)∧∀x y,i≠j0→A[i]? =some x→B[h - 1 - i]? =some y→c y x<0:=by
 have hl:s.length=X.length+A.length+B.length+Y.length:=by rw [hsd];simp;omega
 have hA:∀k y,A[k]? =some y→s[X.length+k]? =some y:=fun k y hk=>by have:=(Aq.1 hk).1;rw [hsd,A4 (by omega),show X.length+k - X.length=k by omega,A5 this,hk]
 have hB:∀k y,B[k]? =some y→s[X.length+A.length+k]? =some y:=fun k y hk=>by have:=(Aq.1 hk).1;rw [hsd,A4 (by omega),A4 (by omega),show X.length+A.length+k - X.length - A.length=k by omega,A5 this,hk]
 have key:=F9 (fn:=S) (N:=N) (η:=[Al s, .i .i64 a, .i .i64 m, .i .i64 b, .f g caps, .i .i64 (a+i0), .i .i64 (a+j0)]) (id:=1) (init:=[.v 5, .v 6]) (body:=av) (α:=Nat×Nat)
  (fun w=>[.i .i64 (a+w.1), .i .i64 (a+w.2)])
  (fun o=>∃i:Nat,o= .yld 0 [.i .i64 (a+i)]∧i0≤i∧i≤j0∧(∀x y,i≠i0→A[i - 1]? =some x→B[h - i]? =some y→¬c y x<0)∧∀x y,i≠j0→A[i]? =some x→B[h - 1 - i]? =some y→c y x<0)
  (fun w=>w.1≤w.2∧i0≤w.1∧w.2≤j0∧(∀x y,w.1≠i0→A[w.1 - 1]? =some x→B[h - w.1]? =some y→¬c y x<0)∧∀x y,w.2≠j0→A[w.2]? =some x→B[h - 1 - w.2]? =some y→c y x<0)
  (fun w=>w.2 - w.1) (i0,j0) ?_ ?_ (by simp only;omega) ?_
 ·obtain ⟨o,h1,p,rfl,h2⟩:=key;exact ⟨p,h1,h2⟩
 ·simp (disch:=omega) only [EVT,EVM,EVC,xe,EVP,EV,simprocAttr]
 ·exact ⟨h1,Af _,Af _,fun x y h0=>absurd rfl h0,fun x y h0=>absurd rfl h0⟩
 ·rintro ⟨p,q⟩ ⟨g1,g2,g3,g4,g5⟩;simp only at g1 g2 g3 g4 g5;by_cases hpq:p<q
  ·left;have hk:(p+q) / 2<A.length:=by omega
   have hx:=Ay hk;have hk2:h - 1 - (p+q) / 2<B.length:=by omega
   have hy:=Ay hk2;generalize A[(p+q) / 2]=x at hx;generalize B[h - 1 - (p+q) / 2]=y at hy;have hsx:=hA _ x hx;have hsy:=hB _ y hy;have hPx:P x:=hP x (A8 hsx);have hPy:P y:=hP y (A8 hsy);have hc:=hC.ok y x hPy hPx;have hlt:a+(p:Int)<a+(q:Int):=by omega
   have e1:(a+(p:Int)+(a+(q:Int))) / 2=a+(((p+q) / 2:Nat):Int):=by omega
   have e2:(a+(((p+q) / 2:Nat):Int)).toNat=X.length+(p+q) / 2:=by omega
   have e3:(mid+m - 1 - (a+(((p+q) / 2:Nat):Int))).toNat=X.length+A.length+(h - 1 - (p+q) / 2):=by omega
   have hkh:(p+q) / 2<h:=by omega
   by_cases hcy:c y x<0
   ·refine ⟨(p,(p+q) / 2),?_,⟨by simp only;omega,g2,by simp only;omega,g4,fun u v _ hu hv=> ?_⟩,by simp only;omega⟩
    ·simp only;generalize (p+q) / 2=k at*;simp (disch:=omega) only [Ed,hlt,D6,hM,e1,e2,e3,hsy,hsx,hc,hcy,EVT,EVM,EVC,xe,EVP,EV,simprocAttr]
    ·simp only at hu hv;rw [hx] at hu;injection hu with hu;subst hu;rw [hy] at hv;injection hv with hv;subst hv;exact hcy
   ·refine ⟨((p+q) / 2+1,q),?_,⟨by simp only;omega,by simp only;omega,g3,fun u v _ hu hv=> ?_,g5⟩,by simp only;omega⟩
    ·have e4:a+(((p+q) / 2+1:Nat):Int)=a+(((p+q) / 2:Nat):Int)+1:=by omega
     simp only [e4];generalize (p+q) / 2=k at*;simp (disch:=omega) only [Ed,hlt,D6,hM,e1,e2,e3,hsy,hsx,hc,hcy,EVT,EVM,EVC,xe,EVP,EV,simprocAttr]
    ·simp only [Gp6] at hu hv;rw [show h - ((p+q) / 2+1)=h - 1 - (p+q) / 2 by omega] at hv;rw [hx] at hu;injection hu with hu;subst hu;rw [hy] at hv;injection hv with hv;subst hv;exact hcy
  ·right;have e:p=q:=by omega
   subst e;have hlt:¬a+(p:Int)<a+(p:Int):=by omega
   refine ⟨.yld 0 [.i .i64 (a+p)],?_,rfl,p,rfl,g2,g3,g4,g5⟩;simp (disch:=omega) only [Ed,hlt,EVT,EVM,EVC,xe,EVP,EV,simprocAttr]
theorem Em5 {le:Rec→Rec→Bool} (ht:TP le) {B:List Rec} (hB:B.Pairwise fun x y=>le x y=true) (x:Rec) (p:Nat) (hp:p≤B.length) (h1:∀y,p≠0→B[p - 1]? =some y→le x y=false) (h2:∀y,B[p]? =some y→le x y=true):mrg le [x] B=B.take p++x::B.drop p:=by have e1:=Pv ht (A:=[x]) (B:=B) (by simp) hB 0 p (fun u v h=>absurd rfl h) (fun u v h0 hu hv=>by simp at hu;subst hu;exact h1 v h0 hv) (by simp) hp;have e2:=Pv ht (A:=[x]) (B:=B.drop p) (by simp) (hB.sublist (List.drop_sublist p B)) 1 0 (fun u v _ hu hv=>by simp at hu;subst hu;rw [A6] at hv;exact h2 v hv) (fun u v h=>absurd rfl h) (by simp) (by simp);rw [e1];simp only [List.take_zero,Ec,List.take_succ_cons,List.drop_succ_cons,Jv] at e2 ⊢;rw [e2];simp [mrg]
theorem Em4 {le:Rec→Rec→Bool} (ht:TP le) {A:List Rec} (hA:A.Pairwise fun x y=>le x y=true) (x:Rec) (p:Nat) (hp:p≤A.length) (h1:∀y,p≠0→A[p - 1]? =some y→le y x=true) (h2:∀y,A[p]? =some y→le y x=false):mrg le A [x]=A.take p++x::A.drop p:=by have e1:=Pv ht (A:=A) (B:=[x]) hA (by simp) p 0 (fun u v h0 hu hv=>by simp at hv;subst hv;exact h1 u h0 hu) (fun u v h=>absurd rfl h) hp (by simp);have e2:=Pv ht (A:=A.drop p) (B:=[x]) (hA.sublist (List.drop_sublist p A)) (by simp) 0 1 (fun u v h=>absurd rfl h) (fun u v _ hu hv=>by simp at hv;subst hv;rw [A6] at hu;exact h2 u hu) (by simp) (by simp);rw [e1];simp only [List.take_zero,Ec,List.take_succ_cons,List.drop_succ_cons,Jv] at e2 ⊢;rw [e2];simp [mrg]
set_option maxHeartbeats 2000000 in
theorem Iv (hC:Cmp g caps c P) (ht:TP (leC c)):∀(n:Nat) (X A B Y:List Rec) (a m b:Int),A.length+B.length≤n→A≠[]→B≠[]→(A.Pairwise fun x y=>leC c x y=true)→(B.Pairwise fun x y=>leC c x y=true)→
  a=X.length→m=a+A.length→b=m+B.length→(X++A++B++Y).length≤1000000→(∀y∈X++A++B++Y,P y)→
  S Ny 1048581 [Al (X++A++B++Y), .i .i64 a, .i .i64 m, .i .i64 b, .f g caps]=some [Al (X++mrg (leC c) A B++Y)]
 |0,X,A,B,Y,a,m,b,hn,hA,_,_,_,_,_,_,_,_=>absurd (Bq (by omega)) hA
 |n+1,X,A,B,Y,a,m,b,hn,hA,hB,sA,sB,ha,hm,hb,hs,hP=>by
  have hA':0<A.length:=Bl.2 hA;have hB':0<B.length:=Bl.2 hB;have hs2:=hs;simp only [Ab] at hs2;obtain ⟨N,hN⟩:∃N,N=A.length+B.length+1:=⟨_,rfl⟩;refine Fp6 (N:=N) rfl ?_;by_cases c1:A.length=1
  ·-- one ahead
   obtain ⟨x,rfl⟩:=List.length_eq_one_iff.1 c1;have hsd:X++[x]++B++Y=X++x::(B++Y):=by simp
   obtain ⟨p,k1,k2,k3,k4⟩:=Hk6 hC X B Y x (X++[x]++B++Y) hsd a m b ha (by simpa using hm) hb hs hP N (by omega);have k5:=Hk5 X B Y x (X++[x]++B++Y) hsd a m b .u p ha (by simpa using hm) k2 hs N (by omega) (.i .i64 m) (.i .i64 b) (.f g caps);have e:=Em5 ht sB x p k2 (fun y h0 hy=>Cm3.2 (k3 y h0 hy)) (fun y hy=>Cm2.2 (k4 y hy));rw [e];have q1:m - a=1:=by simp at hm;omega
   generalize X++[x]++B++Y=s at*;generalize X++(List.take p B++x::List.drop p B)++Y=u at*;simp (disch:=omega) only [Ed,q1,k1,k5,EVT,EVM,EVC,xe,EVP,EV,simprocAttr]
  ·by_cases c2:B.length=1
   ·obtain ⟨x,rfl⟩:=List.length_eq_one_iff.1 c2;have hsd:X++A++[x]++Y=X++(A++x::Y):=by simp
    obtain ⟨p,k1,k2,k3,k4⟩:=Hk4 hC X A Y x (X++A++[x]++Y) hsd a m (.i .i64 b) ha hm hs hP N (by omega);have k5:=Hk3 X A Y x (X++A++[x]++Y) hsd a m p ha hm k2 hs N (by omega) (.i .i64 a) (.i .i64 b) (.f g caps);have e:=Em4 ht sA x p k2 (fun y h0 hy=>Cm2.2 (k3 y h0 hy)) (fun y hy=>Cm3.2 (k4 y hy));rw [e];have q1:¬m - a=1:=by omega
    have q2:b - m=1:=by simp at hb;omega
    generalize X++A++[x]++Y=s at*;generalize X++(List.take p A++x::List.drop p A)++Y=u at*;simp (disch:=omega) only [Ed,q1,q2,k1,k5,EVT,EVM,EVC,xe,EVP,EV,simprocAttr]
   ·-- two parts of more
    have q1:¬m - a=1:=by omega
    have q2:¬b - m=1:=by omega
    obtain ⟨h,hh⟩:∃h,h=(A.length+B.length) / 2:=⟨_,rfl⟩;obtain ⟨mid,hM⟩:∃mid,(a+b) / 2=mid:=⟨_,rfl⟩;have hmid:mid=a+h:=by omega
    obtain ⟨i0,j0,hc15,h1,h2,h3,h4,hi0,hj0⟩:∃i0 j0:Nat,T7.ev S N [Al (X++A++B++Y), .i .i64 a, .i .i64 m, .i .i64 b, .f g caps]=some (.yld 0 [.i .i64 (a+i0), .i .i64 (a+j0)])∧i0≤j0∧j0≤A.length∧j0≤h∧h≤i0+B.length∧(i0=0∨h - i0=B.length)∧(j0=h∨j0=A.length):=by
     by_cases hgt:h<A.length
     ·refine ⟨h - B.length,h,?_,by omega,by omega,by omega,by omega,by omega, .inl rfl⟩;have t1:mid<m:=by omega
      have t2:mid+m - b=a+((h - B.length:Nat):Int):=by omega
      rw [←t2,←hmid];generalize X++A++B++Y=s at*;simp (disch:=omega) only [Ed,D6,hM,t1,EVT,EVM,EVC,xe,EVP,EV,simprocAttr]
     ·refine ⟨0,A.length,?_,by omega,by omega,by omega,by omega, .inl rfl, .inr rfl⟩;have t1:¬mid<m:=by omega
      generalize X++A++B++Y=s at*;simp (disch:=omega) only [Ed,D6,hM,t1,hm,EVT,EVM,EVC,xe,EVP,EV,simprocAttr];simp
    have hsd:X++A++B++Y=X++(A++(B++Y)):=by simp
    obtain ⟨i,k1,k2,k3,k4,k5⟩:=Hk2 hC X A B Y (X++A++B++Y) hsd a m b mid h i0 j0 ha hm hb hM hmid h1 h2 h3 h4 hs hP N (by omega);have cut:=Pv ht sA sB i (h - i) (fun x y h0 hx hy=>Cm2.2 (k4 x y (fun e=>by
      rcases hi0 with q|q
      ·omega
      ·have:=(Aq.1 hy).1;omega) hx hy)) (fun x y h0 hx hy=>Cm3.2 (k5 x y (fun e=>by
      rcases hj0 with q|q
      ·omega
      ·have:=(Aq.1 hx).1;omega) hx (by rw [show h - 1 - i=h - i - 1 by omega];exact hy))) (by omega) (by omega)
    have eA:A.take i++A.drop i=A:=Br _ _;have eB:B.take (h - i)++B.drop (h - i)=B:=Br _ _;have lA1:(A.take i).length=i:=by rw [An];omega
    have lA2:(A.drop i).length=A.length - i:=Bp;have lB1:(B.take (h - i)).length=h - i:=by rw [An];omega
    have lB2:(B.drop (h - i)).length=B.length - (h - i):=Bp;have sA1:=sA.sublist (List.take_sublist i A);have sA2:=sA.sublist (List.drop_sublist i A);have sB1:=sB.sublist (List.take_sublist (h - i) B);have sB2:=sB.sublist (List.drop_sublist (h - i) B);generalize A.take i=A1 at*;generalize A.drop i=A2 at*;generalize B.take (h - i)=B1 at*;generalize B.drop (h - i)=B2 at*;have e0:X++A++B++Y=X++A1++A2++B1++(B2++Y):=by rw [←eA,←eB];simp
    have mem1:∀y,y∈X++A1++B1++(A2++B2++Y)→P y:=fun y hy=>hP y (by rw [e0];simp only [Cb] at hy ⊢;grind);have len1:(X++A1++B1++(A2++B2++Y)).length≤1000000:=by simp only [Ab] at hs2 ⊢;omega
    have lm1:=Pq (leC c) A1 B1;have mem2:∀y,y∈(X++mrg (leC c) A1 B1)++A2++B2++Y→P y:=fun y hy=>mem1 y (by simp only [Cb,mrg_mem] at hy ⊢;grind)
    have len2:((X++mrg (leC c) A1 B1)++A2++B2++Y).length≤1000000:=by simp only [Ab,lm1] at hs2 ⊢;omega
    have s1:(T.blk 0 T6 Mw).ev S N [Al (X++A++B++Y), .i .i64 a, .i .i64 m, .i .i64 b, .f g caps, .i .i64 (a+i0), .i .i64 (a+j0), .i .i64 (a+i)]=
      Mw.ev S N [Al (X++A++B++Y), .i .i64 a, .i .i64 m, .i .i64 b, .f g caps, .i .i64 (a+i0), .i .i64 (a+j0), .i .i64 (a+i),Al (X++A1++B1++(A2++B2++Y))]:=by
     by_cases t:A2=[]∨B1=[]
     ·have t1:¬(a+(i:Int)<m∧m<mid+m - (a+i)):=by
       rcases t with t|t
       ·rw [t] at lA2;simp at lA2;omega
       ·rw [t] at lB1;simp at lB1;omega
      have e1:X++A++B++Y=X++A1++B1++(A2++B2++Y):=by rw [e0];rcases t with t|t<;>subst t<;>simp
      rw [←e1];generalize X++A++B++Y=s at*;by_cases t2:a+(i:Int)<m
      ·have t3:¬m<mid+m - (a+i):=fun q=>t1 ⟨t2,q⟩;simp (disch:=omega) only [Ed,D6,hM,t2,t3,EVT,EVM,EVC,xe,EVP,EV,simprocAttr]
      ·simp (disch:=omega) only [Ed,D6,hM,t2,EVT,EVM,EVC,xe,EVP,EV,simprocAttr]
     ·have t':A2≠[]∧B1≠[]:=by grind
      have p1:=Bl.2 t'.1;have p2:=Bl.2 t'.2;have hr:=rt (X++A1) A2 B1 (B2++Y) (a+i) m (mid+m - (a+i)) g caps (by simp only [Ab];omega) (by simp only [Ab];omega) (by simp only [Ab];omega) t'.1 t'.2 (by rw [←e0];exact hs);have t2:a+(i:Int)<m:=by omega
      have t3:m<mid+m - (a+i):=by omega
      rw [←e0] at hr;have e1:X++A1++B1++A2++(B2++Y)=X++A1++B1++(A2++B2++Y):=by simp
      rw [e1] at hr;generalize X++A1++B1++(A2++B2++Y)=s1 at*;generalize X++A++B++Y=s at*;simp (disch:=omega) only [Ed,D6,hM,t2,t3,hr,Ef,Mh,EVT,EVM,EVC,xe,EVP,EV,simprocAttr]
    have s2:(T.blk 0 T5 Mx).ev S N [Al (X++A++B++Y), .i .i64 a, .i .i64 m, .i .i64 b, .f g caps, .i .i64 (a+i0), .i .i64 (a+j0), .i .i64 (a+i),Al (X++A1++B1++(A2++B2++Y))]=
      Mx.ev S N [Al (X++A++B++Y), .i .i64 a, .i .i64 m, .i .i64 b, .f g caps, .i .i64 (a+i0), .i .i64 (a+j0), .i .i64 (a+i),Al (X++A1++B1++(A2++B2++Y)),Al ((X++mrg (leC c) A1 B1)++A2++B2++Y)]:=by
     by_cases t:A1=[]∨B1=[]
     ·have t1:¬(a<a+(i:Int)∧a+(i:Int)<mid):=by
       rcases t with t|t
       ·rw [t] at lA1;simp at lA1;omega
       ·rw [t] at lB1;simp at lB1;omega
      have e1:X++A1++B1++(A2++B2++Y)=(X++mrg (leC c) A1 B1)++A2++B2++Y:=by rcases t with t|t<;>subst t<;>simp [mrg,Jv]
      rw [←e1];generalize X++A1++B1++(A2++B2++Y)=s1 at*;generalize X++A++B++Y=s at*;by_cases t2:a<a+(i:Int)
      ·have t3:¬a+(i:Int)<mid:=fun q=>t1 ⟨t2,q⟩;simp (disch:=omega) only [Ed,D6,hM,t2,t3,EVT,EVM,EVC,xe,EVP,EV,simprocAttr]
      ·simp (disch:=omega) only [Ed,D6,hM,t2,EVT,EVM,EVC,xe,EVP,EV,simprocAttr]
     ·have t':A1≠[]∧B1≠[]:=by grind
      have p1:=Bl.2 t'.1;have p2:=Bl.2 t'.2;have hr:=Iv hC ht n X A1 B1 (A2++B2++Y) a (a+i) mid (by omega) t'.1 t'.2 sA1 sB1 ha (by omega) (by omega) len1 mem1;have t2:a<a+(i:Int):=by omega
      have t3:a+(i:Int)<mid:=by omega
      have e1:X++mrg (leC c) A1 B1++(A2++B2++Y)=(X++mrg (leC c) A1 B1)++A2++B2++Y:=by simp
      rw [e1] at hr;generalize (X++mrg (leC c) A1 B1)++A2++B2++Y=s2 at*;generalize X++A1++B1++(A2++B2++Y)=s1 at*;generalize X++A++B++Y=s at*;simp (disch:=omega) only [Ed,D6,hM,t2,t3,hr,Ef,Mh,EVT,EVM,EVC,xe,EVP,EV,simprocAttr]
    have s3:Mx.ev S N [Al (X++A++B++Y), .i .i64 a, .i .i64 m, .i .i64 b, .f g caps, .i .i64 (a+i0), .i .i64 (a+j0), .i .i64 (a+i),Al (X++A1++B1++(A2++B2++Y)),Al ((X++mrg (leC c) A1 B1)++A2++B2++Y)]=
      some (.ret [Al (X++mrg (leC c) A B++Y)]):=by
     have e9:X++mrg (leC c) A B++Y=(X++mrg (leC c) A1 B1)++mrg (leC c) A2 B2++Y:=by rw [cut];simp
     rw [e9];by_cases t:A2=[]∨B2=[]
     ·have t1:¬(mid<mid+m - (a+i)∧mid+m - (a+(i:Int))<b):=by
       rcases t with t|t
       ·rw [t] at lA2;simp at lA2;omega
       ·rw [t] at lB2;simp at lB2;omega
      have e1:(X++mrg (leC c) A1 B1)++A2++B2++Y=(X++mrg (leC c) A1 B1)++mrg (leC c) A2 B2++Y:=by rcases t with t|t<;>subst t<;>simp [mrg,Jv]
      rw [←e1];generalize (X++mrg (leC c) A1 B1)++A2++B2++Y=s2 at*;generalize X++A1++B1++(A2++B2++Y)=s1 at*;generalize X++A++B++Y=s at*;by_cases t2:mid<mid+m - (a+(i:Int))
      ·have t3:¬mid+m - (a+(i:Int))<b:=fun q=>t1 ⟨t2,q⟩;simp (disch:=omega) only [Ed,D6,hM,t2,t3,EVT,EVM,EVC,xe,EVP,EV,simprocAttr]
      ·simp (disch:=omega) only [Ed,D6,hM,t2,EVT,EVM,EVC,xe,EVP,EV,simprocAttr]
     ·have t':A2≠[]∧B2≠[]:=by grind
      have p1:=Bl.2 t'.1;have p2:=Bl.2 t'.2;have hr:=Iv hC ht n (X++mrg (leC c) A1 B1) A2 B2 Y mid (mid+m - (a+i)) b (by omega) t'.1 t'.2 sA2 sB2 (by simp only [Ab,lm1];omega) (by omega) (by omega) len2 mem2;have t2:mid<mid+m - (a+(i:Int)):=by omega
      have t3:mid+m - (a+(i:Int))<b:=by omega
      generalize (X++mrg (leC c) A1 B1)++mrg (leC c) A2 B2++Y=s3 at*;generalize (X++mrg (leC c) A1 B1)++A2++B2++Y=s2 at*;generalize X++A1++B1++(A2++B2++Y)=s1 at*;generalize X++A++B++Y=s at*;simp (disch:=omega) only [Ed,D6,hM,t2,t3,hr,Ef,Mh,EVT,EVM,EVC,xe,EVP,EV,simprocAttr]
    have f2:Mw.ev S N [Al (X++A++B++Y), .i .i64 a, .i .i64 m, .i .i64 b, .f g caps, .i .i64 (a+i0), .i .i64 (a+j0), .i .i64 (a+i),Al (X++A1++B1++(A2++B2++Y))]=some (.ret [Al (X++mrg (leC c) A B++Y)]):=s2.trans s3;have f1:=s1.trans f2;clear s1 s2 s3 f2 mem1 mem2 cut k4 k5;generalize X++mrg (leC c) A B++Y=s3 at*;generalize X++A++B++Y=s at*;simp (disch:=omega) only [Ed,q1,q2,D6,hM,hc15,k1,f1,EVT,EVM,EVC,xe,EVP,EV,simprocAttr]
end
end Go.X.G
/- Stable sorting: the library's functions. -/
namespace Go.X.G
open Go Go.X
section
variable {g:Nat} {caps:List PV} {c:Rec→Rec→Int} {P:Rec→Prop}
theorem Hn0 (hC:Cmp g caps c P) (L L':List Rec) (i:Nat) (x y:Rec) (g0:L[i]? =some y) (g1:L[i+1]? =some x) (sw:(L.set (i+1) y).set i x=L') (k e:Int) (hk:k=i+1) (he:e<k) (he2:0≤e) (hx:P x) (hy:P y) (hlt:c x y<0) (hL:L.length≤1000000) (w0 w2 w4 w5:PV) (N:Nat):
  Jn.ev S N [w0, .i .i64 e,w2, .f g caps,w4,w5, .i .i64 k,Al L]=some (.yld 3 [.i .i64 (k - 1),Al L']):=by
 have hi:=(Aq.1 g1).1;have ti0:(k - 1).toNat=i:=by omega
 have ti1:k.toNat=i+1:=by omega
 have g2:(L.set (i+1) y)[i]? =some y:=by rw [pd (by omega)];exact g0
 have hc:=hC.ok x y hx hy;simp (disch:=first|omega|(rw [Gv];omega)) only [Nk,Hl,Jh,he,ti0,ti1,g0,g1,g2,sw,hc,hlt,EVT,EVM,EVC,xe,EVP,EV,simprocAttr]
theorem Ak9 (hC:Cmp g caps c P) (L:List Rec) (i:Nat) (x y:Rec) (g0:L[i]? =some y) (g1:L[i+1]? =some x) (k e:Int) (hk:k=i+1) (he:e<k) (hx:P x) (hy:P y) (hlt:¬c x y<0) (hL:L.length≤1000000) (w0 w2 w4 w5:PV) (N:Nat):
  Jn.ev S N [w0, .i .i64 e,w2, .f g caps,w4,w5, .i .i64 k,Al L]=some (.yld 2 [Al L]):=by
 have hi:=(Aq.1 g1).1;have ti0:(k - 1).toNat=i:=by omega
 have ti1:k.toNat=i+1:=by omega
 have hc:=hC.ok x y hx hy;simp (disch:=omega) only [Nk,Hl,Jh,he,ti0,ti1,g0,g1,hc,hlt,EVT,EVM,EVC,xe,EVP,EV,simprocAttr]
theorem Cn0 (L:List Rec) (k e:Int) (he:¬e<k) (w0 w2 w3 w4 w5:PV) (N:Nat):
  Jn.ev S N [w0, .i .i64 e,w2,w3,w4,w5, .i .i64 k,Al L]=some (.yld 2 [Al L]):=by
 simp (disch:=omega) only [Nk,Hl,Jh,he,EVT,EVM,EVC,xe,EVP,EV,simprocAttr]
theorem Hm9 (hC:Cmp g caps c P) (ht:TP (leC c)) (X R Y:List Rec) (x:Rec) (hR:R.Pairwise fun a b=>leC c a b=true) (hP:∀y∈X++R++x::Y,P y) (hs:(X++R++x::Y).length≤1000000) (a k:Int) (ha:a=X.length) (hk:k=a+R.length) (w0 w2:PV) (N:Nat) (hN:R.length<N):
  ∃R1 R2,R=R1++R2∧(∀y∈R1,leC c y x=true)∧(∀y∈R2,leC c y x=false)∧
   Aj2.ev S N [w0, .i .i64 a,w2, .f g caps, .i .i64 k,Al (X++R++x::Y)]=some (.yld 2 [Al (X++(R1++x::R2)++Y)]):=by
 have hx:P x:=hP x (by simp);have hs2:=hs;simp only [Ab,Bw] at hs2;have key:=F9 (fn:=S) (N:=N) (η:=[w0, .i .i64 a,w2, .f g caps, .i .i64 k,Al (X++R++x::Y)]) (id:=3) (init:=[.v 4, .v 5]) (body:=Jn) (α:=List Rec×List Rec)
  (fun w=>[.i .i64 (a+w.1.length),Al (X++w.1++x::(w.2++Y))])
  (fun o=>∃R1 R2,R=R1++R2∧(∀y∈R1,leC c y x=true)∧(∀y∈R2,leC c y x=false)∧o= .yld 2 [Al (X++(R1++x::R2)++Y)])
  (fun w=>R=w.1++w.2∧∀y∈w.2,leC c y x=false) (fun w=>w.1.length) (R,[]) ?_ ⟨by simp,by simp⟩ hN ?_
 ·obtain ⟨o,h1,R1,R2,h2,h3,h4,rfl⟩:=key;exact ⟨R1,R2,h2,h3,h4,h1⟩
 ·subst hk;simp only [C7];generalize X++R++x::Y=s at*;simp (disch:=omega) only [EVT,EVM,EVC,xe,EVP,EV,simprocAttr]
 ·rintro ⟨R1,R2⟩ ⟨h1,h2⟩;simp only at h1 h2;have hlen:=congrArg List.length h1;simp only [Ab] at hlen;rcases List.eq_nil_or_concat R1 with rfl|⟨R0,y,rfl⟩
  ·right;refine ⟨_,Cn0 _ _ a (by simp) _ _ _ _ _ N,rfl,[],R2,h1,by simp,h2,?_⟩;simp
  ·rw [List.concat_eq_append] at*;simp only [Ab,Bw,Bz] at hlen;have hy:P y:=hP y (by rw [h1];simp);have lP:(X++R0).length=X.length+R0.length:=Ab;have g0:=W4 (X++R0) (x::(R2++Y)) y;have g1:=Zf (X++R0) (R2++Y) y x;rw [lP] at g0 g1;have e0:X++(R0++[y])++x::(R2++Y)=X++R0++y::x::(R2++Y):=by simp
   have lL:(X++R0++y::x::(R2++Y)).length≤1000000:=by simp only [Ab,Bw];omega
   by_cases hlt:c x y<0
   ·left;have sw0:((X++R0++y::x::(R2++Y)).set (X.length+R0.length+1) y).set (X.length+R0.length) x=X++R0++x::(y::R2++Y):=by rw [←lP,List.set_comm _ _ (by omega)];exact Ef0 (X++R0) (R2++Y) y x
    refine ⟨(R0,y::R2),?_,⟨by simp only;rw [h1];simp,fun w hw=> ?_⟩,by simp⟩
    ·have:=Hn0 hC _ _ (X.length+R0.length) x y g0 g1 sw0 (a+((R0++[y]).length:Nat)) a (by simp;omega) (by simp;omega) (by omega) hx hy hlt lL w0 w2 (.i .i64 k) (Al (X++R++x::Y)) N;have e1:a+((R0++[y]).length:Nat) - 1=a+(R0.length:Int):=by simp;omega
     rw [e1] at this;show Jn.ev S N [w0, .i .i64 a,w2, .f g caps, .i .i64 k,Al (X++R++x::Y), .i .i64 (a+((R0++[y]).length:Nat)),Al (X++(R0++[y])++x::(R2++Y))]=_;rw [e0];exact this
    ·rcases Ap.1 hw with rfl|hw
     ·exact Cm3.2 hlt
     ·exact h2 w hw
   ·right;have hle:leC c y x=true:=Cm2.2 hlt;refine ⟨_,?_,rfl,R0++[y],R2,h1,Yf ht (by rw [h1] at hR;exact (K9.1 hR).1) hle,h2,rfl⟩;have:=Ak9 hC _ (X.length+R0.length) x y g0 g1 (a+((R0++[y]).length:Nat)) a (by simp;omega) (by simp;omega) hx hy hlt lL w0 w2 (.i .i64 k) (Al (X++R++x::Y)) N;show Jn.ev S N [w0, .i .i64 a,w2, .f g caps, .i .i64 k,Al (X++R++x::Y), .i .i64 (a+((R0++[y]).length:Nat)),Al (X++(R0++[y])++x::(R2++Y))]=_;rw [e0,this,←e0];simp
theorem Rx (hC:Cmp g caps c P) (ht:TP (leC c)) (X A Y:List Rec) (a b:Int) (ha:a=X.length) (hb:b=a+A.length) (hP:∀y∈X++A++Y,P y) (hs:(X++A++Y).length≤1000000):
  ∃R,Stab (leC c) R A∧R.length=A.length∧S Rq 1048580 [Al (X++A++Y), .i .i64 a, .i .i64 b, .f g caps]=some [Al (X++R++Y)]:=by
 have hs2:=hs;simp only [Ab] at hs2;cases A with
 |nil=>
  refine ⟨[],N6 _,rfl,?_⟩;refine Dq2 (N:=2) rfl ?_;simp only [Bz] at hb;have h1:¬a+1<b:=by omega
  have key:Zz.ev S 2 [Al (X++[]++Y), .i .i64 a, .i .i64 b, .f g caps]=some (.yld 0 [Al (X++[]++Y)]):=by
   generalize X++[]++Y=s at*;refine Fw 0 (fun _=>[.i .i64 (a+1),Al s]) (fun _=> .yld 0 [Al s]) ?_ (by omega) (fun i hi=>absurd hi (by omega)) ⟨?_,rfl⟩
   ·simp (disch:=omega) only [EVT,EVM,EVC,xe,EVP,EV,simprocAttr]
   ·simp (disch:=omega) only [Nk,Hl,Jh,h1,EVT,EVM,EVC,xe,EVP,EV,simprocAttr]
  generalize X++[]++Y=s at*;simp (disch:=omega) only [Nk,Hl,Jh,key,EVT,EVM,EVC,xe,EVP,EV,simprocAttr]
 |cons x0 A=>
  obtain ⟨N,hN⟩:∃N,N=A.length+3:=⟨_,rfl⟩;simp only [Bw] at hb hs2;have key:=F9 (fn:=S) (N:=N) (η:=[Al (X++x0::A++Y), .i .i64 a, .i .i64 b, .f g caps]) (id:=1) (init:=[.bin .add (.v 1) (.c (.i .i64 1)), .v 0]) (body:=Uq) (α:=List Rec×List Rec×List Rec)
   (fun w=>[.i .i64 (a+w.1.length),Al (X++w.1++(w.2.2++Y))])
   (fun o=>∃R,Stab (leC c) R (x0::A)∧R.length=(x0::A).length∧o= .yld 0 [Al (X++R++Y)])
   (fun w=>x0::A=w.2.1++w.2.2∧Stab (leC c) w.1 w.2.1∧w.1.length=w.2.1.length) (fun w=>w.2.2.length) ([x0],[x0],A) ?_ ⟨rfl,Yc _ _,rfl⟩ (by simp only;omega) ?_
  ·obtain ⟨o,h1,R,h2,h3,rfl⟩:=key;refine ⟨R,h2,h3,?_⟩;refine Dq2 (N:=N) rfl ?_;have h4:Zz.ev S N [Al (X++x0::A++Y), .i .i64 a, .i .i64 b, .f g caps]=_:=h1;clear h1;generalize X++x0::A++Y=s at*;generalize X++R++Y=u at*;simp (disch:=omega) only [Nk,Hl,Jh,h4,EVT,EVM,EVC,xe,EVP,EV,simprocAttr]
  ·simp only [Bw,Bz];have e:X++[x0]++(A++Y)=X++x0::A++Y:=by simp
   rw [e];have e1:a+((0+1:Nat):Int)=a+1:=by omega
   rw [e1];generalize X++x0::A++Y=s at*;simp (disch:=omega) only [EVT,EVM,EVC,xe,EVP,EV,simprocAttr]
  ·rintro ⟨R,D,Z⟩ ⟨h1,h2,h3⟩;simp only at h1 h2 h3;have hlen:=congrArg List.length h1;simp only [Ab,Bw] at hlen;cases Z with
   |nil=>
    right;rw [D3] at h1;subst h1;refine ⟨_,?_,rfl,R,h2,h3,rfl⟩;have hlt:¬a+(R.length:Int)<b:=by simp only [Bw] at h3;omega
    simp only [C7];generalize X++x0::A++Y=s at*;have hu:(X++R++Y).length≤1000000:=by simp only [Ab];omega
    generalize X++R++Y=u at*;simp (disch:=omega) only [Nk,Hl,Jh,hlt,EVT,EVM,EVC,xe,EVP,EV,simprocAttr]
   |cons x Z=>
    left;simp only [Bw] at hlen;have hmem:∀y∈X++R++x::(Z++Y),P y:=fun y hy=>hP y (by
     rw [h1];have:=h2.mem ht y;simp only [Cb,Ap] at hy ⊢
     grind)
    have hlen2:(X++R++x::(Z++Y)).length≤1000000:=by simp only [Ab,Bw];omega
    obtain ⟨R1,R2,rfl,k1,k2,k3⟩:=Hm9 hC ht X R (Z++Y) x h2.sorted hmem hlen2 a (a+R.length) ha rfl (Al (X++x0::A++Y)) (.i .i64 b) N (by omega);refine ⟨(R1++x::R2,D++[x],Z),?_,⟨by simp only;rw [h1];simp,Cb5 ht h2 k1 k2,by simp at h3 ⊢;omega⟩,by simp⟩;have e1:a+((R1++x::R2).length:Nat)=a+((R1++R2).length:Nat)+1:=by simp;omega
    have hlt:a+((R1++R2).length:Nat)<b:=by omega
    show Uq.ev S N [Al (X++x0::A++Y), .i .i64 a, .i .i64 b, .f g caps, .i .i64 (a+((R1++R2).length:Nat)),Al (X++(R1++R2)++x::(Z++Y))]=some (.yld 1 [.i .i64 (a+((R1++x::R2).length:Nat)),Al (X++(R1++x::R2)++(Z++Y))]);rw [e1];have hb2:(R1++R2).length≤1000000:=by simp only [Ab] at hlen2 ⊢;omega
    generalize (R1++R2).length=n at*;generalize X++(R1++R2)++x::(Z++Y)=s1 at*;generalize X++(R1++x::R2)++(Z++Y)=s2 at*;generalize X++x0::A++Y=s at*;simp (disch:=omega) only [Nk,Hl,Jh,hlt,k3,EVT,EVM,EVC,xe,EVP,EV,simprocAttr]
end
end Go.X.G
/- Stable sorting: the Lb. -/
namespace Go.X.G
open Go Go.X
theorem Xz {α:Type} {le:α→α→Bool} (ht:TP le) {bs:Nat} {Y LY:List α} (h:Blk le bs Y LY) (hl:Y.length≤2*bs) (hb:bs<Y.length):Stab le (mrg le (Y.take bs) (Y.drop bs)) LY:=by have h1:=h.head;have h2:=(h.tail).all (by rw [Bp];omega);have:=Stab.mrg ht h1 h2;rwa [Br] at this
theorem Blk.pre {α:Type} {le:α→α→Bool} {bs k:Nat} {Y LY:List α} (h:Blk le bs Y LY):Blk le bs (Y.take (k*bs)) (LY.take (k*bs)):=by
 refine ⟨by simp [h.len],fun j=> ?_⟩;rw [List.drop_take,List.drop_take,pc,pc];by_cases hj:j<k
 ·have e:(j+1)*bs≤k*bs:=Bj _ hj;rw [Nat.succ_mul] at e;rw [K5 (by omega)];exact h.st j
 ·have e:k*bs≤j*bs:=Bj _ (by omega);rw [show k*bs - j*bs=0 by omega,Nat.min_eq_right (by omega),List.take_zero,List.take_zero];exact N6 le
section
variable {g:Nat} {caps:List PV} {c:Rec→Rec→Int} {P:Rec→Prop}
theorem Hj9 (hC:Cmp g caps c P) (ht:TP (leC c)) (l:List Rec) (hP:∀y∈l,P y) (hs:l.length≤1000000) (N:Nat) (hN:l.length+2<N):
  ∃(X LX Y:List Rec) (q:Nat),Dv8.ev S N [Al l, .i .i64 l.length, .f g caps]=some (.yld 0 [.i .i64 X.length,Al (X++Y)])∧l=LX++Y∧X.length=q*20∧Y.length<20∧Blk (leC c) 20 X LX∧∀y∈X++Y,P y:=by
 have key:=F9 (fn:=S) (N:=N) (η:=[Al l, .i .i64 l.length, .f g caps]) (id:=1) (init:=[.c (.i .i64 0), .c (.i .i64 20), .v 0]) (body:=Br4) (α:=List Rec×List Rec×List Rec×Nat)
  (fun w=>[.i .i64 (w.1.length:Int), .i .i64 ((w.1.length:Int)+20),Al (w.1++w.2.2.1)])
  (fun o=>∃(X LX Y:List Rec) (q:Nat),o= .yld 0 [.i .i64 X.length,Al (X++Y)]∧l=LX++Y∧X.length=q*20∧Y.length<20∧Blk (leC c) 20 X LX∧∀y∈X++Y,P y)
  (fun w=>l=w.2.1++w.2.2.1∧w.1.length=w.2.2.2*20∧Blk (leC c) 20 w.1 w.2.1∧∀y∈w.1++w.2.2.1,P y) (fun w=>w.2.2.1.length) ([],[],l,0) ?_ ⟨rfl,by simp,Blk.nil _ _,by simpa using hP⟩ (by simp only;omega) ?_
 ·obtain ⟨o,h1,X,LX,Y,q,rfl,h2⟩:=key;exact ⟨X,LX,Y,q,h1,h2⟩
 ·simp (disch:=omega) only [EVT,EVM,EVC,xe,EVP,EV,simprocAttr]
  try simp
 ·rintro ⟨X,LX,Y,q⟩ ⟨h1,h2,h3,h4⟩;simp only at h1 h2 h3 h4;have hlen:=congrArg List.length h1;simp only [Ab] at hlen;have hXL:=h3.len;by_cases hge:20≤Y.length
  ·left;have eY:Y.take 20++Y.drop 20=Y:=Br _ _;have l1:(Y.take 20).length=20:=by rw [An];omega
   have l2:(Y.drop 20).length=Y.length - 20:=Bp;have eXY:X++Y.take 20++Y.drop 20=X++Y:=by rw [As,eY]
   obtain ⟨R,k1,k2,k3⟩:=Rx hC ht X (Y.take 20) (Y.drop 20) (X.length:Int) ((X.length:Int)+20) rfl (by omega) (by rw [eXY];exact h4) (by rw [eXY,Ab];omega);rw [eXY] at k3;refine ⟨(X++R,LX++Y.take 20,Y.drop 20,q+1),?_,⟨by simp only;rw [h1,As,eY],by simp only [Ab];omega,Blk.app h2 h3 (Blk.one k1 k2 (by omega)),fun y hy=>h4 y ?_⟩,by simp only;omega⟩
   ·have e1:((X++R).length:Int)=(X.length:Int)+20:=by simp only [Ab];omega
    have hge':(X.length:Int)+20≤(l.length:Int):=by omega
    simp only;rw [e1];generalize X++R++Y.drop 20=s1 at*;generalize X++Y=s0 at*;simp (disch:=omega) only [Up,hge',k3,Ef,Mh,EVT,EVM,EVC,xe,EVP,EV,simprocAttr]
   ·have:=k1.mem ht y;simp only [Cb] at hy;rcases hy with (hy|hy)|hy
    ·simp [hy]
    ·exact B3 _ (Eb (this.1 hy))
    ·exact B3 _ (G9 hy)
  ·right;have hge':¬(X.length:Int)+20≤(l.length:Int):=by omega
   refine ⟨.yld 0 [.i .i64 X.length,Al (X++Y)],?_,rfl,X,LX,Y,q,rfl,h1,h2,by omega,h3,h4⟩;simp only;generalize X++Y=s0 at*;simp (disch:=omega) only [Up,hge',EVT,EVM,EVC,xe,EVP,EV,simprocAttr]
theorem Hj8 (hC:Cmp g caps c P) (ht:TP (leC c)) (l r:List Rec) (bs:Nat) (hbs:0<bs) (hbs2:bs<l.length) (hr:Blk (leC c) bs r l) (hP:∀y∈r,P y) (hs:l.length≤1000000) (w0:PV) (w3 w4 w5:PV) (N:Nat) (hN:l.length+2<N):
  ∃(X LX Y LY:List Rec) (q:Nat),Dv2.ev S N [w0, .i .i64 l.length, .f g caps,w3,w4,w5, .i .i64 bs,Al r]=some (.yld 2 [.i .i64 X.length,Al (X++Y)])∧l=LX++LY∧X.length=q*(2*bs)∧Y.length<2*bs∧Blk (leC c) (2*bs) X LX∧Blk (leC c) bs Y LY∧∀y∈X++Y,P y:=by
 have key:=F9 (fn:=S) (N:=N) (η:=[w0, .i .i64 l.length, .f g caps,w3,w4,w5, .i .i64 bs,Al r]) (id:=3) (init:=[.c (.i .i64 0), .bin .mul (.c (.i .i64 2)) (.v 6), .v 7]) (body:=Bp6) (α:=(List Rec×List Rec)×(List Rec×List Rec)×Nat)
  (fun w=>[.i .i64 (w.1.1.length:Int), .i .i64 ((w.1.1.length:Int)+2*bs),Al (w.1.1++w.2.1.1)])
  (fun o=>∃(X LX Y LY:List Rec) (q:Nat),o= .yld 2 [.i .i64 X.length,Al (X++Y)]∧l=LX++LY∧X.length=q*(2*bs)∧Y.length<2*bs∧Blk (leC c) (2*bs) X LX∧Blk (leC c) bs Y LY∧∀y∈X++Y,P y)
  (fun w=>l=w.1.2++w.2.1.2∧w.1.1.length=w.2.2*(2*bs)∧Blk (leC c) (2*bs) w.1.1 w.1.2∧Blk (leC c) bs w.2.1.1 w.2.1.2∧∀y∈w.1.1++w.2.1.1,P y) (fun w=>w.2.1.1.length) (([],[]),(r,l),0) ?_ ⟨rfl,by simp,Blk.nil _ _,hr,by simpa using hP⟩ (by have:=hr.len;simp only;omega) ?_
 ·obtain ⟨o,h1,X,LX,Y,LY,q,rfl,h2⟩:=key;exact ⟨X,LX,Y,LY,q,h1,h2⟩
 ·simp (disch:=omega) only [EVT,EVM,EVC,xe,EVP,EV,simprocAttr];simp
 ·rintro ⟨⟨X,LX⟩,⟨Y,LY⟩,q⟩ ⟨h1,h2,h3,h4,h5⟩;simp only at h1 h2 h3 h4 h5;have hlen:=congrArg List.length h1;simp only [Ab] at hlen;have hXL:=h3.len;have hYL:=h4.len;by_cases hge:2*bs≤Y.length
  ·left;have eY:Y.take (2*bs)++Y.drop (2*bs)=Y:=Br _ _;have l1:(Y.take (2*bs)).length=2*bs:=by rw [An];omega
   have l2:(Y.drop (2*bs)).length=Y.length - 2*bs:=Bp;have hp:=h4.pre (k:=2);have hz:Blk (leC c) bs (Y.drop (2*bs)) (LY.drop (2*bs)):=by have:=h4.tail.tail;rwa [Db,Db,show bs+bs=2*bs by omega] at this
   have hst:=Xz ht hp (by omega) (by omega);have sA:((Y.take (2*bs)).take bs).Pairwise fun x y=>leC c x y=true:=hp.head.sorted;have sB:((Y.take (2*bs)).drop bs).Pairwise fun x y=>leC c x y=true:=(hp.tail.all (by rw [Bp];omega)).sorted;have lA:((Y.take (2*bs)).take bs).length=bs:=by rw [An];omega
   have lB:((Y.take (2*bs)).drop bs).length=bs:=by rw [Bp];omega
   have eAB:(Y.take (2*bs)).take bs++(Y.take (2*bs)).drop bs=Y.take (2*bs):=Br _ _;generalize (Y.take (2*bs)).take bs=A at*;generalize (Y.take (2*bs)).drop bs=B at*;have eXY:X++A++B++Y.drop (2*bs)=X++Y:=by rw [As X,eAB,As,eY]
   have hm:=Iv hC ht (A.length+B.length) X A B (Y.drop (2*bs)) (X.length:Int) ((X.length:Int)+bs) ((X.length:Int)+2*bs) (Af _) (by intro e;rw [e] at lA;simp at lA;omega) (by intro e;rw [e] at lB;simp at lB;omega) sA sB rfl (by omega) (by omega) (by rw [eXY,Ab];omega) (by rw [eXY];exact h5);rw [eXY] at hm;have lM:=Pq (leC c) A B;have eL:LY.take (2*bs)++LY.drop (2*bs)=LY:=Br _ _;refine ⟨((X++mrg (leC c) A B,LX++LY.take (2*bs)),(Y.drop (2*bs),LY.drop (2*bs)),q+1),?_,⟨by simp only;rw [h1,As,eL],by simp only [Ab];rw [Nat.succ_mul];omega,Blk.app h2 h3 (Blk.one hst (by rw [lM,An];omega) (by omega)),hz,fun y hy=>h5 y ?_⟩,by simp only;omega⟩
   ·have e1:((X++mrg (leC c) A B).length:Int)=(X.length:Int)+2*bs:=by simp only [Ab];omega
    have hge':(X.length:Int)+2*(bs:Int)≤(l.length:Int):=by omega
    simp only;rw [e1];generalize X++mrg (leC c) A B++Y.drop (2*bs)=s1 at*;generalize X++Y=s0 at*;simp (disch:=omega) only [Up,hge',hm,Ef,Mh,EVT,EVM,EVC,xe,EVP,EV,simprocAttr]
   ·rw [←eXY];simp only [Cb,mrg_mem] at hy ⊢
    grind
  ·right;have hge':¬(X.length:Int)+2*(bs:Int)≤(l.length:Int):=by omega
   refine ⟨.yld 2 [.i .i64 X.length,Al (X++Y)],?_,rfl,X,LX,Y,LY,q,rfl,h1,h2,by omega,h3,h4,h5⟩;simp only;generalize X++Y=s0 at*;simp (disch:=omega) only [Up,hge',EVT,EVM,EVC,xe,EVP,EV,simprocAttr]
theorem Hk0 (hC:Cmp g caps c P) (ht:TP (leC c)) (l r:List Rec) (bs:Nat) (hbs:0<bs) (hbs2:bs<l.length) (hr:Blk (leC c) bs r l) (hP:∀y∈r,P y) (hs:l.length≤1000000) (w0 w3 w4 w5:PV) (N:Nat) (hN:l.length+2<N):
  ∃r',Blk (leC c) (2*bs) r' l∧(∀y∈r',P y)∧i7.ev S N [w0, .i .i64 l.length, .f g caps,w3,w4,w5, .i .i64 bs,Al r]=some (.yld 1 [.i .i64 ((2*bs:Nat):Int),Al r']):=by
 obtain ⟨X,LX,Y,LY,q,k,h1,h2,h3,h4,h5,h6⟩:=Hj8 hC ht l r bs hbs hbs2 hr hP hs w0 w3 w4 w5 N hN;have hlen:=congrArg List.length h1;simp only [Ab] at hlen;have hXL:=h4.len;have hYL:=h5.len;have hlt:(bs:Int)<(l.length:Int):=by omega
 have e2:((2*bs:Nat):Int)=(bs:Int)*2:=by omega
 rw [e2];by_cases hge:bs<Y.length
 ·have eY:Y.take bs++Y.drop bs=Y:=Br _ _;have hst:=Xz ht h5 (by omega) hge;have sA:=h5.head.sorted;have sB:=(h5.tail.all (by rw [Bp];omega)).sorted;have lA:(Y.take bs).length=bs:=by rw [An];omega
  have lB:(Y.drop bs).length=Y.length - bs:=Bp;generalize Y.take bs=A at*;generalize Y.drop bs=B at*;have eXY:X++A++B++[]=X++Y:=by rw [D3,As,eY]
  have hm:=Iv hC ht (A.length+B.length) X A B [] (X.length:Int) ((X.length:Int)+bs) (l.length:Int) (Af _) (by intro e;rw [e] at lA;simp at lA;omega) (by intro e;rw [e] at lB;simp at lB;omega) sA sB rfl (by omega) (by omega) (by rw [eXY,Ab];omega) (by rw [eXY];exact h6);rw [eXY,D3] at hm;have lM:=Pq (leC c) A B;refine ⟨X++mrg (leC c) A B,by rw [h1];exact Blk.app h2 h4 (Blk.one hst (by omega) (by omega)),fun y hy=>h6 y (by
   rw [←eXY];simp only [Cb,mrg_mem] at hy ⊢
   grind),?_⟩
  have hge':(X.length:Int)+(bs:Int)<(l.length:Int):=by omega
  generalize X++mrg (leC c) A B=s1 at*;generalize X++Y=s0 at*;simp (disch:=omega) only [Up,hlt,hge',k,hm,Ef,Mh,EVT,EVM,EVC,xe,EVP,EV,simprocAttr]
 ·refine ⟨X++Y,by rw [h1];exact Blk.app h2 h4 (Blk.one (h5.all (by omega)) hYL (by omega)),h6,?_⟩;have hge':¬(X.length:Int)+(bs:Int)<(l.length:Int):=by omega
  generalize X++Y=s0 at*;simp (disch:=omega) only [Up,hlt,hge',k,EVT,EVM,EVC,xe,EVP,EV,simprocAttr]
theorem rk (hC:Cmp g caps c P) (ht:TP (leC c)) (l:List Rec) (hP:∀y∈l,P y) (hs:l.length≤1000000):
  ∃r,Stab (leC c) r l∧r.length=l.length∧S yj 1048579 [Al l, .i .i64 l.length, .f g caps]=some [Al r]:=by
 obtain ⟨N,hN⟩:∃N,N=l.length+3:=⟨_,rfl⟩;obtain ⟨X,LX,Y,q,k0,h1,h2,h3,h4,h5⟩:=Hj9 hC ht l hP hs N (by omega);have hlen:=congrArg List.length h1;simp only [Ab] at hlen;have hXL:=h4.len;obtain ⟨R,i1,i2,i3⟩:=Rx hC ht X Y [] (X.length:Int) (l.length:Int) rfl (by omega) (by simpa using h5) (by simp;omega);simp only [D3] at i3;have hB:Blk (leC c) 20 (X++R) l:=by rw [h1];exact Blk.app h2 h4 (Blk.one i1 i2 (by omega))
 have hP':∀y∈X++R,P y:=fun y hy=>h5 y (by
  have:=i1.mem ht y;simp only [Cb] at hy ⊢
  grind)
 have key:=F9 (fn:=S) (N:=N) (η:=[Al l, .i .i64 l.length, .f g caps, .i .i64 X.length,Al (X++Y),Al (X++R)]) (id:=1) (init:=[.c (.i .i64 20), .v 5]) (body:=i7) (α:=Nat×List Rec)
  (fun w=>[.i .i64 (w.1:Int),Al w.2])
  (fun o=>∃r,Stab (leC c) r l∧r.length=l.length∧o= .yld 0 [Al r])
  (fun w=>0<w.1∧Blk (leC c) w.1 w.2 l∧∀y∈w.2,P y) (fun w=>l.length - w.1) (20,X++R) ?_ ⟨by simp,hB,hP'⟩ (by simp only;omega) ?_
 ·obtain ⟨o,k1,r,k2,k3,rfl⟩:=key;refine ⟨r,k2,k3,?_⟩;refine Hq6 (N:=N) rfl ?_;have k4:Dv3.ev S N [Al l, .i .i64 l.length, .f g caps, .i .i64 X.length,Al (X++Y),Al (X++R)]=_:=k1;clear k1;generalize X++Y=s0 at*;generalize X++R=s1 at*;simp (disch:=omega) only [Up,k0,i3,k4,Ef,Mh,EVT,EVM,EVC,xe,EVP,EV,simprocAttr]
 ·generalize X++Y=s0 at*;generalize X++R=s1 at*;simp (disch:=omega) only [EVT,EVM,EVC,xe,EVP,EV,simprocAttr]
 ·rintro ⟨bs,r⟩ ⟨g1,g2,g3⟩;simp only at g1 g2 g3;have hr:=g2.len;by_cases hlt:bs<l.length
  ·left;obtain ⟨r',k1,k2,k3⟩:=Hk0 hC ht l r bs g1 hlt g2 g3 hs (Al l) (.i .i64 X.length) (Al (X++Y)) (Al (X++R)) N (by omega);exact ⟨(2*bs,r'),k3,⟨by simp only;omega,k1,k2⟩,by simp only;omega⟩
  ·right;have hlt':¬(bs:Int)<(l.length:Int):=by omega
   refine ⟨.yld 0 [Al r],?_,rfl,r,g2.all (by omega),hr,rfl⟩;generalize X++Y=s0 at*;generalize X++R=s1 at*;simp (disch:=omega) only [Up,hlt',EVT,EVM,EVC,xe,EVP,EV,simprocAttr]
theorem Ux (hC:Cmp g caps c P) (ht:TP (leC c)) (l:List Rec) (hP:∀y∈l,P y) (hs:l.length≤1000000):
  ∃r,Stab (leC c) r l∧r.length=l.length∧S yl 1048578 [Al l, .f g caps]=some [Al r]:=by
 obtain ⟨r,h1,h2,h3⟩:=rk hC ht l hP hs;refine ⟨r,h1,h2,?_⟩;refine Hx5 (N:=1) rfl ?_;simp (disch:=omega) only [Gs3,h3,Ef,Mh,EVT,EVM,EVC,xe,EVP,EV,simprocAttr]
end
end Go.X.G
/- Records compacted: the library's function. -/
namespace Go.X.G
open Go Go.X
theorem bl (l:List Rec) (g:Nat) (caps:List PV) (eq2:Rec→Rec→Bool) (h:∀x∈l,∀y∈l,S g 2 (x.pv::y.pv::caps)=some [.b (eq2 x y)]) (hl:l.length≤1000000):S yh 1048578 [Al l, .f g caps]=some [Al (cpt eq2 l)]:=by
 refine Hx4 (N:=l.length+2) rfl ?_;by_cases h2:(l.length:Int)<2
 ·have e:cpt eq2 l=l:=by
   match l,h2 with
   |[],_=>rfl
   |[x],_=>rfl
   |_::_::_,h=>simp at h;omega
  rw [e];simp (disch:=omega) only [R9,h2,EVT,EVM,EVC,xe,EVP,EV,simprocAttr]
 ·-- the inner Fb, from a place where two neighbours are equal
  have inner:∀k:Nat,1≤k→k<l.length→cpt eq2 (l.take (k+1))=l.take k→∃s:List Rec,s.length=l.length∧s.take (cpt eq2 l).length=cpt eq2 l∧Dv4.ev S (l.length+2) [Al l, .f g caps, .i .i64 (k:Int),Al l, .b true]=some (.yld 2 [.i .i64 ((cpt eq2 l).length:Int),Al s]):=by
   intro k hk1 hk hcp;have key:=F9 (fn:=S) (N:=l.length+2) (η:=[Al l, .f g caps, .i .i64 (k:Int),Al l, .b true]) (id:=3) (init:=[(.v 2),(.c (.i .i64 (1))),(.v 3)]) (body:=Bp7) (α:=Nat×Nat×List Rec)
    (fun a=>[.i .i64 (a.1:Int), .i .i64 (a.2.1:Int),Al a.2.2])
    (fun o=>∃s:List Rec,s.length=l.length∧s.take (cpt eq2 l).length=cpt eq2 l∧o= .yld 2 [.i .i64 ((cpt eq2 l).length:Int),Al s])
    (fun a=>1≤a.2.1∧k+a.2.1≤l.length∧a.1<k+a.2.1∧a.2.2.length=l.length∧a.2.2.take a.1=cpt eq2 (l.take (k+a.2.1))∧(cpt eq2 (l.take (k+a.2.1))).length=a.1∧a.2.2.drop (k+a.2.1 - 1)=l.drop (k+a.2.1 - 1))
    (fun a=>l.length - a.2.1) (k,1,l) (by simp (disch:=omega) only [EVT,EVM,EVC,xe,EVP,EV,simprocAttr])
    ⟨by simp,by simp;omega,by simp,rfl,by simp only;rw [hcp],by simp only;rw [hcp,An];omega,rfl⟩ (by simp only;omega) ?_
   ·obtain ⟨o,h3,s,h4,h5,rfl⟩:=key;exact ⟨s,h4,h5,h3⟩
   ·rintro ⟨i,j,s⟩ ⟨a1,a2,a3,a4,a5,a6,a7⟩;simp only at a1 a2 a3 a4 a5 a6 a7;by_cases hj:k+j<l.length
    ·left;have c1:s[k+j]? =l[k+j]? :=by have:=congrArg (fun q=>q[1]?) a7;simp only [A6] at this;rwa [show k+j - 1+1=k+j by omega] at this
     have c0:s[k+j - 1]? =l[k+j - 1]? :=by have:=congrArg (fun q=>q[0]?) a7;simpa only [A6,C4] using this
     have g1:l[k+j]? =some (l[k+j]'hj):=Ay hj;have g0:l[k+j - 1]? =some (l[k+j - 1]'(by omega)):=Ay (by omega);have tk:l.take (k+(j+1))=l.take (k+j)++[l[k+j]'hj]:=by rw [show k+(j+1)=(k+j)+1 by omega,C6,g1];rfl
     have ne:l.take (k+j)≠[]:=by intro h;have:=congrArg List.length h;rw [An,Bz] at this;omega
     have gl:(l.take (k+j)).getLast ne=l[k+j - 1]'(by omega):=by rw [Hf];simp only [br,An];congr 1;omega
     have cs:=Kk eq2 (l[k+j]'hj) (l.take (k+j)) ne;rw [←tk,gl] at cs;have hc:=h (l[k+j]'hj) (Fh _) (l[k+j - 1]'(by omega)) (Fh _);generalize l[k+j]'hj=x at*;generalize l[k+j - 1]'(by omega)=y at*;have hjj:(j:Int)<(s.length:Int) - (k:Int):=by omega
     have i1:H6 16 (Al s) (.i .i64 ((k:Int)+(j:Int)))=some x.pv:=by rw [L4 _ _ _ (by omega),show ((k:Int)+(j:Int)).toNat=k+j by omega,c1,g1];rfl
     have i0:H6 16 (Al s) (.i .i64 ((k:Int)+((j:Int) - 1)))=some y.pv:=by rw [L4 _ _ _ (by omega),show ((k:Int)+((j:Int) - 1)).toNat=k+j - 1 by omega,c0,g0];rfl
     have ls:G3 16 (Al s) (.i .i64 (k:Int)) (.i .i64 (s.length:Int))=some (Al (s.drop k)):=by rw [J6 _ _ _ _ _ (by omega) (by omega) (by omega)];simp
     have e1:(s.drop k)[j]? =some x:=by rw [A6,c1,g1]
     have e0:(s.drop k)[j - 1]? =some y:=by rw [A6,show k+(j - 1)=k+j - 1 by omega,c0,g0]
     have si:∃w,s[i]? =some w:=⟨_,Ay (by omega)⟩;obtain ⟨w,si⟩:=si;have ej:((j:Int) - 1).toNat=j - 1:=by omega
     by_cases hxy:eq2 x y=true
     ·refine ⟨(i,j+1,s),?_,⟨by simp,by simp only;omega,by simp only;omega,a4,?_,?_,?_⟩,by simp only;omega⟩
      ·simp (disch:=omega) only [R9,hjj,i1,i0,ls,e1,e0,ej,hc,hxy,EVT,EVM,EVC,xe,EVP,EV,simprocAttr]
      ·simp only;rw [cs,a5];simp [hxy]
      ·simp only;rw [cs,Ab,a6];simp [hxy]
      ·simp only;rw [show k+(j+1) - 1=(k+j - 1)+1 by omega,←Db,←Db,a7]
     ·refine ⟨(i+1,j+1,s.set i x),?_,⟨by simp,by simp only;omega,by simp only;omega,by simpa using a4,?_,?_,?_⟩,by simp only;omega⟩
      ·simp (disch:=omega) only [R9,hjj,i1,i0,ls,e1,e0,ej,si,hc,hxy,EVT,EVM,EVC,xe,EVP,EV,simprocAttr]
      ·simp only;rw [cs,C6,List.getElem?_set_self (by omega),List.take_set_of_le (by omega),a5];simp [hxy]
      ·simp only;rw [cs,Ab,a6];simp [hxy]
      ·simp only;rw [show k+(j+1) - 1=(k+j - 1)+1 by omega,Eb3 (by omega),←Db,←Db,a7]
    ·right;have ek:k+j=l.length:=by omega
     rw [ek,Dl] at a5 a6;have hjj:¬(j:Int)<(s.length:Int) - (k:Int):=by omega
     refine ⟨.yld 2 [.i .i64 (i:Int),Al s],?_,rfl,s,a4,by rw [a6];exact a5,by rw [a6]⟩;simp (disch:=omega) only [R9,hjj,EVT,EVM,EVC,xe,EVP,EV,simprocAttr]
  have key:Dw4.ev S (l.length+2) [Al l, .f g caps]=some (if cpt eq2 l=l then .yld 0 [Al l] else .ret [Al (cpt eq2 l)]):=by
   have:=F9 (fn:=S) (N:=l.length+2) (η:=[Al l, .f g caps]) (id:=1) (init:=[(.c (.i .i64 (1))),(.v 0)]) (body:=Br7) (α:=Nat)
    (fun k=>[.i .i64 (k:Int),Al l]) (fun o=>o=if cpt eq2 l=l then .yld 0 [Al l] else .ret [Al (cpt eq2 l)])
    (fun k=>1≤k∧k≤l.length∧cpt eq2 (l.take k)=l.take k) (fun k=>l.length - k) 1 (by simp (disch:=omega) only [EVT,EVM,EVC,xe,EVP,EV,simprocAttr])
    ⟨Af 1,by omega,by cases l with
     |nil=>simp at h2
     |cons x r=>rfl⟩ (by omega) ?_
   ·obtain ⟨o,h3,h4⟩:=this;rw [←h4];exact h3
   ·rintro k ⟨k1,k2,k3⟩;by_cases hk:k<l.length
    ·have g1:l[k]? =some l[k]:=Ay hk;have g0:l[k - 1]? =some (l[k - 1]'(by omega)):=Ay (by omega);have tk:l.take (k+1)=l.take k++[l[k]]:=by rw [C6,g1];rfl
     have ne:l.take k≠[]:=by intro h;have:=congrArg List.length h;rw [An,Bz] at this;omega
     have gl:(l.take k).getLast ne=l[k - 1]'(by omega):=by rw [Hf];simp only [br,An];congr 1;omega
     have cs:=Kk eq2 l[k] (l.take k) ne;rw [←tk,gl,k3] at cs;have hkk:(k:Int)<(l.length:Int):=by omega
     have i1:H6 16 (Al l) (.i .i64 (k:Int))=some (l[k]).pv:=by rw [L4 _ _ _ (by omega),show ((k:Int)).toNat=k by omega,g1];rfl
     have i0:H6 16 (Al l) (.i .i64 ((k:Int) - 1))=some (l[k - 1]'(by omega)).pv:=by rw [L4 _ _ _ (by omega),show ((k:Int) - 1).toNat=k - 1 by omega,g0];rfl
     have hc:=h l[k] (Fh _) (l[k - 1]'(by omega)) (Fh _);by_cases hxy:eq2 l[k] (l[k - 1]'(by omega))=true
     ·right;have cs':cpt eq2 (l.take (k+1))=l.take k:=by rw [cs];simp [hxy]
      obtain ⟨s,s1,s2,s3⟩:=inner k k1 hk cs';have hlt:cpt eq2 l≠l:=by
       intro h;have q:(cpt eq2 l).length≤(cpt eq2 (l.take (k+1))).length+(l.drop (k+1)).length:=by
        have:∀(b a:List Rec),a≠[]→(cpt eq2 (a++b)).length≤(cpt eq2 a).length+b.length:=by
         intro b
         induction b with
         |nil=>intro a _;simp
         |cons x r ih=>
          intro a ha;have h1:=ih (a++[x]) (by simp);rw [Kk _ _ _ ha] at h1;rw [show a++x::r=a++[x]++r by simp];refine Dz h1 ?_;rw [Ab];split<;>simp<;>omega
        have h3:=this (l.drop (k+1)) (l.take (k+1)) (by intro h;have:=congrArg List.length h;rw [An,Bz] at this;omega);rwa [Br] at h3
       rw [h,cs',An,Bp] at q;omega
      have hlen:=Z5 eq2 l;refine ⟨.ret [Al (cpt eq2 l)],?_,rfl,by rw [if_neg hlt]⟩;generalize cpt eq2 l=fl at*;have ls:G3 16 (Al l) (.i .i64 (k:Int)) (.i .i64 (l.length:Int))=some (Al (l.drop k)):=by rw [J6 _ _ _ _ _ (by omega) (by omega) (by omega)];simp
      have hsl1:G3 16 (Al s) (.i .i64 ((fl.length:Nat):Int)) (.i .i64 (s.length:Int))=some (Al (s.drop fl.length)):=by rw [J6 _ _ _ _ _ (by omega) (by omega) (by omega)];simp
      have hsl2:G3 16 (Al s) (.i .i64 0) (.i .i64 ((fl.length:Nat):Int))=some (Al fl):=by rw [J6 _ _ _ _ _ (by omega) (by omega) (by omega)];simp [s2]
      have hrep:K0 16 (.i .i64 ((s.length:Int) - (fl.length:Int))) pn=some (Al (List.replicate (s.length - fl.length) zr)):=by rw [Cd2 _ (by omega) (by omega)];congr 3;omega
      have happ:H7 16 (Al fl) (Al (List.replicate (s.length - fl.length) zr))=some (Al (fl++List.replicate (s.length - fl.length) zr)):=Uv _ _ (by simp;omega);have hsl3:G3 16 (Al (fl++List.replicate (s.length - fl.length) zr)) (.i .i64 0) (.i .i64 ((fl.length:Nat):Int))=some (Al fl):=by rw [J6 _ _ _ _ _ (by omega) (by omega) (by simp;omega)];simp
      simp (disch:=omega) only [R9,hkk,i1,i0,hc,hxy,ls,s3,hsl1,hsl2,hrep,happ,hsl3,EVT,EVM,EVC,xe,EVP,EV,simprocAttr]
     ·left;refine ⟨k+1,?_,⟨by omega,by omega,?_⟩,by omega⟩
      ·simp (disch:=omega) only [R9,hkk,i1,i0,hc,hxy,EVT,EVM,EVC,xe,EVP,EV,simprocAttr]
      ·rw [cs,tk];simp [hxy]
    ·right;have e:k=l.length:=by omega
     subst e;rw [Dl] at k3;refine ⟨_,?_,?_,rfl⟩
     ·rw [if_pos k3];simp (disch:=omega) only [R9,EVT,EVM,EVC,xe,EVP,EV,simprocAttr]
     ·rw [if_pos k3];rfl
  by_cases hh:cpt eq2 l=l
  ·rw [if_pos hh] at key;rw [hh];simp (disch:=omega) only [R9,h2,key,EVT,EVM,EVC,xe,EVP,EV,simprocAttr]
  ·rw [if_neg hh] at key;simp (disch:=omega) only [R9,h2,key,EVT,EVM,EVC,xe,EVP,EV,simprocAttr]
end Go.X.G
/- Lists of records in the program: which are valid, their order, their sorting. -/
namespace Go.X.G
open Go Go.X
theorem Eb1 (x:Int):S mc 1 [.i .i64 x]=some [.b false]:=by refine Hv2 (N:=1) rfl ?_;simp (disch:=omega) only [Gr0,EVC,xe,EVP,EV,simprocAttr]
theorem Cj2 (a b:Int):S m8 2 [.i .i64 a, .i .i64 b]=some [.i .i64 (Z7 a b)]:=by
 refine Hy2 (N:=1) rfl ?_;have h1:=Eb1 a;have h2:=Eb1 b;unfold Z7;by_cases k1:a<b
 ·simp (disch:=omega) only [Ec1,h1,h2,k1,EVC,xe,EVP,EV,simprocAttr]
 ·by_cases k2:b<a
  ·simp (disch:=omega) only [Ec1,h1,h2,k1,k2,EVC,xe,EVP,EV,simprocAttr]
  ·simp (disch:=omega) only [Ec1,h1,h2,k1,k2,EVC,xe,EVP,EV,simprocAttr]
theorem eq (a b:Rec) (ha:a.wf) (hb:b.wf):S Y6 2 [a.pv,b.pv]=some [.i .i64 (N2 a b)]:=by
 refine Hy3 (N:=1) rfl ?_;have g1:a.name.length≤9223372036854775807:=ha.name;have g2:b.name.length≤9223372036854775807:=hb.name;have h1:=Qq a.name b.name g1 g2;have h2:=Cj2 a.typ b.typ;have h3:=bf a.typ a.data b.data ha.data hb.data;unfold N2;by_cases k1:H8 a.name b.name=0
 ·by_cases k2:Z7 a.typ b.typ=0
  ·rw [k1] at h1;rw [k2] at h2;simp (disch:=omega) only [Ec2,gj,Es,h1,h2,h3,EVC,xe,EVP,EV,simprocAttr];simp [k1,k2]
  ·rw [k1] at h1;simp (disch:=omega) only [Ec2,h1,h2,k2,EVC,xe,EVP,EV,simprocAttr];simp [k1,k2]
 ·simp (disch:=omega) only [Ec2,h1,k1,EVC,xe,EVP,EV,simprocAttr]
theorem bz (a b:Rec) (ha:a.wf) (hb:b.wf):S Y7 2 [a.pv,b.pv]=some [.i .i64 (Et6 a b)]:=by
 refine Hz5 (N:=1) rfl ?_;have h1:=eq a b ha hb;have h2:=Cj2 a.ttl b.ttl;unfold Et6;by_cases k1:N2 a b=0
 ·rw [k1] at h1;simp (disch:=omega) only [Fd7,h1,h2,EVC,xe,EVP,EV,simprocAttr];simp [k1]
 ·simp (disch:=omega) only [Fd7,h1,k1,EVC,xe,EVP,EV,simprocAttr]
theorem Hr1:Cmp Y7 [] Et6 Rec.wf:=⟨fun x y hx hy=>bz x y hx hy⟩
theorem Gj1:leC Et6=leR:=rfl
theorem Ct8 (a b:Rec) (ha:a.wf) (hb:b.wf):S mr 2 [a.pv,b.pv]=some [.b (eqF a b)]:=by refine Hx3 (N:=1) rfl ?_;have h1:=eq a b ha hb;simp (disch:=omega) only [Gs2,h1,EVC,xe,EVP,EV,simprocAttr]
theorem Ct5 (l:List Rec) (hw:∀r∈l,r.wf) (hl:l.length≤1000000):S Qh 1 [Al l]=some [Al (sortR l)]:=by refine Hz0 (N:=1) rfl ?_;have h0:=Cj3 l hl;obtain ⟨r,h1,h2,h3⟩:=Ux Hr1 (by rw [Gj1];exact Hj4) l hw hl;rw [Gj1] at h1;have hm:=h1.mem Hj4;have h4:=bl r mr [] eqF (fun x hx y hy=>Ct8 x y (hw x ((hm x).1 hx)) (hw y ((hm y).1 hy))) (by omega);rw [Cb9 h1] at h4;simp (disch:=omega) only [Gs9,h0,h3,h4,Ef,Mh,EVT,EVM,EVC,xe,EVP,EV,simprocAttr]
end Go.X.G
/- Sets of records: what the program's and the reference's functions give. -/
namespace Go.X
open Go
structure SetR where
 name:List UInt8
 typ:Int
 ttl:Int
 data:List Dat
 deriving DecidableEq
def Gb3 (l:List Dat):PV:= .l 13 (l.map Dat.pv)
def SetR.pv (x:SetR):PV:= .a [.s x.name, .i .i64 x.typ, .i .i64 x.ttl,Gb3 x.data]
end Go.X
namespace Go.X.G
open Go Go.X
structure SetsIn (g:List SetR) (i:Nat):Prop where
 len:g.length≤i
 each:∀x∈g,x.data.length≤i
theorem d5:∀(l acc:List Rec),(l.foldl (fun a x=>Tz x a) acc).length≤acc.length+l.length
 |[],acc=>by simp
 |x::l,acc=>by have h1:=d5 l (Tz x acc);have h2:=Ty x acc;simp only [List.foldl_cons,Bw];omega
theorem Cc0 (l:List Rec):(sortR l).length≤l.length:=by simpa [sortR] using d5 l []
end Go.X.G
/- Records with names and texts of at most 300 bytes. -/
namespace Go.X.G
open Go Go.X
def c3 (s:List UInt8):List UInt8:=s.take 300
def Kn (r:Rec):Rec:=⟨c3 r.name,r.typ,r.ttl,{r.data with host:=c3 r.data.host,mail:=c3 r.data.mail,text:=c3 r.data.text}⟩
theorem Gf4 (s:List UInt8):(c3 s).length≤300:=by unfold c3;rw [An];omega
theorem Ax0 {r:Rec} (h:r.wf):(Kn r).wf:=by
 have hs:∀s:List UInt8,pj (c3 s):=fun s=>by have:=Gf4 s;unfold pj;omega
 exact ⟨hs _,h.typ,h.ttl,⟨h.data.hi,h.data.lo,hs _,hs _,hs _,h.data.a,h.data.b,h.data.c,h.data.d,h.data.e,h.data.f,h.data.bits⟩⟩
theorem d4 (s:List UInt8) (hs:s.length≤9223372036854775807):Vv (.s s) (.i .i64 0) (.i .i64 (if (300:Int)<(s.length:Int) then 300 else (s.length:Int)))=some (.s (c3 s)):=by
 unfold c3;by_cases h:(300:Int)<(s.length:Int)
 ·rw [if_pos h];have h1:(0:Int)≤0∧(0:Int)≤300∧(300:Int)≤(s.length:Int):=by omega
  simp only [Vv,h1,and_self,if_true];rfl
 ·rw [if_neg h];have h1:(0:Int)≤0∧(0:Int)≤(s.length:Int)∧(s.length:Int)≤(s.length:Int):=by omega
  simp only [Vv,h1,and_self,if_true,Hh,Dl];rw [Cp (by omega)];rfl
theorem Hb8 (n:Int):Cl2 (.i .i64 n) (.i .i64 300)=some (.i .i64 (if (300:Int)<n then 300 else n)):=by simp [Cl2]
end Go.X.G
/- What the laws on lists of records call. -/
namespace Go.X.G
open Go Go.X
theorem Cc2 (r:Rec) (h:r.wf):S Ft8 1 [r.pv]=some [(Kn r).pv]:=by refine Ht2 (N:=1) rfl ?_;have s1:=d4 r.name h.name;have s2:=d4 r.data.host h.data.host;have s3:=d4 r.data.mail h.data.mail;have s4:=d4 r.data.text h.data.text;have g1:r.name.length≤9223372036854775807:=h.name;have g2:r.data.host.length≤9223372036854775807:=h.data.host;have g3:r.data.mail.length≤9223372036854775807:=h.data.mail;have g4:r.data.text.length≤9223372036854775807:=h.data.text;simp (disch:=omega) only [Hs8,Hb8,s1,s2,s3,s4,xe,EVP,EV,simprocAttr];rfl
def fewR (l:List Rec) (k:Nat):List Rec:=(l.take k).map Kn
theorem Cp6 (l:List Rec) (k:Nat):(fewR l k).length≤k:=by simp [fewR];omega
theorem Ep9 {l:List Rec} (h:∀r∈l,r.wf) (k:Nat):∀r∈fewR l k,r.wf:=fun r hr=>by simp only [fewR,G1] at hr;obtain ⟨x,hx,rfl⟩:=hr;exact Ax0 (h x (Eb hx))
theorem Gx4 (l:List Rec) (k:Nat) (hl:Vm l) (hk:k≤1000):S zq 2 [Al l, .i .i64 (k:Int)]=some [Al (fewR l k)]:=by
 obtain ⟨N,hN⟩:∃N:Nat,N=1002:=⟨_,rfl⟩;refine Hz4 (N:=N) rfl ?_;have hrl:=hl.1;have key:Dx1.ev S N [Al l, .i .i64 (k:Int)]=some (.yld 0 [Al (fewR l k)]):=by
  have hm:(l.take k).length≤k:=by simp;omega
  refine E8 (l.take k) (fun i=>[Al ((l.take i).map Kn), .i .i64 (i:Int)]) (fun i r=> .yld 0 [Al (fewR l k)]) rfl (by omega) (fun i c r hd hi hc=> ?_) ?_
  ·left;refine ⟨?_,rfl⟩;have hi7:i<k:=by omega
   have hc':l[i]? =some c:=by rw [←hc,List.getElem?_take_of_lt hi7]
   have hil:=(Aq.1 hc').1;have hs:=Cc2 c (hl.2 c (A8 hc'));have e:(l.take (i+1)).map Kn=(l.take i).map Kn++[Kn c]:=by rw [C6,hc'];simp
   have hlen:((l.take i).map Kn).length=i:=by rw [K7,An];omega
   have h1:(i:Int)<(l.length:Int):=by omega
   have h2:(i:Int)<(k:Int):=by omega
   have ei:(i:Int).toNat=i:=by omega
   rw [e];generalize (l.take i).map Kn=g at*;simp (disch:=omega) only [p9,h1,h2,ei,hc',hs,xe,EVP,EV,simprocAttr]
  ·have hlen:(l.take k).length=min k l.length:=by simp
   rw [hlen];have e:(l.take (min k l.length)).map Kn=fewR l k:=by
    unfold fewR;rcases Nat.le_total k l.length with h|h
    ·rw [K5 h]
    ·rw [Nat.min_eq_right h,Cp (Af _),Cp h]
   rw [e];by_cases h:k≤l.length
   ·have h1:¬((min k l.length:Nat):Int)<(k:Int):=by omega
    have h2:((min k l.length:Nat):Int)=(k:Int):=by omega
    rw [h2];by_cases h3:(k:Int)<(l.length:Int)
    ·simp (disch:=omega) only [p9,h3,Int.lt_irrefl,xe,EVP,EV,simprocAttr];simp [Out.goes]
    ·simp (disch:=omega) only [p9,h3,xe,EVP,EV,simprocAttr];simp [Out.goes]
   ·have h2:((min k l.length:Nat):Int)=(l.length:Int):=by omega
    rw [h2];simp (disch:=omega) only [p9,Int.lt_irrefl,xe,EVP,EV,simprocAttr];simp [Out.goes]
 simp (disch:=omega) only [p9,key,xe,EVP,EV,simprocAttr]
theorem o0:S Cl0 0 []=some [.b true]:=(Ks ext_mono).2 ⟨300,by kernel_rfl⟩
end Go.X.G
/- Lists side by side: slices.Concat. -/
namespace Go.X.G
open Go Go.X
end Go.X.G
/- Names on the way up; delegations above a name. -/
namespace Go.X.G
open Go Go.X
end Go.X.G
/- Delegations and names of a zone, as the program finds them. -/
namespace Go.X.G
open Go Go.X
theorem s5 (l:List Rec) (hl:l.length≤1000000) (hw:∀r∈l,r.wf):S y2 1 [Al l]=some [Bg (setN (l.map Rec.name))]:=by
 refine Hz2 (N:=l.length+1) rfl ?_;have key:Dw9.ev S (l.length+1) [Al l]=some (.yld 0 [Bg ([]++l.map Rec.name)]):=by
  refine J7 l (fun i (b:List (List UInt8))=>[Bg b, .i .i64 (i:Int)]) (fun i b r=> .yld 0 [Bg (b++r.map Rec.name)]) (fun i b=>b.length≤i) [] rfl (C0 _) (by omega) (fun i b c r hd hi hc hI=> ?_) (fun b hI=> ?_)
  ·left;refine ⟨b++[c.name],?_,by simp;omega,by simp⟩;simp (disch:=omega) only [Ec3,hc,EVM,EVC,xe,EVP,EV,simprocAttr]
  ·simp (disch:=omega) only [Ec3,EVM,EVC,xe,EVP,EV,simprocAttr];simp [Out.goes]
 rw [C7] at key;have hlen:(l.map Rec.name).length≤1000000:=by rw [K7];exact hl
 have hw:∀x∈l.map Rec.name,x.length≤9223372036854775807:=fun x hx=>by obtain ⟨r,hr,rfl⟩:=G1.1 hx;exact (hw r hr).name
 have k1:=Ct6 _ hlen hw;have k2:=bh ((l.map Rec.name).mergeSort fun x y=> !decide (H8 y x<0)) (by rw [List.length_mergeSort];exact hlen);rw [show cpt eqs ((l.map Rec.name).mergeSort fun x y=> !decide (H8 y x<0))=setN (l.map Rec.name) from rfl] at k2;generalize setN (l.map Rec.name)=se at*;generalize (l.map Rec.name).mergeSort (fun x y=> !decide (H8 y x<0))=so at*;generalize l.map Rec.name=un at*;simp (disch:=omega) only [Ec3,key,k1,k2,Ef,Mh,EVM,EVC,xe,EVP,EV,simprocAttr]
end Go.X.G
/- Delegations and names of a zone, as the reference finds them; what exists. -/
namespace Go.X.G
open Go Go.X
def Uc (x:List UInt8):List (List UInt8)→List (List UInt8)
 |[]=>[x]
 |y::r=>if H8 y x<0 then y::Uc x r else if y=x then y::r else x::y::r
def I2 (x:List UInt8):List (List UInt8)→Nat
 |[]=>0
 |y::r=>if H8 y x<0 then I2 x r+1 else 0
theorem fg (x:List UInt8):∀l,I2 x l≤l.length
 |[]=>Af _
 |y::r=>by have:=fg x r;simp only [I2];split<;>simp;omega
theorem Aq7 (x:List UInt8):∀(l:List (List UInt8)),Uc x l=match l[I2 x l]? with
  |some y=>if y=x then l else l.take (I2 x l)++[x]++l.drop (I2 x l)
  |none=>l.take (I2 x l)++[x]++l.drop (I2 x l)
 |[]=>rfl
 |y::r=>by
  simp only [Uc,I2];by_cases h:H8 y x<0
  ·simp only [if_pos h,Ct];rw [Aq7 x r];cases h2:r[I2 x r]? with
   |none=>simp
   |some z=>by_cases h3:z=x<;>simp [h3]
  ·simp only [if_neg h,B6];by_cases h3:y=x<;>simp [h3]
theorem f5 (x:List UInt8):∀l,(Uc x l).length≤l.length+1
 |[]=>by simp [Uc]
 |y::r=>by
  have:=f5 x r;simp only [Uc];split
  ·simp;omega
  ·split<;>simp
theorem insN_mem (x z:List UInt8):∀(l:List (List UInt8)),z∈Uc x l↔z=x∨z∈l
 |[]=>by simp [Uc]
 |y::r=>by
  have ih:=insN_mem x z r;simp only [Uc];split
  ·simp only [Ap,ih];grind
  ·split
   ·rename_i h;subst h;simp only [Ap];grind
   ·simp only [Ap]
theorem Pf (x:List UInt8):∀(l:List (List UInt8)),l.Pairwise ltN→(Uc x l).Pairwise ltN
 |[],_=>by simp [Uc]
 |y::r,h=>by
  obtain ⟨h1,h2⟩:=Bv.1 h;have ih:=Pf x r h2;simp only [Uc];by_cases c:H8 y x<0
  ·rw [if_pos c];refine Bv.2 ⟨fun w hw=> ?_,ih⟩;rcases (insN_mem x w r).1 hw with rfl|hw
   ·exact (Ex _ _).1 c
   ·exact h1 w hw
  ·rw [if_neg c];by_cases e:y=x
   ·rw [if_pos e];exact h
   ·rw [if_neg e];have hxy:ltN x y:=by
     rcases to_N.tri x y with q|q|q
     ·exact q
     ·exact absurd q.symm e
     ·exact absurd ((Ex _ _).2 q) c
    refine Bv.2 ⟨fun w hw=> ?_,h⟩;rcases Ap.1 hw with rfl|hw
    ·exact hxy
    ·exact to_N.tr _ _ _ hxy (h1 w hw)
def xl (l:List (List UInt8)):List (List UInt8):=l.foldl (fun a x=>Uc x a) []
theorem xh (l:List (List UInt8)):xl l=setN l:=by
 have:∀(l a:List (List UInt8)),a.Pairwise ltN→(l.foldl (fun a x=>Uc x a) a).Pairwise ltN∧∀z,z∈l.foldl (fun a x=>Uc x a) a↔z∈a∨z∈l:=by
  intro l
  induction l with
  |nil=>intro a h;exact ⟨h,fun z=>by simp⟩
  |cons x r ih=>
   intro a h;obtain ⟨h1,h2⟩:=ih (Uc x a) (Pf x a h);refine ⟨h1,fun z=> ?_⟩;rw [List.foldl_cons,h2,insN_mem,Ap]
   grind
 obtain ⟨h1,h2⟩:=this l [] List.Pairwise.nil;exact Vh to_N _ _ h1 (Yg l) fun x=>by rw [Cc4];rw [xl,h2 x];simp
theorem Bt8 (l:List Rec) (g:List (List UInt8)) (i:Nat) (x:Rec) (hx:l[i]? =some x) (hw:x.name.length≤9223372036854775807) (hg:∀r∈g,r.length≤9223372036854775807) (N:Nat) (hN:g.length<N) (hl:g.length≤1000000):
  z6.ev S N [Al l,Bg g, .i .i64 (i:Int)]=some (.yld 2 [.i .i64 (I2 x.name g:Int)]):=by
 have key:z6.ev S N [Al l,Bg g, .i .i64 (i:Int)]=some (.yld 2 [.i .i64 ((0+I2 x.name g:Nat):Int)]):=by
  refine E8 g (fun k=>[.i .i64 (k:Int)]) (fun k r=> .yld 2 [.i .i64 ((k+I2 x.name r:Nat):Int)]) rfl hN (fun k c r hd hk hc=> ?_) ?_
  ·have h1:=Qv c x.name (hg c (A8 hc)) hw;by_cases h:H8 c x.name<0
   ·left;simp (disch:=omega) only [Us,hc,hx,h1,h,EVM,EVC,xe,EVP,EV,simprocAttr];refine ⟨trivial,?_⟩;simp only [I2,if_pos h];congr 3;push_cast;omega
   ·right;simp (disch:=omega) only [Us,hc,hx,h1,EVM,EVC,xe,EVP,EV,simprocAttr];simp [I2,h,Out.goes]
  ·simp (disch:=omega) only [Us,EVM,EVC,xe,EVP,EV,simprocAttr];simp [I2,Out.goes]
 simpa using key
theorem Bt7 (l:List Rec) (hl:l.length≤1000000) (hw:∀r∈l,r.name.length≤9223372036854775807):S y1 1 [Al l]=some [Bg (setN (l.map Rec.name))]:=by
 refine Hz1 (N:=l.length+1) rfl ?_;have key:Dw8.ev S (l.length+1) [Al l]=some (.yld 0 [Bg (xl (l.map Rec.name))]):=by
  refine J7 l (fun i (g:List (List UInt8))=>[Bg g, .i .i64 (i:Int)]) (fun i g r=> .yld 0 [Bg ((r.map Rec.name).foldl (fun acc x=>Uc x acc) g)]) (fun i g=>g.length≤i∧∀r∈g,r.length≤9223372036854775807) [] rfl ⟨Af _,fun r h=>by cases h⟩ (by omega) (fun i g c r hd hi hc hI=> ?_) (fun g hI=> ?_)
  ·left;obtain ⟨h1,h2⟩:=hI;have hcw:=hw c (A8 hc);have h3:=Bt8 l g i c hc hcw h2 (l.length+1) (by omega) (by omega);have h4:=fg c.name g;have h5:=f5 c.name g;refine ⟨Uc c.name g,?_,⟨by omega,fun r hr=> ?_⟩,rfl⟩
   ·rw [Aq7];cases h6:g[I2 c.name g]? with
    |none=>
     have h7:=List.getElem?_eq_none_iff.1 h6;have h8:I2 c.name g=g.length:=by omega
     simp (disch:=first|omega|(simp;omega)) only [Us,hc,h3,h8,EVM,EVC,xe,EVP,EV,simprocAttr];simp
    |some y=>
     have h7:=(Aq.1 h6).1;by_cases h9:y=c.name
     ·simp (disch:=omega) only [Us,hc,h3,h6,h9,EVM,EVC,xe,EVP,EV,simprocAttr]
     ·simp (disch:=first|omega|(simp;omega)) only [Us,hc,h3,h6,h9,EVM,EVC,xe,EVP,EV,simprocAttr];simp
   ·rcases (insN_mem c.name r g).1 hr with h|h
    ·subst h;exact hcw
    ·exact h2 r h
  ·simp (disch:=omega) only [Us,EVM,EVC,xe,EVP,EV,simprocAttr];simp [Out.goes]
 rw [xh] at key;simp (disch:=omega) only [Us,key,EVM,EVC,xe,EVP,EV,simprocAttr]
end Go.X.G
/- The reference's lists of records: sets, unions, differences. -/
namespace Go.X.G
open Go Go.X
end Go.X.G
/- Unions, differences, types of names: the program's and the reference's. -/
namespace Go.X.G
open Go Go.X
end Go.X.G
/- Three records as one argument. -/
namespace Go.X
open Go
end Go.X
/- The order of records is total: the law RrsetTotal. -/
namespace Go.X.G
open Go Go.X
end Go.X.G
/- Types of names; the laws RrsetCompares, RrsetSorts, RrsetSets, RrsetPairs. -/
namespace Go.X
open Go
end Go.X
namespace Go.X.G
open Go Go.X
theorem law_RrsetSorts (l0:List Rec) (hl0:Vm l0):S Ft9 1 [Al l0]=some [.b true]:=by
 obtain ⟨N,hN⟩:∃N:Nat,N=1002:=⟨_,rfl⟩;refine Ht3 (N:=N) rfl ?_;have k0:=Gx4 l0 40 hl0 (by omega);have hlw:=Ep9 hl0.2 40;have hll:=Cp6 l0 40;simp only [show ((40:Nat):Int)=40 from rfl] at k0;generalize fewR l0 40=l at*;have k1:=s5 l (by omega) hlw;have k2:=Bt7 l (by omega) (fun r hr=>(hlw r hr).name);have k3:=Ct5 l hlw (by omega);have k4:=Ct7 l hlw (by omega);have k5:=Cj0 (sortR l) (sortR l) (by have:=Cc0 l;omega);have aw:=o0;have hsn:(setN (l.map Rec.name)).length≤40:=by have:=Cc5 (l.map Rec.name);rw [K7] at this;omega
 have k6:∀(m:List (List UInt8)),m.length≤1000→Gj2.ev S N [Al l0,Al l,Bg m,Bg m]=some (.yld 0 []):=fun m hm=>by
  refine E8 m (fun i=>[.i .i64 (i:Int)]) (fun i r=> .yld 0 []) rfl (by omega) (fun i c r hd hi hc=> ?_) ?_
  ·left;refine ⟨?_,rfl⟩;have hil:(i:Int)<(m.length:Int):=by omega
   simp (disch:=omega) only [Gr9,hc,hil,xe,EVP,EV,simprocAttr]
  ·simp (disch:=omega) only [Gr9,Int.lt_irrefl,xe,EVP,EV,simprocAttr];simp [Out.goes]
 have k6':=k6 (setN (l.map Rec.name)) (by omega);clear k6;rw [decide_eq_true rfl] at k5;generalize setN (l.map Rec.name)=m at*;generalize sortR l=s at*;simp (disch:=omega) only [Gr9,k0,k1,k2,k3,k4,k5,k6',aw,xe,EVP,EV,simprocAttr]
end Go.X.G
