/- Merging in place: the library's function, the Lw. -/
import Derived.Test.YtkpbcoeiijddpaaGreatDoorRrsetSetsG11
import Derived.Test.YtkpbcoeiijddpaaGreatDoorRrsetSetsG9
import Derived.Test.YtkpbcoeiijddpaaGreatDoorRrsetSetsG8
import Derived.Test.YtkpbcoeiijddpaaGreatDoorRrsetSetsG10
open Bool renaming and_eq_true→Ax,eq_false_or_eq_true→Ad
open Int renaming lt_irrefl→G3,toNat_natCast→Hr
open List renaming getElem?_eq_some_iff→Aq,getElem?_eq_getElem→Az,length_append→Ab,append_assoc→Ap,length_take→Ar,getElem?_append_right→As,getElem?_append_left→A4,mem_cons→A6,getElem?_drop→A8,length_cons→A9,eq_nil_of_length_eq_zero→Bq,mem_of_getElem?→By,length_nil→Bb,getElem?_map→Bd,length_pos_iff→Bg,mem_singleton→Bm,length_drop→Bn,take_append_drop→Bs,mem_append_right→Bt,mem_append→B5,take_of_length_le→Cn,nil_append→C0,append_nil→D1,take_add_one→D8,mem_of_mem_take→Ey,drop_zero→Ez,mem_filter→Ef,take_length→En,drop_drop→E7,getElem_mem→Fg,length_set→Gw,getLast?_eq_getElem?→Gb,mem_of_mem_drop→Hj,length_map→K4,pairwise_append→K5,mem_map→Rl,take_take→pd,getElem?_set_ne→pf
open Nat renaming le_refl→Af,mul_le_mul_right→Bj,zero_le→Cv,le_trans→Dy,add_zero→Dd,lt_succ_self→Gr,min_eq_left→K3,add_sub_cancel→Gt2
open Option renaming bind_some→Aw,map_some→A3
set_option maxHeartbeats 1000000
set_option linter.unusedVariables false
set_option linter.unusedSimpArgs false
namespace Go.X.G
open Go Go.X
section
variable {g:Nat} {caps:List PV} {c:Rec→Rec→Int} {P:Rec→Prop}
theorem Hv8 (hC:Cmp g caps c P) (X A B Y:List Rec) (s:List Rec) (hsd:s=X++(A++(B++Y))) (a m b mid:Int) (h i0 j0:Nat) (ha:a=X.length) (hm:m=a+A.length) (hb:b=m+B.length) (hM:(a+b) / 2=mid) (hmid:mid=a+h)
  (h1:i0≤j0) (h2:j0≤A.length) (h3:j0≤h) (h4:h≤i0+B.length) (hs:s.length≤1000000) (hP:∀y∈s,P y) (N:Nat) (hN:A.length<N):
  ∃i:Nat,z6.ev S N [Al s, .i .i64 a, .i .i64 m, .i .i64 b, .f g caps, .i .i64 (a+i0), .i .i64 (a+j0)]=some (.yld 0 [.i .i64 (a+i)])∧i0≤i∧i≤j0∧
   (∀x y,i≠i0→A[i - 1]? =some x→B[h - i]? =some y→¬c y x<0)∧∀x y,i≠j0→A[i]? =some x→B[h - 1 - i]? =some y→c y x<0:=by
 have hl:s.length=X.length+A.length+B.length+Y.length:=by rw [hsd];simp;omega
 have hA:∀k y,A[k]? =some y→s[X.length+k]? =some y:=fun k y hk=>by have:=(Aq.1 hk).1;rw [hsd,As (by omega),show X.length+k - X.length=k by omega,A4 this,hk]
 have hB:∀k y,B[k]? =some y→s[X.length+A.length+k]? =some y:=fun k y hk=>by have:=(Aq.1 hk).1;rw [hsd,As (by omega),As (by omega),show X.length+A.length+k - X.length - A.length=k by omega,A4 this,hk]
 have key:=Gs (fn:=S) (N:=N) (η:=[Al s, .i .i64 a, .i .i64 m, .i .i64 b, .f g caps, .i .i64 (a+i0), .i .i64 (a+j0)]) (id:=1) (init:=[.v 5, .v 6]) (body:=ay) (α:=Nat×Nat)
  (fun w=>[.i .i64 (a+w.1), .i .i64 (a+w.2)])
  (fun o=>∃i:Nat,o= .yld 0 [.i .i64 (a+i)]∧i0≤i∧i≤j0∧(∀x y,i≠i0→A[i - 1]? =some x→B[h - i]? =some y→¬c y x<0)∧∀x y,i≠j0→A[i]? =some x→B[h - 1 - i]? =some y→c y x<0)
  (fun w=>w.1≤w.2∧i0≤w.1∧w.2≤j0∧(∀x y,w.1≠i0→A[w.1 - 1]? =some x→B[h - w.1]? =some y→¬c y x<0)∧∀x y,w.2≠j0→A[w.2]? =some x→B[h - 1 - w.2]? =some y→c y x<0)
  (fun w=>w.2 - w.1) (i0,j0) ?_ ?_ (by simp only;omega) ?_
 ·obtain ⟨o,h1,p,rfl,h2⟩:=key;exact ⟨p,h1,h2⟩
 ·simp (disch:=omega) only [EVT,EVM,EVC,xe,EVP,EV,simprocAttr]
 ·exact ⟨h1,Af _,Af _,fun x y h0=>absurd rfl h0,fun x y h0=>absurd rfl h0⟩
 ·rintro ⟨p,q⟩ ⟨g1,g2,g3,g4,g5⟩;simp only at g1 g2 g3 g4 g5;by_cases hpq:p<q
  ·left;have hk:(p+q) / 2<A.length:=by omega
   have hx:=Az hk;have hk2:h - 1 - (p+q) / 2<B.length:=by omega
   have hy:=Az hk2;generalize A[(p+q) / 2]=x at hx;generalize B[h - 1 - (p+q) / 2]=y at hy;have hsx:=hA _ x hx;have hsy:=hB _ y hy;have hPx:P x:=hP x (By hsx);have hPy:P y:=hP y (By hsy);have hc:=hC.ok y x hPy hPx;have hlt:a+(p:Int)<a+(q:Int):=by omega
   have e1:(a+(p:Int)+(a+(q:Int))) / 2=a+(((p+q) / 2:Nat):Int):=by omega
   have e2:(a+(((p+q) / 2:Nat):Int)).toNat=X.length+(p+q) / 2:=by omega
   have e3:(mid+m - 1 - (a+(((p+q) / 2:Nat):Int))).toNat=X.length+A.length+(h - 1 - (p+q) / 2):=by omega
   have hkh:(p+q) / 2<h:=by omega
   by_cases hcy:c y x<0
   ·refine ⟨(p,(p+q) / 2),?_,⟨by simp only;omega,g2,by simp only;omega,g4,fun u v _ hu hv=> ?_⟩,by simp only;omega⟩
    ·simp only;generalize (p+q) / 2=k at*;simp (disch:=omega) only [Eb,hlt,D4,hM,e1,e2,e3,hsy,hsx,hc,hcy,EVT,EVM,EVC,xe,EVP,EV,simprocAttr]
    ·simp only at hu hv;rw [hx] at hu;injection hu with hu;subst hu;rw [hy] at hv;injection hv with hv;subst hv;exact hcy
   ·refine ⟨((p+q) / 2+1,q),?_,⟨by simp only;omega,by simp only;omega,g3,fun u v _ hu hv=> ?_,g5⟩,by simp only;omega⟩
    ·have e4:a+(((p+q) / 2+1:Nat):Int)=a+(((p+q) / 2:Nat):Int)+1:=by omega
     simp only [e4];generalize (p+q) / 2=k at*;simp (disch:=omega) only [Eb,hlt,D4,hM,e1,e2,e3,hsy,hsx,hc,hcy,EVT,EVM,EVC,xe,EVP,EV,simprocAttr]
    ·simp only [Gt2] at hu hv;rw [show h - ((p+q) / 2+1)=h - 1 - (p+q) / 2 by omega] at hv;rw [hx] at hu;injection hu with hu;subst hu;rw [hy] at hv;injection hv with hv;subst hv;exact hcy
  ·right;have e:p=q:=by omega
   subst e;have hlt:¬a+(p:Int)<a+(p:Int):=by omega
   refine ⟨.yld 0 [.i .i64 (a+p)],?_,rfl,p,rfl,g2,g3,g4,g5⟩;simp (disch:=omega) only [Eb,hlt,EVT,EVM,EVC,xe,EVP,EV,simprocAttr]
theorem Et7 {le:Rec→Rec→Bool} (ht:TP le) {B:List Rec} (hB:B.Pairwise fun x y=>le x y=true) (x:Rec) (p:Nat) (hp:p≤B.length) (h1:∀y,p≠0→B[p - 1]? =some y→le x y=false) (h2:∀y,B[p]? =some y→le x y=true):mrg le [x] B=B.take p++x::B.drop p:=by have e1:=O8 ht (A:=[x]) (B:=B) (by simp) hB 0 p (fun u v h=>absurd rfl h) (fun u v h0 hu hv=>by simp at hu;subst hu;exact h1 v h0 hv) (by simp) hp;have e2:=O8 ht (A:=[x]) (B:=B.drop p) (by simp) (hB.sublist (List.drop_sublist p B)) 1 0 (fun u v _ hu hv=>by simp at hu;subst hu;rw [A8] at hv;exact h2 v hv) (fun u v h=>absurd rfl h) (by simp) (by simp);rw [e1];simp only [List.take_zero,Ez,List.take_succ_cons,List.drop_succ_cons,Jv] at e2 ⊢;rw [e2];simp [mrg]
theorem Et6 {le:Rec→Rec→Bool} (ht:TP le) {A:List Rec} (hA:A.Pairwise fun x y=>le x y=true) (x:Rec) (p:Nat) (hp:p≤A.length) (h1:∀y,p≠0→A[p - 1]? =some y→le y x=true) (h2:∀y,A[p]? =some y→le y x=false):mrg le A [x]=A.take p++x::A.drop p:=by have e1:=O8 ht (A:=A) (B:=[x]) hA (by simp) p 0 (fun u v h0 hu hv=>by simp at hv;subst hv;exact h1 u h0 hu) (fun u v h=>absurd rfl h) hp (by simp);have e2:=O8 ht (A:=A.drop p) (B:=[x]) (hA.sublist (List.drop_sublist p A)) (by simp) 0 1 (fun u v h=>absurd rfl h) (fun u v _ hu hv=>by simp at hv;subst hv;rw [A8] at hu;exact h2 u hu) (by simp) (by simp);rw [e1];simp only [List.take_zero,Ez,List.take_succ_cons,List.drop_succ_cons,Jv] at e2 ⊢;rw [e2];simp [mrg]
set_option maxHeartbeats 2000000 in
theorem Iw (hC:Cmp g caps c P) (ht:TP (leC c)):∀(n:Nat) (X A B Y:List Rec) (a m b:Int),A.length+B.length≤n→A≠[]→B≠[]→(A.Pairwise fun x y=>leC c x y=true)→(B.Pairwise fun x y=>leC c x y=true)→
  a=X.length→m=a+A.length→b=m+B.length→(X++A++B++Y).length≤1000000→(∀y∈X++A++B++Y,P y)→
  S Nq 1048581 [Al (X++A++B++Y), .i .i64 a, .i .i64 m, .i .i64 b, .f g caps]=some [Al (X++mrg (leC c) A B++Y)]
 |0,X,A,B,Y,a,m,b,hn,hA,_,_,_,_,_,_,_,_=>absurd (Bq (by omega)) hA
 |n+1,X,A,B,Y,a,m,b,hn,hA,hB,sA,sB,ha,hm,hb,hs,hP=>by
  have hA':0<A.length:=Bg.2 hA;have hB':0<B.length:=Bg.2 hB;have hs2:=hs;simp only [Ab] at hs2;obtain ⟨N,hN⟩:∃N,N=A.length+B.length+1:=⟨_,rfl⟩;refine Gk1 (N:=N) rfl ?_;by_cases c1:A.length=1
  ·-- one ahead
   obtain ⟨x,rfl⟩:=List.length_eq_one_iff.1 c1;have hsd:X++[x]++B++Y=X++x::(B++Y):=by simp
   obtain ⟨p,k1,k2,k3,k4⟩:=Hw2 hC X B Y x (X++[x]++B++Y) hsd a m b ha (by simpa using hm) hb hs hP N (by omega);have k5:=Hw1 X B Y x (X++[x]++B++Y) hsd a m b .u p ha (by simpa using hm) k2 hs N (by omega) (.i .i64 m) (.i .i64 b) (.f g caps);have e:=Et7 ht sB x p k2 (fun y h0 hy=>Cm4.2 (k3 y h0 hy)) (fun y hy=>Cm3.2 (k4 y hy));rw [e];have q1:m - a=1:=by simp at hm;omega
   generalize X++[x]++B++Y=s at*;generalize X++(List.take p B++x::List.drop p B)++Y=u at*;simp (disch:=omega) only [Eb,q1,k1,k5,EVT,EVM,EVC,xe,EVP,EV,simprocAttr]
  ·by_cases c2:B.length=1
   ·obtain ⟨x,rfl⟩:=List.length_eq_one_iff.1 c2;have hsd:X++A++[x]++Y=X++(A++x::Y):=by simp
    obtain ⟨p,k1,k2,k3,k4⟩:=Hw0 hC X A Y x (X++A++[x]++Y) hsd a m (.i .i64 b) ha hm hs hP N (by omega);have k5:=Hv9 X A Y x (X++A++[x]++Y) hsd a m p ha hm k2 hs N (by omega) (.i .i64 a) (.i .i64 b) (.f g caps);have e:=Et6 ht sA x p k2 (fun y h0 hy=>Cm3.2 (k3 y h0 hy)) (fun y hy=>Cm4.2 (k4 y hy));rw [e];have q1:¬m - a=1:=by omega
    have q2:b - m=1:=by simp at hb;omega
    generalize X++A++[x]++Y=s at*;generalize X++(List.take p A++x::List.drop p A)++Y=u at*;simp (disch:=omega) only [Eb,q1,q2,k1,k5,EVT,EVM,EVC,xe,EVP,EV,simprocAttr]
   ·-- two parts of more
    have q1:¬m - a=1:=by omega
    have q2:¬b - m=1:=by omega
    obtain ⟨h,hh⟩:∃h,h=(A.length+B.length) / 2:=⟨_,rfl⟩;obtain ⟨mid,hM⟩:∃mid,(a+b) / 2=mid:=⟨_,rfl⟩;have hmid:mid=a+h:=by omega
    obtain ⟨i0,j0,hc15,h1,h2,h3,h4,hi0,hj0⟩:∃i0 j0:Nat,Tr.ev S N [Al (X++A++B++Y), .i .i64 a, .i .i64 m, .i .i64 b, .f g caps]=some (.yld 0 [.i .i64 (a+i0), .i .i64 (a+j0)])∧i0≤j0∧j0≤A.length∧j0≤h∧h≤i0+B.length∧(i0=0∨h - i0=B.length)∧(j0=h∨j0=A.length):=by
     by_cases hgt:h<A.length
     ·refine ⟨h - B.length,h,?_,by omega,by omega,by omega,by omega,by omega, .inl rfl⟩;have t1:mid<m:=by omega
      have t2:mid+m - b=a+((h - B.length:Nat):Int):=by omega
      rw [←t2,←hmid];generalize X++A++B++Y=s at*;simp (disch:=omega) only [Eb,D4,hM,t1,EVT,EVM,EVC,xe,EVP,EV,simprocAttr]
     ·refine ⟨0,A.length,?_,by omega,by omega,by omega,by omega, .inl rfl, .inr rfl⟩;have t1:¬mid<m:=by omega
      generalize X++A++B++Y=s at*;simp (disch:=omega) only [Eb,D4,hM,t1,hm,EVT,EVM,EVC,xe,EVP,EV,simprocAttr];simp
    have hsd:X++A++B++Y=X++(A++(B++Y)):=by simp
    obtain ⟨i,k1,k2,k3,k4,k5⟩:=Hv8 hC X A B Y (X++A++B++Y) hsd a m b mid h i0 j0 ha hm hb hM hmid h1 h2 h3 h4 hs hP N (by omega);have cut:=O8 ht sA sB i (h - i) (fun x y h0 hx hy=>Cm3.2 (k4 x y (fun e=>by
      rcases hi0 with q|q
      ·omega
      ·have:=(Aq.1 hy).1;omega) hx hy)) (fun x y h0 hx hy=>Cm4.2 (k5 x y (fun e=>by
      rcases hj0 with q|q
      ·omega
      ·have:=(Aq.1 hx).1;omega) hx (by rw [show h - 1 - i=h - i - 1 by omega];exact hy))) (by omega) (by omega)
    have eA:A.take i++A.drop i=A:=Bs _ _;have eB:B.take (h - i)++B.drop (h - i)=B:=Bs _ _;have lA1:(A.take i).length=i:=by rw [Ar];omega
    have lA2:(A.drop i).length=A.length - i:=Bn;have lB1:(B.take (h - i)).length=h - i:=by rw [Ar];omega
    have lB2:(B.drop (h - i)).length=B.length - (h - i):=Bn;have sA1:=sA.sublist (List.take_sublist i A);have sA2:=sA.sublist (List.drop_sublist i A);have sB1:=sB.sublist (List.take_sublist (h - i) B);have sB2:=sB.sublist (List.drop_sublist (h - i) B);generalize A.take i=A1 at*;generalize A.drop i=A2 at*;generalize B.take (h - i)=B1 at*;generalize B.drop (h - i)=B2 at*;have e0:X++A++B++Y=X++A1++A2++B1++(B2++Y):=by rw [←eA,←eB];simp
    have mem1:∀y,y∈X++A1++B1++(A2++B2++Y)→P y:=fun y hy=>hP y (by rw [e0];simp only [B5] at hy ⊢;grind);have len1:(X++A1++B1++(A2++B2++Y)).length≤1000000:=by simp only [Ab] at hs2 ⊢;omega
    have lm1:=O7 (leC c) A1 B1;have mem2:∀y,y∈(X++mrg (leC c) A1 B1)++A2++B2++Y→P y:=fun y hy=>mem1 y (by simp only [B5,mrg_mem] at hy ⊢;grind)
    have len2:((X++mrg (leC c) A1 B1)++A2++B2++Y).length≤1000000:=by simp only [Ab,lm1] at hs2 ⊢;omega
    have s1:(T.blk 0 Tp L9).ev S N [Al (X++A++B++Y), .i .i64 a, .i .i64 m, .i .i64 b, .f g caps, .i .i64 (a+i0), .i .i64 (a+j0), .i .i64 (a+i)]=
      L9.ev S N [Al (X++A++B++Y), .i .i64 a, .i .i64 m, .i .i64 b, .f g caps, .i .i64 (a+i0), .i .i64 (a+j0), .i .i64 (a+i),Al (X++A1++B1++(A2++B2++Y))]:=by
     by_cases t:A2=[]∨B1=[]
     ·have t1:¬(a+(i:Int)<m∧m<mid+m - (a+i)):=by
       rcases t with t|t
       ·rw [t] at lA2;simp at lA2;omega
       ·rw [t] at lB1;simp at lB1;omega
      have e1:X++A++B++Y=X++A1++B1++(A2++B2++Y):=by rw [e0];rcases t with t|t<;>subst t<;>simp
      rw [←e1];generalize X++A++B++Y=s at*;by_cases t2:a+(i:Int)<m
      ·have t3:¬m<mid+m - (a+i):=fun q=>t1 ⟨t2,q⟩;simp (disch:=omega) only [Eb,D4,hM,t2,t3,EVT,EVM,EVC,xe,EVP,EV,simprocAttr]
      ·simp (disch:=omega) only [Eb,D4,hM,t2,EVT,EVM,EVC,xe,EVP,EV,simprocAttr]
     ·have t':A2≠[]∧B1≠[]:=by grind
      have p1:=Bg.2 t'.1;have p2:=Bg.2 t'.2;have hr:=sn (X++A1) A2 B1 (B2++Y) (a+i) m (mid+m - (a+i)) g caps (by simp only [Ab];omega) (by simp only [Ab];omega) (by simp only [Ab];omega) t'.1 t'.2 (by rw [←e0];exact hs);have t2:a+(i:Int)<m:=by omega
      have t3:m<mid+m - (a+i):=by omega
      rw [←e0] at hr;have e1:X++A1++B1++A2++(B2++Y)=X++A1++B1++(A2++B2++Y):=by simp
      rw [e1] at hr;generalize X++A1++B1++(A2++B2++Y)=s1 at*;generalize X++A++B++Y=s at*;simp (disch:=omega) only [Eb,D4,hM,t2,t3,hr,Es,Nm,EVT,EVM,EVC,xe,EVP,EV,simprocAttr]
    have s2:(T.blk 0 Tn Mj).ev S N [Al (X++A++B++Y), .i .i64 a, .i .i64 m, .i .i64 b, .f g caps, .i .i64 (a+i0), .i .i64 (a+j0), .i .i64 (a+i),Al (X++A1++B1++(A2++B2++Y))]=
      Mj.ev S N [Al (X++A++B++Y), .i .i64 a, .i .i64 m, .i .i64 b, .f g caps, .i .i64 (a+i0), .i .i64 (a+j0), .i .i64 (a+i),Al (X++A1++B1++(A2++B2++Y)),Al ((X++mrg (leC c) A1 B1)++A2++B2++Y)]:=by
     by_cases t:A1=[]∨B1=[]
     ·have t1:¬(a<a+(i:Int)∧a+(i:Int)<mid):=by
       rcases t with t|t
       ·rw [t] at lA1;simp at lA1;omega
       ·rw [t] at lB1;simp at lB1;omega
      have e1:X++A1++B1++(A2++B2++Y)=(X++mrg (leC c) A1 B1)++A2++B2++Y:=by rcases t with t|t<;>subst t<;>simp [mrg,Jv]
      rw [←e1];generalize X++A1++B1++(A2++B2++Y)=s1 at*;generalize X++A++B++Y=s at*;by_cases t2:a<a+(i:Int)
      ·have t3:¬a+(i:Int)<mid:=fun q=>t1 ⟨t2,q⟩;simp (disch:=omega) only [Eb,D4,hM,t2,t3,EVT,EVM,EVC,xe,EVP,EV,simprocAttr]
      ·simp (disch:=omega) only [Eb,D4,hM,t2,EVT,EVM,EVC,xe,EVP,EV,simprocAttr]
     ·have t':A1≠[]∧B1≠[]:=by grind
      have p1:=Bg.2 t'.1;have p2:=Bg.2 t'.2;have hr:=Iw hC ht n X A1 B1 (A2++B2++Y) a (a+i) mid (by omega) t'.1 t'.2 sA1 sB1 ha (by omega) (by omega) len1 mem1;have t2:a<a+(i:Int):=by omega
      have t3:a+(i:Int)<mid:=by omega
      have e1:X++mrg (leC c) A1 B1++(A2++B2++Y)=(X++mrg (leC c) A1 B1)++A2++B2++Y:=by simp
      rw [e1] at hr;generalize (X++mrg (leC c) A1 B1)++A2++B2++Y=s2 at*;generalize X++A1++B1++(A2++B2++Y)=s1 at*;generalize X++A++B++Y=s at*;simp (disch:=omega) only [Eb,D4,hM,t2,t3,hr,Es,Nm,EVT,EVM,EVC,xe,EVP,EV,simprocAttr]
    have s3:Mj.ev S N [Al (X++A++B++Y), .i .i64 a, .i .i64 m, .i .i64 b, .f g caps, .i .i64 (a+i0), .i .i64 (a+j0), .i .i64 (a+i),Al (X++A1++B1++(A2++B2++Y)),Al ((X++mrg (leC c) A1 B1)++A2++B2++Y)]=
      some (.ret [Al (X++mrg (leC c) A B++Y)]):=by
     have e9:X++mrg (leC c) A B++Y=(X++mrg (leC c) A1 B1)++mrg (leC c) A2 B2++Y:=by rw [cut];simp
     rw [e9];by_cases t:A2=[]∨B2=[]
     ·have t1:¬(mid<mid+m - (a+i)∧mid+m - (a+(i:Int))<b):=by
       rcases t with t|t
       ·rw [t] at lA2;simp at lA2;omega
       ·rw [t] at lB2;simp at lB2;omega
      have e1:(X++mrg (leC c) A1 B1)++A2++B2++Y=(X++mrg (leC c) A1 B1)++mrg (leC c) A2 B2++Y:=by rcases t with t|t<;>subst t<;>simp [mrg,Jv]
      rw [←e1];generalize (X++mrg (leC c) A1 B1)++A2++B2++Y=s2 at*;generalize X++A1++B1++(A2++B2++Y)=s1 at*;generalize X++A++B++Y=s at*;by_cases t2:mid<mid+m - (a+(i:Int))
      ·have t3:¬mid+m - (a+(i:Int))<b:=fun q=>t1 ⟨t2,q⟩;simp (disch:=omega) only [Eb,D4,hM,t2,t3,EVT,EVM,EVC,xe,EVP,EV,simprocAttr]
      ·simp (disch:=omega) only [Eb,D4,hM,t2,EVT,EVM,EVC,xe,EVP,EV,simprocAttr]
     ·have t':A2≠[]∧B2≠[]:=by grind
      have p1:=Bg.2 t'.1;have p2:=Bg.2 t'.2;have hr:=Iw hC ht n (X++mrg (leC c) A1 B1) A2 B2 Y mid (mid+m - (a+i)) b (by omega) t'.1 t'.2 sA2 sB2 (by simp only [Ab,lm1];omega) (by omega) (by omega) len2 mem2;have t2:mid<mid+m - (a+(i:Int)):=by omega
      have t3:mid+m - (a+(i:Int))<b:=by omega
      generalize (X++mrg (leC c) A1 B1)++mrg (leC c) A2 B2++Y=s3 at*;generalize (X++mrg (leC c) A1 B1)++A2++B2++Y=s2 at*;generalize X++A1++B1++(A2++B2++Y)=s1 at*;generalize X++A++B++Y=s at*;simp (disch:=omega) only [Eb,D4,hM,t2,t3,hr,Es,Nm,EVT,EVM,EVC,xe,EVP,EV,simprocAttr]
    have f2:L9.ev S N [Al (X++A++B++Y), .i .i64 a, .i .i64 m, .i .i64 b, .f g caps, .i .i64 (a+i0), .i .i64 (a+j0), .i .i64 (a+i),Al (X++A1++B1++(A2++B2++Y))]=some (.ret [Al (X++mrg (leC c) A B++Y)]):=s2.trans s3;have f1:=s1.trans f2;clear s1 s2 s3 f2 mem1 mem2 cut k4 k5;generalize X++mrg (leC c) A B++Y=s3 at*;generalize X++A++B++Y=s at*;simp (disch:=omega) only [Eb,q1,q2,D4,hM,hc15,k1,f1,EVT,EVM,EVC,xe,EVP,EV,simprocAttr]
end
end Go.X.G
/- Stable sorting: the library's functions. -/
namespace Go.X.G
open Go Go.X
section
variable {g:Nat} {caps:List PV} {c:Rec→Rec→Int} {P:Rec→Prop}
theorem Hs6 (hC:Cmp g caps c P) (L L':List Rec) (i:Nat) (x y:Rec) (g0:L[i]? =some y) (g1:L[i+1]? =some x) (sw:(L.set (i+1) y).set i x=L') (k e:Int) (hk:k=i+1) (he:e<k) (he2:0≤e) (hx:P x) (hy:P y) (hlt:c x y<0) (hL:L.length≤1000000) (w0 w2 w4 w5:PV) (N:Nat):
  Jp.ev S N [w0, .i .i64 e,w2, .f g caps,w4,w5, .i .i64 k,Al L]=some (.yld 3 [.i .i64 (k - 1),Al L']):=by
 have hi:=(Aq.1 g1).1;have ti0:(k - 1).toNat=i:=by omega
 have ti1:k.toNat=i+1:=by omega
 have g2:(L.set (i+1) y)[i]? =some y:=by rw [pf (by omega)];exact g0
 have hc:=hC.ok x y hx hy;simp (disch:=first|omega|(rw [Gw];omega)) only [M7,Hs,Jl,he,ti0,ti1,g0,g1,g2,sw,hc,hlt,EVT,EVM,EVC,xe,EVP,EV,simprocAttr]
theorem Aq2 (hC:Cmp g caps c P) (L:List Rec) (i:Nat) (x y:Rec) (g0:L[i]? =some y) (g1:L[i+1]? =some x) (k e:Int) (hk:k=i+1) (he:e<k) (hx:P x) (hy:P y) (hlt:¬c x y<0) (hL:L.length≤1000000) (w0 w2 w4 w5:PV) (N:Nat):
  Jp.ev S N [w0, .i .i64 e,w2, .f g caps,w4,w5, .i .i64 k,Al L]=some (.yld 2 [Al L]):=by
 have hi:=(Aq.1 g1).1;have ti0:(k - 1).toNat=i:=by omega
 have ti1:k.toNat=i+1:=by omega
 have hc:=hC.ok x y hx hy;simp (disch:=omega) only [M7,Hs,Jl,he,ti0,ti1,g0,g1,hc,hlt,EVT,EVM,EVC,xe,EVP,EV,simprocAttr]
theorem Cn1 (L:List Rec) (k e:Int) (he:¬e<k) (w0 w2 w3 w4 w5:PV) (N:Nat):
  Jp.ev S N [w0, .i .i64 e,w2,w3,w4,w5, .i .i64 k,Al L]=some (.yld 2 [Al L]):=by
 simp (disch:=omega) only [M7,Hs,Jl,he,EVT,EVM,EVC,xe,EVP,EV,simprocAttr]
theorem Hs5 (hC:Cmp g caps c P) (ht:TP (leC c)) (X R Y:List Rec) (x:Rec) (hR:R.Pairwise fun a b=>leC c a b=true) (hP:∀y∈X++R++x::Y,P y) (hs:(X++R++x::Y).length≤1000000) (a k:Int) (ha:a=X.length) (hk:k=a+R.length) (w0 w2:PV) (N:Nat) (hN:R.length<N):
  ∃R1 R2,R=R1++R2∧(∀y∈R1,leC c y x=true)∧(∀y∈R2,leC c y x=false)∧
   Aj4.ev S N [w0, .i .i64 a,w2, .f g caps, .i .i64 k,Al (X++R++x::Y)]=some (.yld 2 [Al (X++(R1++x::R2)++Y)]):=by
 have hx:P x:=hP x (by simp);have hs2:=hs;simp only [Ab,A9] at hs2;have key:=Gs (fn:=S) (N:=N) (η:=[w0, .i .i64 a,w2, .f g caps, .i .i64 k,Al (X++R++x::Y)]) (id:=3) (init:=[.v 4, .v 5]) (body:=Jp) (α:=List Rec×List Rec)
  (fun w=>[.i .i64 (a+w.1.length),Al (X++w.1++x::(w.2++Y))])
  (fun o=>∃R1 R2,R=R1++R2∧(∀y∈R1,leC c y x=true)∧(∀y∈R2,leC c y x=false)∧o= .yld 2 [Al (X++(R1++x::R2)++Y)])
  (fun w=>R=w.1++w.2∧∀y∈w.2,leC c y x=false) (fun w=>w.1.length) (R,[]) ?_ ⟨by simp,by simp⟩ hN ?_
 ·obtain ⟨o,h1,R1,R2,h2,h3,h4,rfl⟩:=key;exact ⟨R1,R2,h2,h3,h4,h1⟩
 ·subst hk;simp only [C0];generalize X++R++x::Y=s at*;simp (disch:=omega) only [EVT,EVM,EVC,xe,EVP,EV,simprocAttr]
 ·rintro ⟨R1,R2⟩ ⟨h1,h2⟩;simp only at h1 h2;have hlen:=congrArg List.length h1;simp only [Ab] at hlen;rcases List.eq_nil_or_concat R1 with rfl|⟨R0,y,rfl⟩
  ·right;refine ⟨_,Cn1 _ _ a (by simp) _ _ _ _ _ N,rfl,[],R2,h1,by simp,h2,?_⟩;simp
  ·rw [List.concat_eq_append] at*;simp only [Ab,A9,Bb] at hlen;have hy:P y:=hP y (by rw [h1];simp);have lP:(X++R0).length=X.length+R0.length:=Ab;have g0:=Wt (X++R0) (x::(R2++Y)) y;have g1:=Zg (X++R0) (R2++Y) y x;rw [lP] at g0 g1;have e0:X++(R0++[y])++x::(R2++Y)=X++R0++y::x::(R2++Y):=by simp
   have lL:(X++R0++y::x::(R2++Y)).length≤1000000:=by simp only [Ab,A9];omega
   by_cases hlt:c x y<0
   ·left;have sw0:((X++R0++y::x::(R2++Y)).set (X.length+R0.length+1) y).set (X.length+R0.length) x=X++R0++x::(y::R2++Y):=by rw [←lP,List.set_comm _ _ (by omega)];exact En2 (X++R0) (R2++Y) y x
    refine ⟨(R0,y::R2),?_,⟨by simp only;rw [h1];simp,fun w hw=> ?_⟩,by simp⟩
    ·have:=Hs6 hC _ _ (X.length+R0.length) x y g0 g1 sw0 (a+((R0++[y]).length:Nat)) a (by simp;omega) (by simp;omega) (by omega) hx hy hlt lL w0 w2 (.i .i64 k) (Al (X++R++x::Y)) N;have e1:a+((R0++[y]).length:Nat) - 1=a+(R0.length:Int):=by simp;omega
     rw [e1] at this;show Jp.ev S N [w0, .i .i64 a,w2, .f g caps, .i .i64 k,Al (X++R++x::Y), .i .i64 (a+((R0++[y]).length:Nat)),Al (X++(R0++[y])++x::(R2++Y))]=_;rw [e0];exact this
    ·rcases A6.1 hw with rfl|hw
     ·exact Cm4.2 hlt
     ·exact h2 w hw
   ·right;have hle:leC c y x=true:=Cm3.2 hlt;refine ⟨_,?_,rfl,R0++[y],R2,h1,Yh ht (by rw [h1] at hR;exact (K5.1 hR).1) hle,h2,rfl⟩;have:=Aq2 hC _ (X.length+R0.length) x y g0 g1 (a+((R0++[y]).length:Nat)) a (by simp;omega) (by simp;omega) hx hy hlt lL w0 w2 (.i .i64 k) (Al (X++R++x::Y)) N;show Jp.ev S N [w0, .i .i64 a,w2, .f g caps, .i .i64 k,Al (X++R++x::Y), .i .i64 (a+((R0++[y]).length:Nat)),Al (X++(R0++[y])++x::(R2++Y))]=_;rw [e0,this,←e0];simp
theorem Q5 (hC:Cmp g caps c P) (ht:TP (leC c)) (X A Y:List Rec) (a b:Int) (ha:a=X.length) (hb:b=a+A.length) (hP:∀y∈X++A++Y,P y) (hs:(X++A++Y).length≤1000000):
  ∃R,Stab (leC c) R A∧R.length=A.length∧S Q2 1048580 [Al (X++A++Y), .i .i64 a, .i .i64 b, .f g caps]=some [Al (X++R++Y)]:=by
 have hs2:=hs;simp only [Ab] at hs2;cases A with
 |nil=>
  refine ⟨[],N2 _,rfl,?_⟩;refine Dq9 (N:=2) rfl ?_;simp only [Bb] at hb;have h1:¬a+1<b:=by omega
  have key:Zb.ev S 2 [Al (X++[]++Y), .i .i64 a, .i .i64 b, .f g caps]=some (.yld 0 [Al (X++[]++Y)]):=by
   generalize X++[]++Y=s at*;refine Fx 0 (fun _=>[.i .i64 (a+1),Al s]) (fun _=> .yld 0 [Al s]) ?_ (by omega) (fun i hi=>absurd hi (by omega)) ⟨?_,rfl⟩
   ·simp (disch:=omega) only [EVT,EVM,EVC,xe,EVP,EV,simprocAttr]
   ·simp (disch:=omega) only [M7,Hs,Jl,h1,EVT,EVM,EVC,xe,EVP,EV,simprocAttr]
  generalize X++[]++Y=s at*;simp (disch:=omega) only [M7,Hs,Jl,key,EVT,EVM,EVC,xe,EVP,EV,simprocAttr]
 |cons x0 A=>
  obtain ⟨N,hN⟩:∃N,N=A.length+3:=⟨_,rfl⟩;simp only [A9] at hb hs2;have key:=Gs (fn:=S) (N:=N) (η:=[Al (X++x0::A++Y), .i .i64 a, .i .i64 b, .f g caps]) (id:=1) (init:=[.bin .add (.v 1) (.c (.i .i64 1)), .v 0]) (body:=T3) (α:=List Rec×List Rec×List Rec)
   (fun w=>[.i .i64 (a+w.1.length),Al (X++w.1++(w.2.2++Y))])
   (fun o=>∃R,Stab (leC c) R (x0::A)∧R.length=(x0::A).length∧o= .yld 0 [Al (X++R++Y)])
   (fun w=>x0::A=w.2.1++w.2.2∧Stab (leC c) w.1 w.2.1∧w.1.length=w.2.1.length) (fun w=>w.2.2.length) ([x0],[x0],A) ?_ ⟨rfl,Yf _ _,rfl⟩ (by simp only;omega) ?_
  ·obtain ⟨o,h1,R,h2,h3,rfl⟩:=key;refine ⟨R,h2,h3,?_⟩;refine Dq9 (N:=N) rfl ?_;have h4:Zb.ev S N [Al (X++x0::A++Y), .i .i64 a, .i .i64 b, .f g caps]=_:=h1;clear h1;generalize X++x0::A++Y=s at*;generalize X++R++Y=u at*;simp (disch:=omega) only [M7,Hs,Jl,h4,EVT,EVM,EVC,xe,EVP,EV,simprocAttr]
  ·simp only [A9,Bb];have e:X++[x0]++(A++Y)=X++x0::A++Y:=by simp
   rw [e];have e1:a+((0+1:Nat):Int)=a+1:=by omega
   rw [e1];generalize X++x0::A++Y=s at*;simp (disch:=omega) only [EVT,EVM,EVC,xe,EVP,EV,simprocAttr]
  ·rintro ⟨R,D,Z⟩ ⟨h1,h2,h3⟩;simp only at h1 h2 h3;have hlen:=congrArg List.length h1;simp only [Ab,A9] at hlen;cases Z with
   |nil=>
    right;rw [D1] at h1;subst h1;refine ⟨_,?_,rfl,R,h2,h3,rfl⟩;have hlt:¬a+(R.length:Int)<b:=by simp only [A9] at h3;omega
    simp only [C0];generalize X++x0::A++Y=s at*;have hu:(X++R++Y).length≤1000000:=by simp only [Ab];omega
    generalize X++R++Y=u at*;simp (disch:=omega) only [M7,Hs,Jl,hlt,EVT,EVM,EVC,xe,EVP,EV,simprocAttr]
   |cons x Z=>
    left;simp only [A9] at hlen;have hmem:∀y∈X++R++x::(Z++Y),P y:=fun y hy=>hP y (by
     rw [h1];have:=h2.mem ht y;simp only [B5,A6] at hy ⊢
     grind)
    have hlen2:(X++R++x::(Z++Y)).length≤1000000:=by simp only [Ab,A9];omega
    obtain ⟨R1,R2,rfl,k1,k2,k3⟩:=Hs5 hC ht X R (Z++Y) x h2.sorted hmem hlen2 a (a+R.length) ha rfl (Al (X++x0::A++Y)) (.i .i64 b) N (by omega);refine ⟨(R1++x::R2,D++[x],Z),?_,⟨by simp only;rw [h1];simp,Cc1 ht h2 k1 k2,by simp at h3 ⊢;omega⟩,by simp⟩;have e1:a+((R1++x::R2).length:Nat)=a+((R1++R2).length:Nat)+1:=by simp;omega
    have hlt:a+((R1++R2).length:Nat)<b:=by omega
    show T3.ev S N [Al (X++x0::A++Y), .i .i64 a, .i .i64 b, .f g caps, .i .i64 (a+((R1++R2).length:Nat)),Al (X++(R1++R2)++x::(Z++Y))]=some (.yld 1 [.i .i64 (a+((R1++x::R2).length:Nat)),Al (X++(R1++x::R2)++(Z++Y))]);rw [e1];have hb2:(R1++R2).length≤1000000:=by simp only [Ab] at hlen2 ⊢;omega
    generalize (R1++R2).length=n at*;generalize X++(R1++R2)++x::(Z++Y)=s1 at*;generalize X++(R1++x::R2)++(Z++Y)=s2 at*;generalize X++x0::A++Y=s at*;simp (disch:=omega) only [M7,Hs,Jl,hlt,k3,EVT,EVM,EVC,xe,EVP,EV,simprocAttr]
end
end Go.X.G
/- Stable sorting: the Lw. -/
namespace Go.X.G
open Go Go.X
theorem Xz {α:Type} {le:α→α→Bool} (ht:TP le) {bs:Nat} {Y LY:List α} (h:Blk le bs Y LY) (hl:Y.length≤2*bs) (hb:bs<Y.length):Stab le (mrg le (Y.take bs) (Y.drop bs)) LY:=by have h1:=h.head;have h2:=(h.tail).all (by rw [Bn];omega);have:=Stab.mrg ht h1 h2;rwa [Bs] at this
theorem Blk.pre {α:Type} {le:α→α→Bool} {bs k:Nat} {Y LY:List α} (h:Blk le bs Y LY):Blk le bs (Y.take (k*bs)) (LY.take (k*bs)):=by
 refine ⟨by simp [h.len],fun j=> ?_⟩;rw [List.drop_take,List.drop_take,pd,pd];by_cases hj:j<k
 ·have e:(j+1)*bs≤k*bs:=Bj _ hj;rw [Nat.succ_mul] at e;rw [K3 (by omega)];exact h.st j
 ·have e:k*bs≤j*bs:=Bj _ (by omega);rw [show k*bs - j*bs=0 by omega,Nat.min_eq_right (by omega),List.take_zero,List.take_zero];exact N2 le
section
variable {g:Nat} {caps:List PV} {c:Rec→Rec→Int} {P:Rec→Prop}
theorem Hv5 (hC:Cmp g caps c P) (ht:TP (leC c)) (l:List Rec) (hP:∀y∈l,P y) (hs:l.length≤1000000) (N:Nat) (hN:l.length+2<N):
  ∃(X LX Y:List Rec) (q:Nat),Dw3.ev S N [Al l, .i .i64 l.length, .f g caps]=some (.yld 0 [.i .i64 X.length,Al (X++Y)])∧l=LX++Y∧X.length=q*20∧Y.length<20∧Blk (leC c) 20 X LX∧∀y∈X++Y,P y:=by
 have key:=Gs (fn:=S) (N:=N) (η:=[Al l, .i .i64 l.length, .f g caps]) (id:=1) (init:=[.c (.i .i64 0), .c (.i .i64 20), .v 0]) (body:=Br3) (α:=List Rec×List Rec×List Rec×Nat)
  (fun w=>[.i .i64 (w.1.length:Int), .i .i64 ((w.1.length:Int)+20),Al (w.1++w.2.2.1)])
  (fun o=>∃(X LX Y:List Rec) (q:Nat),o= .yld 0 [.i .i64 X.length,Al (X++Y)]∧l=LX++Y∧X.length=q*20∧Y.length<20∧Blk (leC c) 20 X LX∧∀y∈X++Y,P y)
  (fun w=>l=w.2.1++w.2.2.1∧w.1.length=w.2.2.2*20∧Blk (leC c) 20 w.1 w.2.1∧∀y∈w.1++w.2.2.1,P y) (fun w=>w.2.2.1.length) ([],[],l,0) ?_ ⟨rfl,by simp,Blk.nil _ _,by simpa using hP⟩ (by simp only;omega) ?_
 ·obtain ⟨o,h1,X,LX,Y,q,rfl,h2⟩:=key;exact ⟨X,LX,Y,q,h1,h2⟩
 ·simp (disch:=omega) only [EVT,EVM,EVC,xe,EVP,EV,simprocAttr]
  try simp
 ·rintro ⟨X,LX,Y,q⟩ ⟨h1,h2,h3,h4⟩;simp only at h1 h2 h3 h4;have hlen:=congrArg List.length h1;simp only [Ab] at hlen;have hXL:=h3.len;by_cases hge:20≤Y.length
  ·left;have eY:Y.take 20++Y.drop 20=Y:=Bs _ _;have l1:(Y.take 20).length=20:=by rw [Ar];omega
   have l2:(Y.drop 20).length=Y.length - 20:=Bn;have eXY:X++Y.take 20++Y.drop 20=X++Y:=by rw [Ap,eY]
   obtain ⟨R,k1,k2,k3⟩:=Q5 hC ht X (Y.take 20) (Y.drop 20) (X.length:Int) ((X.length:Int)+20) rfl (by omega) (by rw [eXY];exact h4) (by rw [eXY,Ab];omega);rw [eXY] at k3;refine ⟨(X++R,LX++Y.take 20,Y.drop 20,q+1),?_,⟨by simp only;rw [h1,Ap,eY],by simp only [Ab];omega,Blk.app h2 h3 (Blk.one k1 k2 (by omega)),fun y hy=>h4 y ?_⟩,by simp only;omega⟩
   ·have e1:((X++R).length:Int)=(X.length:Int)+20:=by simp only [Ab];omega
    have hge':(X.length:Int)+20≤(l.length:Int):=by omega
    simp only;rw [e1];generalize X++R++Y.drop 20=s1 at*;generalize X++Y=s0 at*;simp (disch:=omega) only [Uf,hge',k3,Es,Nm,EVT,EVM,EVC,xe,EVP,EV,simprocAttr]
   ·have:=k1.mem ht y;simp only [B5] at hy;rcases hy with (hy|hy)|hy
    ·simp [hy]
    ·exact Bt _ (Ey (this.1 hy))
    ·exact Bt _ (Hj hy)
  ·right;have hge':¬(X.length:Int)+20≤(l.length:Int):=by omega
   refine ⟨.yld 0 [.i .i64 X.length,Al (X++Y)],?_,rfl,X,LX,Y,q,rfl,h1,h2,by omega,h3,h4⟩;simp only;generalize X++Y=s0 at*;simp (disch:=omega) only [Uf,hge',EVT,EVM,EVC,xe,EVP,EV,simprocAttr]
theorem Hv4 (hC:Cmp g caps c P) (ht:TP (leC c)) (l r:List Rec) (bs:Nat) (hbs:0<bs) (hbs2:bs<l.length) (hr:Blk (leC c) bs r l) (hP:∀y∈r,P y) (hs:l.length≤1000000) (w0:PV) (w3 w4 w5:PV) (N:Nat) (hN:l.length+2<N):
  ∃(X LX Y LY:List Rec) (q:Nat),Dv8.ev S N [w0, .i .i64 l.length, .f g caps,w3,w4,w5, .i .i64 bs,Al r]=some (.yld 2 [.i .i64 X.length,Al (X++Y)])∧l=LX++LY∧X.length=q*(2*bs)∧Y.length<2*bs∧Blk (leC c) (2*bs) X LX∧Blk (leC c) bs Y LY∧∀y∈X++Y,P y:=by
 have key:=Gs (fn:=S) (N:=N) (η:=[w0, .i .i64 l.length, .f g caps,w3,w4,w5, .i .i64 bs,Al r]) (id:=3) (init:=[.c (.i .i64 0), .bin .mul (.c (.i .i64 2)) (.v 6), .v 7]) (body:=Bp6) (α:=(List Rec×List Rec)×(List Rec×List Rec)×Nat)
  (fun w=>[.i .i64 (w.1.1.length:Int), .i .i64 ((w.1.1.length:Int)+2*bs),Al (w.1.1++w.2.1.1)])
  (fun o=>∃(X LX Y LY:List Rec) (q:Nat),o= .yld 2 [.i .i64 X.length,Al (X++Y)]∧l=LX++LY∧X.length=q*(2*bs)∧Y.length<2*bs∧Blk (leC c) (2*bs) X LX∧Blk (leC c) bs Y LY∧∀y∈X++Y,P y)
  (fun w=>l=w.1.2++w.2.1.2∧w.1.1.length=w.2.2*(2*bs)∧Blk (leC c) (2*bs) w.1.1 w.1.2∧Blk (leC c) bs w.2.1.1 w.2.1.2∧∀y∈w.1.1++w.2.1.1,P y) (fun w=>w.2.1.1.length) (([],[]),(r,l),0) ?_ ⟨rfl,by simp,Blk.nil _ _,hr,by simpa using hP⟩ (by have:=hr.len;simp only;omega) ?_
 ·obtain ⟨o,h1,X,LX,Y,LY,q,rfl,h2⟩:=key;exact ⟨X,LX,Y,LY,q,h1,h2⟩
 ·simp (disch:=omega) only [EVT,EVM,EVC,xe,EVP,EV,simprocAttr];simp
 ·rintro ⟨⟨X,LX⟩,⟨Y,LY⟩,q⟩ ⟨h1,h2,h3,h4,h5⟩;simp only at h1 h2 h3 h4 h5;have hlen:=congrArg List.length h1;simp only [Ab] at hlen;have hXL:=h3.len;have hYL:=h4.len;by_cases hge:2*bs≤Y.length
  ·left;have eY:Y.take (2*bs)++Y.drop (2*bs)=Y:=Bs _ _;have l1:(Y.take (2*bs)).length=2*bs:=by rw [Ar];omega
   have l2:(Y.drop (2*bs)).length=Y.length - 2*bs:=Bn;have hp:=h4.pre (k:=2);have hz:Blk (leC c) bs (Y.drop (2*bs)) (LY.drop (2*bs)):=by have:=h4.tail.tail;rwa [E7,E7,show bs+bs=2*bs by omega] at this
   have hst:=Xz ht hp (by omega) (by omega);have sA:((Y.take (2*bs)).take bs).Pairwise fun x y=>leC c x y=true:=hp.head.sorted;have sB:((Y.take (2*bs)).drop bs).Pairwise fun x y=>leC c x y=true:=(hp.tail.all (by rw [Bn];omega)).sorted;have lA:((Y.take (2*bs)).take bs).length=bs:=by rw [Ar];omega
   have lB:((Y.take (2*bs)).drop bs).length=bs:=by rw [Bn];omega
   have eAB:(Y.take (2*bs)).take bs++(Y.take (2*bs)).drop bs=Y.take (2*bs):=Bs _ _;generalize (Y.take (2*bs)).take bs=A at*;generalize (Y.take (2*bs)).drop bs=B at*;have eXY:X++A++B++Y.drop (2*bs)=X++Y:=by rw [Ap X,eAB,Ap,eY]
   have hm:=Iw hC ht (A.length+B.length) X A B (Y.drop (2*bs)) (X.length:Int) ((X.length:Int)+bs) ((X.length:Int)+2*bs) (Af _) (by intro e;rw [e] at lA;simp at lA;omega) (by intro e;rw [e] at lB;simp at lB;omega) sA sB rfl (by omega) (by omega) (by rw [eXY,Ab];omega) (by rw [eXY];exact h5);rw [eXY] at hm;have lM:=O7 (leC c) A B;have eL:LY.take (2*bs)++LY.drop (2*bs)=LY:=Bs _ _;refine ⟨((X++mrg (leC c) A B,LX++LY.take (2*bs)),(Y.drop (2*bs),LY.drop (2*bs)),q+1),?_,⟨by simp only;rw [h1,Ap,eL],by simp only [Ab];rw [Nat.succ_mul];omega,Blk.app h2 h3 (Blk.one hst (by rw [lM,Ar];omega) (by omega)),hz,fun y hy=>h5 y ?_⟩,by simp only;omega⟩
   ·have e1:((X++mrg (leC c) A B).length:Int)=(X.length:Int)+2*bs:=by simp only [Ab];omega
    have hge':(X.length:Int)+2*(bs:Int)≤(l.length:Int):=by omega
    simp only;rw [e1];generalize X++mrg (leC c) A B++Y.drop (2*bs)=s1 at*;generalize X++Y=s0 at*;simp (disch:=omega) only [Uf,hge',hm,Es,Nm,EVT,EVM,EVC,xe,EVP,EV,simprocAttr]
   ·rw [←eXY];simp only [B5,mrg_mem] at hy ⊢
    grind
  ·right;have hge':¬(X.length:Int)+2*(bs:Int)≤(l.length:Int):=by omega
   refine ⟨.yld 2 [.i .i64 X.length,Al (X++Y)],?_,rfl,X,LX,Y,LY,q,rfl,h1,h2,by omega,h3,h4,h5⟩;simp only;generalize X++Y=s0 at*;simp (disch:=omega) only [Uf,hge',EVT,EVM,EVC,xe,EVP,EV,simprocAttr]
theorem Hv6 (hC:Cmp g caps c P) (ht:TP (leC c)) (l r:List Rec) (bs:Nat) (hbs:0<bs) (hbs2:bs<l.length) (hr:Blk (leC c) bs r l) (hP:∀y∈r,P y) (hs:l.length≤1000000) (w0 w3 w4 w5:PV) (N:Nat) (hN:l.length+2<N):
  ∃r',Blk (leC c) (2*bs) r' l∧(∀y∈r',P y)∧i8.ev S N [w0, .i .i64 l.length, .f g caps,w3,w4,w5, .i .i64 bs,Al r]=some (.yld 1 [.i .i64 ((2*bs:Nat):Int),Al r']):=by
 obtain ⟨X,LX,Y,LY,q,k,h1,h2,h3,h4,h5,h6⟩:=Hv4 hC ht l r bs hbs hbs2 hr hP hs w0 w3 w4 w5 N hN;have hlen:=congrArg List.length h1;simp only [Ab] at hlen;have hXL:=h4.len;have hYL:=h5.len;have hlt:(bs:Int)<(l.length:Int):=by omega
 have e2:((2*bs:Nat):Int)=(bs:Int)*2:=by omega
 rw [e2];by_cases hge:bs<Y.length
 ·have eY:Y.take bs++Y.drop bs=Y:=Bs _ _;have hst:=Xz ht h5 (by omega) hge;have sA:=h5.head.sorted;have sB:=(h5.tail.all (by rw [Bn];omega)).sorted;have lA:(Y.take bs).length=bs:=by rw [Ar];omega
  have lB:(Y.drop bs).length=Y.length - bs:=Bn;generalize Y.take bs=A at*;generalize Y.drop bs=B at*;have eXY:X++A++B++[]=X++Y:=by rw [D1,Ap,eY]
  have hm:=Iw hC ht (A.length+B.length) X A B [] (X.length:Int) ((X.length:Int)+bs) (l.length:Int) (Af _) (by intro e;rw [e] at lA;simp at lA;omega) (by intro e;rw [e] at lB;simp at lB;omega) sA sB rfl (by omega) (by omega) (by rw [eXY,Ab];omega) (by rw [eXY];exact h6);rw [eXY,D1] at hm;have lM:=O7 (leC c) A B;refine ⟨X++mrg (leC c) A B,by rw [h1];exact Blk.app h2 h4 (Blk.one hst (by omega) (by omega)),fun y hy=>h6 y (by
   rw [←eXY];simp only [B5,mrg_mem] at hy ⊢
   grind),?_⟩
  have hge':(X.length:Int)+(bs:Int)<(l.length:Int):=by omega
  generalize X++mrg (leC c) A B=s1 at*;generalize X++Y=s0 at*;simp (disch:=omega) only [Uf,hlt,hge',k,hm,Es,Nm,EVT,EVM,EVC,xe,EVP,EV,simprocAttr]
 ·refine ⟨X++Y,by rw [h1];exact Blk.app h2 h4 (Blk.one (h5.all (by omega)) hYL (by omega)),h6,?_⟩;have hge':¬(X.length:Int)+(bs:Int)<(l.length:Int):=by omega
  generalize X++Y=s0 at*;simp (disch:=omega) only [Uf,hlt,hge',k,EVT,EVM,EVC,xe,EVP,EV,simprocAttr]
theorem rz (hC:Cmp g caps c P) (ht:TP (leC c)) (l:List Rec) (hP:∀y∈l,P y) (hs:l.length≤1000000):
  ∃r,Stab (leC c) r l∧r.length=l.length∧S yv 1048579 [Al l, .i .i64 l.length, .f g caps]=some [Al r]:=by
 obtain ⟨N,hN⟩:∃N,N=l.length+3:=⟨_,rfl⟩;obtain ⟨X,LX,Y,q,k0,h1,h2,h3,h4,h5⟩:=Hv5 hC ht l hP hs N (by omega);have hlen:=congrArg List.length h1;simp only [Ab] at hlen;have hXL:=h4.len;obtain ⟨R,i1,i2,i3⟩:=Q5 hC ht X Y [] (X.length:Int) (l.length:Int) rfl (by omega) (by simpa using h5) (by simp;omega);simp only [D1] at i3;have hB:Blk (leC c) 20 (X++R) l:=by rw [h1];exact Blk.app h2 h4 (Blk.one i1 i2 (by omega))
 have hP':∀y∈X++R,P y:=fun y hy=>h5 y (by
  have:=i1.mem ht y;simp only [B5] at hy ⊢
  grind)
 have key:=Gs (fn:=S) (N:=N) (η:=[Al l, .i .i64 l.length, .f g caps, .i .i64 X.length,Al (X++Y),Al (X++R)]) (id:=1) (init:=[.c (.i .i64 20), .v 5]) (body:=i8) (α:=Nat×List Rec)
  (fun w=>[.i .i64 (w.1:Int),Al w.2])
  (fun o=>∃r,Stab (leC c) r l∧r.length=l.length∧o= .yld 0 [Al r])
  (fun w=>0<w.1∧Blk (leC c) w.1 w.2 l∧∀y∈w.2,P y) (fun w=>l.length - w.1) (20,X++R) ?_ ⟨by simp,hB,hP'⟩ (by simp only;omega) ?_
 ·obtain ⟨o,k1,r,k2,k3,rfl⟩:=key;refine ⟨r,k2,k3,?_⟩;refine Hx2 (N:=N) rfl ?_;have k4:Dv9.ev S N [Al l, .i .i64 l.length, .f g caps, .i .i64 X.length,Al (X++Y),Al (X++R)]=_:=k1;clear k1;generalize X++Y=s0 at*;generalize X++R=s1 at*;simp (disch:=omega) only [Uf,k0,i3,k4,Es,Nm,EVT,EVM,EVC,xe,EVP,EV,simprocAttr]
 ·generalize X++Y=s0 at*;generalize X++R=s1 at*;simp (disch:=omega) only [EVT,EVM,EVC,xe,EVP,EV,simprocAttr]
 ·rintro ⟨bs,r⟩ ⟨g1,g2,g3⟩;simp only at g1 g2 g3;have hr:=g2.len;by_cases hlt:bs<l.length
  ·left;obtain ⟨r',k1,k2,k3⟩:=Hv6 hC ht l r bs g1 hlt g2 g3 hs (Al l) (.i .i64 X.length) (Al (X++Y)) (Al (X++R)) N (by omega);exact ⟨(2*bs,r'),k3,⟨by simp only;omega,k1,k2⟩,by simp only;omega⟩
  ·right;have hlt':¬(bs:Int)<(l.length:Int):=by omega
   refine ⟨.yld 0 [Al r],?_,rfl,r,g2.all (by omega),hr,rfl⟩;generalize X++Y=s0 at*;generalize X++R=s1 at*;simp (disch:=omega) only [Uf,hlt',EVT,EVM,EVC,xe,EVP,EV,simprocAttr]
theorem T6 (hC:Cmp g caps c P) (ht:TP (leC c)) (l:List Rec) (hP:∀y∈l,P y) (hs:l.length≤1000000):
  ∃r,Stab (leC c) r l∧r.length=l.length∧S yn 1048578 [Al l, .f g caps]=some [Al r]:=by
 obtain ⟨r,h1,h2,h3⟩:=rz hC ht l hP hs;refine ⟨r,h1,h2,?_⟩;refine Hb1 (N:=1) rfl ?_;simp (disch:=omega) only [Hj9,h3,Es,Nm,EVT,EVM,EVC,xe,EVP,EV,simprocAttr]
end
end Go.X.G
/- Records compacted: the library's function. -/
namespace Go.X.G
open Go Go.X
theorem cz (l:List Rec) (g:Nat) (caps:List PV) (eq2:Rec→Rec→Bool) (h:∀x∈l,∀y∈l,S g 2 (x.pv::y.pv::caps)=some [.b (eq2 x y)]) (hl:l.length≤1000000):S ym 1048578 [Al l, .f g caps]=some [Al (cpt eq2 l)]:=by
 refine Hb0 (N:=l.length+2) rfl ?_;by_cases h2:(l.length:Int)<2
 ·have e:cpt eq2 l=l:=by
   match l,h2 with
   |[],_=>rfl
   |[x],_=>rfl
   |_::_::_,h=>simp at h;omega
  rw [e];simp (disch:=omega) only [Rs,h2,EVT,EVM,EVC,xe,EVP,EV,simprocAttr]
 ·-- the inner Fp, from a place where two neighbours are equal
  have inner:∀k:Nat,1≤k→k<l.length→cpt eq2 (l.take (k+1))=l.take k→∃s:List Rec,s.length=l.length∧s.take (cpt eq2 l).length=cpt eq2 l∧Dw0.ev S (l.length+2) [Al l, .f g caps, .i .i64 (k:Int),Al l, .b true]=some (.yld 2 [.i .i64 ((cpt eq2 l).length:Int),Al s]):=by
   intro k hk1 hk hcp;have key:=Gs (fn:=S) (N:=l.length+2) (η:=[Al l, .f g caps, .i .i64 (k:Int),Al l, .b true]) (id:=3) (init:=[(.v 2),(.c (.i .i64 (1))),(.v 3)]) (body:=Bp7) (α:=Nat×Nat×List Rec)
    (fun a=>[.i .i64 (a.1:Int), .i .i64 (a.2.1:Int),Al a.2.2])
    (fun o=>∃s:List Rec,s.length=l.length∧s.take (cpt eq2 l).length=cpt eq2 l∧o= .yld 2 [.i .i64 ((cpt eq2 l).length:Int),Al s])
    (fun a=>1≤a.2.1∧k+a.2.1≤l.length∧a.1<k+a.2.1∧a.2.2.length=l.length∧a.2.2.take a.1=cpt eq2 (l.take (k+a.2.1))∧(cpt eq2 (l.take (k+a.2.1))).length=a.1∧a.2.2.drop (k+a.2.1 - 1)=l.drop (k+a.2.1 - 1))
    (fun a=>l.length - a.2.1) (k,1,l) (by simp (disch:=omega) only [EVT,EVM,EVC,xe,EVP,EV,simprocAttr])
    ⟨by simp,by simp;omega,by simp,rfl,by simp only;rw [hcp],by simp only;rw [hcp,Ar];omega,rfl⟩ (by simp only;omega) ?_
   ·obtain ⟨o,h3,s,h4,h5,rfl⟩:=key;exact ⟨s,h4,h5,h3⟩
   ·rintro ⟨i,j,s⟩ ⟨a1,a2,a3,a4,a5,a6,a7⟩;simp only at a1 a2 a3 a4 a5 a6 a7;by_cases hj:k+j<l.length
    ·left;have c1:s[k+j]? =l[k+j]? :=by have:=congrArg (fun q=>q[1]?) a7;simp only [A8] at this;rwa [show k+j - 1+1=k+j by omega] at this
     have c0:s[k+j - 1]? =l[k+j - 1]? :=by have:=congrArg (fun q=>q[0]?) a7;simpa only [A8,Dd] using this
     have g1:l[k+j]? =some (l[k+j]'hj):=Az hj;have g0:l[k+j - 1]? =some (l[k+j - 1]'(by omega)):=Az (by omega);have tk:l.take (k+(j+1))=l.take (k+j)++[l[k+j]'hj]:=by rw [show k+(j+1)=(k+j)+1 by omega,D8,g1];rfl
     have ne:l.take (k+j)≠[]:=by intro h;have:=congrArg List.length h;rw [Ar,Bb] at this;omega
     have gl:(l.take (k+j)).getLast ne=l[k+j - 1]'(by omega):=by rw [List.getLast_eq_getElem];simp only [List.getElem_take,Ar];congr 1;omega
     have cs:=Tc eq2 (l[k+j]'hj) (l.take (k+j)) ne;rw [←tk,gl] at cs;have hc:=h (l[k+j]'hj) (Fg _) (l[k+j - 1]'(by omega)) (Fg _);generalize l[k+j]'hj=x at*;generalize l[k+j - 1]'(by omega)=y at*;have hjj:(j:Int)<(s.length:Int) - (k:Int):=by omega
     have i1:H8 16 (Al s) (.i .i64 ((k:Int)+(j:Int)))=some x.pv:=by rw [L0 _ _ _ (by omega),show ((k:Int)+(j:Int)).toNat=k+j by omega,c1,g1];rfl
     have i0:H8 16 (Al s) (.i .i64 ((k:Int)+((j:Int) - 1)))=some y.pv:=by rw [L0 _ _ _ (by omega),show ((k:Int)+((j:Int) - 1)).toNat=k+j - 1 by omega,c0,g0];rfl
     have ls:Il 16 (Al s) (.i .i64 (k:Int)) (.i .i64 (s.length:Int))=some (Al (s.drop k)):=by rw [J8 _ _ _ _ _ (by omega) (by omega) (by omega)];simp
     have e1:(s.drop k)[j]? =some x:=by rw [A8,c1,g1]
     have e0:(s.drop k)[j - 1]? =some y:=by rw [A8,show k+(j - 1)=k+j - 1 by omega,c0,g0]
     have si:∃w,s[i]? =some w:=⟨_,Az (by omega)⟩;obtain ⟨w,si⟩:=si;have ej:((j:Int) - 1).toNat=j - 1:=by omega
     by_cases hxy:eq2 x y=true
     ·refine ⟨(i,j+1,s),?_,⟨by simp,by simp only;omega,by simp only;omega,a4,?_,?_,?_⟩,by simp only;omega⟩
      ·simp (disch:=omega) only [Rs,hjj,i1,i0,ls,e1,e0,ej,hc,hxy,EVT,EVM,EVC,xe,EVP,EV,simprocAttr]
      ·simp only;rw [cs,a5];simp [hxy]
      ·simp only;rw [cs,Ab,a6];simp [hxy]
      ·simp only;rw [show k+(j+1) - 1=(k+j - 1)+1 by omega,←E7,←E7,a7]
     ·refine ⟨(i+1,j+1,s.set i x),?_,⟨by simp,by simp only;omega,by simp only;omega,by simpa using a4,?_,?_,?_⟩,by simp only;omega⟩
      ·simp (disch:=omega) only [Rs,hjj,i1,i0,ls,e1,e0,ej,si,hc,hxy,EVT,EVM,EVC,xe,EVP,EV,simprocAttr]
      ·simp only;rw [cs,D8,List.getElem?_set_self (by omega),List.take_set_of_le (by omega),a5];simp [hxy]
      ·simp only;rw [cs,Ab,a6];simp [hxy]
      ·simp only;rw [show k+(j+1) - 1=(k+j - 1)+1 by omega,List.drop_set_of_lt (by omega),←E7,←E7,a7]
    ·right;have ek:k+j=l.length:=by omega
     rw [ek,En] at a5 a6;have hjj:¬(j:Int)<(s.length:Int) - (k:Int):=by omega
     refine ⟨.yld 2 [.i .i64 (i:Int),Al s],?_,rfl,s,a4,by rw [a6];exact a5,by rw [a6]⟩;simp (disch:=omega) only [Rs,hjj,EVT,EVM,EVC,xe,EVP,EV,simprocAttr]
  have key:Dw9.ev S (l.length+2) [Al l, .f g caps]=some (if cpt eq2 l=l then .yld 0 [Al l] else .ret [Al (cpt eq2 l)]):=by
   have:=Gs (fn:=S) (N:=l.length+2) (η:=[Al l, .f g caps]) (id:=1) (init:=[(.c (.i .i64 (1))),(.v 0)]) (body:=Br6) (α:=Nat)
    (fun k=>[.i .i64 (k:Int),Al l]) (fun o=>o=if cpt eq2 l=l then .yld 0 [Al l] else .ret [Al (cpt eq2 l)])
    (fun k=>1≤k∧k≤l.length∧cpt eq2 (l.take k)=l.take k) (fun k=>l.length - k) 1 (by simp (disch:=omega) only [EVT,EVM,EVC,xe,EVP,EV,simprocAttr])
    ⟨Af 1,by omega,by cases l with
     |nil=>simp at h2
     |cons x r=>rfl⟩ (by omega) ?_
   ·obtain ⟨o,h3,h4⟩:=this;rw [←h4];exact h3
   ·rintro k ⟨k1,k2,k3⟩;by_cases hk:k<l.length
    ·have g1:l[k]? =some l[k]:=Az hk;have g0:l[k - 1]? =some (l[k - 1]'(by omega)):=Az (by omega);have tk:l.take (k+1)=l.take k++[l[k]]:=by rw [D8,g1];rfl
     have ne:l.take k≠[]:=by intro h;have:=congrArg List.length h;rw [Ar,Bb] at this;omega
     have gl:(l.take k).getLast ne=l[k - 1]'(by omega):=by rw [List.getLast_eq_getElem];simp only [List.getElem_take,Ar];congr 1;omega
     have cs:=Tc eq2 l[k] (l.take k) ne;rw [←tk,gl,k3] at cs;have hkk:(k:Int)<(l.length:Int):=by omega
     have i1:H8 16 (Al l) (.i .i64 (k:Int))=some (l[k]).pv:=by rw [L0 _ _ _ (by omega),show ((k:Int)).toNat=k by omega,g1];rfl
     have i0:H8 16 (Al l) (.i .i64 ((k:Int) - 1))=some (l[k - 1]'(by omega)).pv:=by rw [L0 _ _ _ (by omega),show ((k:Int) - 1).toNat=k - 1 by omega,g0];rfl
     have hc:=h l[k] (Fg _) (l[k - 1]'(by omega)) (Fg _);by_cases hxy:eq2 l[k] (l[k - 1]'(by omega))=true
     ·right;have cs':cpt eq2 (l.take (k+1))=l.take k:=by rw [cs];simp [hxy]
      obtain ⟨s,s1,s2,s3⟩:=inner k k1 hk cs';have hlt:cpt eq2 l≠l:=by
       intro h;have q:(cpt eq2 l).length≤(cpt eq2 (l.take (k+1))).length+(l.drop (k+1)).length:=by
        have:∀(b a:List Rec),a≠[]→(cpt eq2 (a++b)).length≤(cpt eq2 a).length+b.length:=by
         intro b
         induction b with
         |nil=>intro a _;simp
         |cons x r ih=>
          intro a ha;have h1:=ih (a++[x]) (by simp);rw [Tc _ _ _ ha] at h1;rw [show a++x::r=a++[x]++r by simp];refine Dy h1 ?_;rw [Ab];split<;>simp<;>omega
        have h3:=this (l.drop (k+1)) (l.take (k+1)) (by intro h;have:=congrArg List.length h;rw [Ar,Bb] at this;omega);rwa [Bs] at h3
       rw [h,cs',Ar,Bn] at q;omega
      have hlen:=Fw9 eq2 l;refine ⟨.ret [Al (cpt eq2 l)],?_,rfl,by rw [if_neg hlt]⟩;generalize cpt eq2 l=fl at*;have ls:Il 16 (Al l) (.i .i64 (k:Int)) (.i .i64 (l.length:Int))=some (Al (l.drop k)):=by rw [J8 _ _ _ _ _ (by omega) (by omega) (by omega)];simp
      have hsl1:Il 16 (Al s) (.i .i64 ((fl.length:Nat):Int)) (.i .i64 (s.length:Int))=some (Al (s.drop fl.length)):=by rw [J8 _ _ _ _ _ (by omega) (by omega) (by omega)];simp
      have hsl2:Il 16 (Al s) (.i .i64 0) (.i .i64 ((fl.length:Nat):Int))=some (Al fl):=by rw [J8 _ _ _ _ _ (by omega) (by omega) (by omega)];simp [s2]
      have hrep:Ll 16 (.i .i64 ((s.length:Int) - (fl.length:Int))) pp=some (Al (List.replicate (s.length - fl.length) zr)):=by rw [Cd6 _ (by omega) (by omega)];congr 3;omega
      have happ:Hc 16 (Al fl) (Al (List.replicate (s.length - fl.length) zr))=some (Al (fl++List.replicate (s.length - fl.length) zr)):=T4 _ _ (by simp;omega);have hsl3:Il 16 (Al (fl++List.replicate (s.length - fl.length) zr)) (.i .i64 0) (.i .i64 ((fl.length:Nat):Int))=some (Al fl):=by rw [J8 _ _ _ _ _ (by omega) (by omega) (by simp;omega)];simp
      simp (disch:=omega) only [Rs,hkk,i1,i0,hc,hxy,ls,s3,hsl1,hsl2,hrep,happ,hsl3,EVT,EVM,EVC,xe,EVP,EV,simprocAttr]
     ·left;refine ⟨k+1,?_,⟨by omega,by omega,?_⟩,by omega⟩
      ·simp (disch:=omega) only [Rs,hkk,i1,i0,hc,hxy,EVT,EVM,EVC,xe,EVP,EV,simprocAttr]
      ·rw [cs,tk];simp [hxy]
    ·right;have e:k=l.length:=by omega
     subst e;rw [En] at k3;refine ⟨_,?_,?_,rfl⟩
     ·rw [if_pos k3];simp (disch:=omega) only [Rs,EVT,EVM,EVC,xe,EVP,EV,simprocAttr]
     ·rw [if_pos k3];rfl
  by_cases hh:cpt eq2 l=l
  ·rw [if_pos hh] at key;rw [hh];simp (disch:=omega) only [Rs,h2,key,EVT,EVM,EVC,xe,EVP,EV,simprocAttr]
  ·rw [if_neg hh] at key;simp (disch:=omega) only [Rs,h2,key,EVT,EVM,EVC,xe,EVP,EV,simprocAttr]
end Go.X.G
/- Lists of records in the program: which are valid, their order, their sorting. -/
namespace Go.X.G
open Go Go.X
theorem Eh1 (x:Int):S mb 1 [.i .i64 x]=some [.b false]:=by refine Hx8 (N:=1) rfl ?_;simp (disch:=omega) only [Gt7,EVC,xe,EVP,EV,simprocAttr]
theorem Cj2 (a b:Int):S m7 2 [.i .i64 a, .i .i64 b]=some [.i .i64 (Z9 a b)]:=by
 refine Hb9 (N:=1) rfl ?_;have h1:=Eh1 a;have h2:=Eh1 b;unfold Z9;by_cases k1:a<b
 ·simp (disch:=omega) only [El2,h1,h2,k1,EVC,xe,EVP,EV,simprocAttr]
 ·by_cases k2:b<a
  ·simp (disch:=omega) only [El2,h1,h2,k1,k2,EVC,xe,EVP,EV,simprocAttr]
  ·simp (disch:=omega) only [El2,h1,h2,k1,k2,EVC,xe,EVP,EV,simprocAttr]
theorem et (a b:Rec) (ha:a.wf) (hb:b.wf):S Y8 2 [a.pv,b.pv]=some [.i .i64 (Nt a b)]:=by
 refine Hc0 (N:=1) rfl ?_;have g1:a.name.length≤9223372036854775807:=ha.name;have g2:b.name.length≤9223372036854775807:=hb.name;have h1:=br a.name b.name g1 g2;have h2:=Cj2 a.typ b.typ;have h3:=cj a.typ a.data b.data ha.data hb.data;unfold Nt;by_cases k1:Nc a.name b.name=0
 ·by_cases k2:Z9 a.typ b.typ=0
  ·rw [k1] at h1;rw [k2] at h2;simp (disch:=omega) only [El3,gq,Er,h1,h2,h3,EVC,xe,EVP,EV,simprocAttr];simp [k1,k2]
  ·rw [k1] at h1;simp (disch:=omega) only [El3,h1,h2,k2,EVC,xe,EVP,EV,simprocAttr];simp [k1,k2]
 ·simp (disch:=omega) only [El3,h1,k1,EVC,xe,EVP,EV,simprocAttr]
theorem bn (a b:Rec) (ha:a.wf) (hb:b.wf):S Y9 2 [a.pv,b.pv]=some [.i .i64 (Fx2 a b)]:=by
 refine Hd8 (N:=1) rfl ?_;have h1:=et a b ha hb;have h2:=Cj2 a.ttl b.ttl;unfold Fx2;by_cases k1:Nt a b=0
 ·rw [k1] at h1;simp (disch:=omega) only [Fn0,h1,h2,EVC,xe,EVP,EV,simprocAttr];simp [k1]
 ·simp (disch:=omega) only [Fn0,h1,k1,EVC,xe,EVP,EV,simprocAttr]
theorem Ij6:Cmp Y9 [] Fx2 Rec.wf:=⟨fun x y hx hy=>bn x y hx hy⟩
theorem Gw7:leC Fx2=leR:=rfl
theorem Dj1 (a b:Rec) (ha:a.wf) (hb:b.wf):S mm 2 [a.pv,b.pv]=some [.b (eqF a b)]:=by refine Hz9 (N:=1) rfl ?_;have h1:=et a b ha hb;simp (disch:=omega) only [Hj8,h1,EVC,xe,EVP,EV,simprocAttr]
theorem Ct9 (l:List Rec) (hw:∀r∈l,r.wf) (hl:l.length≤1000000):S S4 1 [Al l]=some [Al (Hq l)]:=by refine Hc7 (N:=1) rfl ?_;have h0:=Cj3 l hl;obtain ⟨r,h1,h2,h3⟩:=T6 Ij6 (by rw [Gw7];exact Hv0) l hw hl;rw [Gw7] at h1;have hm:=h1.mem Hv0;have h4:=cz r mm [] eqF (fun x hx y hy=>Dj1 x y (hw x ((hm x).1 hx)) (hw y ((hm y).1 hy))) (by omega);rw [Cc4 h1] at h4;simp (disch:=omega) only [Hk6,h0,h3,h4,Es,Nm,EVT,EVM,EVC,xe,EVP,EV,simprocAttr]
end Go.X.G
/- Sets of records: what the program's and the reference's functions give. -/
namespace Go.X
open Go
structure SetR where
 name:List UInt8
 typ:Int
 ttl:Int
 data:List Dat
 deriving DecidableEq
def Dm (l:List Dat):PV:= .l 13 (l.map Dat.pv)
def SetR.pv (x:SetR):PV:= .a [.s x.name, .i .i64 x.typ, .i .i64 x.ttl,Dm x.data]
def C4 (l:List SetR):PV:= .l 4 (l.map SetR.pv)
theorem Cr6:PV.l 13 []=Dm []:=rfl
theorem Cc7:PV.l 4 []=C4 []:=rfl
theorem u9 (x:SetR):Bz 0 x.pv=some (.s x.name):=rfl
theorem u7 (x:SetR):Bz 1 x.pv=some (.i .i64 x.typ):=rfl
theorem u6 (x:SetR):Bz 2 x.pv=some (.i .i64 x.ttl):=rfl
theorem u5 (x:SetR):Bz 3 x.pv=some (Dm x.data):=rfl
theorem Fk9 (x:SetR):Nr 4 x.pv=some x.pv:=rfl
theorem En4 (x:SetR):Iy 0 4 x.pv=some x.pv:=rfl
theorem Av2 (n:List UInt8) (t u:Int) (d:List Dat):PV.a [.s n, .i .i64 t, .i .i64 u,Dm d]=SetR.pv ⟨n,t,u,d⟩:=rfl
theorem Fv4 (x:SetR):(⟨x.name,x.typ,x.ttl,x.data⟩:SetR)=x:=rfl
theorem Fj2 (x:SetR):Jx 4 [x.pv]=some (C4 [x]):=rfl
theorem Fj5 (x:Dat):Jx 13 [x.pv]=some (Dm [x]):=rfl
theorem fm (l:List SetR):Fy (C4 l)=some (.i .i64 (l.length:Int)):=by simp [C4,Fy]
theorem Cm1 (l:List Dat):Fy (Dm l)=some (.i .i64 (l.length:Int)):=by simp [Dm,Fy]
theorem rt (l:List SetR):G1 (C4 l)=some (C4 l):=rfl
theorem sk (l:List Dat):G1 (Dm l)=some (Dm l):=rfl
theorem f9 (l:List SetR) (k:IntKind) (z:Int) (h:0≤z):H8 4 (C4 l) (.i k z)=(l[z.toNat]?).map SetR.pv:=by simp [C4,Wr _ _ _ _ h]
theorem Cn6 (l:List Dat) (k:IntKind) (z:Int) (h:0≤z):H8 13 (Dm l) (.i k z)=(l[z.toNat]?).map Dat.pv:=by simp [Dm,Wr _ _ _ _ h]
theorem Bs7 (l:List SetR) (x:SetR) (h:l.length+1≤1073741824):Hc 4 (C4 l) (C4 [x])=some (C4 (l++[x])):=by have:=Pt 4 (l.map SetR.pv) [x.pv] (by simpa using h);simpa [C4] using this
theorem Bs9 (l:List Dat) (x:Dat) (h:l.length+1≤1073741824):Hc 13 (Dm l) (Dm [x])=some (Dm (l++[x])):=by have:=Pt 13 (l.map Dat.pv) [x.pv] (by simpa using h);simpa [Dm] using this
theorem Sv {l:List SetR} {k:IntKind} {z:Int} {x y:SetR} {off:Nat} {vs:List PV} (h0:0≤z) (h3:l[z.toNat]? =some x) (h:Mf x.pv off vs=some y.pv):Ld 4 off vs (C4 l) (.i k z)=some (C4 (l.set z.toNat y)):=by
 have h4:(l.map SetR.pv)[z.toNat]? =some x.pv:=by rw [Bd,h3];rfl
 simp only [Ld,C4,h0,h4,and_self,if_true,Aw,h,A3];simp [List.map_set]
set_option linter.defProp false in
def N8:=(And.intro @Cr6 (And.intro @Cc7 (And.intro @u9 (And.intro @u7 (And.intro @u6 (And.intro @u5 (And.intro @Fk9 (And.intro @En4 (And.intro @Av2 (And.intro @Fv4 (And.intro @Fj2 (And.intro @Fj5 (And.intro @fm (And.intro @Cm1 (And.intro @rt (And.intro @sk (And.intro @f9 (And.intro @Cn6 (And.intro @Bs7 @Bs9)))))))))))))))))))
end Go.X
namespace Go.X.G
open Go Go.X
def addS (g:List SetR) (r:Rec):List SetR:=
 match g.getLast? with
 |some x=>if x.name=r.name∧x.typ=r.typ then g.dropLast++[⟨x.name,x.typ,if r.ttl<x.ttl then r.ttl else x.ttl,x.data++[r.data]⟩] else g++[⟨r.name,r.typ,r.ttl,[r.data]⟩]
 |none=>[⟨r.name,r.typ,r.ttl,[r.data]⟩]
def Cc8 (l:List Rec):List SetR:=l.foldl addS []
def setsR (l:List Rec):List SetR:=Cc8 (Hq l)
def Gl (g:List SetR):List Dat:=((g.getLast?).map SetR.data).getD []
theorem Vk {g:List SetR} {x:SetR} (h:g.getLast? =some x) (y:SetR):g.set (g.length - 1) y=g.dropLast++[y]:=by obtain ⟨a,rfl⟩:=List.getLast?_eq_some_iff.1 h;simp
theorem Ct7 (g:List SetR) (r:Rec):(addS g r).length≤g.length+1:=by
 unfold addS;split
 ·split
  ·simp
  ·simp
 ·simp
theorem rm (x:SetR) (g:List SetR) (c:Rec) (s:List Rec) (i:Nat) (p0 p2 p3:PV) (d:List Dat) (N:Nat) (hc:s[i]? =some c) (hg:g.getLast? =some x) (hl:g.length≤1000000) (hd:d.length≤1000000) (hi:i≤1000000) (hxd:x.data=d):
  Al5.ev S N [p0,Al s,p2,p3, .i .i64 (i:Int),C4 g,Dm d, .i .i64 (g.length:Int)]=some (.yld 1 [C4 (g.dropLast++[⟨x.name,x.typ,if c.ttl<x.ttl then c.ttl else x.ttl,d++[c.data]⟩]),Dm (d++[c.data]), .i .i64 ((i+1:Nat):Int)]):=by
 have hpos:0<g.length:=by cases g<;>simp at hg ⊢
 have e1:((g.length:Int) - 1).toNat=g.length - 1:=by omega
 have hx:g[((g.length:Int) - 1).toNat]? =some x:=by rw [e1,←Gb];exact hg
 have hw:IntKind.i64.wrap ((g.length:Int) - 1)=(g.length:Int) - 1:=w64 (by omega) (by omega);let y:SetR:=⟨x.name,x.typ,if c.ttl<x.ttl then c.ttl else x.ttl,x.data⟩;let z:SetR:=⟨x.name,x.typ,if c.ttl<x.ttl then c.ttl else x.ttl,d++[c.data]⟩;have s1:Ld 4 2 [.i .i64 (if c.ttl<x.ttl then c.ttl else x.ttl)] (C4 g) (.i .i64 ((g.length:Int) - 1))=some (C4 (g.set (g.length - 1) y)):=by rw [←e1];exact Sv (by omega) hx rfl
 have hl2:(g.set (g.length - 1) y).length=g.length:=by simp
 have hx2:(g.set (g.length - 1) y)[((g.length:Int) - 1).toNat]? =some y:=by rw [e1,List.getElem?_set_self (by omega)]
 have s2:Ld 4 3 [Dm (d++[c.data])] (C4 (g.set (g.length - 1) y)) (.i .i64 ((g.length:Int) - 1))=some (C4 (g.dropLast++[z])):=by rw [Sv (x:=y) (y:=z) (by omega) hx2 rfl,e1,List.set_set,Vk hg]
 have hmn:zg (.i .i64 x.ttl) (.i .i64 c.ttl)=some (.i .i64 (if c.ttl<x.ttl then c.ttl else x.ttl)):=by simp [zg]
 have hy3:Bz 3 y.pv=some (Dm x.data):=rfl;have i1:H8 4 (C4 (g.set (g.length - 1) y)) (.i .i64 ((g.length:Int) - 1))=some y.pv:=by rw [f9 _ _ _ (by omega),hx2];rfl
 have n1:Fy (C4 (g.set (g.length - 1) y))=some (.i .i64 (g.length:Int)):=by rw [fm,hl2]
 generalize hG:C4 (g.set (g.length - 1) y)=G at*;generalize hY:y.pv=Y at*;simp (disch:=omega) only [Yk,hc,hx,hw,hmn,s1,s2,i1,n1,hy3,N8,xe,EVP,EV,simprocAttr]
 try rfl
structure SetsIn (g:List SetR) (i:Nat):Prop where
 len:g.length≤i
 each:∀x∈g,x.data.length≤i
theorem bw {g:List SetR} {i:Nat} (h:SetsIn g i) (c:Rec):SetsIn (addS g c) (i+1):=by
 refine ⟨Dy (Ct7 g c) (by have:=h.len;omega),fun x hx=> ?_⟩;unfold addS at hx;split at hx
 ·rename_i y hy;have hym:y∈g:=List.mem_of_getLast? hy;split at hx
  ·rcases B5.1 hx with hx|hx
   ·have:=h.each x (List.dropLast_subset _ hx);omega
   ·rw [Bm.1 hx];have:=h.each y hym;simp;omega
  ·rcases B5.1 hx with hx|hx
   ·have:=h.each x hx;omega
   ·rw [Bm.1 hx];simp
 ·rw [Bm.1 hx];simp
theorem Kk (g:List SetR) (c:Rec):Gl (addS g c)=match g.getLast? with
  |some x=>if x.name=c.name∧x.typ=c.typ then x.data++[c.data] else [c.data]
  |none=>[c.data]:=by
 unfold addS Gl;split
 ·split<;>simp
 ·simp
theorem ew:∀(l acc:List Rec),(l.foldl (fun a x=>S9 x a) acc).length≤acc.length+l.length
 |[],acc=>by simp
 |x::l,acc=>by have h1:=ew l (S9 x acc);have h2:=S8 x acc;simp only [List.foldl_cons,A9];omega
theorem Sk (l:List Rec):(Hq l).length≤l.length:=by simpa [Hq] using ew l []
theorem Dj2 (l:List Rec) (hw:∀r∈l,r.wf) (hl:l.length≤100000):S nk 1 [Al l]=some [C4 (setsR l)]:=by
 have hs:=Ct9 l hw (by omega);have hsl:(Hq l).length≤1000000:=by have:=Sk l;omega
 generalize hsd:Hq l=s at*;obtain ⟨N,hN⟩:∃N,N=s.length+1:=⟨_,rfl⟩;refine Hd6 (N:=N) rfl ?_;have key:Dy2.ev S N [Al l,Al s]=some (.yld 0 [C4 (s.foldl addS []),Dm (Gl (s.foldl addS []))]):=by
  refine E2 s (fun i (g:List SetR)=>[C4 g,Dm (Gl g), .i .i64 (i:Int)]) (fun i g r=> .yld 0 [C4 (r.foldl addS g),Dm (Gl (r.foldl addS g))]) (fun i g=>SetsIn g i) [] rfl ⟨Af _,fun x hx=>by cases hx⟩ (by omega) (fun i g c r hd hi hc hI=> ?_) (fun g hI=> ?_)
  ·left;refine ⟨addS g c,?_,bw hI c,rfl⟩;have hgl:=hI.len;have hilt:(i:Int)<(s.length:Int):=by omega
   cases hg:g.getLast? with
   |none=>
    have hg0:g=[]:=List.getLast?_eq_none_iff.1 hg;subst hg0;have k:=rm ⟨c.name,c.typ,c.ttl,[]⟩ [⟨c.name,c.typ,c.ttl,[]⟩] c s i (Al l) (C4 []) (Dm (Gl [])) [] N hc rfl (by simp) (by simp) (by omega) rfl;have e1:(([⟨c.name,c.typ,c.ttl,[]⟩]:List SetR).length:Int)=1:=rfl;have e2:([⟨c.name,c.typ,c.ttl,[]⟩]:List SetR).dropLast++[⟨c.name,c.typ,if c.ttl<c.ttl then c.ttl else c.ttl,[]++[c.data]⟩]=addS [] c:=by simp [addS]
    have e3:([]++[c.data]:List Dat)=Gl (addS [] c):=by simp [addS,Gl]
    rw [e1,e2,e3] at k;generalize addS [] c=G at*;simp (disch:=omega) only [Yk,hc,hilt,k,N8,xe,EVP,EV,simprocAttr]
   |some x=>
    have hpos:0<g.length:=by cases g<;>simp at hg ⊢
    have hx:g[((g.length:Int) - 1).toNat]? =some x:=by rw [show ((g.length:Int) - 1).toNat=g.length - 1 by omega,←Gb];exact hg
    have hxm:x∈g:=List.mem_of_getLast? hg;have hxd:=hI.each x hxm;have hn0:¬(g.length:Int)=0:=by omega
    have hld:Gl g=x.data:=by simp [Gl,hg]
    by_cases hk:x.name=c.name∧x.typ=c.typ
    ·have k:=rm x g c s i (Al l) (C4 g) (Dm (Gl g)) x.data N hc hg (by omega) (by omega) (by omega) rfl;have e2:g.dropLast++[⟨x.name,x.typ,if c.ttl<x.ttl then c.ttl else x.ttl,x.data++[c.data]⟩]=addS g c:=by simp [addS,hg,hk]
     have e3:x.data++[c.data]=Gl (addS g c):=by rw [Kk,hg];simp [hk]
     rw [e2,e3,hld] at k;rw [hld];generalize addS g c=G at*;simp (disch:=omega) only [Yk,hc,hilt,hx,hn0,hk.1,hk.2,k,N8,xe,EVP,EV,simprocAttr]
    ·have k:=rm ⟨c.name,c.typ,c.ttl,[]⟩ (g++[⟨c.name,c.typ,c.ttl,[]⟩]) c s i (Al l) (C4 g) (Dm (Gl g)) [] N hc (by simp) (by simp;omega) (by simp) (by omega) rfl;have e1:((g++[⟨c.name,c.typ,c.ttl,[]⟩]:List SetR).length:Int)=(g.length:Int)+1:=by simp
     have e2:(g++[⟨c.name,c.typ,c.ttl,[]⟩]:List SetR).dropLast++[⟨c.name,c.typ,if c.ttl<c.ttl then c.ttl else c.ttl,[]++[c.data]⟩]=addS g c:=by simp [addS,hg,hk]
     have e3:([]++[c.data]:List Dat)=Gl (addS g c):=by rw [Kk,hg];simp [hk]
     rw [e1,e2,e3,hld] at k;rw [hld];generalize addS g c=G at*;by_cases h1:x.name=c.name
     ·have h2:¬x.typ=c.typ:=fun h=>hk ⟨h1,h⟩;simp (disch:=omega) only [Yk,hc,hilt,hx,hn0,h1,h2,k,N8,xe,EVP,EV,simprocAttr]
     ·simp (disch:=omega) only [Yk,hc,hilt,hx,hn0,h1,k,N8,xe,EVP,EV,simprocAttr]
  ·simp (disch:=omega) only [Yk,N8,xe,EVP,EV,simprocAttr];simp [Out.goes]
 simp (disch:=omega) only [Yk,hs,key,N8,xe,EVP,EV,simprocAttr];simp [setsR,Cc8,hsd]
end Go.X.G
/- Records with names and texts of at most 300 bytes. -/
namespace Go.X.G
open Go Go.X
def c3 (s:List UInt8):List UInt8:=s.take 300
def Ks (r:Rec):Rec:=⟨c3 r.name,r.typ,r.ttl,{r.data with host:=c3 r.data.host,mail:=c3 r.data.mail,text:=c3 r.data.text}⟩
theorem Ds5 (s:List UInt8):(c3 s).length≤300:=by unfold c3;rw [Ar];omega
theorem Ax0 {r:Rec} (h:r.wf):(Ks r).wf:=by
 have hs:∀s:List UInt8,d8 (c3 s):=fun s=>by have:=Ds5 s;unfold d8;omega
 exact ⟨hs _,h.typ,h.ttl,⟨h.data.hi,h.data.lo,hs _,hs _,hs _,h.data.a,h.data.b,h.data.c,h.data.d,h.data.e,h.data.f,h.data.bits⟩⟩
theorem U7 (s:List UInt8) (hs:s.length≤9223372036854775807):U8 (.s s) (.i .i64 0) (.i .i64 (if (300:Int)<(s.length:Int) then 300 else (s.length:Int)))=some (.s (c3 s)):=by
 unfold c3;by_cases h:(300:Int)<(s.length:Int)
 ·rw [if_pos h];have h1:(0:Int)≤0∧(0:Int)≤300∧(300:Int)≤(s.length:Int):=by omega
  simp only [U8,h1,and_self,if_true];rfl
 ·rw [if_neg h];have h1:(0:Int)≤0∧(0:Int)≤(s.length:Int)∧(s.length:Int)≤(s.length:Int):=by omega
  simp only [U8,h1,and_self,if_true,Hr,En];rw [Cn (by omega)];rfl
theorem Gw6 (n:Int):zg (.i .i64 n) (.i .i64 300)=some (.i .i64 (if (300:Int)<n then 300 else n)):=by simp [zg]
end Go.X.G
/- What the laws on lists of records call. -/
namespace Go.X.G
open Go Go.X
theorem Cc6 (r:Rec) (h:r.wf):S Gw3 1 [r.pv]=some [(Ks r).pv]:=by refine Iq8 (N:=1) rfl ?_;have s1:=U7 r.name h.name;have s2:=U7 r.data.host h.data.host;have s3:=U7 r.data.mail h.data.mail;have s4:=U7 r.data.text h.data.text;have g1:r.name.length≤9223372036854775807:=h.name;have g2:r.data.host.length≤9223372036854775807:=h.data.host;have g3:r.data.mail.length≤9223372036854775807:=h.data.mail;have g4:r.data.text.length≤9223372036854775807:=h.data.text;simp (disch:=omega) only [Iq2,Gw6,s1,s2,s3,s4,xe,EVP,EV,simprocAttr];rfl
def fewR (l:List Rec) (k:Nat):List Rec:=(l.take k).map Ks
theorem Cp9 (l:List Rec) (k:Nat):(fewR l k).length≤k:=by simp [fewR];omega
theorem Fq4 {l:List Rec} (h:∀r∈l,r.wf) (k:Nat):∀r∈fewR l k,r.wf:=fun r hr=>by simp only [fewR,Rl] at hr;obtain ⟨x,hx,rfl⟩:=hr;exact Ax0 (h x (Ey hx))
theorem Gc7 (l:List Rec) (k:Nat) (hl:Vb l) (hk:k≤1000):S zd 2 [Al l, .i .i64 (k:Int)]=some [Al (fewR l k)]:=by
 obtain ⟨N,hN⟩:∃N:Nat,N=1002:=⟨_,rfl⟩;refine Hd7 (N:=N) rfl ?_;have hrl:=hl.1;have key:Dy3.ev S N [Al l, .i .i64 (k:Int)]=some (.yld 0 [Al (fewR l k)]):=by
  have hm:(l.take k).length≤k:=by simp;omega
  refine F0 (l.take k) (fun i=>[Al ((l.take i).map Ks), .i .i64 (i:Int)]) (fun i r=> .yld 0 [Al (fewR l k)]) rfl (by omega) (fun i c r hd hi hc=> ?_) ?_
  ·left;refine ⟨?_,rfl⟩;have hi7:i<k:=by omega
   have hc':l[i]? =some c:=by rw [←hc,List.getElem?_take_of_lt hi7]
   have hil:=(Aq.1 hc').1;have hs:=Cc6 c (hl.2 c (By hc'));have e:(l.take (i+1)).map Ks=(l.take i).map Ks++[Ks c]:=by rw [D8,hc'];simp
   have hlen:((l.take i).map Ks).length=i:=by rw [K4,Ar];omega
   have h1:(i:Int)<(l.length:Int):=by omega
   have h2:(i:Int)<(k:Int):=by omega
   have ei:(i:Int).toNat=i:=by omega
   rw [e];generalize (l.take i).map Ks=g at*;simp (disch:=omega) only [qz,h1,h2,ei,hc',hs,xe,EVP,EV,simprocAttr]
  ·have hlen:(l.take k).length=min k l.length:=by simp
   rw [hlen];have e:(l.take (min k l.length)).map Ks=fewR l k:=by
    unfold fewR;rcases Nat.le_total k l.length with h|h
    ·rw [K3 h]
    ·rw [Nat.min_eq_right h,Cn (Af _),Cn h]
   rw [e];by_cases h:k≤l.length
   ·have h1:¬((min k l.length:Nat):Int)<(k:Int):=by omega
    have h2:((min k l.length:Nat):Int)=(k:Int):=by omega
    rw [h2];by_cases h3:(k:Int)<(l.length:Int)
    ·simp (disch:=omega) only [qz,h3,G3,xe,EVP,EV,simprocAttr];simp [Out.goes]
    ·simp (disch:=omega) only [qz,h3,xe,EVP,EV,simprocAttr];simp [Out.goes]
   ·have h2:((min k l.length:Nat):Int)=(l.length:Int):=by omega
    rw [h2];simp (disch:=omega) only [qz,G3,xe,EVP,EV,simprocAttr];simp [Out.goes]
 simp (disch:=omega) only [qz,key,xe,EVP,EV,simprocAttr]
theorem o4:S Cl1 0 []=some [.b true]:=(Od ext_mono).2 ⟨300,by kernel_rfl⟩
end Go.X.G
/- Lists side by side: slices.Concat. -/
namespace Go.X.G
open Go Go.X
end Go.X.G
/- Names on the way up; delegations above a name. -/
namespace Go.X.G
open Go Go.X
end Go.X.G
/- Delegations and names of a zone, as the program finds them. -/
namespace Go.X.G
open Go Go.X
end Go.X.G
/- Delegations and names of a zone, as the reference finds them; what exists. -/
namespace Go.X.G
open Go Go.X
end Go.X.G
/- The reference's lists of records: sets, unions, differences. -/
namespace Go.X.G
open Go Go.X
def unsetR (x:SetR):List Rec:=x.data.map fun d=>⟨x.name,x.typ,x.ttl,d⟩
theorem bf (x:SetR) (hl:x.data.length≤1000000):S y9 1 [x.pv]=some [Al (unsetR x)]:=by
 refine Hd3 (N:=x.data.length+1) rfl ?_;have key:Dx9.ev S (x.data.length+1) [x.pv]=some (.yld 0 [Al ([]++unsetR x)]):=by
  refine E2 (N:=x.data.length+1) x.data (fun i (g:List Rec)=>[Al g, .i .i64 (i:Int)]) (fun i g r=> .yld 0 [Al (g++r.map fun d=>(⟨x.name,x.typ,x.ttl,d⟩:Rec))]) (fun i g=>g.length≤i) [] rfl (Cv _) (Gr _) (fun i g c r hd hi hc hI=> ?_) (fun g hI=> ?_)
  ·left;refine ⟨g++[⟨x.name,x.typ,x.ttl,c⟩],?_,by simp;omega,by simp⟩;have hil:(i:Int)<(x.data.length:Int):=by omega
   simp (disch:=omega) only [El5,hc,hil,N8,xe,EVP,EV,simprocAttr]
  ·simp (disch:=omega) only [El5,G3,N8,xe,EVP,EV,simprocAttr];simp [Out.goes]
 simp (disch:=omega) only [El5,key,N8,xe,EVP,EV,simprocAttr]
 try simp
theorem bg (x:SetR) (hl:x.data.length≤1000000):S y8 1 [x.pv]=some [Al (unsetR x)]:=by
 refine Hd2 (N:=x.data.length+1) rfl ?_;have key:Dx8.ev S (x.data.length+1) [x.pv]=some (.yld 0 [Al ([]++unsetR x)]):=by
  refine E2 (N:=x.data.length+1) x.data (fun i (g:List Rec)=>[Al g, .i .i64 (i:Int)]) (fun i g r=> .yld 0 [Al (g++r.map fun d=>(⟨x.name,x.typ,x.ttl,d⟩:Rec))]) (fun i g=>g.length≤i) [] rfl (Cv _) (Gr _) (fun i g c r hd hi hc hI=> ?_) (fun g hI=> ?_)
  ·left;refine ⟨g++[⟨x.name,x.typ,x.ttl,c⟩],?_,by simp;omega,by simp⟩;have hil:(i:Int)<(x.data.length:Int):=by omega
   simp (disch:=omega) only [El4,hc,hil,N8,xe,EVP,EV,simprocAttr]
  ·simp (disch:=omega) only [El4,G3,N8,xe,EVP,EV,simprocAttr];simp [Out.goes]
 simp (disch:=omega) only [El4,key,N8,xe,EVP,EV,simprocAttr]
 try simp
theorem Yl (x:SetR) (g:List SetR) (c:Rec) (s:List Rec) (i:Nat) (p0 p2 p3:PV) (d:List Dat) (N:Nat) (hc:s[i]? =some c) (hg:g.getLast? =some x) (hl:g.length≤1000000) (hd:d.length≤1000000) (hi:i≤1000000) (hxd:x.data=d):
  Ry.ev S N [p0,Al s,p2,p3, .i .i64 (i:Int),C4 g,Dm d, .i .i64 (g.length:Int)]=some (.yld 1 [C4 (g.dropLast++[⟨x.name,x.typ,if c.ttl<x.ttl then c.ttl else x.ttl,d++[c.data]⟩]),Dm (d++[c.data]), .i .i64 ((i+1:Nat):Int)]):=by
 have hpos:0<g.length:=by cases g<;>simp at hg ⊢
 have e1:((g.length:Int) - 1).toNat=g.length - 1:=by omega
 have hx:g[((g.length:Int) - 1).toNat]? =some x:=by rw [e1,←Gb];exact hg
 have hw:IntKind.i64.wrap ((g.length:Int) - 1)=(g.length:Int) - 1:=w64 (by omega) (by omega);have s2:∀u:Int,Ld 4 0 [.s x.name, .i .i64 x.typ, .i .i64 u,Dm (d++[c.data])] (C4 g) (.i .i64 ((g.length:Int) - 1))=some (C4 (g.dropLast++[⟨x.name,x.typ,u,d++[c.data]⟩])):=fun u=>by rw [Sv (x:=x) (y:=⟨x.name,x.typ,u,d++[c.data]⟩) (by omega) hx rfl,e1,Vk hg]
 by_cases ht:c.ttl<x.ttl
 ·rw [if_pos ht];simp (disch:=omega) only [Uh,hc,hx,hw,ht,s2,N8,xe,EVP,EV,simprocAttr]
  try rfl
 ·rw [if_neg ht];simp (disch:=omega) only [Uh,hc,hx,hw,ht,s2,N8,xe,EVP,EV,simprocAttr]
  try rfl
theorem Dj3 (l:List Rec) (hw:∀r∈l,r.wf) (hl:l.length≤100000):S zw 1 [Al l]=some [C4 (setsR l)]:=by
 have hs:=Dj0 l hw (by omega);have hsl:(Hq l).length≤1000000:=by have:=Sk l;omega
 generalize hsd:Hq l=s at*;obtain ⟨N,hN⟩:∃N,N=s.length+1:=⟨_,rfl⟩;refine Hd5 (N:=N) rfl ?_;have key:Dy1.ev S N [Al l,Al s]=some (.yld 0 [C4 (s.foldl addS []),Dm (Gl (s.foldl addS []))]):=by
  refine E2 s (fun i (g:List SetR)=>[C4 g,Dm (Gl g), .i .i64 (i:Int)]) (fun i g r=> .yld 0 [C4 (r.foldl addS g),Dm (Gl (r.foldl addS g))]) (fun i g=>SetsIn g i) [] rfl ⟨Af _,fun x hx=>by cases hx⟩ (by omega) (fun i g c r hd hi hc hI=> ?_) (fun g hI=> ?_)
  ·left;refine ⟨addS g c,?_,bw hI c,rfl⟩;have hgl:=hI.len;have hilt:(i:Int)<(s.length:Int):=by omega
   cases hg:g.getLast? with
   |none=>
    have hg0:g=[]:=List.getLast?_eq_none_iff.1 hg;subst hg0;have k:=Yl ⟨c.name,c.typ,c.ttl,[]⟩ [⟨c.name,c.typ,c.ttl,[]⟩] c s i (Al l) (C4 []) (Dm (Gl [])) [] N hc rfl (by simp) (by simp) (by omega) rfl;have e1:(([⟨c.name,c.typ,c.ttl,[]⟩]:List SetR).length:Int)=1:=rfl;have e2:([⟨c.name,c.typ,c.ttl,[]⟩]:List SetR).dropLast++[⟨c.name,c.typ,if c.ttl<c.ttl then c.ttl else c.ttl,[]++[c.data]⟩]=addS [] c:=by simp [addS]
    have e3:([]++[c.data]:List Dat)=Gl (addS [] c):=by simp [addS,Gl]
    rw [e1,e2,e3] at k;generalize addS [] c=G at*;generalize hC7:Ry=C7 at*;simp (disch:=omega) only [Uh,hC7,hc,hilt,k,N8,xe,EVP,EV,simprocAttr]
   |some x=>
    have hpos:0<g.length:=by cases g<;>simp at hg ⊢
    have hx:g[((g.length:Int) - 1).toNat]? =some x:=by rw [show ((g.length:Int) - 1).toNat=g.length - 1 by omega,←Gb];exact hg
    have hxm:x∈g:=List.mem_of_getLast? hg;have hxd:=hI.each x hxm;have hn0:¬(g.length:Int)=0:=by omega
    have hld:Gl g=x.data:=by simp [Gl,hg]
    by_cases hk:x.name=c.name∧x.typ=c.typ
    ·have k:=Yl x g c s i (Al l) (C4 g) (Dm (Gl g)) x.data N hc hg (by omega) (by omega) (by omega) rfl;have e2:g.dropLast++[⟨x.name,x.typ,if c.ttl<x.ttl then c.ttl else x.ttl,x.data++[c.data]⟩]=addS g c:=by simp [addS,hg,hk]
     have e3:x.data++[c.data]=Gl (addS g c):=by rw [Kk,hg];simp [hk]
     rw [e2,e3,hld] at k;rw [hld];generalize addS g c=G at*;generalize hC7:Ry=C7 at*;simp (disch:=omega) only [Uh,hC7,hc,hilt,hx,hn0,hk.1,hk.2,k,N8,xe,EVP,EV,simprocAttr]
    ·have k:=Yl ⟨c.name,c.typ,c.ttl,[]⟩ (g++[⟨c.name,c.typ,c.ttl,[]⟩]) c s i (Al l) (C4 g) (Dm (Gl g)) [] N hc (by simp) (by simp;omega) (by simp) (by omega) rfl;have e1:((g++[⟨c.name,c.typ,c.ttl,[]⟩]:List SetR).length:Int)=(g.length:Int)+1:=by simp
     have e2:(g++[⟨c.name,c.typ,c.ttl,[]⟩]:List SetR).dropLast++[⟨c.name,c.typ,if c.ttl<c.ttl then c.ttl else c.ttl,[]++[c.data]⟩]=addS g c:=by simp [addS,hg,hk]
     have e3:([]++[c.data]:List Dat)=Gl (addS g c):=by rw [Kk,hg];simp [hk]
     rw [e1,e2,e3,hld] at k;rw [hld];generalize addS g c=G at*;generalize hC7:Ry=C7 at*;by_cases h1:x.name=c.name
     ·have h2:¬x.typ=c.typ:=fun h=>hk ⟨h1,h⟩;simp (disch:=omega) only [Uh,hC7,hc,hilt,hx,hn0,h1,h2,k,N8,xe,EVP,EV,simprocAttr]
     ·simp (disch:=omega) only [Uh,hC7,hc,hilt,hx,hn0,h1,k,N8,xe,EVP,EV,simprocAttr]
  ·simp (disch:=omega) only [Uh,G3,N8,xe,EVP,EV,simprocAttr];simp [Out.goes]
 simp (disch:=omega) only [Uh,hs,key,N8,xe,EVP,EV,simprocAttr]
 try simp [setsR,Cc8,hsd]
end Go.X.G
/- Unions, differences, types of names: the program's and the reference's. -/
namespace Go.X.G
open Go Go.X
end Go.X.G
/- Three records as one argument. -/
namespace Go.X
open Go
end Go.X
/- The order of records is total: the law RrsetTotal. -/
namespace Go.X.G
open Go Go.X
end Go.X.G
/- Types of names; the laws RrsetCompares, RrsetSorts, RrsetSets, RrsetPairs. -/
namespace Go.X
open Go
def Fh (l:List Int):PV:= .l 1 (l.map fun t=> .i .i64 t)
theorem J0:PV.l 1 []=Fh []:=rfl
theorem Mn (t:Int):PV.l 1 [.i .i64 t]=Fh [t]:=rfl
theorem Ms (t:Int):Jx 1 [.i .i64 t]=some (Fh [t]):=rfl
theorem Kj (l:List Int):Fy (Fh l)=some (.i .i64 (l.length:Int)):=by simp [Fh,Fy]
theorem Kq (l:List Int) (k:IntKind) (z:Int) (h:0≤z):H8 1 (Fh l) (.i k z)=(l[z.toNat]?).map fun t=> .i .i64 t:=by simp [Fh,Wr _ _ _ _ h]
theorem Iq (l:List Int) (x:Int) (h:l.length+1≤1073741824):Hc 1 (Fh l) (Fh [x])=some (Fh (l++[x])):=by have:=Pt 1 (l.map fun t=> .i .i64 t) [.i .i64 x] (by simpa using h);simpa [Fh] using this
end Go.X
namespace Go.X.G
open Go Go.X
def shO (t:Int):Int:=IntKind.u64.wrap (1*2 ^ (min t.toNat IntKind.u64.bits))
def bitO (g t:Int):Int:=IntKind.u64.wrap ((BitVec.ofInt IntKind.u64.bits g|||BitVec.ofInt IntKind.u64.bits (shO t)).toNat:Int)
theorem Iq7 (t:Int) (h:0≤t):X.bin .shl (.i .u64 1) (.i .i64 t)=some (.i .u64 (shO t)):=by rw [Bp3,if_neg (by omega)];rfl
theorem Iq6 (t:Int) (h:0≤t):X.bin .shl (.i .u64 1) (.i .u64 t)=some (.i .u64 (shO t)):=by rw [Bp3,if_neg (by omega)];rfl
theorem orO (g t:Int):X.bin .or (.i .u64 g) (.i .u64 (shO t))=some (.i .u64 (bitO g t)):=by rw [Gn7];rfl
theorem Ak7 {t:Int} (h:knw t=true):0≤t∧t≤255:=by rcases knw_cases h with rfl|rfl|rfl|rfl|rfl|rfl|rfl|rfl|rfl|rfl|rfl|rfl|rfl|rfl<;>decide
theorem Fg9 (l:List Int) (hk:∀t∈l,knw t=true) (hl:l.length≤1000000):S mr 1 [Fh l]=some [.i .u64 (l.foldl bitO 0), .b true]:=by
 refine Hb6 (N:=l.length+1) rfl ?_;have key:Dx1.ev S (l.length+1) [Fh l]=some (.yld 0 [.i .u64 (l.foldl bitO 0)]):=by
  refine E2 (N:=l.length+1) l (fun i (g:Int)=>[.i .u64 g, .i .i64 (i:Int)]) (fun i g r=> .yld 0 [.i .u64 (r.foldl bitO g)]) (fun _ _=>True) 0 rfl trivial (Gr _) (fun i g c r hd hi hc _=> ?_) (fun g _=> ?_)
  ·left;have hil:(i:Int)<(l.length:Int):=by omega
   have hc1:=hk c (By hc);have k:=Cz c;rw [hc1] at k;refine ⟨bitO g c,?_,trivial,rfl⟩;have e1:=Iq7 c (Ak7 hc1).1;have e2:=orO g c;generalize shO c=sc at*;generalize bitO g c=bc at*;simp (disch:=omega) only [El1,hc,hil,k,e1,e2,Kq,Kj,xe,EVP,EV,simprocAttr]
  ·simp (disch:=omega) only [El1,G3,Kq,Kj,xe,EVP,EV,simprocAttr];simp [Out.goes]
 simp (disch:=omega) only [El1,key,Kq,Kj,xe,EVP,EV,simprocAttr]
theorem Fh0 (l:List Int) (hk:∀t∈l,knw t=true) (hl:l.length≤1000000):S y1 1 [Fh l]=some [.i .u64 (l.foldl bitO 0), .b true]:=by
 refine Hb5 (N:=l.length+1) rfl ?_;have key:Dx0.ev S (l.length+1) [Fh l]=some (.yld 0 [.i .u64 (l.foldl bitO 0)]):=by
  refine E2 (N:=l.length+1) l (fun i (g:Int)=>[.i .u64 g, .i .i64 (i:Int)]) (fun i g r=> .yld 0 [.i .u64 (r.foldl bitO g)]) (fun _ _=>True) 0 rfl trivial (Gr _) (fun i g c r hd hi hc _=> ?_) (fun g _=> ?_)
  ·left;have hil:(i:Int)<(l.length:Int):=by omega
   have hc1:=hk c (By hc);have k:=B4 c;rw [hc1] at k;have hr:=Ak7 hc1;refine ⟨bitO g c,?_,trivial,rfl⟩;have e1:=Iq6 c hr.1;have e2:=orO g c;have e3:IntKind.u64.wrap c=c:=Gr2 (by omega) (by omega);generalize shO c=sc at*;generalize bitO g c=bc at*;simp (disch:=omega) only [El0,hc,hil,k,e1,e2,e3,Kq,Kj,xe,EVP,EV,simprocAttr]
  ·simp (disch:=omega) only [El0,G3,Kq,Kj,xe,EVP,EV,simprocAttr];simp [Out.goes]
 simp (disch:=omega) only [El0,key,Kq,Kj,xe,EVP,EV,simprocAttr]
def typesR (l:List Rec) (n:List UInt8):List Int:=(l.filter fun r=>decide (r.name=n) && knw r.typ).map Rec.typ
theorem Qd (l:List Rec) (n:List UInt8):∀t∈typesR l n,knw t=true:=fun t ht=>by simp only [typesR,Rl,Ef,Ax] at ht;obtain ⟨r,hr,rfl⟩:=ht;exact hr.2.2
theorem Bt4 (l:List Rec) (n:List UInt8) (hl:l.length≤1000000):S m9 2 [Al l, .s n]=some [.i .u64 ((typesR l n).foldl bitO 0)]:=by
 refine Hc9 (N:=l.length+1) rfl ?_;have hs:=Fg9 (typesR l n) (Qd l n) (by have:=List.length_filter_le (fun r:Rec=>decide (r.name=n) && knw r.typ) l;simp only [typesR,K4];omega);have key:Dx5.ev S (l.length+1) [Al l, .s n]=some (.yld 0 [Fh ([]++typesR l n)]):=by
  refine E2 (N:=l.length+1) l (fun i (g:List Int)=>[Fh g, .i .i64 (i:Int)]) (fun i g r=> .yld 0 [Fh (g++typesR r n)]) (fun i g=>g.length≤i) [] rfl (Cv _) (Gr _) (fun i g c r hd hi hc hI=> ?_) (fun g hI=> ?_)
  ·left;have hil:(i:Int)<(l.length:Int):=by omega
   have k:=Cz c.typ;by_cases h1:c.name=n
   ·rcases Ad (knw c.typ) with h2|h2
    ·rw [h2] at k;refine ⟨g++[c.typ],?_,by simp;omega,by simp [typesR,h1,h2]⟩;simp (disch:=omega) only [p9,hc,hil,h1,k,J0,Mn,Ms,Iq,xe,EVP,EV,simprocAttr]
    ·rw [h2] at k;refine ⟨g,?_,by omega,by simp [typesR,h2]⟩;simp (disch:=omega) only [p9,hc,hil,h1,k,J0,Mn,Ms,Iq,xe,EVP,EV,simprocAttr]
   ·refine ⟨g,?_,by omega,by simp [typesR,h1]⟩;simp (disch:=omega) only [p9,hc,hil,h1,J0,Mn,Ms,Iq,xe,EVP,EV,simprocAttr]
  ·simp (disch:=omega) only [p9,G3,xe,EVP,EV,simprocAttr];simp [Out.goes,typesR]
 rw [C0] at key;generalize (typesR l n).foldl bitO 0=v at*;simp (disch:=omega) only [p9,hs,key,xe,EVP,EV,simprocAttr]
theorem Bt5 (l:List Rec) (n:List UInt8) (hl:l.length≤1000000):S y5 2 [Al l, .s n]=some [.i .u64 ((typesR l n).foldl bitO 0)]:=by
 refine Hc8 (N:=l.length+1) rfl ?_;have hs:=Fh0 (typesR l n) (Qd l n) (by have:=List.length_filter_le (fun r:Rec=>decide (r.name=n) && knw r.typ) l;simp only [typesR,K4];omega);have key:Dx4.ev S (l.length+1) [Al l, .s n]=some (.yld 0 [Fh ([]++typesR l n)]):=by
  refine E2 (N:=l.length+1) l (fun i (g:List Int)=>[Fh g, .i .i64 (i:Int)]) (fun i g r=> .yld 0 [Fh (g++typesR r n)]) (fun i g=>g.length≤i) [] rfl (Cv _) (Gr _) (fun i g c r hd hi hc hI=> ?_) (fun g hI=> ?_)
  ·left;have hil:(i:Int)<(l.length:Int):=by omega
   have k:=B4 c.typ;by_cases h1:c.name=n
   ·rcases Ad (knw c.typ) with h2|h2
    ·rw [h2] at k;refine ⟨g++[c.typ],?_,by simp;omega,by simp [typesR,h1,h2]⟩;simp (disch:=omega) only [p8,hc,hil,h1,k,J0,Mn,Ms,Iq,xe,EVP,EV,simprocAttr]
    ·rw [h2] at k;refine ⟨g,?_,by omega,by simp [typesR,h2]⟩;simp (disch:=omega) only [p8,hc,hil,h1,k,J0,Mn,Ms,Iq,xe,EVP,EV,simprocAttr]
   ·refine ⟨g,?_,by omega,by simp [typesR,h1]⟩;simp (disch:=omega) only [p8,hc,hil,h1,J0,Mn,Ms,Iq,xe,EVP,EV,simprocAttr]
  ·simp (disch:=omega) only [p8,G3,xe,EVP,EV,simprocAttr];simp [Out.goes,typesR]
 rw [C0] at key;generalize (typesR l n).foldl bitO 0=v at*;simp (disch:=omega) only [p8,hs,key,xe,EVP,EV,simprocAttr]
theorem bd (gs:List SetR) (hd:∀x∈gs,x.data.length≤1000000) (N:Nat) (hN:gs.length<N) (hl:gs.length≤1000000) (p0 p1 p2 p3:PV):
  Gx0.ev S N [p0,p1,p2,p3,C4 gs,C4 gs]=some (.yld 0 []):=by
 refine F0 gs (fun i=>[.i .i64 (i:Int)]) (fun i r=> .yld 0 []) rfl hN (fun i c r hd' hi hc=> ?_) ?_
 ·left;refine ⟨?_,rfl⟩;have hil:(i:Int)<(gs.length:Int):=by omega
  have hcd:=hd c (By hc);have k1:=bf c hcd;have k2:=bg c hcd;have k3:=Xp (unsetR c) (unsetR c) (by simp [unsetR];omega);rw [decide_eq_true rfl] at k3;generalize unsetR c=u at*;simp (disch:=omega) only [Hk3,hc,hil,k1,k2,k3,N8,xe,EVP,EV,simprocAttr]
  try simp
 ·simp (disch:=omega) only [Hk3,G3,N8,xe,EVP,EV,simprocAttr];simp [Out.goes]
theorem ez:∀(l:List Rec) (g:List SetR) (i:Nat),SetsIn g i→SetsIn (l.foldl addS g) (i+l.length)
 |[],g,i,h=>by simpa using h
 |c::l,g,i,h=>by have:=ez l (addS g c) (i+1) (bw h c);rw [show i+(c::l).length=i+1+l.length by simp only [A9];omega];exact this
theorem law_RrsetSets (l0:List Rec) (n0:List UInt8) (t:Int) (hl0:Vb l0) (hn:d8 n0) (ht:X0 t):S Gw4 3 [Al l0, .s n0, .i .i64 t]=some [.b true]:=by
 obtain ⟨N,hN⟩:∃N:Nat,N=1002:=⟨_,rfl⟩;refine Iq9 (N:=N) rfl ?_;have k0:=Gc7 l0 40 hl0 (by omega);have hlw:=Fq4 hl0.2 40;have hll:=Cp9 l0 40;have hnl:n0.length≤9223372036854775807:=hn;have hs:=U7 n0 hn;have hnn:=Ds5 n0;simp only [show ((40:Nat):Int)=40 from rfl] at k0;generalize fewR l0 40=l at*;generalize c3 n0=n at*;have k1:=Dj2 l hlw (by omega);have k2:=Dj3 l hlw (by omega);have hin:SetsIn (setsR l) (Hq l).length:=by simpa [setsR,Cc8] using ez (Hq l) [] 0 ⟨Af _,fun x hx=>by cases hx⟩
 have hsl:=Sk l;have k3:=bd (setsR l) (fun x hx=>by have:=hin.each x hx;omega) N (by have:=hin.len;omega) (by have:=hin.len;omega) (Al l0) (.s n0) (.i .i64 t) (Al l);have k4:=Dj4 l n t (by omega);have k5:=Dj5 l n t (by omega);have k6:=Xp (findR l n t) (findR l n t) (by have:(findR l n t).length≤l.length:=List.length_filter_le _ _;omega);rw [decide_eq_true rfl] at k6;have k7:=Bt4 l n (by omega);have k8:=Bt5 l n (by omega);have aw:=o4;generalize setsR l=gs at*;generalize findR l n t=fo at*;generalize (typesR l n).foldl bitO 0=v at*;simp (disch:=omega) only [Hk3,k0,Gw6,hs,k1,k2,k3,k4,k5,k6,k7,k8,aw,N8,xe,EVP,EV,simprocAttr]
end Go.X.G
