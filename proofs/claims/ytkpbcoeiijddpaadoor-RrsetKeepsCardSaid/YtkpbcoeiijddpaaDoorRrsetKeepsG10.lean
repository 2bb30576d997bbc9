/- Merging in place: the library's function, the J6. -/
import Derived.Test.YtkpbcoeiijddpaaDoorRrsetKeepsG9
import Derived.Test.YtkpbcoeiijddpaaDoorRrsetKeepsG7
import Derived.Test.YtkpbcoeiijddpaaDoorRrsetKeepsG6
import Derived.Test.YtkpbcoeiijddpaaDoorRrsetKeepsG8
open Bool renaming and_eq_true→Ax,eq_false_or_eq_true→Ad,false_or→Ux
open Int renaming toNat_natCast→Fz,lt_irrefl→Uv
open List renaming getElem?_eq_some_iff→Aq,getElem?_eq_getElem→Az,length_append→Ac,append_assoc→An,length_take→Ar,getElem?_append_right→As,getElem?_append_left→A4,mem_cons→A7,getElem?_drop→A8,length_cons→A9,eq_nil_of_length_eq_zero→Bq,length_nil→By,pairwise_cons→Bd,length_pos_iff→Bf,mem_of_getElem?→Bg,length_drop→Bl,take_append_drop→Bp,mem_append_right→Br,mem_append→Cj,take_of_length_le→Ch,nil_append→Cr,append_nil→Dn,mem_of_mem_take→D7,mem_filter→Ek,take_length→Ey,take_add_one→El,drop_drop→Ep,getElem_mem→E5,drop_zero→Fy,length_set→F0,pairwise_append→Gf,mem_of_mem_drop→Gg,take_take→dp,getElem?_set_ne→dr,mem_map→yq,length_map→Ej1
open Nat renaming le_refl→Ah,mul_le_mul_right→Bj,zero_le→C4,le_trans→C9,add_zero→Dv,min_eq_left→Jt,add_sub_cancel→Eq2
set_option maxHeartbeats 1000000
set_option linter.unusedVariables false
set_option linter.unusedSimpArgs false
namespace Go.X.G
open Go Go.X
section
variable {g:Nat} {caps:List PV} {c:Rec→Rec→Int} {P:Rec→Prop}
theorem Ey4 (hC:Cmp g caps c P) (X A B Y:List Rec) (s:List Rec) (hsd:s=X++(A++(B++Y))) (a m b mid:Int) (h i0 j0:Nat) (ha:a=X.length) (hm:m=a+A.length) (hb:b=m+B.length) (hM:(a+b) / 2=mid) (hmid:mid=a+h)
  (h1:i0≤j0) (h2:j0≤A.length) (h3:j0≤h) (h4:h≤i0+B.length) (hs:s.length≤1000000) (hP:∀y∈s,P y) (N:Nat) (hN:A.length<N):
  ∃i:Nat,An5.ev S N [Al s, .i .i64 a, .i .i64 m, .i .i64 b, .f g caps, .i .i64 (a+i0), .i .i64 (a+j0)]=some (.yld 0 [.i .i64 (a+i)])∧i0≤i∧i≤j0∧
   (∀x y,i≠i0→A[i - 1]? =some x→B[h - i]? =some y→¬c y x<0)∧∀x y,i≠j0→A[i]? =some x→B[h - 1 - i]? =some y→c y x<0:=by
 have hl:s.length=X.length+A.length+B.length+Y.length:=by rw [hsd];simp;omega
 have hA:∀k y,A[k]? =some y→s[X.length+k]? =some y:=fun k y hk=>by have:=(Aq.1 hk).1;rw [hsd,As (by omega),show X.length+k - X.length=k by omega,A4 this,hk]
 have hB:∀k y,B[k]? =some y→s[X.length+A.length+k]? =some y:=fun k y hk=>by have:=(Aq.1 hk).1;rw [hsd,As (by omega),As (by omega),show X.length+A.length+k - X.length - A.length=k by omega,A4 this,hk]
 have key:=Gv (fn:=S) (N:=N) (η:=[Al s, .i .i64 a, .i .i64 m, .i .i64 b, .f g caps, .i .i64 (a+i0), .i .i64 (a+j0)]) (id:=1) (init:=[.v 5, .v 6]) (body:=wq) (α:=Nat×Nat)
  (fun w=>[.i .i64 (a+w.1), .i .i64 (a+w.2)])
  (fun o=>∃i:Nat,o= .yld 0 [.i .i64 (a+i)]∧i0≤i∧i≤j0∧(∀x y,i≠i0→A[i - 1]? =some x→B[h - i]? =some y→¬c y x<0)∧∀x y,i≠j0→A[i]? =some x→B[h - 1 - i]? =some y→c y x<0)
  (fun w=>w.1≤w.2∧i0≤w.1∧w.2≤j0∧(∀x y,w.1≠i0→A[w.1 - 1]? =some x→B[h - w.1]? =some y→¬c y x<0)∧∀x y,w.2≠j0→A[w.2]? =some x→B[h - 1 - w.2]? =some y→c y x<0)
  (fun w=>w.2 - w.1) (i0,j0) ?_ ?_ (by simp only;omega) ?_
 ·obtain ⟨o,h1,p,rfl,h2⟩:=key;exact ⟨p,h1,h2⟩
 ·simp (disch:=omega) only [EVT,EVM,EVC,xe,EVP,EV,simprocAttr]
 ·exact ⟨h1,Ah _,Ah _,fun x y h0=>absurd rfl h0,fun x y h0=>absurd rfl h0⟩
 ·rintro ⟨p,q⟩ ⟨g1,g2,g3,g4,g5⟩;simp only at g1 g2 g3 g4 g5;by_cases hpq:p<q
  ·left;have hk:(p+q) / 2<A.length:=by omega
   have hx:=Az hk;have hk2:h - 1 - (p+q) / 2<B.length:=by omega
   have hy:=Az hk2;generalize A[(p+q) / 2]=x at hx;generalize B[h - 1 - (p+q) / 2]=y at hy;have hsx:=hA _ x hx;have hsy:=hB _ y hy;have hPx:P x:=hP x (Bg hsx);have hPy:P y:=hP y (Bg hsy);have hc:=hC.ok y x hPy hPx;have hlt:a+(p:Int)<a+(q:Int):=by omega
   have e1:(a+(p:Int)+(a+(q:Int))) / 2=a+(((p+q) / 2:Nat):Int):=by omega
   have e2:(a+(((p+q) / 2:Nat):Int)).toNat=X.length+(p+q) / 2:=by omega
   have e3:(mid+m - 1 - (a+(((p+q) / 2:Nat):Int))).toNat=X.length+A.length+(h - 1 - (p+q) / 2):=by omega
   have hkh:(p+q) / 2<h:=by omega
   by_cases hcy:c y x<0
   ·refine ⟨(p,(p+q) / 2),?_,⟨by simp only;omega,g2,by simp only;omega,g4,fun u v _ hu hv=> ?_⟩,by simp only;omega⟩
    ·simp only;generalize (p+q) / 2=k at*;simp (disch:=omega) only [F1,hlt,Dp,hM,e1,e2,e3,hsy,hsx,hc,hcy,EVT,EVM,EVC,xe,EVP,EV,simprocAttr]
    ·simp only at hu hv;rw [hx] at hu;injection hu with hu;subst hu;rw [hy] at hv;injection hv with hv;subst hv;exact hcy
   ·refine ⟨((p+q) / 2+1,q),?_,⟨by simp only;omega,by simp only;omega,g3,fun u v _ hu hv=> ?_,g5⟩,by simp only;omega⟩
    ·have e4:a+(((p+q) / 2+1:Nat):Int)=a+(((p+q) / 2:Nat):Int)+1:=by omega
     simp only [e4];generalize (p+q) / 2=k at*;simp (disch:=omega) only [F1,hlt,Dp,hM,e1,e2,e3,hsy,hsx,hc,hcy,EVT,EVM,EVC,xe,EVP,EV,simprocAttr]
    ·simp only [Eq2] at hu hv;rw [show h - ((p+q) / 2+1)=h - 1 - (p+q) / 2 by omega] at hv;rw [hx] at hu;injection hu with hu;subst hu;rw [hy] at hv;injection hv with hv;subst hv;exact hcy
  ·right;have e:p=q:=by omega
   subst e;have hlt:¬a+(p:Int)<a+(p:Int):=by omega
   refine ⟨.yld 0 [.i .i64 (a+p)],?_,rfl,p,rfl,g2,g3,g4,g5⟩;simp (disch:=omega) only [F1,hlt,EVT,EVM,EVC,xe,EVP,EV,simprocAttr]
theorem Cw3 {le:Rec→Rec→Bool} (ht:TP le) {B:List Rec} (hB:B.Pairwise fun x y=>le x y=true) (x:Rec) (p:Nat) (hp:p≤B.length) (h1:∀y,p≠0→B[p - 1]? =some y→le x y=false) (h2:∀y,B[p]? =some y→le x y=true):mrg le [x] B=B.take p++x::B.drop p:=by have e1:=Nw ht (A:=[x]) (B:=B) (by simp) hB 0 p (fun u v h=>absurd rfl h) (fun u v h0 hu hv=>by simp at hu;subst hu;exact h1 v h0 hv) (by simp) hp;have e2:=Nw ht (A:=[x]) (B:=B.drop p) (by simp) (hB.sublist (List.drop_sublist p B)) 1 0 (fun u v _ hu hv=>by simp at hu;subst hu;rw [A8] at hv;exact h2 v hv) (fun u v h=>absurd rfl h) (by simp) (by simp);rw [e1];simp only [List.take_zero,Fy,List.take_succ_cons,List.drop_succ_cons,Ig] at e2 ⊢;rw [e2];simp [mrg]
theorem Cw2 {le:Rec→Rec→Bool} (ht:TP le) {A:List Rec} (hA:A.Pairwise fun x y=>le x y=true) (x:Rec) (p:Nat) (hp:p≤A.length) (h1:∀y,p≠0→A[p - 1]? =some y→le y x=true) (h2:∀y,A[p]? =some y→le y x=false):mrg le A [x]=A.take p++x::A.drop p:=by have e1:=Nw ht (A:=A) (B:=[x]) hA (by simp) p 0 (fun u v h0 hu hv=>by simp at hv;subst hv;exact h1 u h0 hu) (fun u v h=>absurd rfl h) hp (by simp);have e2:=Nw ht (A:=A.drop p) (B:=[x]) (hA.sublist (List.drop_sublist p A)) (by simp) 0 1 (fun u v h=>absurd rfl h) (fun u v _ hu hv=>by simp at hv;subst hv;rw [A8] at hu;exact h2 u hu) (by simp) (by simp);rw [e1];simp only [List.take_zero,Fy,List.take_succ_cons,List.drop_succ_cons,Ig] at e2 ⊢;rw [e2];simp [mrg]
set_option maxHeartbeats 2000000 in
theorem Hh (hC:Cmp g caps c P) (ht:TP (leC c)):∀(n:Nat) (X A B Y:List Rec) (a m b:Int),A.length+B.length≤n→A≠[]→B≠[]→(A.Pairwise fun x y=>leC c x y=true)→(B.Pairwise fun x y=>leC c x y=true)→
  a=X.length→m=a+A.length→b=m+B.length→(X++A++B++Y).length≤1000000→(∀y∈X++A++B++Y,P y)→
  S S7 1048581 [Al (X++A++B++Y), .i .i64 a, .i .i64 m, .i .i64 b, .f g caps]=some [Al (X++mrg (leC c) A B++Y)]
 |0,X,A,B,Y,a,m,b,hn,hA,_,_,_,_,_,_,_,_=>absurd (Bq (by omega)) hA
 |n+1,X,A,B,Y,a,m,b,hn,hA,hB,sA,sB,ha,hm,hb,hs,hP=>by
  have hA':0<A.length:=Bf.2 hA;have hB':0<B.length:=Bf.2 hB;have hs2:=hs;simp only [Ac] at hs2;obtain ⟨N,hN⟩:∃N,N=A.length+B.length+1:=⟨_,rfl⟩;refine Ec6 (N:=N) rfl ?_;by_cases c1:A.length=1
  ·-- one ahead
   obtain ⟨x,rfl⟩:=List.length_eq_one_iff.1 c1;have hsd:X++[x]++B++Y=X++x::(B++Y):=by simp
   obtain ⟨p,k1,k2,k3,k4⟩:=Ey8 hC X B Y x (X++[x]++B++Y) hsd a m b ha (by simpa using hm) hb hs hP N (by omega);have k5:=Ey7 X B Y x (X++[x]++B++Y) hsd a m b .u p ha (by simpa using hm) k2 hs N (by omega) (.i .i64 m) (.i .i64 b) (.f g caps);have e:=Cw3 ht sB x p k2 (fun y h0 hy=>Ac1.2 (k3 y h0 hy)) (fun y hy=>Ac0.2 (k4 y hy));rw [e];have q1:m - a=1:=by simp at hm;omega
   generalize X++[x]++B++Y=s at*;generalize X++(List.take p B++x::List.drop p B)++Y=u at*;simp (disch:=omega) only [F1,q1,k1,k5,EVT,EVM,EVC,xe,EVP,EV,simprocAttr]
  ·by_cases c2:B.length=1
   ·obtain ⟨x,rfl⟩:=List.length_eq_one_iff.1 c2;have hsd:X++A++[x]++Y=X++(A++x::Y):=by simp
    obtain ⟨p,k1,k2,k3,k4⟩:=Ey6 hC X A Y x (X++A++[x]++Y) hsd a m (.i .i64 b) ha hm hs hP N (by omega);have k5:=Ey5 X A Y x (X++A++[x]++Y) hsd a m p ha hm k2 hs N (by omega) (.i .i64 a) (.i .i64 b) (.f g caps);have e:=Cw2 ht sA x p k2 (fun y h0 hy=>Ac0.2 (k3 y h0 hy)) (fun y hy=>Ac1.2 (k4 y hy));rw [e];have q1:¬m - a=1:=by omega
    have q2:b - m=1:=by simp at hb;omega
    generalize X++A++[x]++Y=s at*;generalize X++(List.take p A++x::List.drop p A)++Y=u at*;simp (disch:=omega) only [F1,q1,q2,k1,k5,EVT,EVM,EVC,xe,EVP,EV,simprocAttr]
   ·-- two parts of more
    have q1:¬m - a=1:=by omega
    have q2:¬b - m=1:=by omega
    obtain ⟨h,hh⟩:∃h,h=(A.length+B.length) / 2:=⟨_,rfl⟩;obtain ⟨mid,hM⟩:∃mid,(a+b) / 2=mid:=⟨_,rfl⟩;have hmid:mid=a+h:=by omega
    obtain ⟨i0,j0,hc15,h1,h2,h3,h4,hi0,hj0⟩:∃i0 j0:Nat,Wb.ev S N [Al (X++A++B++Y), .i .i64 a, .i .i64 m, .i .i64 b, .f g caps]=some (.yld 0 [.i .i64 (a+i0), .i .i64 (a+j0)])∧i0≤j0∧j0≤A.length∧j0≤h∧h≤i0+B.length∧(i0=0∨h - i0=B.length)∧(j0=h∨j0=A.length):=by
     by_cases hgt:h<A.length
     ·refine ⟨h - B.length,h,?_,by omega,by omega,by omega,by omega,by omega, .inl rfl⟩;have t1:mid<m:=by omega
      have t2:mid+m - b=a+((h - B.length:Nat):Int):=by omega
      rw [←t2,←hmid];generalize X++A++B++Y=s at*;simp (disch:=omega) only [F1,Dp,hM,t1,EVT,EVM,EVC,xe,EVP,EV,simprocAttr]
     ·refine ⟨0,A.length,?_,by omega,by omega,by omega,by omega, .inl rfl, .inr rfl⟩;have t1:¬mid<m:=by omega
      generalize X++A++B++Y=s at*;simp (disch:=omega) only [F1,Dp,hM,t1,hm,EVT,EVM,EVC,xe,EVP,EV,simprocAttr];simp
    have hsd:X++A++B++Y=X++(A++(B++Y)):=by simp
    obtain ⟨i,k1,k2,k3,k4,k5⟩:=Ey4 hC X A B Y (X++A++B++Y) hsd a m b mid h i0 j0 ha hm hb hM hmid h1 h2 h3 h4 hs hP N (by omega);have cut:=Nw ht sA sB i (h - i) (fun x y h0 hx hy=>Ac0.2 (k4 x y (fun e=>by
      rcases hi0 with q|q
      ·omega
      ·have:=(Aq.1 hy).1;omega) hx hy)) (fun x y h0 hx hy=>Ac1.2 (k5 x y (fun e=>by
      rcases hj0 with q|q
      ·omega
      ·have:=(Aq.1 hx).1;omega) hx (by rw [show h - 1 - i=h - i - 1 by omega];exact hy))) (by omega) (by omega)
    have eA:A.take i++A.drop i=A:=Bp _ _;have eB:B.take (h - i)++B.drop (h - i)=B:=Bp _ _;have lA1:(A.take i).length=i:=by rw [Ar];omega
    have lA2:(A.drop i).length=A.length - i:=Bl;have lB1:(B.take (h - i)).length=h - i:=by rw [Ar];omega
    have lB2:(B.drop (h - i)).length=B.length - (h - i):=Bl;have sA1:=sA.sublist (List.take_sublist i A);have sA2:=sA.sublist (List.drop_sublist i A);have sB1:=sB.sublist (List.take_sublist (h - i) B);have sB2:=sB.sublist (List.drop_sublist (h - i) B);generalize A.take i=A1 at*;generalize A.drop i=A2 at*;generalize B.take (h - i)=B1 at*;generalize B.drop (h - i)=B2 at*;have e0:X++A++B++Y=X++A1++A2++B1++(B2++Y):=by rw [←eA,←eB];simp
    have mem1:∀y,y∈X++A1++B1++(A2++B2++Y)→P y:=fun y hy=>hP y (by rw [e0];simp only [Cj] at hy ⊢;grind);have len1:(X++A1++B1++(A2++B2++Y)).length≤1000000:=by simp only [Ac] at hs2 ⊢;omega
    have lm1:=Nv (leC c) A1 B1;have mem2:∀y,y∈(X++mrg (leC c) A1 B1)++A2++B2++Y→P y:=fun y hy=>mem1 y (by simp only [Cj,mrg_mem] at hy ⊢;grind)
    have len2:((X++mrg (leC c) A1 B1)++A2++B2++Y).length≤1000000:=by simp only [Ac,lm1] at hs2 ⊢;omega
    have s1:(T.blk 0 Wz N2).ev S N [Al (X++A++B++Y), .i .i64 a, .i .i64 m, .i .i64 b, .f g caps, .i .i64 (a+i0), .i .i64 (a+j0), .i .i64 (a+i)]=
      N2.ev S N [Al (X++A++B++Y), .i .i64 a, .i .i64 m, .i .i64 b, .f g caps, .i .i64 (a+i0), .i .i64 (a+j0), .i .i64 (a+i),Al (X++A1++B1++(A2++B2++Y))]:=by
     by_cases t:A2=[]∨B1=[]
     ·have t1:¬(a+(i:Int)<m∧m<mid+m - (a+i)):=by
       rcases t with t|t
       ·rw [t] at lA2;simp at lA2;omega
       ·rw [t] at lB1;simp at lB1;omega
      have e1:X++A++B++Y=X++A1++B1++(A2++B2++Y):=by rw [e0];rcases t with t|t<;>subst t<;>simp
      rw [←e1];generalize X++A++B++Y=s at*;by_cases t2:a+(i:Int)<m
      ·have t3:¬m<mid+m - (a+i):=fun q=>t1 ⟨t2,q⟩;simp (disch:=omega) only [F1,Dp,hM,t2,t3,EVT,EVM,EVC,xe,EVP,EV,simprocAttr]
      ·simp (disch:=omega) only [F1,Dp,hM,t2,EVT,EVM,EVC,xe,EVP,EV,simprocAttr]
     ·have t':A2≠[]∧B1≠[]:=by grind
      have p1:=Bf.2 t'.1;have p2:=Bf.2 t'.2;have hr:=f9 (X++A1) A2 B1 (B2++Y) (a+i) m (mid+m - (a+i)) g caps (by simp only [Ac];omega) (by simp only [Ac];omega) (by simp only [Ac];omega) t'.1 t'.2 (by rw [←e0];exact hs);have t2:a+(i:Int)<m:=by omega
      have t3:m<mid+m - (a+i):=by omega
      rw [←e0] at hr;have e1:X++A1++B1++A2++(B2++Y)=X++A1++B1++(A2++B2++Y):=by simp
      rw [e1] at hr;generalize X++A1++B1++(A2++B2++Y)=s1 at*;generalize X++A++B++Y=s at*;simp (disch:=omega) only [F1,Dp,hM,t2,t3,hr,Ec,L5,EVT,EVM,EVC,xe,EVP,EV,simprocAttr]
    have s2:(T.blk 0 Wy N3).ev S N [Al (X++A++B++Y), .i .i64 a, .i .i64 m, .i .i64 b, .f g caps, .i .i64 (a+i0), .i .i64 (a+j0), .i .i64 (a+i),Al (X++A1++B1++(A2++B2++Y))]=
      N3.ev S N [Al (X++A++B++Y), .i .i64 a, .i .i64 m, .i .i64 b, .f g caps, .i .i64 (a+i0), .i .i64 (a+j0), .i .i64 (a+i),Al (X++A1++B1++(A2++B2++Y)),Al ((X++mrg (leC c) A1 B1)++A2++B2++Y)]:=by
     by_cases t:A1=[]∨B1=[]
     ·have t1:¬(a<a+(i:Int)∧a+(i:Int)<mid):=by
       rcases t with t|t
       ·rw [t] at lA1;simp at lA1;omega
       ·rw [t] at lB1;simp at lB1;omega
      have e1:X++A1++B1++(A2++B2++Y)=(X++mrg (leC c) A1 B1)++A2++B2++Y:=by rcases t with t|t<;>subst t<;>simp [mrg,Ig]
      rw [←e1];generalize X++A1++B1++(A2++B2++Y)=s1 at*;generalize X++A++B++Y=s at*;by_cases t2:a<a+(i:Int)
      ·have t3:¬a+(i:Int)<mid:=fun q=>t1 ⟨t2,q⟩;simp (disch:=omega) only [F1,Dp,hM,t2,t3,EVT,EVM,EVC,xe,EVP,EV,simprocAttr]
      ·simp (disch:=omega) only [F1,Dp,hM,t2,EVT,EVM,EVC,xe,EVP,EV,simprocAttr]
     ·have t':A1≠[]∧B1≠[]:=by grind
      have p1:=Bf.2 t'.1;have p2:=Bf.2 t'.2;have hr:=Hh hC ht n X A1 B1 (A2++B2++Y) a (a+i) mid (by omega) t'.1 t'.2 sA1 sB1 ha (by omega) (by omega) len1 mem1;have t2:a<a+(i:Int):=by omega
      have t3:a+(i:Int)<mid:=by omega
      have e1:X++mrg (leC c) A1 B1++(A2++B2++Y)=(X++mrg (leC c) A1 B1)++A2++B2++Y:=by simp
      rw [e1] at hr;generalize (X++mrg (leC c) A1 B1)++A2++B2++Y=s2 at*;generalize X++A1++B1++(A2++B2++Y)=s1 at*;generalize X++A++B++Y=s at*;simp (disch:=omega) only [F1,Dp,hM,t2,t3,hr,Ec,L5,EVT,EVM,EVC,xe,EVP,EV,simprocAttr]
    have s3:N3.ev S N [Al (X++A++B++Y), .i .i64 a, .i .i64 m, .i .i64 b, .f g caps, .i .i64 (a+i0), .i .i64 (a+j0), .i .i64 (a+i),Al (X++A1++B1++(A2++B2++Y)),Al ((X++mrg (leC c) A1 B1)++A2++B2++Y)]=
      some (.ret [Al (X++mrg (leC c) A B++Y)]):=by
     have e9:X++mrg (leC c) A B++Y=(X++mrg (leC c) A1 B1)++mrg (leC c) A2 B2++Y:=by rw [cut];simp
     rw [e9];by_cases t:A2=[]∨B2=[]
     ·have t1:¬(mid<mid+m - (a+i)∧mid+m - (a+(i:Int))<b):=by
       rcases t with t|t
       ·rw [t] at lA2;simp at lA2;omega
       ·rw [t] at lB2;simp at lB2;omega
      have e1:(X++mrg (leC c) A1 B1)++A2++B2++Y=(X++mrg (leC c) A1 B1)++mrg (leC c) A2 B2++Y:=by rcases t with t|t<;>subst t<;>simp [mrg,Ig]
      rw [←e1];generalize (X++mrg (leC c) A1 B1)++A2++B2++Y=s2 at*;generalize X++A1++B1++(A2++B2++Y)=s1 at*;generalize X++A++B++Y=s at*;by_cases t2:mid<mid+m - (a+(i:Int))
      ·have t3:¬mid+m - (a+(i:Int))<b:=fun q=>t1 ⟨t2,q⟩;simp (disch:=omega) only [F1,Dp,hM,t2,t3,EVT,EVM,EVC,xe,EVP,EV,simprocAttr]
      ·simp (disch:=omega) only [F1,Dp,hM,t2,EVT,EVM,EVC,xe,EVP,EV,simprocAttr]
     ·have t':A2≠[]∧B2≠[]:=by grind
      have p1:=Bf.2 t'.1;have p2:=Bf.2 t'.2;have hr:=Hh hC ht n (X++mrg (leC c) A1 B1) A2 B2 Y mid (mid+m - (a+i)) b (by omega) t'.1 t'.2 sA2 sB2 (by simp only [Ac,lm1];omega) (by omega) (by omega) len2 mem2;have t2:mid<mid+m - (a+(i:Int)):=by omega
      have t3:mid+m - (a+(i:Int))<b:=by omega
      generalize (X++mrg (leC c) A1 B1)++mrg (leC c) A2 B2++Y=s3 at*;generalize (X++mrg (leC c) A1 B1)++A2++B2++Y=s2 at*;generalize X++A1++B1++(A2++B2++Y)=s1 at*;generalize X++A++B++Y=s at*;simp (disch:=omega) only [F1,Dp,hM,t2,t3,hr,Ec,L5,EVT,EVM,EVC,xe,EVP,EV,simprocAttr]
    have f2:N2.ev S N [Al (X++A++B++Y), .i .i64 a, .i .i64 m, .i .i64 b, .f g caps, .i .i64 (a+i0), .i .i64 (a+j0), .i .i64 (a+i),Al (X++A1++B1++(A2++B2++Y))]=some (.ret [Al (X++mrg (leC c) A B++Y)]):=s2.trans s3;have f1:=s1.trans f2;clear s1 s2 s3 f2 mem1 mem2 cut k4 k5;generalize X++mrg (leC c) A B++Y=s3 at*;generalize X++A++B++Y=s at*;simp (disch:=omega) only [F1,q1,q2,Dp,hM,hc15,k1,f1,EVT,EVM,EVC,xe,EVP,EV,simprocAttr]
end
end Go.X.G
/- Stable sorting: the library's functions. -/
namespace Go.X.G
open Go Go.X
section
variable {g:Nat} {caps:List PV} {c:Rec→Rec→Int} {P:Rec→Prop}
theorem Fj3 (hC:Cmp g caps c P) (L L':List Rec) (i:Nat) (x y:Rec) (g0:L[i]? =some y) (g1:L[i+1]? =some x) (sw:(L.set (i+1) y).set i x=L') (k e:Int) (hk:k=i+1) (he:e<k) (he2:0≤e) (hx:P x) (hy:P y) (hlt:c x y<0) (hL:L.length≤1000000) (w0 w2 w4 w5:PV) (N:Nat):
  L2.ev S N [w0, .i .i64 e,w2, .f g caps,w4,w5, .i .i64 k,Al L]=some (.yld 3 [.i .i64 (k - 1),Al L']):=by
 have hi:=(Aq.1 g1).1;have ti0:(k - 1).toNat=i:=by omega
 have ti1:k.toNat=i+1:=by omega
 have g2:(L.set (i+1) y)[i]? =some y:=by rw [dr (by omega)];exact g0
 have hc:=hC.ok x y hx hy;simp (disch:=first|omega|(rw [F0];omega)) only [Rm,G1,I3,he,ti0,ti1,g0,g1,g2,sw,hc,hlt,EVT,EVM,EVC,xe,EVP,EV,simprocAttr]
theorem nr (hC:Cmp g caps c P) (L:List Rec) (i:Nat) (x y:Rec) (g0:L[i]? =some y) (g1:L[i+1]? =some x) (k e:Int) (hk:k=i+1) (he:e<k) (hx:P x) (hy:P y) (hlt:¬c x y<0) (hL:L.length≤1000000) (w0 w2 w4 w5:PV) (N:Nat):
  L2.ev S N [w0, .i .i64 e,w2, .f g caps,w4,w5, .i .i64 k,Al L]=some (.yld 2 [Al L]):=by
 have hi:=(Aq.1 g1).1;have ti0:(k - 1).toNat=i:=by omega
 have ti1:k.toNat=i+1:=by omega
 have hc:=hC.ok x y hx hy;simp (disch:=omega) only [Rm,G1,I3,he,ti0,ti1,g0,g1,hc,hlt,EVT,EVM,EVC,xe,EVP,EV,simprocAttr]
theorem Ac7 (L:List Rec) (k e:Int) (he:¬e<k) (w0 w2 w3 w4 w5:PV) (N:Nat):
  L2.ev S N [w0, .i .i64 e,w2,w3,w4,w5, .i .i64 k,Al L]=some (.yld 2 [Al L]):=by
 simp (disch:=omega) only [Rm,G1,I3,he,EVT,EVM,EVC,xe,EVP,EV,simprocAttr]
theorem Fj2 (hC:Cmp g caps c P) (ht:TP (leC c)) (X R Y:List Rec) (x:Rec) (hR:R.Pairwise fun a b=>leC c a b=true) (hP:∀y∈X++R++x::Y,P y) (hs:(X++R++x::Y).length≤1000000) (a k:Int) (ha:a=X.length) (hk:k=a+R.length) (w0 w2:PV) (N:Nat) (hN:R.length<N):
  ∃R1 R2,R=R1++R2∧(∀y∈R1,leC c y x=true)∧(∀y∈R2,leC c y x=false)∧
   Ap0.ev S N [w0, .i .i64 a,w2, .f g caps, .i .i64 k,Al (X++R++x::Y)]=some (.yld 2 [Al (X++(R1++x::R2)++Y)]):=by
 have hx:P x:=hP x (by simp);have hs2:=hs;simp only [Ac,A9] at hs2;have key:=Gv (fn:=S) (N:=N) (η:=[w0, .i .i64 a,w2, .f g caps, .i .i64 k,Al (X++R++x::Y)]) (id:=3) (init:=[.v 4, .v 5]) (body:=L2) (α:=List Rec×List Rec)
  (fun w=>[.i .i64 (a+w.1.length),Al (X++w.1++x::(w.2++Y))])
  (fun o=>∃R1 R2,R=R1++R2∧(∀y∈R1,leC c y x=true)∧(∀y∈R2,leC c y x=false)∧o= .yld 2 [Al (X++(R1++x::R2)++Y)])
  (fun w=>R=w.1++w.2∧∀y∈w.2,leC c y x=false) (fun w=>w.1.length) (R,[]) ?_ ⟨by simp,by simp⟩ hN ?_
 ·obtain ⟨o,h1,R1,R2,h2,h3,h4,rfl⟩:=key;exact ⟨R1,R2,h2,h3,h4,h1⟩
 ·subst hk;simp only [Cr];generalize X++R++x::Y=s at*;simp (disch:=omega) only [EVT,EVM,EVC,xe,EVP,EV,simprocAttr]
 ·rintro ⟨R1,R2⟩ ⟨h1,h2⟩;simp only at h1 h2;have hlen:=congrArg List.length h1;simp only [Ac] at hlen;rcases List.eq_nil_or_concat R1 with rfl|⟨R0,y,rfl⟩
  ·right;refine ⟨_,Ac7 _ _ a (by simp) _ _ _ _ _ N,rfl,[],R2,h1,by simp,h2,?_⟩;simp
  ·rw [List.concat_eq_append] at*;simp only [Ac,A9,By] at hlen;have hy:P y:=hP y (by rw [h1];simp);have lP:(X++R0).length=X.length+R0.length:=Ac;have g0:=Tf (X++R0) (x::(R2++Y)) y;have g1:=V3 (X++R0) (R2++Y) y x;rw [lP] at g0 g1;have e0:X++(R0++[y])++x::(R2++Y)=X++R0++y::x::(R2++Y):=by simp
   have lL:(X++R0++y::x::(R2++Y)).length≤1000000:=by simp only [Ac,A9];omega
   by_cases hlt:c x y<0
   ·left;have sw0:((X++R0++y::x::(R2++Y)).set (X.length+R0.length+1) y).set (X.length+R0.length) x=X++R0++x::(y::R2++Y):=by rw [←lP,List.set_comm _ _ (by omega)];exact Bt1 (X++R0) (R2++Y) y x
    refine ⟨(R0,y::R2),?_,⟨by simp only;rw [h1];simp,fun w hw=> ?_⟩,by simp⟩
    ·have:=Fj3 hC _ _ (X.length+R0.length) x y g0 g1 sw0 (a+((R0++[y]).length:Nat)) a (by simp;omega) (by simp;omega) (by omega) hx hy hlt lL w0 w2 (.i .i64 k) (Al (X++R++x::Y)) N;have e1:a+((R0++[y]).length:Nat) - 1=a+(R0.length:Int):=by simp;omega
     rw [e1] at this;show L2.ev S N [w0, .i .i64 a,w2, .f g caps, .i .i64 k,Al (X++R++x::Y), .i .i64 (a+((R0++[y]).length:Nat)),Al (X++(R0++[y])++x::(R2++Y))]=_;rw [e0];exact this
    ·rcases A7.1 hw with rfl|hw
     ·exact Ac1.2 hlt
     ·exact h2 w hw
   ·right;have hle:leC c y x=true:=Ac0.2 hlt;refine ⟨_,?_,rfl,R0++[y],R2,h1,U5 ht (by rw [h1] at hR;exact (Gf.1 hR).1) hle,h2,rfl⟩;have:=nr hC _ (X.length+R0.length) x y g0 g1 (a+((R0++[y]).length:Nat)) a (by simp;omega) (by simp;omega) hx hy hlt lL w0 w2 (.i .i64 k) (Al (X++R++x::Y)) N;show L2.ev S N [w0, .i .i64 a,w2, .f g caps, .i .i64 k,Al (X++R++x::Y), .i .i64 (a+((R0++[y]).length:Nat)),Al (X++(R0++[y])++x::(R2++Y))]=_;rw [e0,this,←e0];simp
theorem O4 (hC:Cmp g caps c P) (ht:TP (leC c)) (X A Y:List Rec) (a b:Int) (ha:a=X.length) (hb:b=a+A.length) (hP:∀y∈X++A++Y,P y) (hs:(X++A++Y).length≤1000000):
  ∃R,Stab (leC c) R A∧R.length=A.length∧S bz 1048580 [Al (X++A++Y), .i .i64 a, .i .i64 b, .f g caps]=some [Al (X++R++Y)]:=by
 have hs2:=hs;simp only [Ac] at hs2;cases A with
 |nil=>
  refine ⟨[],Mx _,rfl,?_⟩;refine Cs4 (N:=2) rfl ?_;simp only [By] at hb;have h1:¬a+1<b:=by omega
  have key:nz.ev S 2 [Al (X++[]++Y), .i .i64 a, .i .i64 b, .f g caps]=some (.yld 0 [Al (X++[]++Y)]):=by
   generalize X++[]++Y=s at*;refine G5 0 (fun _=>[.i .i64 (a+1),Al s]) (fun _=> .yld 0 [Al s]) ?_ (by omega) (fun i hi=>absurd hi (by omega)) ⟨?_,rfl⟩
   ·simp (disch:=omega) only [EVT,EVM,EVC,xe,EVP,EV,simprocAttr]
   ·simp (disch:=omega) only [Rm,G1,I3,h1,EVT,EVM,EVC,xe,EVP,EV,simprocAttr]
  generalize X++[]++Y=s at*;simp (disch:=omega) only [Rm,G1,I3,key,EVT,EVM,EVC,xe,EVP,EV,simprocAttr]
 |cons x0 A=>
  obtain ⟨N,hN⟩:∃N,N=A.length+3:=⟨_,rfl⟩;simp only [A9] at hb hs2;have key:=Gv (fn:=S) (N:=N) (η:=[Al (X++x0::A++Y), .i .i64 a, .i .i64 b, .f g caps]) (id:=1) (init:=[.bin .add (.v 1) (.c (.i .i64 1)), .v 0]) (body:=Yn) (α:=List Rec×List Rec×List Rec)
   (fun w=>[.i .i64 (a+w.1.length),Al (X++w.1++(w.2.2++Y))])
   (fun o=>∃R,Stab (leC c) R (x0::A)∧R.length=(x0::A).length∧o= .yld 0 [Al (X++R++Y)])
   (fun w=>x0::A=w.2.1++w.2.2∧Stab (leC c) w.1 w.2.1∧w.1.length=w.2.1.length) (fun w=>w.2.2.length) ([x0],[x0],A) ?_ ⟨rfl,U3 _ _,rfl⟩ (by simp only;omega) ?_
  ·obtain ⟨o,h1,R,h2,h3,rfl⟩:=key;refine ⟨R,h2,h3,?_⟩;refine Cs4 (N:=N) rfl ?_;have h4:nz.ev S N [Al (X++x0::A++Y), .i .i64 a, .i .i64 b, .f g caps]=_:=h1;clear h1;generalize X++x0::A++Y=s at*;generalize X++R++Y=u at*;simp (disch:=omega) only [Rm,G1,I3,h4,EVT,EVM,EVC,xe,EVP,EV,simprocAttr]
  ·simp only [A9,By];have e:X++[x0]++(A++Y)=X++x0::A++Y:=by simp
   rw [e];have e1:a+((0+1:Nat):Int)=a+1:=by omega
   rw [e1];generalize X++x0::A++Y=s at*;simp (disch:=omega) only [EVT,EVM,EVC,xe,EVP,EV,simprocAttr]
  ·rintro ⟨R,D,Z⟩ ⟨h1,h2,h3⟩;simp only at h1 h2 h3;have hlen:=congrArg List.length h1;simp only [Ac,A9] at hlen;cases Z with
   |nil=>
    right;rw [Dn] at h1;subst h1;refine ⟨_,?_,rfl,R,h2,h3,rfl⟩;have hlt:¬a+(R.length:Int)<b:=by simp only [A9] at h3;omega
    simp only [Cr];generalize X++x0::A++Y=s at*;have hu:(X++R++Y).length≤1000000:=by simp only [Ac];omega
    generalize X++R++Y=u at*;simp (disch:=omega) only [Rm,G1,I3,hlt,EVT,EVM,EVC,xe,EVP,EV,simprocAttr]
   |cons x Z=>
    left;simp only [A9] at hlen;have hmem:∀y∈X++R++x::(Z++Y),P y:=fun y hy=>hP y (by
     rw [h1];have:=h2.mem ht y;simp only [Cj,A7] at hy ⊢
     grind)
    have hlen2:(X++R++x::(Z++Y)).length≤1000000:=by simp only [Ac,A9];omega
    obtain ⟨R1,R2,rfl,k1,k2,k3⟩:=Fj2 hC ht X R (Z++Y) x h2.sorted hmem hlen2 a (a+R.length) ha rfl (Al (X++x0::A++Y)) (.i .i64 b) N (by omega);refine ⟨(R1++x::R2,D++[x],Z),?_,⟨by simp only;rw [h1];simp,Aq2 ht h2 k1 k2,by simp at h3 ⊢;omega⟩,by simp⟩;have e1:a+((R1++x::R2).length:Nat)=a+((R1++R2).length:Nat)+1:=by simp;omega
    have hlt:a+((R1++R2).length:Nat)<b:=by omega
    show Yn.ev S N [Al (X++x0::A++Y), .i .i64 a, .i .i64 b, .f g caps, .i .i64 (a+((R1++R2).length:Nat)),Al (X++(R1++R2)++x::(Z++Y))]=some (.yld 1 [.i .i64 (a+((R1++x::R2).length:Nat)),Al (X++(R1++x::R2)++(Z++Y))]);rw [e1];have hb2:(R1++R2).length≤1000000:=by simp only [Ac] at hlen2 ⊢;omega
    generalize (R1++R2).length=n at*;generalize X++(R1++R2)++x::(Z++Y)=s1 at*;generalize X++(R1++x::R2)++(Z++Y)=s2 at*;generalize X++x0::A++Y=s at*;simp (disch:=omega) only [Rm,G1,I3,hlt,k3,EVT,EVM,EVC,xe,EVP,EV,simprocAttr]
end
end Go.X.G
/- Stable sorting: the J6. -/
namespace Go.X.G
open Go Go.X
theorem T2 {α:Type} {le:α→α→Bool} (ht:TP le) {bs:Nat} {Y LY:List α} (h:Blk le bs Y LY) (hl:Y.length≤2*bs) (hb:bs<Y.length):Stab le (mrg le (Y.take bs) (Y.drop bs)) LY:=by have h1:=h.head;have h2:=(h.tail).all (by rw [Bl];omega);have:=Stab.mrg ht h1 h2;rwa [Bp] at this
theorem Blk.pre {α:Type} {le:α→α→Bool} {bs k:Nat} {Y LY:List α} (h:Blk le bs Y LY):Blk le bs (Y.take (k*bs)) (LY.take (k*bs)):=by
 refine ⟨by simp [h.len],fun j=> ?_⟩;rw [List.drop_take,List.drop_take,dp,dp];by_cases hj:j<k
 ·have e:(j+1)*bs≤k*bs:=Bj _ hj;rw [Nat.succ_mul] at e;rw [Jt (by omega)];exact h.st j
 ·have e:k*bs≤j*bs:=Bj _ (by omega);rw [show k*bs - j*bs=0 by omega,Nat.min_eq_right (by omega),List.take_zero,List.take_zero];exact Mx le
section
variable {g:Nat} {caps:List PV} {c:Rec→Rec→Int} {P:Rec→Prop}
theorem Ey1 (hC:Cmp g caps c P) (ht:TP (leC c)) (l:List Rec) (hP:∀y∈l,P y) (hs:l.length≤1000000) (N:Nat) (hN:l.length+2<N):
  ∃(X LX Y:List Rec) (q:Nat),Ar5.ev S N [Al l, .i .i64 l.length, .f g caps]=some (.yld 0 [.i .i64 X.length,Al (X++Y)])∧l=LX++Y∧X.length=q*20∧Y.length<20∧Blk (leC c) 20 X LX∧∀y∈X++Y,P y:=by
 have key:=Gv (fn:=S) (N:=N) (η:=[Al l, .i .i64 l.length, .f g caps]) (id:=1) (init:=[.c (.i .i64 0), .c (.i .i64 20), .v 0]) (body:=wn) (α:=List Rec×List Rec×List Rec×Nat)
  (fun w=>[.i .i64 (w.1.length:Int), .i .i64 ((w.1.length:Int)+20),Al (w.1++w.2.2.1)])
  (fun o=>∃(X LX Y:List Rec) (q:Nat),o= .yld 0 [.i .i64 X.length,Al (X++Y)]∧l=LX++Y∧X.length=q*20∧Y.length<20∧Blk (leC c) 20 X LX∧∀y∈X++Y,P y)
  (fun w=>l=w.2.1++w.2.2.1∧w.1.length=w.2.2.2*20∧Blk (leC c) 20 w.1 w.2.1∧∀y∈w.1++w.2.2.1,P y) (fun w=>w.2.2.1.length) ([],[],l,0) ?_ ⟨rfl,by simp,Blk.nil _ _,by simpa using hP⟩ (by simp only;omega) ?_
 ·obtain ⟨o,h1,X,LX,Y,q,rfl,h2⟩:=key;exact ⟨X,LX,Y,q,h1,h2⟩
 ·simp (disch:=omega) only [EVT,EVM,EVC,xe,EVP,EV,simprocAttr]
  try simp
 ·rintro ⟨X,LX,Y,q⟩ ⟨h1,h2,h3,h4⟩;simp only at h1 h2 h3 h4;have hlen:=congrArg List.length h1;simp only [Ac] at hlen;have hXL:=h3.len;by_cases hge:20≤Y.length
  ·left;have eY:Y.take 20++Y.drop 20=Y:=Bp _ _;have l1:(Y.take 20).length=20:=by rw [Ar];omega
   have l2:(Y.drop 20).length=Y.length - 20:=Bl;have eXY:X++Y.take 20++Y.drop 20=X++Y:=by rw [An,eY]
   obtain ⟨R,k1,k2,k3⟩:=O4 hC ht X (Y.take 20) (Y.drop 20) (X.length:Int) ((X.length:Int)+20) rfl (by omega) (by rw [eXY];exact h4) (by rw [eXY,Ac];omega);rw [eXY] at k3;refine ⟨(X++R,LX++Y.take 20,Y.drop 20,q+1),?_,⟨by simp only;rw [h1,An,eY],by simp only [Ac];omega,Blk.app h2 h3 (Blk.one k1 k2 (by omega)),fun y hy=>h4 y ?_⟩,by simp only;omega⟩
   ·have e1:((X++R).length:Int)=(X.length:Int)+20:=by simp only [Ac];omega
    have hge':(X.length:Int)+20≤(l.length:Int):=by omega
    simp only;rw [e1];generalize X++R++Y.drop 20=s1 at*;generalize X++Y=s0 at*;simp (disch:=omega) only [Rn,hge',k3,Ec,L5,EVT,EVM,EVC,xe,EVP,EV,simprocAttr]
   ·have:=k1.mem ht y;simp only [Cj] at hy;rcases hy with (hy|hy)|hy
    ·simp [hy]
    ·exact Br _ (D7 (this.1 hy))
    ·exact Br _ (Gg hy)
  ·right;have hge':¬(X.length:Int)+20≤(l.length:Int):=by omega
   refine ⟨.yld 0 [.i .i64 X.length,Al (X++Y)],?_,rfl,X,LX,Y,q,rfl,h1,h2,by omega,h3,h4⟩;simp only;generalize X++Y=s0 at*;simp (disch:=omega) only [Rn,hge',EVT,EVM,EVC,xe,EVP,EV,simprocAttr]
theorem Ey0 (hC:Cmp g caps c P) (ht:TP (leC c)) (l r:List Rec) (bs:Nat) (hbs:0<bs) (hbs2:bs<l.length) (hr:Blk (leC c) bs r l) (hP:∀y∈r,P y) (hs:l.length≤1000000) (w0:PV) (w3 w4 w5:PV) (N:Nat) (hN:l.length+2<N):
  ∃(X LX Y LY:List Rec) (q:Nat),An8.ev S N [w0, .i .i64 l.length, .f g caps,w3,w4,w5, .i .i64 bs,Al r]=some (.yld 2 [.i .i64 X.length,Al (X++Y)])∧l=LX++LY∧X.length=q*(2*bs)∧Y.length<2*bs∧Blk (leC c) (2*bs) X LX∧Blk (leC c) bs Y LY∧∀y∈X++Y,P y:=by
 have key:=Gv (fn:=S) (N:=N) (η:=[w0, .i .i64 l.length, .f g caps,w3,w4,w5, .i .i64 bs,Al r]) (id:=3) (init:=[.c (.i .i64 0), .bin .mul (.c (.i .i64 2)) (.v 6), .v 7]) (body:=ww) (α:=(List Rec×List Rec)×(List Rec×List Rec)×Nat)
  (fun w=>[.i .i64 (w.1.1.length:Int), .i .i64 ((w.1.1.length:Int)+2*bs),Al (w.1.1++w.2.1.1)])
  (fun o=>∃(X LX Y LY:List Rec) (q:Nat),o= .yld 2 [.i .i64 X.length,Al (X++Y)]∧l=LX++LY∧X.length=q*(2*bs)∧Y.length<2*bs∧Blk (leC c) (2*bs) X LX∧Blk (leC c) bs Y LY∧∀y∈X++Y,P y)
  (fun w=>l=w.1.2++w.2.1.2∧w.1.1.length=w.2.2*(2*bs)∧Blk (leC c) (2*bs) w.1.1 w.1.2∧Blk (leC c) bs w.2.1.1 w.2.1.2∧∀y∈w.1.1++w.2.1.1,P y) (fun w=>w.2.1.1.length) (([],[]),(r,l),0) ?_ ⟨rfl,by simp,Blk.nil _ _,hr,by simpa using hP⟩ (by have:=hr.len;simp only;omega) ?_
 ·obtain ⟨o,h1,X,LX,Y,LY,q,rfl,h2⟩:=key;exact ⟨X,LX,Y,LY,q,h1,h2⟩
 ·simp (disch:=omega) only [EVT,EVM,EVC,xe,EVP,EV,simprocAttr];simp
 ·rintro ⟨⟨X,LX⟩,⟨Y,LY⟩,q⟩ ⟨h1,h2,h3,h4,h5⟩;simp only at h1 h2 h3 h4 h5;have hlen:=congrArg List.length h1;simp only [Ac] at hlen;have hXL:=h3.len;have hYL:=h4.len;by_cases hge:2*bs≤Y.length
  ·left;have eY:Y.take (2*bs)++Y.drop (2*bs)=Y:=Bp _ _;have l1:(Y.take (2*bs)).length=2*bs:=by rw [Ar];omega
   have l2:(Y.drop (2*bs)).length=Y.length - 2*bs:=Bl;have hp:=h4.pre (k:=2);have hz:Blk (leC c) bs (Y.drop (2*bs)) (LY.drop (2*bs)):=by have:=h4.tail.tail;rwa [Ep,Ep,show bs+bs=2*bs by omega] at this
   have hst:=T2 ht hp (by omega) (by omega);have sA:((Y.take (2*bs)).take bs).Pairwise fun x y=>leC c x y=true:=hp.head.sorted;have sB:((Y.take (2*bs)).drop bs).Pairwise fun x y=>leC c x y=true:=(hp.tail.all (by rw [Bl];omega)).sorted;have lA:((Y.take (2*bs)).take bs).length=bs:=by rw [Ar];omega
   have lB:((Y.take (2*bs)).drop bs).length=bs:=by rw [Bl];omega
   have eAB:(Y.take (2*bs)).take bs++(Y.take (2*bs)).drop bs=Y.take (2*bs):=Bp _ _;generalize (Y.take (2*bs)).take bs=A at*;generalize (Y.take (2*bs)).drop bs=B at*;have eXY:X++A++B++Y.drop (2*bs)=X++Y:=by rw [An X,eAB,An,eY]
   have hm:=Hh hC ht (A.length+B.length) X A B (Y.drop (2*bs)) (X.length:Int) ((X.length:Int)+bs) ((X.length:Int)+2*bs) (Ah _) (by intro e;rw [e] at lA;simp at lA;omega) (by intro e;rw [e] at lB;simp at lB;omega) sA sB rfl (by omega) (by omega) (by rw [eXY,Ac];omega) (by rw [eXY];exact h5);rw [eXY] at hm;have lM:=Nv (leC c) A B;have eL:LY.take (2*bs)++LY.drop (2*bs)=LY:=Bp _ _;refine ⟨((X++mrg (leC c) A B,LX++LY.take (2*bs)),(Y.drop (2*bs),LY.drop (2*bs)),q+1),?_,⟨by simp only;rw [h1,An,eL],by simp only [Ac];rw [Nat.succ_mul];omega,Blk.app h2 h3 (Blk.one hst (by rw [lM,Ar];omega) (by omega)),hz,fun y hy=>h5 y ?_⟩,by simp only;omega⟩
   ·have e1:((X++mrg (leC c) A B).length:Int)=(X.length:Int)+2*bs:=by simp only [Ac];omega
    have hge':(X.length:Int)+2*(bs:Int)≤(l.length:Int):=by omega
    simp only;rw [e1];generalize X++mrg (leC c) A B++Y.drop (2*bs)=s1 at*;generalize X++Y=s0 at*;simp (disch:=omega) only [Rn,hge',hm,Ec,L5,EVT,EVM,EVC,xe,EVP,EV,simprocAttr]
   ·rw [←eXY];simp only [Cj,mrg_mem] at hy ⊢
    grind
  ·right;have hge':¬(X.length:Int)+2*(bs:Int)≤(l.length:Int):=by omega
   refine ⟨.yld 2 [.i .i64 X.length,Al (X++Y)],?_,rfl,X,LX,Y,LY,q,rfl,h1,h2,by omega,h3,h4,h5⟩;simp only;generalize X++Y=s0 at*;simp (disch:=omega) only [Rn,hge',EVT,EVM,EVC,xe,EVP,EV,simprocAttr]
theorem Ey2 (hC:Cmp g caps c P) (ht:TP (leC c)) (l r:List Rec) (bs:Nat) (hbs:0<bs) (hbs2:bs<l.length) (hr:Blk (leC c) bs r l) (hP:∀y∈r,P y) (hs:l.length≤1000000) (w0 w3 w4 w5:PV) (N:Nat) (hN:l.length+2<N):
  ∃r',Blk (leC c) (2*bs) r' l∧(∀y∈r',P y)∧Ym.ev S N [w0, .i .i64 l.length, .f g caps,w3,w4,w5, .i .i64 bs,Al r]=some (.yld 1 [.i .i64 ((2*bs:Nat):Int),Al r']):=by
 obtain ⟨X,LX,Y,LY,q,k,h1,h2,h3,h4,h5,h6⟩:=Ey0 hC ht l r bs hbs hbs2 hr hP hs w0 w3 w4 w5 N hN;have hlen:=congrArg List.length h1;simp only [Ac] at hlen;have hXL:=h4.len;have hYL:=h5.len;have hlt:(bs:Int)<(l.length:Int):=by omega
 have e2:((2*bs:Nat):Int)=(bs:Int)*2:=by omega
 rw [e2];by_cases hge:bs<Y.length
 ·have eY:Y.take bs++Y.drop bs=Y:=Bp _ _;have hst:=T2 ht h5 (by omega) hge;have sA:=h5.head.sorted;have sB:=(h5.tail.all (by rw [Bl];omega)).sorted;have lA:(Y.take bs).length=bs:=by rw [Ar];omega
  have lB:(Y.drop bs).length=Y.length - bs:=Bl;generalize Y.take bs=A at*;generalize Y.drop bs=B at*;have eXY:X++A++B++[]=X++Y:=by rw [Dn,An,eY]
  have hm:=Hh hC ht (A.length+B.length) X A B [] (X.length:Int) ((X.length:Int)+bs) (l.length:Int) (Ah _) (by intro e;rw [e] at lA;simp at lA;omega) (by intro e;rw [e] at lB;simp at lB;omega) sA sB rfl (by omega) (by omega) (by rw [eXY,Ac];omega) (by rw [eXY];exact h6);rw [eXY,Dn] at hm;have lM:=Nv (leC c) A B;refine ⟨X++mrg (leC c) A B,by rw [h1];exact Blk.app h2 h4 (Blk.one hst (by omega) (by omega)),fun y hy=>h6 y (by
   rw [←eXY];simp only [Cj,mrg_mem] at hy ⊢
   grind),?_⟩
  have hge':(X.length:Int)+(bs:Int)<(l.length:Int):=by omega
  generalize X++mrg (leC c) A B=s1 at*;generalize X++Y=s0 at*;simp (disch:=omega) only [Rn,hlt,hge',k,hm,Ec,L5,EVT,EVM,EVC,xe,EVP,EV,simprocAttr]
 ·refine ⟨X++Y,by rw [h1];exact Blk.app h2 h4 (Blk.one (h5.all (by omega)) hYL (by omega)),h6,?_⟩;have hge':¬(X.length:Int)+(bs:Int)<(l.length:Int):=by omega
  generalize X++Y=s0 at*;simp (disch:=omega) only [Rn,hlt,hge',k,EVT,EVM,EVC,xe,EVP,EV,simprocAttr]
theorem fz (hC:Cmp g caps c P) (ht:TP (leC c)) (l:List Rec) (hP:∀y∈l,P y) (hs:l.length≤1000000):
  ∃r,Stab (leC c) r l∧r.length=l.length∧S mm 1048579 [Al l, .i .i64 l.length, .f g caps]=some [Al r]:=by
 obtain ⟨N,hN⟩:∃N,N=l.length+3:=⟨_,rfl⟩;obtain ⟨X,LX,Y,q,k0,h1,h2,h3,h4,h5⟩:=Ey1 hC ht l hP hs N (by omega);have hlen:=congrArg List.length h1;simp only [Ac] at hlen;have hXL:=h4.len;obtain ⟨R,i1,i2,i3⟩:=O4 hC ht X Y [] (X.length:Int) (l.length:Int) rfl (by omega) (by simpa using h5) (by simp;omega);simp only [Dn] at i3;have hB:Blk (leC c) 20 (X++R) l:=by rw [h1];exact Blk.app h2 h4 (Blk.one i1 i2 (by omega))
 have hP':∀y∈X++R,P y:=fun y hy=>h5 y (by
  have:=i1.mem ht y;simp only [Cj] at hy ⊢
  grind)
 have key:=Gv (fn:=S) (N:=N) (η:=[Al l, .i .i64 l.length, .f g caps, .i .i64 X.length,Al (X++Y),Al (X++R)]) (id:=1) (init:=[.c (.i .i64 20), .v 5]) (body:=Ym) (α:=Nat×List Rec)
  (fun w=>[.i .i64 (w.1:Int),Al w.2])
  (fun o=>∃r,Stab (leC c) r l∧r.length=l.length∧o= .yld 0 [Al r])
  (fun w=>0<w.1∧Blk (leC c) w.1 w.2 l∧∀y∈w.2,P y) (fun w=>l.length - w.1) (20,X++R) ?_ ⟨by simp,hB,hP'⟩ (by simp only;omega) ?_
 ·obtain ⟨o,k1,r,k2,k3,rfl⟩:=key;refine ⟨r,k2,k3,?_⟩;refine Ef0 (N:=N) rfl ?_;have k4:Ap1.ev S N [Al l, .i .i64 l.length, .f g caps, .i .i64 X.length,Al (X++Y),Al (X++R)]=_:=k1;clear k1;generalize X++Y=s0 at*;generalize X++R=s1 at*;simp (disch:=omega) only [Rn,k0,i3,k4,Ec,L5,EVT,EVM,EVC,xe,EVP,EV,simprocAttr]
 ·generalize X++Y=s0 at*;generalize X++R=s1 at*;simp (disch:=omega) only [EVT,EVM,EVC,xe,EVP,EV,simprocAttr]
 ·rintro ⟨bs,r⟩ ⟨g1,g2,g3⟩;simp only at g1 g2 g3;have hr:=g2.len;by_cases hlt:bs<l.length
  ·left;obtain ⟨r',k1,k2,k3⟩:=Ey2 hC ht l r bs g1 hlt g2 g3 hs (Al l) (.i .i64 X.length) (Al (X++Y)) (Al (X++R)) N (by omega);exact ⟨(2*bs,r'),k3,⟨by simp only;omega,k1,k2⟩,by simp only;omega⟩
  ·right;have hlt':¬(bs:Int)<(l.length:Int):=by omega
   refine ⟨.yld 0 [Al r],?_,rfl,r,g2.all (by omega),hr,rfl⟩;generalize X++Y=s0 at*;generalize X++R=s1 at*;simp (disch:=omega) only [Rn,hlt',EVT,EVM,EVC,xe,EVP,EV,simprocAttr]
theorem Rj (hC:Cmp g caps c P) (ht:TP (leC c)) (l:List Rec) (hP:∀y∈l,P y) (hs:l.length≤1000000):
  ∃r,Stab (leC c) r l∧r.length=l.length∧S ms 1048578 [Al l, .f g caps]=some [Al r]:=by
 obtain ⟨r,h1,h2,h3⟩:=fz hC ht l hP hs;refine ⟨r,h1,h2,?_⟩;refine Ef7 (N:=1) rfl ?_;simp (disch:=omega) only [Ev7,h3,Ec,L5,EVT,EVM,EVC,xe,EVP,EV,simprocAttr]
end
end Go.X.G
/- Records compacted: the library's function. -/
namespace Go.X.G
open Go Go.X
theorem Wr (l:List Rec) (g:Nat) (caps:List PV) (eq2:Rec→Rec→Bool) (h:∀x∈l,∀y∈l,S g 2 (x.pv::y.pv::caps)=some [.b (eq2 x y)]) (hl:l.length≤1000000):S mr 1048578 [Al l, .f g caps]=some [Al (cpt eq2 l)]:=by
 refine Ef6 (N:=l.length+2) rfl ?_;by_cases h2:(l.length:Int)<2
 ·have e:cpt eq2 l=l:=by
   match l,h2 with
   |[],_=>rfl
   |[x],_=>rfl
   |_::_::_,h=>simp at h;omega
  rw [e];simp (disch:=omega) only [Pr,h2,EVT,EVM,EVC,xe,EVP,EV,simprocAttr]
 ·-- the inner E7, from a place where two neighbours are equal
  have inner:∀k:Nat,1≤k→k<l.length→cpt eq2 (l.take (k+1))=l.take k→∃s:List Rec,s.length=l.length∧s.take (cpt eq2 l).length=cpt eq2 l∧Ap2.ev S (l.length+2) [Al l, .f g caps, .i .i64 (k:Int),Al l, .b true]=some (.yld 2 [.i .i64 ((cpt eq2 l).length:Int),Al s]):=by
   intro k hk1 hk hcp;have key:=Gv (fn:=S) (N:=l.length+2) (η:=[Al l, .f g caps, .i .i64 (k:Int),Al l, .b true]) (id:=3) (init:=[(.v 2),(.c (.i .i64 (1))),(.v 3)]) (body:=wx) (α:=Nat×Nat×List Rec)
    (fun a=>[.i .i64 (a.1:Int), .i .i64 (a.2.1:Int),Al a.2.2])
    (fun o=>∃s:List Rec,s.length=l.length∧s.take (cpt eq2 l).length=cpt eq2 l∧o= .yld 2 [.i .i64 ((cpt eq2 l).length:Int),Al s])
    (fun a=>1≤a.2.1∧k+a.2.1≤l.length∧a.1<k+a.2.1∧a.2.2.length=l.length∧a.2.2.take a.1=cpt eq2 (l.take (k+a.2.1))∧(cpt eq2 (l.take (k+a.2.1))).length=a.1∧a.2.2.drop (k+a.2.1 - 1)=l.drop (k+a.2.1 - 1))
    (fun a=>l.length - a.2.1) (k,1,l) (by simp (disch:=omega) only [EVT,EVM,EVC,xe,EVP,EV,simprocAttr])
    ⟨by simp,by simp;omega,by simp,rfl,by simp only;rw [hcp],by simp only;rw [hcp,Ar];omega,rfl⟩ (by simp only;omega) ?_
   ·obtain ⟨o,h3,s,h4,h5,rfl⟩:=key;exact ⟨s,h4,h5,h3⟩
   ·rintro ⟨i,j,s⟩ ⟨a1,a2,a3,a4,a5,a6,a7⟩;simp only at a1 a2 a3 a4 a5 a6 a7;by_cases hj:k+j<l.length
    ·left;have c1:s[k+j]? =l[k+j]? :=by have:=congrArg (fun q=>q[1]?) a7;simp only [A8] at this;rwa [show k+j - 1+1=k+j by omega] at this
     have c0:s[k+j - 1]? =l[k+j - 1]? :=by have:=congrArg (fun q=>q[0]?) a7;simpa only [A8,Dv] using this
     have g1:l[k+j]? =some (l[k+j]'hj):=Az hj;have g0:l[k+j - 1]? =some (l[k+j - 1]'(by omega)):=Az (by omega);have tk:l.take (k+(j+1))=l.take (k+j)++[l[k+j]'hj]:=by rw [show k+(j+1)=(k+j)+1 by omega,El,g1];rfl
     have ne:l.take (k+j)≠[]:=by intro h;have:=congrArg List.length h;rw [Ar,By] at this;omega
     have gl:(l.take (k+j)).getLast ne=l[k+j - 1]'(by omega):=by rw [List.getLast_eq_getElem];simp only [List.getElem_take,Ar];congr 1;omega
     have cs:=Q1 eq2 (l[k+j]'hj) (l.take (k+j)) ne;rw [←tk,gl] at cs;have hc:=h (l[k+j]'hj) (E5 _) (l[k+j - 1]'(by omega)) (E5 _);generalize l[k+j]'hj=x at*;generalize l[k+j - 1]'(by omega)=y at*;have hjj:(j:Int)<(s.length:Int) - (k:Int):=by omega
     have i1:Ip 16 (Al s) (.i .i64 ((k:Int)+(j:Int)))=some x.pv:=by rw [Kl _ _ _ (by omega),show ((k:Int)+(j:Int)).toNat=k+j by omega,c1,g1];rfl
     have i0:Ip 16 (Al s) (.i .i64 ((k:Int)+((j:Int) - 1)))=some y.pv:=by rw [Kl _ _ _ (by omega),show ((k:Int)+((j:Int) - 1)).toNat=k+j - 1 by omega,c0,g0];rfl
     have ls:Ht 16 (Al s) (.i .i64 (k:Int)) (.i .i64 (s.length:Int))=some (Al (s.drop k)):=by rw [Jw _ _ _ _ _ (by omega) (by omega) (by omega)];simp
     have e1:(s.drop k)[j]? =some x:=by rw [A8,c1,g1]
     have e0:(s.drop k)[j - 1]? =some y:=by rw [A8,show k+(j - 1)=k+j - 1 by omega,c0,g0]
     have si:∃w,s[i]? =some w:=⟨_,Az (by omega)⟩;obtain ⟨w,si⟩:=si;have ej:((j:Int) - 1).toNat=j - 1:=by omega
     by_cases hxy:eq2 x y=true
     ·refine ⟨(i,j+1,s),?_,⟨by simp,by simp only;omega,by simp only;omega,a4,?_,?_,?_⟩,by simp only;omega⟩
      ·simp (disch:=omega) only [Pr,hjj,i1,i0,ls,e1,e0,ej,hc,hxy,EVT,EVM,EVC,xe,EVP,EV,simprocAttr]
      ·simp only;rw [cs,a5];simp [hxy]
      ·simp only;rw [cs,Ac,a6];simp [hxy]
      ·simp only;rw [show k+(j+1) - 1=(k+j - 1)+1 by omega,←Ep,←Ep,a7]
     ·refine ⟨(i+1,j+1,s.set i x),?_,⟨by simp,by simp only;omega,by simp only;omega,by simpa using a4,?_,?_,?_⟩,by simp only;omega⟩
      ·simp (disch:=omega) only [Pr,hjj,i1,i0,ls,e1,e0,ej,si,hc,hxy,EVT,EVM,EVC,xe,EVP,EV,simprocAttr]
      ·simp only;rw [cs,El,List.getElem?_set_self (by omega),List.take_set_of_le (by omega),a5];simp [hxy]
      ·simp only;rw [cs,Ac,a6];simp [hxy]
      ·simp only;rw [show k+(j+1) - 1=(k+j - 1)+1 by omega,List.drop_set_of_lt (by omega),←Ep,←Ep,a7]
    ·right;have ek:k+j=l.length:=by omega
     rw [ek,Ey] at a5 a6;have hjj:¬(j:Int)<(s.length:Int) - (k:Int):=by omega
     refine ⟨.yld 2 [.i .i64 (i:Int),Al s],?_,rfl,s,a4,by rw [a6];exact a5,by rw [a6]⟩;simp (disch:=omega) only [Pr,hjj,EVT,EVM,EVC,xe,EVP,EV,simprocAttr]
  have key:Ar7.ev S (l.length+2) [Al l, .f g caps]=some (if cpt eq2 l=l then .yld 0 [Al l] else .ret [Al (cpt eq2 l)]):=by
   have:=Gv (fn:=S) (N:=l.length+2) (η:=[Al l, .f g caps]) (id:=1) (init:=[(.c (.i .i64 (1))),(.v 0)]) (body:=w6) (α:=Nat)
    (fun k=>[.i .i64 (k:Int),Al l]) (fun o=>o=if cpt eq2 l=l then .yld 0 [Al l] else .ret [Al (cpt eq2 l)])
    (fun k=>1≤k∧k≤l.length∧cpt eq2 (l.take k)=l.take k) (fun k=>l.length - k) 1 (by simp (disch:=omega) only [EVT,EVM,EVC,xe,EVP,EV,simprocAttr])
    ⟨Ah 1,by omega,by cases l with
     |nil=>simp at h2
     |cons x r=>rfl⟩ (by omega) ?_
   ·obtain ⟨o,h3,h4⟩:=this;rw [←h4];exact h3
   ·rintro k ⟨k1,k2,k3⟩;by_cases hk:k<l.length
    ·have g1:l[k]? =some l[k]:=Az hk;have g0:l[k - 1]? =some (l[k - 1]'(by omega)):=Az (by omega);have tk:l.take (k+1)=l.take k++[l[k]]:=by rw [El,g1];rfl
     have ne:l.take k≠[]:=by intro h;have:=congrArg List.length h;rw [Ar,By] at this;omega
     have gl:(l.take k).getLast ne=l[k - 1]'(by omega):=by rw [List.getLast_eq_getElem];simp only [List.getElem_take,Ar];congr 1;omega
     have cs:=Q1 eq2 l[k] (l.take k) ne;rw [←tk,gl,k3] at cs;have hkk:(k:Int)<(l.length:Int):=by omega
     have i1:Ip 16 (Al l) (.i .i64 (k:Int))=some (l[k]).pv:=by rw [Kl _ _ _ (by omega),show ((k:Int)).toNat=k by omega,g1];rfl
     have i0:Ip 16 (Al l) (.i .i64 ((k:Int) - 1))=some (l[k - 1]'(by omega)).pv:=by rw [Kl _ _ _ (by omega),show ((k:Int) - 1).toNat=k - 1 by omega,g0];rfl
     have hc:=h l[k] (E5 _) (l[k - 1]'(by omega)) (E5 _);by_cases hxy:eq2 l[k] (l[k - 1]'(by omega))=true
     ·right;have cs':cpt eq2 (l.take (k+1))=l.take k:=by rw [cs];simp [hxy]
      obtain ⟨s,s1,s2,s3⟩:=inner k k1 hk cs';have hlt:cpt eq2 l≠l:=by
       intro h;have q:(cpt eq2 l).length≤(cpt eq2 (l.take (k+1))).length+(l.drop (k+1)).length:=by
        have:∀(b a:List Rec),a≠[]→(cpt eq2 (a++b)).length≤(cpt eq2 a).length+b.length:=by
         intro b
         induction b with
         |nil=>intro a _;simp
         |cons x r ih=>
          intro a ha;have h1:=ih (a++[x]) (by simp);rw [Q1 _ _ _ ha] at h1;rw [show a++x::r=a++[x]++r by simp];refine C9 h1 ?_;rw [Ac];split<;>simp<;>omega
        have h3:=this (l.drop (k+1)) (l.take (k+1)) (by intro h;have:=congrArg List.length h;rw [Ar,By] at this;omega);rwa [Bp] at h3
       rw [h,cs',Ar,Bl] at q;omega
      have hlen:=Cb5 eq2 l;refine ⟨.ret [Al (cpt eq2 l)],?_,rfl,by rw [if_neg hlt]⟩;generalize cpt eq2 l=fl at*;have ls:Ht 16 (Al l) (.i .i64 (k:Int)) (.i .i64 (l.length:Int))=some (Al (l.drop k)):=by rw [Jw _ _ _ _ _ (by omega) (by omega) (by omega)];simp
      have hsl1:Ht 16 (Al s) (.i .i64 ((fl.length:Nat):Int)) (.i .i64 (s.length:Int))=some (Al (s.drop fl.length)):=by rw [Jw _ _ _ _ _ (by omega) (by omega) (by omega)];simp
      have hsl2:Ht 16 (Al s) (.i .i64 0) (.i .i64 ((fl.length:Nat):Int))=some (Al fl):=by rw [Jw _ _ _ _ _ (by omega) (by omega) (by omega)];simp [s2]
      have hrep:Kw 16 (.i .i64 ((s.length:Int) - (fl.length:Int))) d4=some (Al (List.replicate (s.length - fl.length) zr)):=by rw [Av5 _ (by omega) (by omega)];congr 3;omega
      have happ:Hc 16 (Al fl) (Al (List.replicate (s.length - fl.length) zr))=some (Al (fl++List.replicate (s.length - fl.length) zr)):=Q8 _ _ (by simp;omega);have hsl3:Ht 16 (Al (fl++List.replicate (s.length - fl.length) zr)) (.i .i64 0) (.i .i64 ((fl.length:Nat):Int))=some (Al fl):=by rw [Jw _ _ _ _ _ (by omega) (by omega) (by simp;omega)];simp
      simp (disch:=omega) only [Pr,hkk,i1,i0,hc,hxy,ls,s3,hsl1,hsl2,hrep,happ,hsl3,EVT,EVM,EVC,xe,EVP,EV,simprocAttr]
     ·left;refine ⟨k+1,?_,⟨by omega,by omega,?_⟩,by omega⟩
      ·simp (disch:=omega) only [Pr,hkk,i1,i0,hc,hxy,EVT,EVM,EVC,xe,EVP,EV,simprocAttr]
      ·rw [cs,tk];simp [hxy]
    ·right;have e:k=l.length:=by omega
     subst e;rw [Ey] at k3;refine ⟨_,?_,?_,rfl⟩
     ·rw [if_pos k3];simp (disch:=omega) only [Pr,EVT,EVM,EVC,xe,EVP,EV,simprocAttr]
     ·rw [if_pos k3];rfl
  by_cases hh:cpt eq2 l=l
  ·rw [if_pos hh] at key;rw [hh];simp (disch:=omega) only [Pr,h2,key,EVT,EVM,EVC,xe,EVP,EV,simprocAttr]
  ·rw [if_neg hh] at key;simp (disch:=omega) only [Pr,h2,key,EVT,EVM,EVC,xe,EVP,EV,simprocAttr]
end Go.X.G
/- Lists of records in the program: which are valid, their order, their sorting. -/
namespace Go.X.G
open Go Go.X
theorem xk (r:Rec) (h:r.wf):S Vm 1 [r.pv]=some [.b (W3 r)]:=by
 refine Ef9 (N:=1) rfl ?_;have g:r.name.length≤9223372036854775807:=h.name;have h1:=B0 r.name g;have h2:=Cv r.typ;have h3:=Ol r.typ r.data h.data;unfold W3;by_cases k0:0≤r.ttl<;>by_cases k1:r.ttl≤2147483647
 all_goals rcases ch3 (vld r.name) (knw r.typ) (Df r.typ r.data) with e0|⟨e0,e1⟩|⟨e0,e1,e2⟩|⟨e0,e1,e2⟩
 all_goals simp only [*] at h1 h2 h3
 all_goals simp (disch:=omega) only [Ev9,Qt,D9,h1,h2,h3,EVC,xe,EVP,EV,simprocAttr, *]
 all_goals simp
theorem Bp4 (x:Int):S bg 1 [.i .i64 x]=some [.b false]:=by refine Ed7 (N:=1) rfl ?_;simp (disch:=omega) only [Ev5,EVC,xe,EVP,EV,simprocAttr]
theorem xz (a b:Int):S bl 2 [.i .i64 a, .i .i64 b]=some [.i .i64 (dn a b)]:=by
 refine Ef3 (N:=1) rfl ?_;have h1:=Bp4 a;have h2:=Bp4 b;unfold dn;by_cases k1:a<b
 ·simp (disch:=omega) only [Br5,h1,h2,k1,EVC,xe,EVP,EV,simprocAttr]
 ·by_cases k2:b<a
  ·simp (disch:=omega) only [Br5,h1,h2,k1,k2,EVC,xe,EVP,EV,simprocAttr]
  ·simp (disch:=omega) only [Br5,h1,h2,k1,k2,EVC,xe,EVP,EV,simprocAttr]
theorem Xx (a b:Rec) (ha:a.wf) (hb:b.wf):S Vl 2 [a.pv,b.pv]=some [.i .i64 (Ub a b)]:=by
 refine Ef4 (N:=1) rfl ?_;have g1:a.name.length≤9223372036854775807:=ha.name;have g2:b.name.length≤9223372036854775807:=hb.name;have h1:=Wl a.name b.name g1 g2;have h2:=xz a.typ b.typ;have h3:=Wp a.typ a.data b.data ha.data hb.data;unfold Ub;by_cases k1:N1 a.name b.name=0
 ·by_cases k2:dn a.typ b.typ=0
  ·rw [k1] at h1;rw [k2] at h2;simp (disch:=omega) only [Br6,Qt,D9,h1,h2,h3,EVC,xe,EVP,EV,simprocAttr];simp [k1,k2]
  ·rw [k1] at h1;simp (disch:=omega) only [Br6,h1,h2,k2,EVC,xe,EVP,EV,simprocAttr];simp [k1,k2]
 ·simp (disch:=omega) only [Br6,h1,k1,EVC,xe,EVP,EV,simprocAttr]
theorem N6 (a b:Rec) (ha:a.wf) (hb:b.wf):S An1 2 [a.pv,b.pv]=some [.i .i64 (cmpR a b)]:=by
 refine Fw4 (N:=1) rfl ?_;have h1:=Xx a b ha hb;have h2:=xz a.ttl b.ttl;unfold cmpR;by_cases k1:Ub a b=0
 ·rw [k1] at h1;simp (disch:=omega) only [Fv3,h1,h2,EVC,xe,EVP,EV,simprocAttr];simp [k1]
 ·simp (disch:=omega) only [Fv3,h1,k1,EVC,xe,EVP,EV,simprocAttr]
theorem Fq7:Cmp An1 [] cmpR Rec.wf:=⟨fun x y hx hy=>N6 x y hx hy⟩
theorem Dk7:leC cmpR=leR:=rfl
theorem Al2 (a b:Rec) (ha:a.wf) (hb:b.wf):S bn 2 [a.pv,b.pv]=some [.b (eqF a b)]:=by refine Ef5 (N:=1) rfl ?_;have h1:=Xx a b ha hb;simp (disch:=omega) only [Ev6,h1,EVC,xe,EVP,EV,simprocAttr]
theorem Y3 (l:List Rec) (hw:∀r∈l,r.wf) (hl:l.length≤1000000):S ln 1 [Al l]=some [Al (sortR l)]:=by refine Fw5 (N:=1) rfl ?_;have h0:=xb l hl;obtain ⟨r,h1,h2,h3⟩:=Rj Fq7 (by rw [Dk7];exact Ex6) l hw hl;rw [Dk7] at h1;have hm:=h1.mem Ex6;have h4:=Wr r bn [] eqF (fun x hx y hy=>Al2 x y (hw x ((hm x).1 hx)) (hw y ((hm y).1 hy))) (by omega);rw [Aq4 h1] at h4;simp (disch:=omega) only [Fw1,h0,h3,h4,Ec,L5,EVT,EVM,EVC,xe,EVP,EV,simprocAttr]
end Go.X.G
/- Sets of records: what the program's and the reference's functions give. -/
namespace Go.X
open Go
structure SetR where
 name:List UInt8
 typ:Int
 ttl:Int
 data:List Dat
 deriving DecidableEq
def Db2 (l:List Dat):PV:= .l 13 (l.map Dat.pv)
def SetR.pv (x:SetR):PV:= .a [.s x.name, .i .i64 x.typ, .i .i64 x.ttl,Db2 x.data]
end Go.X
namespace Go.X.G
open Go Go.X
structure SetsIn (g:List SetR) (i:Nat):Prop where
 len:g.length≤i
 each:∀x∈g,x.data.length≤i
theorem Xk:∀(l acc:List Rec),(l.foldl (fun a x=>df x a) acc).length≤acc.length+l.length
 |[],acc=>by simp
 |x::l,acc=>by have h1:=Xk l (df x acc);have h2:=Xs x acc;simp only [List.foldl_cons,A9];omega
theorem Xj (l:List Rec):(sortR l).length≤l.length:=by simpa [sortR] using Xk l []
end Go.X.G
/- Records with names and texts of at most 300 bytes. -/
namespace Go.X.G
open Go Go.X
def c3 (s:List UInt8):List UInt8:=s.take 300
def Jm (r:Rec):Rec:=⟨c3 r.name,r.typ,r.ttl,{r.data with host:=c3 r.data.host,mail:=c3 r.data.mail,text:=c3 r.data.text}⟩
theorem Dh2 (s:List UInt8):(c3 s).length≤300:=by unfold c3;rw [Ar];omega
theorem o4 {r:Rec} (h:r.wf):(Jm r).wf:=by
 have hs:∀s:List UInt8,Aq0 (c3 s):=fun s=>by have:=Dh2 s;unfold Aq0;omega
 exact ⟨hs _,h.typ,h.ttl,⟨h.data.hi,h.data.lo,hs _,hs _,hs _,h.data.a,h.data.b,h.data.c,h.data.d,h.data.e,h.data.f,h.data.bits⟩⟩
theorem W8 (s:List UInt8) (hs:s.length≤9223372036854775807):Sq (.s s) (.i .i64 0) (.i .i64 (if (300:Int)<(s.length:Int) then 300 else (s.length:Int)))=some (.s (c3 s)):=by
 unfold c3;by_cases h:(300:Int)<(s.length:Int)
 ·rw [if_pos h];have h1:(0:Int)≤0∧(0:Int)≤300∧(300:Int)≤(s.length:Int):=by omega
  simp only [Sq,h1,and_self,if_true];rfl
 ·rw [if_neg h];have h1:(0:Int)≤0∧(0:Int)≤(s.length:Int)∧(s.length:Int)≤(s.length:Int):=by omega
  simp only [Sq,h1,and_self,if_true,Fz,Ey];rw [Ch (by omega)];rfl
theorem Eh6 (n:Int):Ab0 (.i .i64 n) (.i .i64 300)=some (.i .i64 (if (300:Int)<n then 300 else n)):=by simp [Ab0]
end Go.X.G
/- What the laws on lists of records call. -/
namespace Go.X.G
open Go Go.X
theorem Aq7 (r:Rec) (h:r.wf):S m7 1 [r.pv]=some [(Jm r).pv]:=by refine Eg0 (N:=1) rfl ?_;have s1:=W8 r.name h.name;have s2:=W8 r.data.host h.data.host;have s3:=W8 r.data.mail h.data.mail;have s4:=W8 r.data.text h.data.text;have g1:r.name.length≤9223372036854775807:=h.name;have g2:r.data.host.length≤9223372036854775807:=h.data.host;have g3:r.data.mail.length≤9223372036854775807:=h.data.mail;have g4:r.data.text.length≤9223372036854775807:=h.data.text;simp (disch:=omega) only [Ew0,Eh6,s1,s2,s3,s4,xe,EVP,EV,simprocAttr];rfl
def fewR (l:List Rec) (k:Nat):List Rec:=(l.take k).map Jm
theorem Af4 (l:List Rec) (k:Nat):(fewR l k).length≤k:=by simp [fewR];omega
theorem Cy1 {l:List Rec} (h:∀r∈l,r.wf) (k:Nat):∀r∈fewR l k,r.wf:=fun r hr=>by simp only [fewR,yq] at hr;obtain ⟨x,hx,rfl⟩:=hr;exact o4 (h x (D7 hx))
theorem Dw6 (l:List Rec) (k:Nat) (hl:Sd l) (hk:k≤1000):S Dk5 2 [Al l, .i .i64 (k:Int)]=some [Al (fewR l k)]:=by
 obtain ⟨N,hN⟩:∃N:Nat,N=1002:=⟨_,rfl⟩;refine Fw6 (N:=N) rfl ?_;have hrl:=hl.1;have key:Dq6.ev S N [Al l, .i .i64 (k:Int)]=some (.yld 0 [Al (fewR l k)]):=by
  have hm:(l.take k).length≤k:=by simp;omega
  refine Ff (l.take k) (fun i=>[Al ((l.take i).map Jm), .i .i64 (i:Int)]) (fun i r=> .yld 0 [Al (fewR l k)]) rfl (by omega) (fun i c r hd hi hc=> ?_) ?_
  ·left;refine ⟨?_,rfl⟩;have hi7:i<k:=by omega
   have hc':l[i]? =some c:=by rw [←hc,List.getElem?_take_of_lt hi7]
   have hil:=(Aq.1 hc').1;have hs:=Aq7 c (hl.2 c (Bg hc'));have e:(l.take (i+1)).map Jm=(l.take i).map Jm++[Jm c]:=by rw [El,hc'];simp
   have hlen:((l.take i).map Jm).length=i:=by rw [Ej1,Ar];omega
   have h1:(i:Int)<(l.length:Int):=by omega
   have h2:(i:Int)<(k:Int):=by omega
   have ei:(i:Int).toNat=i:=by omega
   rw [e];generalize (l.take i).map Jm=g at*;simp (disch:=omega) only [Ch5,h1,h2,ei,hc',hs,xe,EVP,EV,simprocAttr]
  ·have hlen:(l.take k).length=min k l.length:=by simp
   rw [hlen];have e:(l.take (min k l.length)).map Jm=fewR l k:=by
    unfold fewR;rcases Nat.le_total k l.length with h|h
    ·rw [Jt h]
    ·rw [Nat.min_eq_right h,Ch (Ah _),Ch h]
   rw [e];by_cases h:k≤l.length
   ·have h1:¬((min k l.length:Nat):Int)<(k:Int):=by omega
    have h2:((min k l.length:Nat):Int)=(k:Int):=by omega
    rw [h2];by_cases h3:(k:Int)<(l.length:Int)
    ·simp (disch:=omega) only [Ch5,h3,Uv,xe,EVP,EV,simprocAttr];simp [Out.goes]
    ·simp (disch:=omega) only [Ch5,h3,xe,EVP,EV,simprocAttr];simp [Out.goes]
   ·have h2:((min k l.length:Nat):Int)=(l.length:Int):=by omega
    rw [h2];simp (disch:=omega) only [Ch5,Uv,xe,EVP,EV,simprocAttr];simp [Out.goes]
 simp (disch:=omega) only [Ch5,key,xe,EVP,EV,simprocAttr]
def Hd (a b:Rec):Bool:=decide (a.name=b.name) && decide (a.typ=b.typ) && decide (a.data=b.data)
theorem Y0 (a b:Rec):S br 2 [a.pv,b.pv]=some [.b (Hd a b)]:=by refine Eg2 (N:=1) rfl ?_;unfold Hd;by_cases h1:a.name=b.name<;>by_cases h2:a.typ=b.typ<;>simp (disch:=omega) [Ew1,h1,h2,xe,EVP,EV,simprocAttr]
theorem dq:S Az8 0 []=some [.b true]:=(M2 ext_mono).2 ⟨300,by kernel_rfl⟩
end Go.X.G
/- Three records as one argument. -/
namespace Go.X
open Go
end Go.X
/- The order of records is total: the law RrsetTotal. -/
namespace Go.X.G
open Go Go.X
theorem cw {a b:Rec} (wa:a.wf) (wb:b.wf) (ha:W3 a=true) (h:Ez a=Ez b):a.name=b.name∧a.typ=b.typ∧a.data=b.data:=by
 have h1:a.name=b.name:=congrArg (fun k:Al7=>k.1) h;have h2:a.typ=b.typ:=congrArg (fun k:Al7=>k.2.1) h;have h3:(cr a.typ a.data).1=(cr b.typ b.data).1:=congrArg (fun k:Al7=>k.2.2.1) h;have h4:(cr a.typ a.data).2=(cr b.typ b.data).2:=congrArg (fun k:Al7=>k.2.2.2) h;have va:=ed ha;have vb:Df b.typ b.data=true:=by
  rw [←h2];rw [←h2] at h3;simp only [cr,va,if_true] at h3;rcases Ad (Df a.typ b.data) with q|q
  ·exact q
  ·rw [q] at h3;simp at h3
 refine ⟨h1,h2,?_⟩;have vb':=vb;rw [←h2] at vb';rw [←h2] at h4;simp only [cr,va,vb',if_true] at h4;exact eq wa.data wb.data va vb' h4
end Go.X.G
/- What is sorted keeps the records: the law RrsetKeeps. -/
namespace Go.X.G
open Go Go.X
theorem Ah7 {s:List Rec} (h:Av2 s) (z:Rec):xp s z↔z∈s:=by
 refine ⟨xp.mem,fun hz=> ?_⟩;obtain ⟨l1,l2,rfl⟩:=List.append_of_mem hz;have hp:=Gf.1 h;refine ⟨l1,l2,rfl,fun y hy e=> ?_,fun y hy e=> ?_⟩
 ·have:=hp.2.2 y hy z (.head _);rw [e] at this;exact absurd this (to_F.irr _)
 ·have:=(Bd.1 hp.2.1).1 y hy;rw [e] at this;exact absurd this (to_F.irr _)
theorem ff (l:List Rec):sortR (sortR l)=sortR l:=
 U9 _ _ (F2 _).1 (F2 _).1 fun x=>((F2 (sortR l)).2 x).trans (Ah7 (F2 l).1 x)
theorem dy {a b:Rec} (h:Hd a b=true):Ez a=Ez b:=by simp only [Hd,Ax,decide_eq_true_eq] at h;simp only [Ez,h.1.1,h.1.2,h.2]
theorem fc {l:List Rec} {i:Nat} {x y:Rec} (hx:(sortR l)[i]? =some x) (hy:(sortR l)[i+1]? =some y):cmpR x y<0∧Hd x y=false:=by
 have h:=(F2 l).1;have hxi:=(Aq.1 hx);have hyi:=(Aq.1 hy);have:=List.pairwise_iff_getElem.1 h i (i+1) hxi.1 hyi.1 (by omega);rw [hxi.2,hyi.2] at this;refine ⟨(Yj x y).2 (.inl this),?_⟩;rcases Ad (Hd x y) with h2|h2
 ·have e:=dy h2;rw [e] at this;exact absurd this (to_F.irr _)
 ·exact h2
theorem yg (l:List Rec) (hw:∀r∈l,r.wf) (hl:l.length≤1000000):S m8 1 [Al l]=some [Al (l.filter W3)]:=by
 refine Eg1 (N:=l.length+1) rfl ?_;have key:Ar8.ev S (l.length+1) [Al l]=some (.yld 0 [Al ([]++l.filter W3)]):=by
  refine Mz l (fun i (g:List Rec)=>[Al g, .i .i64 (i:Int)]) (fun i g r=> .yld 0 [Al (g++r.filter W3)]) (fun i g=>g.length≤i) [] rfl (C4 _) (by omega) (fun i g c r hd hi hc hI=> ?_) (fun g hI=> ?_)
  ·left;have hv:=xk c (hw c (Bg hc));rcases Ad (W3 c) with h|h
   ·rw [h] at hv;refine ⟨g++[c],?_,by simp;omega,by simp [h]⟩;simp (disch:=omega) only [yc,hc,hv,xe,EVP,EV,simprocAttr]
   ·rw [h] at hv;refine ⟨g,?_,by omega,by simp [h]⟩;simp (disch:=omega) only [yc,hc,hv,xe,EVP,EV,simprocAttr]
  ·simp (disch:=omega) only [yc,xe,EVP,EV,simprocAttr];simp [Out.goes]
 simp (disch:=omega) only [yc,key,xe,EVP,EV,simprocAttr]
 try simp
theorem Y4 (l s:List Rec) (x:Rec) (i:Nat) (hx:s[i]? =some x) (N:Nat) (hN:l.length<N) (hl:l.length≤1000000) (hi:i≤1000000) (p0 p4 p5:PV):
  Dq1.ev S N [p0,Al l,Al s, .i .i64 (i:Int),p4,p5]=some (.yld 2 [.b (false||l.any fun r=>decide (r=x))]):=by
 refine Mz l (fun j (g:Bool)=>[.b g, .i .i64 (j:Int)]) (fun j g r=> .yld 2 [.b (g||r.any fun r=>decide (r=x))]) (fun _ _=>True) false rfl trivial hN (fun j g c r hd hj hc _=> ?_) (fun g _=> ?_)
 ·left;refine ⟨g||decide (c=x),?_,trivial,by simp [Bool.or_assoc]⟩;have hjl:(j:Int)<(l.length:Int):=by omega
  rcases Ad g with rfl|rfl
  ·simp (disch:=omega) only [Ul,hc,hx,hjl,xe,EVP,EV,simprocAttr];simp
  ·simp (disch:=omega) only [Ul,hc,hx,hjl,xe,EVP,EV,simprocAttr];simp
 ·simp (disch:=omega) only [Ul,Uv,xe,EVP,EV,simprocAttr];simp [Out.goes]
theorem Al6 (l l0:List Rec) (p0:PV) (hlw:∀r∈l,r.wf) (hsub:∀r∈sortR l,r∈l) (N:Nat) (hN:l.length+1<N) (hl:l.length≤1000000):
  Dv1.ev S N [p0,Al l,Al (sortR l)]=some (.yld 0 []):=by
 have hsl:=Xj l;refine Ff (sortR l) (fun i=>[.i .i64 (i:Int)]) (fun i r=> .yld 0 []) rfl (by omega) (fun i c r hd hi hc=> ?_) ?_
 ·left;refine ⟨?_,rfl⟩;have hcl:=hsub c (Bg hc);have hany:(false||l.any fun r=>decide (r=c))=true:=by simp only [Ux,List.any_eq_true,decide_eq_true_eq];exact ⟨c,hcl,rfl⟩
  have hil:(i:Int)<((sortR l).length:Int):=by omega
  by_cases h0:i=0
  ·subst h0;have k1:=Y4 l (sortR l) c 0 hc N (by omega) hl (by omega) p0 .u .u;rw [hany] at k1;simp only [Int.natCast_zero] at k1 hil ⊢;generalize sortR l=s at*;simp (disch:=omega) only [Ul,hc,k1,hil,xe,EVP,EV,simprocAttr]
  ·obtain ⟨j,rfl⟩:∃j,i=j+1:=⟨i - 1,by omega⟩;obtain ⟨y,hy⟩:∃y,(sortR l)[j]? =some y:=⟨_,Az (by omega)⟩;obtain ⟨n1,n2⟩:=fc hy hc;have hyw:=hlw y (hsub y (Bg hy));have hcw:=hlw c hcl;have q1:=N6 y c hyw hcw;have q2:=Y0 y c;rw [n2] at q2;have k1:=Y4 l (sortR l) c (j+1) hc N (by omega) hl (by omega) p0 (.i .i64 (cmpR y c)) (.b false);rw [hany] at k1;have hw:IntKind.i64.wrap (((j+1:Nat):Int) - 1)=(j:Int):=by rw [w64 (by omega) (by omega)];omega
   have hj:((j:Int)).toNat=j:=by omega
   have hj2:(((j+1:Nat):Int)).toNat=j+1:=by omega
   have hgt:(0:Int)<((j+1:Nat):Int):=by omega
   have hng:¬(0:Int)≤cmpR y c:=by omega
   generalize sortR l=s at*;generalize cmpR y c=cc at*;have hjj:(((j+1:Nat):Int))=(j:Int)+1:=by omega
   generalize ((j+1:Nat):Int)=jj at*;simp (disch:=omega) only [Ul,hc,hy,q1,q2,k1,hil,hw,hj,hj2,hgt,hng,xe,EVP,EV,simprocAttr];rw [hjj]
 ·simp (disch:=omega) only [Ul,Uv,xe,EVP,EV,simprocAttr];simp [Out.goes]
theorem Al4 (v s:List Rec) (x:Rec) (i:Nat) (hx:v[i]? =some x) (N:Nat) (hN:s.length<N) (hl:s.length≤1000000) (hi:i≤1000000) (p0 p1:PV):
  Dk9.ev S N [p0,p1,Al s,Al v, .i .i64 (i:Int)]=some (.yld 2 [.b (false||s.any fun r=>Hd x r && decide (r.ttl≤x.ttl))]):=by
 refine Mz s (fun j (g:Bool)=>[.b g, .i .i64 (j:Int)]) (fun j g r=> .yld 2 [.b (g||r.any fun r=>Hd x r && decide (r.ttl≤x.ttl))]) (fun _ _=>True) false rfl trivial hN (fun j g c r hd hj hc _=> ?_) (fun g _=> ?_)
 ·left;refine ⟨g||(Hd x c && decide (c.ttl≤x.ttl)),?_,trivial,by simp [Bool.or_assoc]⟩;have hjl:(j:Int)<(s.length:Int):=by omega
  have q:=Y0 x c;rcases Ad g with rfl|rfl
  ·simp (disch:=omega) only [Ul,hc,hx,hjl,xe,EVP,EV,simprocAttr];simp
  ·rcases Ad (Hd x c) with h|h
   ·rw [h] at q ⊢;simp (disch:=omega) only [Ul,hc,hx,hjl,q,xe,EVP,EV,simprocAttr];simp
   ·rw [h] at q ⊢;simp (disch:=omega) only [Ul,hc,hx,hjl,q,xe,EVP,EV,simprocAttr];simp
 ·simp (disch:=omega) only [Ul,Uv,xe,EVP,EV,simprocAttr];simp [Out.goes]
theorem Al5 (v s:List Rec) (hv:∀x∈v,∃z∈s,Hd x z=true∧z.ttl≤x.ttl) (N:Nat) (hN:s.length<N) (hN2:v.length<N) (hl:s.length≤1000000) (hl2:v.length≤1000000) (p0 p1:PV):
  Dq0.ev S N [p0,p1,Al s,Al v]=some (.yld 0 []):=by
 refine Ff v (fun i=>[.i .i64 (i:Int)]) (fun i r=> .yld 0 []) rfl hN2 (fun i c r hd hi hc=> ?_) ?_
 ·left;refine ⟨?_,rfl⟩;obtain ⟨z,hz,z1,z2⟩:=hv c (Bg hc);have k:=Al4 v s c i hc N hN hl (by omega) p0 p1;have hany:(false||s.any fun r=>Hd c r && decide (r.ttl≤c.ttl))=true:=by simp only [Ux,List.any_eq_true,Ax,decide_eq_true_eq];exact ⟨z,hz,z1,z2⟩
  rw [hany] at k;have hil:(i:Int)<(v.length:Int):=by omega
  simp (disch:=omega) only [Ul,hc,k,hil,xe,EVP,EV,simprocAttr]
 ·simp (disch:=omega) only [Ul,Uv,xe,EVP,EV,simprocAttr];simp [Out.goes]
theorem Al3 (s:List Rec) (N:Nat) (hN:s.length<N) (hl:s.length≤1000000) (p0 p1 p3:PV):
  Dk8.ev S N [p0,p1,Al s,p3,Al s]=some (.yld 0 []):=by
 refine Ff s (fun i=>[.i .i64 (i:Int)]) (fun i r=> .yld 0 []) rfl hN (fun i c r hd hi hc=> ?_) ?_
 ·left;refine ⟨?_,rfl⟩;have hil:(i:Int)<(s.length:Int):=by omega
  simp (disch:=omega) only [Ul,hc,hil,xe,EVP,EV,simprocAttr]
  try simp
 ·simp (disch:=omega) only [Ul,Uv,xe,EVP,EV,simprocAttr];simp [Out.goes]
theorem law_RrsetKeeps (l0:List Rec) (hl0:Sd l0):S Dk6 1 [Al l0]=some [.b true]:=by
 obtain ⟨N,hN⟩:∃N:Nat,N=1002:=⟨_,rfl⟩;refine Fw7 (N:=N) rfl ?_;have k0:=Dw6 l0 40 hl0 (by omega);have hlw:=Cy1 hl0.2 40;have hll:=Af4 l0 40;simp only [show ((40:Nat):Int)=40 from rfl] at k0;generalize fewR l0 40=l at*;have k1:=Y3 l hlw (by omega);have hb:=(F2 l).2;have hsub:∀r∈sortR l,r∈l:=fun r hr=>((hb r).1 hr).mem;have hsl:=Xj l;have k2:=Al6 l l0 (Al l0) hlw hsub N (by omega) (by omega);have k3:=yg l hlw (by omega);have hvl:(l.filter W3).length≤40:=C9 (List.length_filter_le _ _) hll;have k4:=Al5 (l.filter W3) (sortR l) (fun x hx=>by obtain ⟨h1,h2⟩:=Ek.1 hx;obtain ⟨z,z1,z2,z3⟩:=wj l x h1;have hzl:=z1.mem;obtain ⟨e1,e2,e3⟩:=cw (hlw x h1) (hlw z hzl) h2 z2.symm;exact ⟨z,(hb z).2 z1,by simp [Hd,e1,e2,e3],z3⟩) N (by omega) (by omega) (by omega) (by omega) (Al l0) (Al l)
 have k5:=Y3 (sortR l) (fun r hr=>hlw r (hsub r hr)) (by omega);rw [ff] at k5;have k6:=Al3 (sortR l) N (by omega) (by omega) (Al l0) (Al l) (Al (l.filter W3));have aw:=dq;have g1:(sortR l).length≤40:=by omega
 generalize sortR l=s at*;generalize l.filter W3=v at*;simp (disch:=omega) only [Ul,k0,k1,k2,k3,k4,k5,k6,aw,xe,EVP,EV,simprocAttr]
 try simp
end Go.X.G
