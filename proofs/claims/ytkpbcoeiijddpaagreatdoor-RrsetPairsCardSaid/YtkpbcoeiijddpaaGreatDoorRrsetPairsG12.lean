/- Merging in place: the library's function, the K5. -/
import Derived.Test.YtkpbcoeiijddpaaGreatDoorRrsetPairsG11
import Derived.Test.YtkpbcoeiijddpaaGreatDoorRrsetPairsG9
import Derived.Test.YtkpbcoeiijddpaaGreatDoorRrsetPairsG8
import Derived.Test.YtkpbcoeiijddpaaGreatDoorRrsetPairsG10
open Bool renaming eq_false_or_eq_true→Ad,eq_iff_iff→Ef,eq_false_iff→Ks,false_or→Fz2
open Int renaming toNat_natCast→Hb,lt_irrefl→Fz1
open List renaming getElem?_eq_some_iff→Aq,getElem?_eq_getElem→Ay,length_append→Ab,append_assoc→Ap,length_take→Ar,getElem?_append_right→As,getElem?_append_left→A4,mem_of_getElem?→A6,mem_cons→A7,getElem?_drop→A9,length_cons→Bj,eq_nil_of_length_eq_zero→Bv,length_nil→Bz,length_pos_iff→Bg,length_drop→Bm,take_append_drop→Br,mem_append_right→Bs,mem_append→B3,all_eq_true→Cv,drop_eq_getElem_cons→Cl,take_of_length_le→Cp,getElem?_of_mem→C3,nil_append→Dw,append_nil→Dd,drop_eq_nil_of_le→Ds,drop_zero→D1,take_add_one→D7,mem_of_mem_take→Ex,take_length→Em,drop_drop→E4,getElem_mem→Fy,length_set→Gj,mem_of_mem_drop→G5,pairwise_append→Kn,take_take→n3,getElem?_set_ne→oj,mem_map→Br3,length_map→Gd9
open Nat renaming le_refl→Ah,mul_le_mul_right→Bq,zero_le→Cm,le_trans→Db,add_zero→Dc,min_eq_left→Kl,add_sub_cancel→Gg9
set_option maxHeartbeats 1000000
set_option linter.unusedVariables false
set_option linter.unusedSimpArgs false
namespace Go.X.G
open Go Go.X
section
variable {g:Nat} {caps:List PV} {c:Rec→Rec→Int} {P:Rec→Prop}
theorem Gp9 (hC:Cmp g caps c P) (X A B Y:List Rec) (s:List Rec) (hsd:s=X++(A++(B++Y))) (a m b mid:Int) (h i0 j0:Nat) (ha:a=X.length) (hm:m=a+A.length) (hb:b=m+B.length) (hM:(a+b) / 2=mid) (hmid:mid=a+h)
  (h1:i0≤j0) (h2:j0≤A.length) (h3:j0≤h) (h4:h≤i0+B.length) (hs:s.length≤1000000) (hP:∀y∈s,P y) (N:Nat) (hN:A.length<N):
  ∃i:Nat,yx.ev S N [Af s, .i .i64 a, .i .i64 m, .i .i64 b, .f g caps, .i .i64 (a+i0), .i .i64 (a+j0)]=some (.yld 0 [.i .i64 (a+i)])∧i0≤i∧i≤j0∧
   (∀x y,i≠i0→A[i - 1]? =some x→B[h - i]? =some y→¬c y x<0)∧∀x y,i≠j0→A[i]? =some x→B[h - 1 - i]? =some y→c y x<0:=by
 have hl:s.length=X.length+A.length+B.length+Y.length:=by rw [hsd];simp;omega
 have hA:∀k y,A[k]? =some y→s[X.length+k]? =some y:=fun k y hk=>by have:=(Aq.1 hk).1;rw [hsd,As (by omega),show X.length+k - X.length=k by omega,A4 this,hk]
 have hB:∀k y,B[k]? =some y→s[X.length+A.length+k]? =some y:=fun k y hk=>by have:=(Aq.1 hk).1;rw [hsd,As (by omega),As (by omega),show X.length+A.length+k - X.length - A.length=k by omega,A4 this,hk]
 have key:=Gl (fn:=S) (N:=N) (η:=[Af s, .i .i64 a, .i .i64 m, .i .i64 b, .f g caps, .i .i64 (a+i0), .i .i64 (a+j0)]) (id:=1) (init:=[.v 5, .v 6]) (body:=Zh) (α:=Nat×Nat)
  (fun w=>[.i .i64 (a+w.1), .i .i64 (a+w.2)])
  (fun o=>∃i:Nat,o= .yld 0 [.i .i64 (a+i)]∧i0≤i∧i≤j0∧(∀x y,i≠i0→A[i - 1]? =some x→B[h - i]? =some y→¬c y x<0)∧∀x y,i≠j0→A[i]? =some x→B[h - 1 - i]? =some y→c y x<0)
  (fun w=>w.1≤w.2∧i0≤w.1∧w.2≤j0∧(∀x y,w.1≠i0→A[w.1 - 1]? =some x→B[h - w.1]? =some y→¬c y x<0)∧∀x y,w.2≠j0→A[w.2]? =some x→B[h - 1 - w.2]? =some y→c y x<0)
  (fun w=>w.2 - w.1) (i0,j0) ?_ ?_ (by simp only;omega) ?_
 ·obtain ⟨o,h1,p,rfl,h2⟩:=key;exact ⟨p,h1,h2⟩
 ·simp (disch:=omega) only [EVT,EVM,EVC,xe,EVP,EV,simprocAttr]
 ·exact ⟨h1,Ah _,Ah _,fun x y h0=>absurd rfl h0,fun x y h0=>absurd rfl h0⟩
 ·rintro ⟨p,q⟩ ⟨g1,g2,g3,g4,g5⟩;simp only at g1 g2 g3 g4 g5;by_cases hpq:p<q
  ·left;have hk:(p+q) / 2<A.length:=by omega
   have hx:=Ay hk;have hk2:h - 1 - (p+q) / 2<B.length:=by omega
   have hy:=Ay hk2;generalize A[(p+q) / 2]=x at hx;generalize B[h - 1 - (p+q) / 2]=y at hy;have hsx:=hA _ x hx;have hsy:=hB _ y hy;have hPx:P x:=hP x (A6 hsx);have hPy:P y:=hP y (A6 hsy);have hc:=hC.ok y x hPy hPx;have hlt:a+(p:Int)<a+(q:Int):=by omega
   have e1:(a+(p:Int)+(a+(q:Int))) / 2=a+(((p+q) / 2:Nat):Int):=by omega
   have e2:(a+(((p+q) / 2:Nat):Int)).toNat=X.length+(p+q) / 2:=by omega
   have e3:(mid+m - 1 - (a+(((p+q) / 2:Nat):Int))).toNat=X.length+A.length+(h - 1 - (p+q) / 2):=by omega
   have hkh:(p+q) / 2<h:=by omega
   by_cases hcy:c y x<0
   ·refine ⟨(p,(p+q) / 2),?_,⟨by simp only;omega,g2,by simp only;omega,g4,fun u v _ hu hv=> ?_⟩,by simp only;omega⟩
    ·simp only;generalize (p+q) / 2=k at*;simp (disch:=omega) only [Ey,hlt,Dm,hM,e1,e2,e3,hsy,hsx,hc,hcy,EVT,EVM,EVC,xe,EVP,EV,simprocAttr]
    ·simp only at hu hv;rw [hx] at hu;injection hu with hu;subst hu;rw [hy] at hv;injection hv with hv;subst hv;exact hcy
   ·refine ⟨((p+q) / 2+1,q),?_,⟨by simp only;omega,by simp only;omega,g3,fun u v _ hu hv=> ?_,g5⟩,by simp only;omega⟩
    ·have e4:a+(((p+q) / 2+1:Nat):Int)=a+(((p+q) / 2:Nat):Int)+1:=by omega
     simp only [e4];generalize (p+q) / 2=k at*;simp (disch:=omega) only [Ey,hlt,Dm,hM,e1,e2,e3,hsy,hsx,hc,hcy,EVT,EVM,EVC,xe,EVP,EV,simprocAttr]
    ·simp only [Gg9] at hu hv;rw [show h - ((p+q) / 2+1)=h - 1 - (p+q) / 2 by omega] at hv;rw [hx] at hu;injection hu with hu;subst hu;rw [hy] at hv;injection hv with hv;subst hv;exact hcy
  ·right;have e:p=q:=by omega
   subst e;have hlt:¬a+(p:Int)<a+(p:Int):=by omega
   refine ⟨.yld 0 [.i .i64 (a+p)],?_,rfl,p,rfl,g2,g3,g4,g5⟩;simp (disch:=omega) only [Ey,hlt,EVT,EVM,EVC,xe,EVP,EV,simprocAttr]
theorem Eh6 {le:Rec→Rec→Bool} (ht:TP le) {B:List Rec} (hB:B.Pairwise fun x y=>le x y=true) (x:Rec) (p:Nat) (hp:p≤B.length) (h1:∀y,p≠0→B[p - 1]? =some y→le x y=false) (h2:∀y,B[p]? =some y→le x y=true):mrg le [x] B=B.take p++x::B.drop p:=by have e1:=Om ht (A:=[x]) (B:=B) (by simp) hB 0 p (fun u v h=>absurd rfl h) (fun u v h0 hu hv=>by simp at hu;subst hu;exact h1 v h0 hv) (by simp) hp;have e2:=Om ht (A:=[x]) (B:=B.drop p) (by simp) (hB.sublist (List.drop_sublist p B)) 1 0 (fun u v _ hu hv=>by simp at hu;subst hu;rw [A9] at hv;exact h2 v hv) (fun u v h=>absurd rfl h) (by simp) (by simp);rw [e1];simp only [List.take_zero,D1,List.take_succ_cons,List.drop_succ_cons,I8] at e2 ⊢;rw [e2];simp [mrg]
theorem Eh5 {le:Rec→Rec→Bool} (ht:TP le) {A:List Rec} (hA:A.Pairwise fun x y=>le x y=true) (x:Rec) (p:Nat) (hp:p≤A.length) (h1:∀y,p≠0→A[p - 1]? =some y→le y x=true) (h2:∀y,A[p]? =some y→le y x=false):mrg le A [x]=A.take p++x::A.drop p:=by have e1:=Om ht (A:=A) (B:=[x]) hA (by simp) p 0 (fun u v h0 hu hv=>by simp at hv;subst hv;exact h1 u h0 hu) (fun u v h=>absurd rfl h) hp (by simp);have e2:=Om ht (A:=A.drop p) (B:=[x]) (hA.sublist (List.drop_sublist p A)) (by simp) 0 1 (fun u v h=>absurd rfl h) (fun u v _ hu hv=>by simp at hv;subst hv;rw [A9] at hu;exact h2 u hu) (by simp) (by simp);rw [e1];simp only [List.take_zero,D1,List.take_succ_cons,List.drop_succ_cons,I8] at e2 ⊢;rw [e2];simp [mrg]
set_option maxHeartbeats 2000000 in
theorem H7 (hC:Cmp g caps c P) (ht:TP (leC c)):∀(n:Nat) (X A B Y:List Rec) (a m b:Int),A.length+B.length≤n→A≠[]→B≠[]→(A.Pairwise fun x y=>leC c x y=true)→(B.Pairwise fun x y=>leC c x y=true)→
  a=X.length→m=a+A.length→b=m+B.length→(X++A++B++Y).length≤1000000→(∀y∈X++A++B++Y,P y)→
  S M1 1048581 [Af (X++A++B++Y), .i .i64 a, .i .i64 m, .i .i64 b, .f g caps]=some [Af (X++mrg (leC c) A B++Y)]
 |0,X,A,B,Y,a,m,b,hn,hA,_,_,_,_,_,_,_,_=>absurd (Bv (by omega)) hA
 |n+1,X,A,B,Y,a,m,b,hn,hA,hB,sA,sB,ha,hm,hb,hs,hP=>by
  have hA':0<A.length:=Bg.2 hA;have hB':0<B.length:=Bg.2 hB;have hs2:=hs;simp only [Ab] at hs2;obtain ⟨N,hN⟩:∃N,N=A.length+B.length+1:=⟨_,rfl⟩;refine Fm0 (N:=N) rfl ?_;by_cases c1:A.length=1
  ·-- one ahead
   obtain ⟨x,rfl⟩:=List.length_eq_one_iff.1 c1;have hsd:X++[x]++B++Y=X++x::(B++Y):=by simp
   obtain ⟨p,k1,k2,k3,k4⟩:=Gr3 hC X B Y x (X++[x]++B++Y) hsd a m b ha (by simpa using hm) hb hs hP N (by omega);have k5:=Gr2 X B Y x (X++[x]++B++Y) hsd a m b .u p ha (by simpa using hm) k2 hs N (by omega) (.i .i64 m) (.i .i64 b) (.f g caps);have e:=Eh6 ht sB x p k2 (fun y h0 hy=>Cf8.2 (k3 y h0 hy)) (fun y hy=>Cf7.2 (k4 y hy));rw [e];have q1:m - a=1:=by simp at hm;omega
   generalize X++[x]++B++Y=s at*;generalize X++(List.take p B++x::List.drop p B)++Y=u at*;simp (disch:=omega) only [Ey,q1,k1,k5,EVT,EVM,EVC,xe,EVP,EV,simprocAttr]
  ·by_cases c2:B.length=1
   ·obtain ⟨x,rfl⟩:=List.length_eq_one_iff.1 c2;have hsd:X++A++[x]++Y=X++(A++x::Y):=by simp
    obtain ⟨p,k1,k2,k3,k4⟩:=Gr1 hC X A Y x (X++A++[x]++Y) hsd a m (.i .i64 b) ha hm hs hP N (by omega);have k5:=Gr0 X A Y x (X++A++[x]++Y) hsd a m p ha hm k2 hs N (by omega) (.i .i64 a) (.i .i64 b) (.f g caps);have e:=Eh5 ht sA x p k2 (fun y h0 hy=>Cf7.2 (k3 y h0 hy)) (fun y hy=>Cf8.2 (k4 y hy));rw [e];have q1:¬m - a=1:=by omega
    have q2:b - m=1:=by simp at hb;omega
    generalize X++A++[x]++Y=s at*;generalize X++(List.take p A++x::List.drop p A)++Y=u at*;simp (disch:=omega) only [Ey,q1,q2,k1,k5,EVT,EVM,EVC,xe,EVP,EV,simprocAttr]
   ·-- two parts of more
    have q1:¬m - a=1:=by omega
    have q2:¬b - m=1:=by omega
    obtain ⟨h,hh⟩:∃h,h=(A.length+B.length) / 2:=⟨_,rfl⟩;obtain ⟨mid,hM⟩:∃mid,(a+b) / 2=mid:=⟨_,rfl⟩;have hmid:mid=a+h:=by omega
    obtain ⟨i0,j0,hc15,h1,h2,h3,h4,hi0,hj0⟩:∃i0 j0:Nat,Tj.ev S N [Af (X++A++B++Y), .i .i64 a, .i .i64 m, .i .i64 b, .f g caps]=some (.yld 0 [.i .i64 (a+i0), .i .i64 (a+j0)])∧i0≤j0∧j0≤A.length∧j0≤h∧h≤i0+B.length∧(i0=0∨h - i0=B.length)∧(j0=h∨j0=A.length):=by
     by_cases hgt:h<A.length
     ·refine ⟨h - B.length,h,?_,by omega,by omega,by omega,by omega,by omega, .inl rfl⟩;have t1:mid<m:=by omega
      have t2:mid+m - b=a+((h - B.length:Nat):Int):=by omega
      rw [←t2,←hmid];generalize X++A++B++Y=s at*;simp (disch:=omega) only [Ey,Dm,hM,t1,EVT,EVM,EVC,xe,EVP,EV,simprocAttr]
     ·refine ⟨0,A.length,?_,by omega,by omega,by omega,by omega, .inl rfl, .inr rfl⟩;have t1:¬mid<m:=by omega
      generalize X++A++B++Y=s at*;simp (disch:=omega) only [Ey,Dm,hM,t1,hm,EVT,EVM,EVC,xe,EVP,EV,simprocAttr];simp
    have hsd:X++A++B++Y=X++(A++(B++Y)):=by simp
    obtain ⟨i,k1,k2,k3,k4,k5⟩:=Gp9 hC X A B Y (X++A++B++Y) hsd a m b mid h i0 j0 ha hm hb hM hmid h1 h2 h3 h4 hs hP N (by omega);have cut:=Om ht sA sB i (h - i) (fun x y h0 hx hy=>Cf7.2 (k4 x y (fun e=>by
      rcases hi0 with q|q
      ·omega
      ·have:=(Aq.1 hy).1;omega) hx hy)) (fun x y h0 hx hy=>Cf8.2 (k5 x y (fun e=>by
      rcases hj0 with q|q
      ·omega
      ·have:=(Aq.1 hx).1;omega) hx (by rw [show h - 1 - i=h - i - 1 by omega];exact hy))) (by omega) (by omega)
    have eA:A.take i++A.drop i=A:=Br _ _;have eB:B.take (h - i)++B.drop (h - i)=B:=Br _ _;have lA1:(A.take i).length=i:=by rw [Ar];omega
    have lA2:(A.drop i).length=A.length - i:=Bm;have lB1:(B.take (h - i)).length=h - i:=by rw [Ar];omega
    have lB2:(B.drop (h - i)).length=B.length - (h - i):=Bm;have sA1:=sA.sublist (List.take_sublist i A);have sA2:=sA.sublist (List.drop_sublist i A);have sB1:=sB.sublist (List.take_sublist (h - i) B);have sB2:=sB.sublist (List.drop_sublist (h - i) B);generalize A.take i=A1 at*;generalize A.drop i=A2 at*;generalize B.take (h - i)=B1 at*;generalize B.drop (h - i)=B2 at*;have e0:X++A++B++Y=X++A1++A2++B1++(B2++Y):=by rw [←eA,←eB];simp
    have mem1:∀y,y∈X++A1++B1++(A2++B2++Y)→P y:=fun y hy=>hP y (by rw [e0];simp only [B3] at hy ⊢;grind);have len1:(X++A1++B1++(A2++B2++Y)).length≤1000000:=by simp only [Ab] at hs2 ⊢;omega
    have lm1:=Ol (leC c) A1 B1;have mem2:∀y,y∈(X++mrg (leC c) A1 B1)++A2++B2++Y→P y:=fun y hy=>mem1 y (by simp only [B3,mrg_mem] at hy ⊢;grind)
    have len2:((X++mrg (leC c) A1 B1)++A2++B2++Y).length≤1000000:=by simp only [Ab,lm1] at hs2 ⊢;omega
    have s1:(T.blk 0 S9 Lr).ev S N [Af (X++A++B++Y), .i .i64 a, .i .i64 m, .i .i64 b, .f g caps, .i .i64 (a+i0), .i .i64 (a+j0), .i .i64 (a+i)]=
      Lr.ev S N [Af (X++A++B++Y), .i .i64 a, .i .i64 m, .i .i64 b, .f g caps, .i .i64 (a+i0), .i .i64 (a+j0), .i .i64 (a+i),Af (X++A1++B1++(A2++B2++Y))]:=by
     by_cases t:A2=[]∨B1=[]
     ·have t1:¬(a+(i:Int)<m∧m<mid+m - (a+i)):=by
       rcases t with t|t
       ·rw [t] at lA2;simp at lA2;omega
       ·rw [t] at lB1;simp at lB1;omega
      have e1:X++A++B++Y=X++A1++B1++(A2++B2++Y):=by rw [e0];rcases t with t|t<;>subst t<;>simp
      rw [←e1];generalize X++A++B++Y=s at*;by_cases t2:a+(i:Int)<m
      ·have t3:¬m<mid+m - (a+i):=fun q=>t1 ⟨t2,q⟩;simp (disch:=omega) only [Ey,Dm,hM,t2,t3,EVT,EVM,EVC,xe,EVP,EV,simprocAttr]
      ·simp (disch:=omega) only [Ey,Dm,hM,t2,EVT,EVM,EVC,xe,EVP,EV,simprocAttr]
     ·have t':A2≠[]∧B1≠[]:=by grind
      have p1:=Bg.2 t'.1;have p2:=Bg.2 t'.2;have hr:=qj (X++A1) A2 B1 (B2++Y) (a+i) m (mid+m - (a+i)) g caps (by simp only [Ab];omega) (by simp only [Ab];omega) (by simp only [Ab];omega) t'.1 t'.2 (by rw [←e0];exact hs);have t2:a+(i:Int)<m:=by omega
      have t3:m<mid+m - (a+i):=by omega
      rw [←e0] at hr;have e1:X++A1++B1++A2++(B2++Y)=X++A1++B1++(A2++B2++Y):=by simp
      rw [e1] at hr;generalize X++A1++B1++(A2++B2++Y)=s1 at*;generalize X++A++B++Y=s at*;simp (disch:=omega) only [Ey,Dm,hM,t2,t3,hr,Ez,L6,EVT,EVM,EVC,xe,EVP,EV,simprocAttr]
    have s2:(T.blk 0 S8 Ls).ev S N [Af (X++A++B++Y), .i .i64 a, .i .i64 m, .i .i64 b, .f g caps, .i .i64 (a+i0), .i .i64 (a+j0), .i .i64 (a+i),Af (X++A1++B1++(A2++B2++Y))]=
      Ls.ev S N [Af (X++A++B++Y), .i .i64 a, .i .i64 m, .i .i64 b, .f g caps, .i .i64 (a+i0), .i .i64 (a+j0), .i .i64 (a+i),Af (X++A1++B1++(A2++B2++Y)),Af ((X++mrg (leC c) A1 B1)++A2++B2++Y)]:=by
     by_cases t:A1=[]∨B1=[]
     ·have t1:¬(a<a+(i:Int)∧a+(i:Int)<mid):=by
       rcases t with t|t
       ·rw [t] at lA1;simp at lA1;omega
       ·rw [t] at lB1;simp at lB1;omega
      have e1:X++A1++B1++(A2++B2++Y)=(X++mrg (leC c) A1 B1)++A2++B2++Y:=by rcases t with t|t<;>subst t<;>simp [mrg,I8]
      rw [←e1];generalize X++A1++B1++(A2++B2++Y)=s1 at*;generalize X++A++B++Y=s at*;by_cases t2:a<a+(i:Int)
      ·have t3:¬a+(i:Int)<mid:=fun q=>t1 ⟨t2,q⟩;simp (disch:=omega) only [Ey,Dm,hM,t2,t3,EVT,EVM,EVC,xe,EVP,EV,simprocAttr]
      ·simp (disch:=omega) only [Ey,Dm,hM,t2,EVT,EVM,EVC,xe,EVP,EV,simprocAttr]
     ·have t':A1≠[]∧B1≠[]:=by grind
      have p1:=Bg.2 t'.1;have p2:=Bg.2 t'.2;have hr:=H7 hC ht n X A1 B1 (A2++B2++Y) a (a+i) mid (by omega) t'.1 t'.2 sA1 sB1 ha (by omega) (by omega) len1 mem1;have t2:a<a+(i:Int):=by omega
      have t3:a+(i:Int)<mid:=by omega
      have e1:X++mrg (leC c) A1 B1++(A2++B2++Y)=(X++mrg (leC c) A1 B1)++A2++B2++Y:=by simp
      rw [e1] at hr;generalize (X++mrg (leC c) A1 B1)++A2++B2++Y=s2 at*;generalize X++A1++B1++(A2++B2++Y)=s1 at*;generalize X++A++B++Y=s at*;simp (disch:=omega) only [Ey,Dm,hM,t2,t3,hr,Ez,L6,EVT,EVM,EVC,xe,EVP,EV,simprocAttr]
    have s3:Ls.ev S N [Af (X++A++B++Y), .i .i64 a, .i .i64 m, .i .i64 b, .f g caps, .i .i64 (a+i0), .i .i64 (a+j0), .i .i64 (a+i),Af (X++A1++B1++(A2++B2++Y)),Af ((X++mrg (leC c) A1 B1)++A2++B2++Y)]=
      some (.ret [Af (X++mrg (leC c) A B++Y)]):=by
     have e9:X++mrg (leC c) A B++Y=(X++mrg (leC c) A1 B1)++mrg (leC c) A2 B2++Y:=by rw [cut];simp
     rw [e9];by_cases t:A2=[]∨B2=[]
     ·have t1:¬(mid<mid+m - (a+i)∧mid+m - (a+(i:Int))<b):=by
       rcases t with t|t
       ·rw [t] at lA2;simp at lA2;omega
       ·rw [t] at lB2;simp at lB2;omega
      have e1:(X++mrg (leC c) A1 B1)++A2++B2++Y=(X++mrg (leC c) A1 B1)++mrg (leC c) A2 B2++Y:=by rcases t with t|t<;>subst t<;>simp [mrg,I8]
      rw [←e1];generalize (X++mrg (leC c) A1 B1)++A2++B2++Y=s2 at*;generalize X++A1++B1++(A2++B2++Y)=s1 at*;generalize X++A++B++Y=s at*;by_cases t2:mid<mid+m - (a+(i:Int))
      ·have t3:¬mid+m - (a+(i:Int))<b:=fun q=>t1 ⟨t2,q⟩;simp (disch:=omega) only [Ey,Dm,hM,t2,t3,EVT,EVM,EVC,xe,EVP,EV,simprocAttr]
      ·simp (disch:=omega) only [Ey,Dm,hM,t2,EVT,EVM,EVC,xe,EVP,EV,simprocAttr]
     ·have t':A2≠[]∧B2≠[]:=by grind
      have p1:=Bg.2 t'.1;have p2:=Bg.2 t'.2;have hr:=H7 hC ht n (X++mrg (leC c) A1 B1) A2 B2 Y mid (mid+m - (a+i)) b (by omega) t'.1 t'.2 sA2 sB2 (by simp only [Ab,lm1];omega) (by omega) (by omega) len2 mem2;have t2:mid<mid+m - (a+(i:Int)):=by omega
      have t3:mid+m - (a+(i:Int))<b:=by omega
      generalize (X++mrg (leC c) A1 B1)++mrg (leC c) A2 B2++Y=s3 at*;generalize (X++mrg (leC c) A1 B1)++A2++B2++Y=s2 at*;generalize X++A1++B1++(A2++B2++Y)=s1 at*;generalize X++A++B++Y=s at*;simp (disch:=omega) only [Ey,Dm,hM,t2,t3,hr,Ez,L6,EVT,EVM,EVC,xe,EVP,EV,simprocAttr]
    have f2:Lr.ev S N [Af (X++A++B++Y), .i .i64 a, .i .i64 m, .i .i64 b, .f g caps, .i .i64 (a+i0), .i .i64 (a+j0), .i .i64 (a+i),Af (X++A1++B1++(A2++B2++Y))]=some (.ret [Af (X++mrg (leC c) A B++Y)]):=s2.trans s3;have f1:=s1.trans f2;clear s1 s2 s3 f2 mem1 mem2 cut k4 k5;generalize X++mrg (leC c) A B++Y=s3 at*;generalize X++A++B++Y=s at*;simp (disch:=omega) only [Ey,q1,q2,Dm,hM,hc15,k1,f1,EVT,EVM,EVC,xe,EVP,EV,simprocAttr]
end
end Go.X.G
/- Stable sorting: the library's functions. -/
namespace Go.X.G
open Go Go.X
section
variable {g:Nat} {caps:List PV} {c:Rec→Rec→Int} {P:Rec→Prop}
theorem Hg9 (hC:Cmp g caps c P) (L L':List Rec) (i:Nat) (x y:Rec) (g0:L[i]? =some y) (g1:L[i+1]? =some x) (sw:(L.set (i+1) y).set i x=L') (k e:Int) (hk:k=i+1) (he:e<k) (he2:0≤e) (hx:P x) (hy:P y) (hlt:c x y<0) (hL:L.length≤1000000) (w0 w2 w4 w5:PV) (N:Nat):
  Jf.ev S N [w0, .i .i64 e,w2, .f g caps,w4,w5, .i .i64 k,Af L]=some (.yld 3 [.i .i64 (k - 1),Af L']):=by
 have hi:=(Aq.1 g1).1;have ti0:(k - 1).toNat=i:=by omega
 have ti1:k.toNat=i+1:=by omega
 have g2:(L.set (i+1) y)[i]? =some y:=by rw [oj (by omega)];exact g0
 have hc:=hC.ok x y hx hy;simp (disch:=first|omega|(rw [Gj];omega)) only [Mn,F3,Jb,he,ti0,ti1,g0,g1,g2,sw,hc,hlt,EVT,EVM,EVC,xe,EVP,EV,simprocAttr]
theorem zq (hC:Cmp g caps c P) (L:List Rec) (i:Nat) (x y:Rec) (g0:L[i]? =some y) (g1:L[i+1]? =some x) (k e:Int) (hk:k=i+1) (he:e<k) (hx:P x) (hy:P y) (hlt:¬c x y<0) (hL:L.length≤1000000) (w0 w2 w4 w5:PV) (N:Nat):
  Jf.ev S N [w0, .i .i64 e,w2, .f g caps,w4,w5, .i .i64 k,Af L]=some (.yld 2 [Af L]):=by
 have hi:=(Aq.1 g1).1;have ti0:(k - 1).toNat=i:=by omega
 have ti1:k.toNat=i+1:=by omega
 have hc:=hC.ok x y hx hy;simp (disch:=omega) only [Mn,F3,Jb,he,ti0,ti1,g0,g1,hc,hlt,EVT,EVM,EVC,xe,EVP,EV,simprocAttr]
theorem Cg5 (L:List Rec) (k e:Int) (he:¬e<k) (w0 w2 w3 w4 w5:PV) (N:Nat):
  Jf.ev S N [w0, .i .i64 e,w2,w3,w4,w5, .i .i64 k,Af L]=some (.yld 2 [Af L]):=by
 simp (disch:=omega) only [Mn,F3,Jb,he,EVT,EVM,EVC,xe,EVP,EV,simprocAttr]
theorem Hg8 (hC:Cmp g caps c P) (ht:TP (leC c)) (X R Y:List Rec) (x:Rec) (hR:R.Pairwise fun a b=>leC c a b=true) (hP:∀y∈X++R++x::Y,P y) (hs:(X++R++x::Y).length≤1000000) (a k:Int) (ha:a=X.length) (hk:k=a+R.length) (w0 w2:PV) (N:Nat) (hN:R.length<N):
  ∃R1 R2,R=R1++R2∧(∀y∈R1,leC c y x=true)∧(∀y∈R2,leC c y x=false)∧
   yh.ev S N [w0, .i .i64 a,w2, .f g caps, .i .i64 k,Af (X++R++x::Y)]=some (.yld 2 [Af (X++(R1++x::R2)++Y)]):=by
 have hx:P x:=hP x (by simp);have hs2:=hs;simp only [Ab,Bj] at hs2;have key:=Gl (fn:=S) (N:=N) (η:=[w0, .i .i64 a,w2, .f g caps, .i .i64 k,Af (X++R++x::Y)]) (id:=3) (init:=[.v 4, .v 5]) (body:=Jf) (α:=List Rec×List Rec)
  (fun w=>[.i .i64 (a+w.1.length),Af (X++w.1++x::(w.2++Y))])
  (fun o=>∃R1 R2,R=R1++R2∧(∀y∈R1,leC c y x=true)∧(∀y∈R2,leC c y x=false)∧o= .yld 2 [Af (X++(R1++x::R2)++Y)])
  (fun w=>R=w.1++w.2∧∀y∈w.2,leC c y x=false) (fun w=>w.1.length) (R,[]) ?_ ⟨by simp,by simp⟩ hN ?_
 ·obtain ⟨o,h1,R1,R2,h2,h3,h4,rfl⟩:=key;exact ⟨R1,R2,h2,h3,h4,h1⟩
 ·subst hk;simp only [Dw];generalize X++R++x::Y=s at*;simp (disch:=omega) only [EVT,EVM,EVC,xe,EVP,EV,simprocAttr]
 ·rintro ⟨R1,R2⟩ ⟨h1,h2⟩;simp only at h1 h2;have hlen:=congrArg List.length h1;simp only [Ab] at hlen;rcases List.eq_nil_or_concat R1 with rfl|⟨R0,y,rfl⟩
  ·right;refine ⟨_,Cg5 _ _ a (by simp) _ _ _ _ _ N,rfl,[],R2,h1,by simp,h2,?_⟩;simp
  ·rw [List.concat_eq_append] at*;simp only [Ab,Bj,Bz] at hlen;have hy:P y:=hP y (by rw [h1];simp);have lP:(X++R0).length=X.length+R0.length:=Ab;have g0:=V8 (X++R0) (x::(R2++Y)) y;have g1:=Ys (X++R0) (R2++Y) y x;rw [lP] at g0 g1;have e0:X++(R0++[y])++x::(R2++Y)=X++R0++y::x::(R2++Y):=by simp
   have lL:(X++R0++y::x::(R2++Y)).length≤1000000:=by simp only [Ab,Bj];omega
   by_cases hlt:c x y<0
   ·left;have sw0:((X++R0++y::x::(R2++Y)).set (X.length+R0.length+1) y).set (X.length+R0.length) x=X++R0++x::(y::R2++Y):=by rw [←lP,List.set_comm _ _ (by omega)];exact Ec6 (X++R0) (R2++Y) y x
    refine ⟨(R0,y::R2),?_,⟨by simp only;rw [h1];simp,fun w hw=> ?_⟩,by simp⟩
    ·have:=Hg9 hC _ _ (X.length+R0.length) x y g0 g1 sw0 (a+((R0++[y]).length:Nat)) a (by simp;omega) (by simp;omega) (by omega) hx hy hlt lL w0 w2 (.i .i64 k) (Af (X++R++x::Y)) N;have e1:a+((R0++[y]).length:Nat) - 1=a+(R0.length:Int):=by simp;omega
     rw [e1] at this;show Jf.ev S N [w0, .i .i64 a,w2, .f g caps, .i .i64 k,Af (X++R++x::Y), .i .i64 (a+((R0++[y]).length:Nat)),Af (X++(R0++[y])++x::(R2++Y))]=_;rw [e0];exact this
    ·rcases A7.1 hw with rfl|hw
     ·exact Cf8.2 hlt
     ·exact h2 w hw
   ·right;have hle:leC c y x=true:=Cf7.2 hlt;refine ⟨_,?_,rfl,R0++[y],R2,h1,Xs ht (by rw [h1] at hR;exact (Kn.1 hR).1) hle,h2,rfl⟩;have:=zq hC _ (X.length+R0.length) x y g0 g1 (a+((R0++[y]).length:Nat)) a (by simp;omega) (by simp;omega) hx hy hlt lL w0 w2 (.i .i64 k) (Af (X++R++x::Y)) N;show Jf.ev S N [w0, .i .i64 a,w2, .f g caps, .i .i64 k,Af (X++R++x::Y), .i .i64 (a+((R0++[y]).length:Nat)),Af (X++(R0++[y])++x::(R2++Y))]=_;rw [e0,this,←e0];simp
theorem Ql (hC:Cmp g caps c P) (ht:TP (leC c)) (X A Y:List Rec) (a b:Int) (ha:a=X.length) (hb:b=a+A.length) (hP:∀y∈X++A++Y,P y) (hs:(X++A++Y).length≤1000000):
  ∃R,Stab (leC c) R A∧R.length=A.length∧S Qf 1048580 [Af (X++A++Y), .i .i64 a, .i .i64 b, .f g caps]=some [Af (X++R++Y)]:=by
 have hs2:=hs;simp only [Ab] at hs2;cases A with
 |nil=>
  refine ⟨[],Nb _,rfl,?_⟩;refine Cs5 (N:=2) rfl ?_;simp only [Bz] at hb;have h1:¬a+1<b:=by omega
  have key:Ym.ev S 2 [Af (X++[]++Y), .i .i64 a, .i .i64 b, .f g caps]=some (.yld 0 [Af (X++[]++Y)]):=by
   generalize X++[]++Y=s at*;refine En 0 (fun _=>[.i .i64 (a+1),Af s]) (fun _=> .yld 0 [Af s]) ?_ (by omega) (fun i hi=>absurd hi (by omega)) ⟨?_,rfl⟩
   ·simp (disch:=omega) only [EVT,EVM,EVC,xe,EVP,EV,simprocAttr]
   ·simp (disch:=omega) only [Mn,F3,Jb,h1,EVT,EVM,EVC,xe,EVP,EV,simprocAttr]
  generalize X++[]++Y=s at*;simp (disch:=omega) only [Mn,F3,Jb,key,EVT,EVM,EVC,xe,EVP,EV,simprocAttr]
 |cons x0 A=>
  obtain ⟨N,hN⟩:∃N,N=A.length+3:=⟨_,rfl⟩;simp only [Bj] at hb hs2;have key:=Gl (fn:=S) (N:=N) (η:=[Af (X++x0::A++Y), .i .i64 a, .i .i64 b, .f g caps]) (id:=1) (init:=[.bin .add (.v 1) (.c (.i .i64 1)), .v 0]) (body:=Ty) (α:=List Rec×List Rec×List Rec)
   (fun w=>[.i .i64 (a+w.1.length),Af (X++w.1++(w.2.2++Y))])
   (fun o=>∃R,Stab (leC c) R (x0::A)∧R.length=(x0::A).length∧o= .yld 0 [Af (X++R++Y)])
   (fun w=>x0::A=w.2.1++w.2.2∧Stab (leC c) w.1 w.2.1∧w.1.length=w.2.1.length) (fun w=>w.2.2.length) ([x0],[x0],A) ?_ ⟨rfl,Xp _ _,rfl⟩ (by simp only;omega) ?_
  ·obtain ⟨o,h1,R,h2,h3,rfl⟩:=key;refine ⟨R,h2,h3,?_⟩;refine Cs5 (N:=N) rfl ?_;have h4:Ym.ev S N [Af (X++x0::A++Y), .i .i64 a, .i .i64 b, .f g caps]=_:=h1;clear h1;generalize X++x0::A++Y=s at*;generalize X++R++Y=u at*;simp (disch:=omega) only [Mn,F3,Jb,h4,EVT,EVM,EVC,xe,EVP,EV,simprocAttr]
  ·simp only [Bj,Bz];have e:X++[x0]++(A++Y)=X++x0::A++Y:=by simp
   rw [e];have e1:a+((0+1:Nat):Int)=a+1:=by omega
   rw [e1];generalize X++x0::A++Y=s at*;simp (disch:=omega) only [EVT,EVM,EVC,xe,EVP,EV,simprocAttr]
  ·rintro ⟨R,D,Z⟩ ⟨h1,h2,h3⟩;simp only at h1 h2 h3;have hlen:=congrArg List.length h1;simp only [Ab,Bj] at hlen;cases Z with
   |nil=>
    right;rw [Dd] at h1;subst h1;refine ⟨_,?_,rfl,R,h2,h3,rfl⟩;have hlt:¬a+(R.length:Int)<b:=by simp only [Bj] at h3;omega
    simp only [Dw];generalize X++x0::A++Y=s at*;have hu:(X++R++Y).length≤1000000:=by simp only [Ab];omega
    generalize X++R++Y=u at*;simp (disch:=omega) only [Mn,F3,Jb,hlt,EVT,EVM,EVC,xe,EVP,EV,simprocAttr]
   |cons x Z=>
    left;simp only [Bj] at hlen;have hmem:∀y∈X++R++x::(Z++Y),P y:=fun y hy=>hP y (by
     rw [h1];have:=h2.mem ht y;simp only [B3,A7] at hy ⊢
     grind)
    have hlen2:(X++R++x::(Z++Y)).length≤1000000:=by simp only [Ab,Bj];omega
    obtain ⟨R1,R2,rfl,k1,k2,k3⟩:=Hg8 hC ht X R (Z++Y) x h2.sorted hmem hlen2 a (a+R.length) ha rfl (Af (X++x0::A++Y)) (.i .i64 b) N (by omega);refine ⟨(R1++x::R2,D++[x],Z),?_,⟨by simp only;rw [h1];simp,Cx7 ht h2 k1 k2,by simp at h3 ⊢;omega⟩,by simp⟩;have e1:a+((R1++x::R2).length:Nat)=a+((R1++R2).length:Nat)+1:=by simp;omega
    have hlt:a+((R1++R2).length:Nat)<b:=by omega
    show Ty.ev S N [Af (X++x0::A++Y), .i .i64 a, .i .i64 b, .f g caps, .i .i64 (a+((R1++R2).length:Nat)),Af (X++(R1++R2)++x::(Z++Y))]=some (.yld 1 [.i .i64 (a+((R1++x::R2).length:Nat)),Af (X++(R1++x::R2)++(Z++Y))]);rw [e1];have hb2:(R1++R2).length≤1000000:=by simp only [Ab] at hlen2 ⊢;omega
    generalize (R1++R2).length=n at*;generalize X++(R1++R2)++x::(Z++Y)=s1 at*;generalize X++(R1++x::R2)++(Z++Y)=s2 at*;generalize X++x0::A++Y=s at*;simp (disch:=omega) only [Mn,F3,Jb,hlt,k3,EVT,EVM,EVC,xe,EVP,EV,simprocAttr]
end
end Go.X.G
/- Stable sorting: the K5. -/
namespace Go.X.G
open Go Go.X
theorem Wl {α:Type} {le:α→α→Bool} (ht:TP le) {bs:Nat} {Y LY:List α} (h:Blk le bs Y LY) (hl:Y.length≤2*bs) (hb:bs<Y.length):Stab le (mrg le (Y.take bs) (Y.drop bs)) LY:=by have h1:=h.head;have h2:=(h.tail).all (by rw [Bm];omega);have:=Stab.mrg ht h1 h2;rwa [Br] at this
theorem Blk.pre {α:Type} {le:α→α→Bool} {bs k:Nat} {Y LY:List α} (h:Blk le bs Y LY):Blk le bs (Y.take (k*bs)) (LY.take (k*bs)):=by
 refine ⟨by simp [h.len],fun j=> ?_⟩;rw [List.drop_take,List.drop_take,n3,n3];by_cases hj:j<k
 ·have e:(j+1)*bs≤k*bs:=Bq _ hj;rw [Nat.succ_mul] at e;rw [Kl (by omega)];exact h.st j
 ·have e:k*bs≤j*bs:=Bq _ (by omega);rw [show k*bs - j*bs=0 by omega,Nat.min_eq_right (by omega),List.take_zero,List.take_zero];exact Nb le
section
variable {g:Nat} {caps:List PV} {c:Rec→Rec→Int} {P:Rec→Prop}
theorem Gp6 (hC:Cmp g caps c P) (ht:TP (leC c)) (l:List Rec) (hP:∀y∈l,P y) (hs:l.length≤1000000) (N:Nat) (hN:l.length+2<N):
  ∃(X LX Y:List Rec) (q:Nat),Dj0.ev S N [Af l, .i .i64 l.length, .f g caps]=some (.yld 0 [.i .i64 X.length,Af (X++Y)])∧l=LX++Y∧X.length=q*20∧Y.length<20∧Blk (leC c) 20 X LX∧∀y∈X++Y,P y:=by
 have key:=Gl (fn:=S) (N:=N) (η:=[Af l, .i .i64 l.length, .f g caps]) (id:=1) (init:=[.c (.i .i64 0), .c (.i .i64 20), .v 0]) (body:=Bl1) (α:=List Rec×List Rec×List Rec×Nat)
  (fun w=>[.i .i64 (w.1.length:Int), .i .i64 ((w.1.length:Int)+20),Af (w.1++w.2.2.1)])
  (fun o=>∃(X LX Y:List Rec) (q:Nat),o= .yld 0 [.i .i64 X.length,Af (X++Y)]∧l=LX++Y∧X.length=q*20∧Y.length<20∧Blk (leC c) 20 X LX∧∀y∈X++Y,P y)
  (fun w=>l=w.2.1++w.2.2.1∧w.1.length=w.2.2.2*20∧Blk (leC c) 20 w.1 w.2.1∧∀y∈w.1++w.2.2.1,P y) (fun w=>w.2.2.1.length) ([],[],l,0) ?_ ⟨rfl,by simp,Blk.nil _ _,by simpa using hP⟩ (by simp only;omega) ?_
 ·obtain ⟨o,h1,X,LX,Y,q,rfl,h2⟩:=key;exact ⟨X,LX,Y,q,h1,h2⟩
 ·simp (disch:=omega) only [EVT,EVM,EVC,xe,EVP,EV,simprocAttr]
  try simp
 ·rintro ⟨X,LX,Y,q⟩ ⟨h1,h2,h3,h4⟩;simp only at h1 h2 h3 h4;have hlen:=congrArg List.length h1;simp only [Ab] at hlen;have hXL:=h3.len;by_cases hge:20≤Y.length
  ·left;have eY:Y.take 20++Y.drop 20=Y:=Br _ _;have l1:(Y.take 20).length=20:=by rw [Ar];omega
   have l2:(Y.drop 20).length=Y.length - 20:=Bm;have eXY:X++Y.take 20++Y.drop 20=X++Y:=by rw [Ap,eY]
   obtain ⟨R,k1,k2,k3⟩:=Ql hC ht X (Y.take 20) (Y.drop 20) (X.length:Int) ((X.length:Int)+20) rfl (by omega) (by rw [eXY];exact h4) (by rw [eXY,Ab];omega);rw [eXY] at k3;refine ⟨(X++R,LX++Y.take 20,Y.drop 20,q+1),?_,⟨by simp only;rw [h1,Ap,eY],by simp only [Ab];omega,Blk.app h2 h3 (Blk.one k1 k2 (by omega)),fun y hy=>h4 y ?_⟩,by simp only;omega⟩
   ·have e1:((X++R).length:Int)=(X.length:Int)+20:=by simp only [Ab];omega
    have hge':(X.length:Int)+20≤(l.length:Int):=by omega
    simp only;rw [e1];generalize X++R++Y.drop 20=s1 at*;generalize X++Y=s0 at*;simp (disch:=omega) only [T4,hge',k3,Ez,L6,EVT,EVM,EVC,xe,EVP,EV,simprocAttr]
   ·have:=k1.mem ht y;simp only [B3] at hy;rcases hy with (hy|hy)|hy
    ·simp [hy]
    ·exact Bs _ (Ex (this.1 hy))
    ·exact Bs _ (G5 hy)
  ·right;have hge':¬(X.length:Int)+20≤(l.length:Int):=by omega
   refine ⟨.yld 0 [.i .i64 X.length,Af (X++Y)],?_,rfl,X,LX,Y,q,rfl,h1,h2,by omega,h3,h4⟩;simp only;generalize X++Y=s0 at*;simp (disch:=omega) only [T4,hge',EVT,EVM,EVC,xe,EVP,EV,simprocAttr]
theorem Gp5 (hC:Cmp g caps c P) (ht:TP (leC c)) (l r:List Rec) (bs:Nat) (hbs:0<bs) (hbs2:bs<l.length) (hr:Blk (leC c) bs r l) (hP:∀y∈r,P y) (hs:l.length≤1000000) (w0:PV) (w3 w4 w5:PV) (N:Nat) (hN:l.length+2<N):
  ∃(X LX Y LY:List Rec) (q:Nat),Ct3.ev S N [w0, .i .i64 l.length, .f g caps,w3,w4,w5, .i .i64 bs,Af r]=some (.yld 2 [.i .i64 X.length,Af (X++Y)])∧l=LX++LY∧X.length=q*(2*bs)∧Y.length<2*bs∧Blk (leC c) (2*bs) X LX∧Blk (leC c) bs Y LY∧∀y∈X++Y,P y:=by
 have key:=Gl (fn:=S) (N:=N) (η:=[w0, .i .i64 l.length, .f g caps,w3,w4,w5, .i .i64 bs,Af r]) (id:=3) (init:=[.c (.i .i64 0), .bin .mul (.c (.i .i64 2)) (.v 6), .v 7]) (body:=Bh4) (α:=(List Rec×List Rec)×(List Rec×List Rec)×Nat)
  (fun w=>[.i .i64 (w.1.1.length:Int), .i .i64 ((w.1.1.length:Int)+2*bs),Af (w.1.1++w.2.1.1)])
  (fun o=>∃(X LX Y LY:List Rec) (q:Nat),o= .yld 2 [.i .i64 X.length,Af (X++Y)]∧l=LX++LY∧X.length=q*(2*bs)∧Y.length<2*bs∧Blk (leC c) (2*bs) X LX∧Blk (leC c) bs Y LY∧∀y∈X++Y,P y)
  (fun w=>l=w.1.2++w.2.1.2∧w.1.1.length=w.2.2*(2*bs)∧Blk (leC c) (2*bs) w.1.1 w.1.2∧Blk (leC c) bs w.2.1.1 w.2.1.2∧∀y∈w.1.1++w.2.1.1,P y) (fun w=>w.2.1.1.length) (([],[]),(r,l),0) ?_ ⟨rfl,by simp,Blk.nil _ _,hr,by simpa using hP⟩ (by have:=hr.len;simp only;omega) ?_
 ·obtain ⟨o,h1,X,LX,Y,LY,q,rfl,h2⟩:=key;exact ⟨X,LX,Y,LY,q,h1,h2⟩
 ·simp (disch:=omega) only [EVT,EVM,EVC,xe,EVP,EV,simprocAttr];simp
 ·rintro ⟨⟨X,LX⟩,⟨Y,LY⟩,q⟩ ⟨h1,h2,h3,h4,h5⟩;simp only at h1 h2 h3 h4 h5;have hlen:=congrArg List.length h1;simp only [Ab] at hlen;have hXL:=h3.len;have hYL:=h4.len;by_cases hge:2*bs≤Y.length
  ·left;have eY:Y.take (2*bs)++Y.drop (2*bs)=Y:=Br _ _;have l1:(Y.take (2*bs)).length=2*bs:=by rw [Ar];omega
   have l2:(Y.drop (2*bs)).length=Y.length - 2*bs:=Bm;have hp:=h4.pre (k:=2);have hz:Blk (leC c) bs (Y.drop (2*bs)) (LY.drop (2*bs)):=by have:=h4.tail.tail;rwa [E4,E4,show bs+bs=2*bs by omega] at this
   have hst:=Wl ht hp (by omega) (by omega);have sA:((Y.take (2*bs)).take bs).Pairwise fun x y=>leC c x y=true:=hp.head.sorted;have sB:((Y.take (2*bs)).drop bs).Pairwise fun x y=>leC c x y=true:=(hp.tail.all (by rw [Bm];omega)).sorted;have lA:((Y.take (2*bs)).take bs).length=bs:=by rw [Ar];omega
   have lB:((Y.take (2*bs)).drop bs).length=bs:=by rw [Bm];omega
   have eAB:(Y.take (2*bs)).take bs++(Y.take (2*bs)).drop bs=Y.take (2*bs):=Br _ _;generalize (Y.take (2*bs)).take bs=A at*;generalize (Y.take (2*bs)).drop bs=B at*;have eXY:X++A++B++Y.drop (2*bs)=X++Y:=by rw [Ap X,eAB,Ap,eY]
   have hm:=H7 hC ht (A.length+B.length) X A B (Y.drop (2*bs)) (X.length:Int) ((X.length:Int)+bs) ((X.length:Int)+2*bs) (Ah _) (by intro e;rw [e] at lA;simp at lA;omega) (by intro e;rw [e] at lB;simp at lB;omega) sA sB rfl (by omega) (by omega) (by rw [eXY,Ab];omega) (by rw [eXY];exact h5);rw [eXY] at hm;have lM:=Ol (leC c) A B;have eL:LY.take (2*bs)++LY.drop (2*bs)=LY:=Br _ _;refine ⟨((X++mrg (leC c) A B,LX++LY.take (2*bs)),(Y.drop (2*bs),LY.drop (2*bs)),q+1),?_,⟨by simp only;rw [h1,Ap,eL],by simp only [Ab];rw [Nat.succ_mul];omega,Blk.app h2 h3 (Blk.one hst (by rw [lM,Ar];omega) (by omega)),hz,fun y hy=>h5 y ?_⟩,by simp only;omega⟩
   ·have e1:((X++mrg (leC c) A B).length:Int)=(X.length:Int)+2*bs:=by simp only [Ab];omega
    have hge':(X.length:Int)+2*(bs:Int)≤(l.length:Int):=by omega
    simp only;rw [e1];generalize X++mrg (leC c) A B++Y.drop (2*bs)=s1 at*;generalize X++Y=s0 at*;simp (disch:=omega) only [T4,hge',hm,Ez,L6,EVT,EVM,EVC,xe,EVP,EV,simprocAttr]
   ·rw [←eXY];simp only [B3,mrg_mem] at hy ⊢
    grind
  ·right;have hge':¬(X.length:Int)+2*(bs:Int)≤(l.length:Int):=by omega
   refine ⟨.yld 2 [.i .i64 X.length,Af (X++Y)],?_,rfl,X,LX,Y,LY,q,rfl,h1,h2,by omega,h3,h4,h5⟩;simp only;generalize X++Y=s0 at*;simp (disch:=omega) only [T4,hge',EVT,EVM,EVC,xe,EVP,EV,simprocAttr]
theorem Gp7 (hC:Cmp g caps c P) (ht:TP (leC c)) (l r:List Rec) (bs:Nat) (hbs:0<bs) (hbs2:bs<l.length) (hr:Blk (leC c) bs r l) (hP:∀y∈r,P y) (hs:l.length≤1000000) (w0 w3 w4 w5:PV) (N:Nat) (hN:l.length+2<N):
  ∃r',Blk (leC c) (2*bs) r' l∧(∀y∈r',P y)∧gn.ev S N [w0, .i .i64 l.length, .f g caps,w3,w4,w5, .i .i64 bs,Af r]=some (.yld 1 [.i .i64 ((2*bs:Nat):Int),Af r']):=by
 obtain ⟨X,LX,Y,LY,q,k,h1,h2,h3,h4,h5,h6⟩:=Gp5 hC ht l r bs hbs hbs2 hr hP hs w0 w3 w4 w5 N hN;have hlen:=congrArg List.length h1;simp only [Ab] at hlen;have hXL:=h4.len;have hYL:=h5.len;have hlt:(bs:Int)<(l.length:Int):=by omega
 have e2:((2*bs:Nat):Int)=(bs:Int)*2:=by omega
 rw [e2];by_cases hge:bs<Y.length
 ·have eY:Y.take bs++Y.drop bs=Y:=Br _ _;have hst:=Wl ht h5 (by omega) hge;have sA:=h5.head.sorted;have sB:=(h5.tail.all (by rw [Bm];omega)).sorted;have lA:(Y.take bs).length=bs:=by rw [Ar];omega
  have lB:(Y.drop bs).length=Y.length - bs:=Bm;generalize Y.take bs=A at*;generalize Y.drop bs=B at*;have eXY:X++A++B++[]=X++Y:=by rw [Dd,Ap,eY]
  have hm:=H7 hC ht (A.length+B.length) X A B [] (X.length:Int) ((X.length:Int)+bs) (l.length:Int) (Ah _) (by intro e;rw [e] at lA;simp at lA;omega) (by intro e;rw [e] at lB;simp at lB;omega) sA sB rfl (by omega) (by omega) (by rw [eXY,Ab];omega) (by rw [eXY];exact h6);rw [eXY,Dd] at hm;have lM:=Ol (leC c) A B;refine ⟨X++mrg (leC c) A B,by rw [h1];exact Blk.app h2 h4 (Blk.one hst (by omega) (by omega)),fun y hy=>h6 y (by
   rw [←eXY];simp only [B3,mrg_mem] at hy ⊢
   grind),?_⟩
  have hge':(X.length:Int)+(bs:Int)<(l.length:Int):=by omega
  generalize X++mrg (leC c) A B=s1 at*;generalize X++Y=s0 at*;simp (disch:=omega) only [T4,hlt,hge',k,hm,Ez,L6,EVT,EVM,EVC,xe,EVP,EV,simprocAttr]
 ·refine ⟨X++Y,by rw [h1];exact Blk.app h2 h4 (Blk.one (h5.all (by omega)) hYL (by omega)),h6,?_⟩;have hge':¬(X.length:Int)+(bs:Int)<(l.length:Int):=by omega
  generalize X++Y=s0 at*;simp (disch:=omega) only [T4,hlt,hge',k,EVT,EVM,EVC,xe,EVP,EV,simprocAttr]
theorem pc (hC:Cmp g caps c P) (ht:TP (leC c)) (l:List Rec) (hP:∀y∈l,P y) (hs:l.length≤1000000):
  ∃r,Stab (leC c) r l∧r.length=l.length∧S v3 1048579 [Af l, .i .i64 l.length, .f g caps]=some [Af r]:=by
 obtain ⟨N,hN⟩:∃N,N=l.length+3:=⟨_,rfl⟩;obtain ⟨X,LX,Y,q,k0,h1,h2,h3,h4,h5⟩:=Gp6 hC ht l hP hs N (by omega);have hlen:=congrArg List.length h1;simp only [Ab] at hlen;have hXL:=h4.len;obtain ⟨R,i1,i2,i3⟩:=Ql hC ht X Y [] (X.length:Int) (l.length:Int) rfl (by omega) (by simpa using h5) (by simp;omega);simp only [Dd] at i3;have hB:Blk (leC c) 20 (X++R) l:=by rw [h1];exact Blk.app h2 h4 (Blk.one i1 i2 (by omega))
 have hP':∀y∈X++R,P y:=fun y hy=>h5 y (by
  have:=i1.mem ht y;simp only [B3] at hy ⊢
  grind)
 have key:=Gl (fn:=S) (N:=N) (η:=[Af l, .i .i64 l.length, .f g caps, .i .i64 X.length,Af (X++Y),Af (X++R)]) (id:=1) (init:=[.c (.i .i64 20), .v 5]) (body:=gn) (α:=Nat×List Rec)
  (fun w=>[.i .i64 (w.1:Int),Af w.2])
  (fun o=>∃r,Stab (leC c) r l∧r.length=l.length∧o= .yld 0 [Af r])
  (fun w=>0<w.1∧Blk (leC c) w.1 w.2 l∧∀y∈w.2,P y) (fun w=>l.length - w.1) (20,X++R) ?_ ⟨by simp,hB,hP'⟩ (by simp only;omega) ?_
 ·obtain ⟨o,k1,r,k2,k3,rfl⟩:=key;refine ⟨r,k2,k3,?_⟩;refine Gs3 (N:=N) rfl ?_;have k4:Ct4.ev S N [Af l, .i .i64 l.length, .f g caps, .i .i64 X.length,Af (X++Y),Af (X++R)]=_:=k1;clear k1;generalize X++Y=s0 at*;generalize X++R=s1 at*;simp (disch:=omega) only [T4,k0,i3,k4,Ez,L6,EVT,EVM,EVC,xe,EVP,EV,simprocAttr]
 ·generalize X++Y=s0 at*;generalize X++R=s1 at*;simp (disch:=omega) only [EVT,EVM,EVC,xe,EVP,EV,simprocAttr]
 ·rintro ⟨bs,r⟩ ⟨g1,g2,g3⟩;simp only at g1 g2 g3;have hr:=g2.len;by_cases hlt:bs<l.length
  ·left;obtain ⟨r',k1,k2,k3⟩:=Gp7 hC ht l r bs g1 hlt g2 g3 hs (Af l) (.i .i64 X.length) (Af (X++Y)) (Af (X++R)) N (by omega);exact ⟨(2*bs,r'),k3,⟨by simp only;omega,k1,k2⟩,by simp only;omega⟩
  ·right;have hlt':¬(bs:Int)<(l.length:Int):=by omega
   refine ⟨.yld 0 [Af r],?_,rfl,r,g2.all (by omega),hr,rfl⟩;generalize X++Y=s0 at*;generalize X++R=s1 at*;simp (disch:=omega) only [T4,hlt',EVT,EVM,EVC,xe,EVP,EV,simprocAttr]
theorem Tb (hC:Cmp g caps c P) (ht:TP (leC c)) (l:List Rec) (hP:∀y∈l,P y) (hs:l.length≤1000000):
  ∃r,Stab (leC c) r l∧r.length=l.length∧S wd 1048578 [Af l, .f g caps]=some [Af r]:=by
 obtain ⟨r,h1,h2,h3⟩:=pc hC ht l hP hs;refine ⟨r,h1,h2,?_⟩;refine Hk3 (N:=1) rfl ?_;simp (disch:=omega) only [Gl6,h3,Ez,L6,EVT,EVM,EVC,xe,EVP,EV,simprocAttr]
end
end Go.X.G
/- Records compacted: the library's function. -/
namespace Go.X.G
open Go Go.X
theorem ax (l:List Rec) (g:Nat) (caps:List PV) (eq2:Rec→Rec→Bool) (h:∀x∈l,∀y∈l,S g 2 (x.pv::y.pv::caps)=some [.b (eq2 x y)]) (hl:l.length≤1000000):S wb 1048578 [Af l, .f g caps]=some [Af (cpt eq2 l)]:=by
 refine Hk2 (N:=l.length+2) rfl ?_;by_cases h2:(l.length:Int)<2
 ·have e:cpt eq2 l=l:=by
   match l,h2 with
   |[],_=>rfl
   |[x],_=>rfl
   |_::_::_,h=>simp at h;omega
  rw [e];simp (disch:=omega) only [Rv,h2,EVT,EVM,EVC,xe,EVP,EV,simprocAttr]
 ·-- the inner Fb, from a place where two neighbours are equal
  have inner:∀k:Nat,1≤k→k<l.length→cpt eq2 (l.take (k+1))=l.take k→∃s:List Rec,s.length=l.length∧s.take (cpt eq2 l).length=cpt eq2 l∧Ct5.ev S (l.length+2) [Af l, .f g caps, .i .i64 (k:Int),Af l, .b true]=some (.yld 2 [.i .i64 ((cpt eq2 l).length:Int),Af s]):=by
   intro k hk1 hk hcp;have key:=Gl (fn:=S) (N:=l.length+2) (η:=[Af l, .f g caps, .i .i64 (k:Int),Af l, .b true]) (id:=3) (init:=[(.v 2),(.c (.i .i64 (1))),(.v 3)]) (body:=Bh5) (α:=Nat×Nat×List Rec)
    (fun a=>[.i .i64 (a.1:Int), .i .i64 (a.2.1:Int),Af a.2.2])
    (fun o=>∃s:List Rec,s.length=l.length∧s.take (cpt eq2 l).length=cpt eq2 l∧o= .yld 2 [.i .i64 ((cpt eq2 l).length:Int),Af s])
    (fun a=>1≤a.2.1∧k+a.2.1≤l.length∧a.1<k+a.2.1∧a.2.2.length=l.length∧a.2.2.take a.1=cpt eq2 (l.take (k+a.2.1))∧(cpt eq2 (l.take (k+a.2.1))).length=a.1∧a.2.2.drop (k+a.2.1 - 1)=l.drop (k+a.2.1 - 1))
    (fun a=>l.length - a.2.1) (k,1,l) (by simp (disch:=omega) only [EVT,EVM,EVC,xe,EVP,EV,simprocAttr])
    ⟨by simp,by simp;omega,by simp,rfl,by simp only;rw [hcp],by simp only;rw [hcp,Ar];omega,rfl⟩ (by simp only;omega) ?_
   ·obtain ⟨o,h3,s,h4,h5,rfl⟩:=key;exact ⟨s,h4,h5,h3⟩
   ·rintro ⟨i,j,s⟩ ⟨a1,a2,a3,a4,a5,a6,a7⟩;simp only at a1 a2 a3 a4 a5 a6 a7;by_cases hj:k+j<l.length
    ·left;have c1:s[k+j]? =l[k+j]? :=by have:=congrArg (fun q=>q[1]?) a7;simp only [A9] at this;rwa [show k+j - 1+1=k+j by omega] at this
     have c0:s[k+j - 1]? =l[k+j - 1]? :=by have:=congrArg (fun q=>q[0]?) a7;simpa only [A9,Dc] using this
     have g1:l[k+j]? =some (l[k+j]'hj):=Ay hj;have g0:l[k+j - 1]? =some (l[k+j - 1]'(by omega)):=Ay (by omega);have tk:l.take (k+(j+1))=l.take (k+j)++[l[k+j]'hj]:=by rw [show k+(j+1)=(k+j)+1 by omega,D7,g1];rfl
     have ne:l.take (k+j)≠[]:=by intro h;have:=congrArg List.length h;rw [Ar,Bz] at this;omega
     have gl:(l.take (k+j)).getLast ne=l[k+j - 1]'(by omega):=by rw [List.getLast_eq_getElem];simp only [List.getElem_take,Ar];congr 1;omega
     have cs:=S3 eq2 (l[k+j]'hj) (l.take (k+j)) ne;rw [←tk,gl] at cs;have hc:=h (l[k+j]'hj) (Fy _) (l[k+j - 1]'(by omega)) (Fy _);generalize l[k+j]'hj=x at*;generalize l[k+j - 1]'(by omega)=y at*;have hjj:(j:Int)<(s.length:Int) - (k:Int):=by omega
     have i1:Iz 16 (Af s) (.i .i64 ((k:Int)+(j:Int)))=some x.pv:=by rw [Ld _ _ _ (by omega),show ((k:Int)+(j:Int)).toNat=k+j by omega,c1,g1];rfl
     have i0:Iz 16 (Af s) (.i .i64 ((k:Int)+((j:Int) - 1)))=some y.pv:=by rw [Ld _ _ _ (by omega),show ((k:Int)+((j:Int) - 1)).toNat=k+j - 1 by omega,c0,g0];rfl
     have ls:H0 16 (Af s) (.i .i64 (k:Int)) (.i .i64 (s.length:Int))=some (Af (s.drop k)):=by rw [Hg _ _ _ _ _ (by omega) (by omega) (by omega)];simp
     have e1:(s.drop k)[j]? =some x:=by rw [A9,c1,g1]
     have e0:(s.drop k)[j - 1]? =some y:=by rw [A9,show k+(j - 1)=k+j - 1 by omega,c0,g0]
     have si:∃w,s[i]? =some w:=⟨_,Ay (by omega)⟩;obtain ⟨w,si⟩:=si;have ej:((j:Int) - 1).toNat=j - 1:=by omega
     by_cases hxy:eq2 x y=true
     ·refine ⟨(i,j+1,s),?_,⟨by simp,by simp only;omega,by simp only;omega,a4,?_,?_,?_⟩,by simp only;omega⟩
      ·simp (disch:=omega) only [Rv,hjj,i1,i0,ls,e1,e0,ej,hc,hxy,EVT,EVM,EVC,xe,EVP,EV,simprocAttr]
      ·simp only;rw [cs,a5];simp [hxy]
      ·simp only;rw [cs,Ab,a6];simp [hxy]
      ·simp only;rw [show k+(j+1) - 1=(k+j - 1)+1 by omega,←E4,←E4,a7]
     ·refine ⟨(i+1,j+1,s.set i x),?_,⟨by simp,by simp only;omega,by simp only;omega,by simpa using a4,?_,?_,?_⟩,by simp only;omega⟩
      ·simp (disch:=omega) only [Rv,hjj,i1,i0,ls,e1,e0,ej,si,hc,hxy,EVT,EVM,EVC,xe,EVP,EV,simprocAttr]
      ·simp only;rw [cs,D7,List.getElem?_set_self (by omega),List.take_set_of_le (by omega),a5];simp [hxy]
      ·simp only;rw [cs,Ab,a6];simp [hxy]
      ·simp only;rw [show k+(j+1) - 1=(k+j - 1)+1 by omega,List.drop_set_of_lt (by omega),←E4,←E4,a7]
    ·right;have ek:k+j=l.length:=by omega
     rw [ek,Em] at a5 a6;have hjj:¬(j:Int)<(s.length:Int) - (k:Int):=by omega
     refine ⟨.yld 2 [.i .i64 (i:Int),Af s],?_,rfl,s,a4,by rw [a6];exact a5,by rw [a6]⟩;simp (disch:=omega) only [Rv,hjj,EVT,EVM,EVC,xe,EVP,EV,simprocAttr]
  have key:Dj6.ev S (l.length+2) [Af l, .f g caps]=some (if cpt eq2 l=l then .yld 0 [Af l] else .ret [Af (cpt eq2 l)]):=by
   have:=Gl (fn:=S) (N:=l.length+2) (η:=[Af l, .f g caps]) (id:=1) (init:=[(.c (.i .i64 (1))),(.v 0)]) (body:=Bl4) (α:=Nat)
    (fun k=>[.i .i64 (k:Int),Af l]) (fun o=>o=if cpt eq2 l=l then .yld 0 [Af l] else .ret [Af (cpt eq2 l)])
    (fun k=>1≤k∧k≤l.length∧cpt eq2 (l.take k)=l.take k) (fun k=>l.length - k) 1 (by simp (disch:=omega) only [EVT,EVM,EVC,xe,EVP,EV,simprocAttr])
    ⟨Ah 1,by omega,by cases l with
     |nil=>simp at h2
     |cons x r=>rfl⟩ (by omega) ?_
   ·obtain ⟨o,h3,h4⟩:=this;rw [←h4];exact h3
   ·rintro k ⟨k1,k2,k3⟩;by_cases hk:k<l.length
    ·have g1:l[k]? =some l[k]:=Ay hk;have g0:l[k - 1]? =some (l[k - 1]'(by omega)):=Ay (by omega);have tk:l.take (k+1)=l.take k++[l[k]]:=by rw [D7,g1];rfl
     have ne:l.take k≠[]:=by intro h;have:=congrArg List.length h;rw [Ar,Bz] at this;omega
     have gl:(l.take k).getLast ne=l[k - 1]'(by omega):=by rw [List.getLast_eq_getElem];simp only [List.getElem_take,Ar];congr 1;omega
     have cs:=S3 eq2 l[k] (l.take k) ne;rw [←tk,gl,k3] at cs;have hkk:(k:Int)<(l.length:Int):=by omega
     have i1:Iz 16 (Af l) (.i .i64 (k:Int))=some (l[k]).pv:=by rw [Ld _ _ _ (by omega),show ((k:Int)).toNat=k by omega,g1];rfl
     have i0:Iz 16 (Af l) (.i .i64 ((k:Int) - 1))=some (l[k - 1]'(by omega)).pv:=by rw [Ld _ _ _ (by omega),show ((k:Int) - 1).toNat=k - 1 by omega,g0];rfl
     have hc:=h l[k] (Fy _) (l[k - 1]'(by omega)) (Fy _);by_cases hxy:eq2 l[k] (l[k - 1]'(by omega))=true
     ·right;have cs':cpt eq2 (l.take (k+1))=l.take k:=by rw [cs];simp [hxy]
      obtain ⟨s,s1,s2,s3⟩:=inner k k1 hk cs';have hlt:cpt eq2 l≠l:=by
       intro h;have q:(cpt eq2 l).length≤(cpt eq2 (l.take (k+1))).length+(l.drop (k+1)).length:=by
        have:∀(b a:List Rec),a≠[]→(cpt eq2 (a++b)).length≤(cpt eq2 a).length+b.length:=by
         intro b
         induction b with
         |nil=>intro a _;simp
         |cons x r ih=>
          intro a ha;have h1:=ih (a++[x]) (by simp);rw [S3 _ _ _ ha] at h1;rw [show a++x::r=a++[x]++r by simp];refine Db h1 ?_;rw [Ab];split<;>simp<;>omega
        have h3:=this (l.drop (k+1)) (l.take (k+1)) (by intro h;have:=congrArg List.length h;rw [Ar,Bz] at this;omega);rwa [Br] at h3
       rw [h,cs',Ar,Bm] at q;omega
      have hlen:=Er2 eq2 l;refine ⟨.ret [Af (cpt eq2 l)],?_,rfl,by rw [if_neg hlt]⟩;generalize cpt eq2 l=fl at*;have ls:H0 16 (Af l) (.i .i64 (k:Int)) (.i .i64 (l.length:Int))=some (Af (l.drop k)):=by rw [Hg _ _ _ _ _ (by omega) (by omega) (by omega)];simp
      have hsl1:H0 16 (Af s) (.i .i64 ((fl.length:Nat):Int)) (.i .i64 (s.length:Int))=some (Af (s.drop fl.length)):=by rw [Hg _ _ _ _ _ (by omega) (by omega) (by omega)];simp
      have hsl2:H0 16 (Af s) (.i .i64 0) (.i .i64 ((fl.length:Nat):Int))=some (Af fl):=by rw [Hg _ _ _ _ _ (by omega) (by omega) (by omega)];simp [s2]
      have hrep:J8 16 (.i .i64 ((s.length:Int) - (fl.length:Int))) ow=some (Af (List.replicate (s.length - fl.length) zr)):=by rw [Cz0 _ (by omega) (by omega)];congr 3;omega
      have happ:Gt 16 (Af fl) (Af (List.replicate (s.length - fl.length) zr))=some (Af (fl++List.replicate (s.length - fl.length) zr)):=Ic _ _ (by simp;omega);have hsl3:H0 16 (Af (fl++List.replicate (s.length - fl.length) zr)) (.i .i64 0) (.i .i64 ((fl.length:Nat):Int))=some (Af fl):=by rw [Hg _ _ _ _ _ (by omega) (by omega) (by simp;omega)];simp
      simp (disch:=omega) only [Rv,hkk,i1,i0,hc,hxy,ls,s3,hsl1,hsl2,hrep,happ,hsl3,EVT,EVM,EVC,xe,EVP,EV,simprocAttr]
     ·left;refine ⟨k+1,?_,⟨by omega,by omega,?_⟩,by omega⟩
      ·simp (disch:=omega) only [Rv,hkk,i1,i0,hc,hxy,EVT,EVM,EVC,xe,EVP,EV,simprocAttr]
      ·rw [cs,tk];simp [hxy]
    ·right;have e:k=l.length:=by omega
     subst e;rw [Em] at k3;refine ⟨_,?_,?_,rfl⟩
     ·rw [if_pos k3];simp (disch:=omega) only [Rv,EVT,EVM,EVC,xe,EVP,EV,simprocAttr]
     ·rw [if_pos k3];rfl
  by_cases hh:cpt eq2 l=l
  ·rw [if_pos hh] at key;rw [hh];simp (disch:=omega) only [Rv,h2,key,EVT,EVM,EVC,xe,EVP,EV,simprocAttr]
  ·rw [if_neg hh] at key;simp (disch:=omega) only [Rv,h2,key,EVT,EVM,EVC,xe,EVP,EV,simprocAttr]
end Go.X.G
/- Lists of records in the program: which are valid, their order, their sorting. -/
namespace Go.X.G
open Go Go.X
theorem Ey9 (x:Int):S lq 1 [.i .i64 x]=some [.b false]:=by refine Gt0 (N:=1) rfl ?_;simp (disch:=omega) only [Gh4,EVC,xe,EVP,EV,simprocAttr]
theorem Bp3 (a b:Int):S lh 2 [.i .i64 a, .i .i64 b]=some [.i .i64 (Zy a b)]:=by
 refine Hq3 (N:=1) rfl ?_;have h1:=Ey9 a;have h2:=Ey9 b;unfold Zy;by_cases k1:a<b
 ·simp (disch:=omega) only [Ez8,h1,h2,k1,EVC,xe,EVP,EV,simprocAttr]
 ·by_cases k2:b<a
  ·simp (disch:=omega) only [Ez8,h1,h2,k1,k2,EVC,xe,EVP,EV,simprocAttr]
  ·simp (disch:=omega) only [Ez8,h1,h2,k1,k2,EVC,xe,EVP,EV,simprocAttr]
theorem Nf (a b:Rec) (ha:a.wf) (hb:b.wf):S P2 2 [a.pv,b.pv]=some [.i .i64 (Gs a b)]:=by
 refine Hq4 (N:=1) rfl ?_;have g1:a.name.length≤9223372036854775807:=ha.name;have g2:b.name.length≤9223372036854775807:=hb.name;have h1:=Z7 a.name b.name g1 g2;have h2:=Bp3 a.typ b.typ;have h3:=aj a.typ a.data b.data ha.data hb.data;unfold Gs;by_cases k1:M8 a.name b.name=0
 ·by_cases k2:Zy a.typ b.typ=0
  ·rw [k1] at h1;rw [k2] at h2;simp (disch:=omega) only [Ez9,eg,Ep,h1,h2,h3,EVC,xe,EVP,EV,simprocAttr];simp [k1,k2]
  ·rw [k1] at h1;simp (disch:=omega) only [Ez9,h1,h2,k2,EVC,xe,EVP,EV,simprocAttr];simp [k1,k2]
 ·simp (disch:=omega) only [Ez9,h1,k1,EVC,xe,EVP,EV,simprocAttr]
theorem Z6 (a b:Rec) (ha:a.wf) (hb:b.wf):S Yy 2 [a.pv,b.pv]=some [.i .i64 (Er5 a b)]:=by
 refine Hw0 (N:=1) rfl ?_;have h1:=Nf a b ha hb;have h2:=Bp3 a.ttl b.ttl;unfold Er5;by_cases k1:Gs a b=0
 ·rw [k1] at h1;simp (disch:=omega) only [Fc0,h1,h2,EVC,xe,EVP,EV,simprocAttr];simp [k1]
 ·simp (disch:=omega) only [Fc0,h1,k1,EVC,xe,EVP,EV,simprocAttr]
theorem Hl9:Cmp Yy [] Er5 Rec.wf:=⟨fun x y hx hy=>Z6 x y hx hy⟩
theorem Fr5:leC Er5=leR:=rfl
theorem Cn9 (a b:Rec) (ha:a.wf) (hb:b.wf):S lf 2 [a.pv,b.pv]=some [.b (eqF a b)]:=by refine Hk1 (N:=1) rfl ?_;have h1:=Nf a b ha hb;simp (disch:=omega) only [Gl5,h1,EVC,xe,EVP,EV,simprocAttr]
theorem Np (l:List Rec) (hw:∀r∈l,r.wf) (hl:l.length≤1000000):S P4 1 [Af l]=some [Af (sortR l)]:=by refine Hv1 (N:=1) rfl ?_;have h0:=Bp4 l hl;obtain ⟨r,h1,h2,h3⟩:=Tb Hl9 (by rw [Fr5];exact Gp1) l hw hl;rw [Fr5] at h1;have hm:=h1.mem Gp1;have h4:=ax r lf [] eqF (fun x hx y hy=>Cn9 x y (hw x ((hm x).1 hx)) (hw y ((hm y).1 hy))) (by omega);rw [Cy0 h1] at h4;simp (disch:=omega) only [Gm2,h0,h3,h4,Ez,L6,EVT,EVM,EVC,xe,EVP,EV,simprocAttr]
end Go.X.G
/- Sets of records: what the program's and the reference's functions give. -/
namespace Go.X
open Go
structure SetR where
 name:List UInt8
 typ:Int
 ttl:Int
 data:List Dat
 deriving DecidableEq
def Gx4 (l:List Dat):PV:= .l 13 (l.map Dat.pv)
def SetR.pv (x:SetR):PV:= .a [.s x.name, .i .i64 x.typ, .i .i64 x.ttl,Gx4 x.data]
end Go.X
namespace Go.X.G
open Go Go.X
structure SetsIn (g:List SetR) (i:Nat):Prop where
 len:g.length≤i
 each:∀x∈g,x.data.length≤i
theorem dj:∀(l acc:List Rec),(l.foldl (fun a x=>Sf x a) acc).length≤acc.length+l.length
 |[],acc=>by simp
 |x::l,acc=>by have h1:=dj l (Sf x acc);have h2:=Sd x acc;simp only [List.foldl_cons,Bj];omega
theorem Nc (l:List Rec):(sortR l).length≤l.length:=by simpa [sortR] using dj l []
end Go.X.G
/- Records with names and texts of at most 300 bytes. -/
namespace Go.X.G
open Go Go.X
def c3 (s:List UInt8):List UInt8:=s.take 300
def Kz (r:Rec):Rec:=⟨c3 r.name,r.typ,r.ttl,{r.data with host:=c3 r.data.host,mail:=c3 r.data.mail,text:=c3 r.data.text}⟩
theorem Gb0 (s:List UInt8):(c3 s).length≤300:=by unfold c3;rw [Ar];omega
theorem Aj9 {r:Rec} (h:r.wf):(Kz r).wf:=by
 have hs:∀s:List UInt8,ng (c3 s):=fun s=>by have:=Gb0 s;unfold ng;omega
 exact ⟨hs _,h.typ,h.ttl,⟨h.data.hi,h.data.lo,hs _,hs _,hs _,h.data.a,h.data.b,h.data.c,h.data.d,h.data.e,h.data.f,h.data.bits⟩⟩
theorem c9 (s:List UInt8) (hs:s.length≤9223372036854775807):Ud (.s s) (.i .i64 0) (.i .i64 (if (300:Int)<(s.length:Int) then 300 else (s.length:Int)))=some (.s (c3 s)):=by
 unfold c3;by_cases h:(300:Int)<(s.length:Int)
 ·rw [if_pos h];have h1:(0:Int)≤0∧(0:Int)≤300∧(300:Int)≤(s.length:Int):=by omega
  simp only [Ud,h1,and_self,if_true];rfl
 ·rw [if_neg h];have h1:(0:Int)≤0∧(0:Int)≤(s.length:Int)∧(s.length:Int)≤(s.length:Int):=by omega
  simp only [Ud,h1,and_self,if_true,Hb,Em];rw [Cp (by omega)];rfl
theorem Hx3 (n:Int):Cd8 (.i .i64 n) (.i .i64 300)=some (.i .i64 (if (300:Int)<n then 300 else n)):=by simp [Cd8]
end Go.X.G
/- What the laws on lists of records call. -/
namespace Go.X.G
open Go Go.X
theorem Cy2 (r:Rec) (h:r.wf):S Fr2 1 [r.pv]=some [(Kz r).pv]:=by refine Hp0 (N:=1) rfl ?_;have s1:=c9 r.name h.name;have s2:=c9 r.data.host h.data.host;have s3:=c9 r.data.mail h.data.mail;have s4:=c9 r.data.text h.data.text;have g1:r.name.length≤9223372036854775807:=h.name;have g2:r.data.host.length≤9223372036854775807:=h.data.host;have g3:r.data.mail.length≤9223372036854775807:=h.data.mail;have g4:r.data.text.length≤9223372036854775807:=h.data.text;simp (disch:=omega) only [Hn5,Hx3,s1,s2,s3,s4,xe,EVP,EV,simprocAttr];rfl
def fewR (l:List Rec) (k:Nat):List Rec:=(l.take k).map Kz
theorem et (l:List Rec) (k:Nat):(fewR l k).length≤k:=by simp [fewR];omega
theorem zt {l:List Rec} (h:∀r∈l,r.wf) (k:Nat):∀r∈fewR l k,r.wf:=fun r hr=>by simp only [fewR,Br3] at hr;obtain ⟨x,hx,rfl⟩:=hr;exact Aj9 (h x (Ex hx))
theorem Dk5 (l:List Rec) (k:Nat) (hl:Rr l) (hk:k≤1000):S lr 2 [Af l, .i .i64 (k:Int)]=some [Af (fewR l k)]:=by
 obtain ⟨N,hN⟩:∃N:Nat,N=1002:=⟨_,rfl⟩;refine Hv9 (N:=N) rfl ?_;have hrl:=hl.1;have key:Dk4.ev S N [Af l, .i .i64 (k:Int)]=some (.yld 0 [Af (fewR l k)]):=by
  have hm:(l.take k).length≤k:=by simp;omega
  refine Fg (l.take k) (fun i=>[Af ((l.take i).map Kz), .i .i64 (i:Int)]) (fun i r=> .yld 0 [Af (fewR l k)]) rfl (by omega) (fun i c r hd hi hc=> ?_) ?_
  ·left;refine ⟨?_,rfl⟩;have hi7:i<k:=by omega
   have hc':l[i]? =some c:=by rw [←hc,List.getElem?_take_of_lt hi7]
   have hil:=(Aq.1 hc').1;have hs:=Cy2 c (hl.2 c (A6 hc'));have e:(l.take (i+1)).map Kz=(l.take i).map Kz++[Kz c]:=by rw [D7,hc'];simp
   have hlen:((l.take i).map Kz).length=i:=by rw [Gd9,Ar];omega
   have h1:(i:Int)<(l.length:Int):=by omega
   have h2:(i:Int)<(k:Int):=by omega
   have ei:(i:Int).toNat=i:=by omega
   rw [e];generalize (l.take i).map Kz=g at*;simp (disch:=omega) only [og,h1,h2,ei,hc',hs,xe,EVP,EV,simprocAttr]
  ·have hlen:(l.take k).length=min k l.length:=by simp
   rw [hlen];have e:(l.take (min k l.length)).map Kz=fewR l k:=by
    unfold fewR;rcases Nat.le_total k l.length with h|h
    ·rw [Kl h]
    ·rw [Nat.min_eq_right h,Cp (Ah _),Cp h]
   rw [e];by_cases h:k≤l.length
   ·have h1:¬((min k l.length:Nat):Int)<(k:Int):=by omega
    have h2:((min k l.length:Nat):Int)=(k:Int):=by omega
    rw [h2];by_cases h3:(k:Int)<(l.length:Int)
    ·simp (disch:=omega) only [og,h3,Fz1,xe,EVP,EV,simprocAttr];simp [Out.goes]
    ·simp (disch:=omega) only [og,h3,xe,EVP,EV,simprocAttr];simp [Out.goes]
   ·have h2:((min k l.length:Nat):Int)=(l.length:Int):=by omega
    rw [h2];simp (disch:=omega) only [og,Fz1,xe,EVP,EV,simprocAttr];simp [Out.goes]
 simp (disch:=omega) only [og,key,xe,EVP,EV,simprocAttr]
theorem nq:S Cd6 0 []=some [.b true]:=(N8 ext_mono).2 ⟨300,by kernel_rfl⟩
end Go.X.G
/- Lists side by side: slices.Concat. -/
namespace Go.X.G
open Go Go.X
theorem qw (n:Int) (h0:0≤n) (h1:n≤1073741824):J8 16 (.i .i64 n) (Rec.pv ⟨[],0,0,⟨false,0,0,[],[],[],0,0,0,0,0,0,0⟩⟩)=some (Af (List.replicate n.toNat ⟨[],0,0,⟨false,0,0,[],[],[],0,0,0,0,0,0,0⟩⟩)):=by
 have h2:n≤(LIM:Int):=by simp only [LIM];omega
 have h3:(Rec.pv ⟨[],0,0,⟨false,0,0,[],[],[],0,0,0,0,0,0,0⟩⟩).cells.length=16:=rfl;simp only [J8,h0,h2,h3,and_self,if_true];simp [Af,Rec.pv,Rec.cells,Dat.cells]
theorem Fx1 (n:Nat) (hn:n≤1000000):S v5 1048578 [Af [], .i .i64 (n:Int)]=some [Af []]:=by
 refine Gs8 (N:=1) rfl ?_;by_cases h:n=0
 ·subst h;simp (disch:=first|omega|(simp;omega)) only [Fz5,EVC,xe,EVP,EV,simprocAttr]
  try simp
 ·have h0:(0:Int)<(n:Int):=by omega
  have hr:=qw (n:Int) (by omega) (by omega);have ha:Gt 16 (Af []) (Af (List.replicate ((n:Int)).toNat ⟨[],0,0,⟨false,0,0,[],[],[],0,0,0,0,0,0,0⟩⟩))=some (Af (List.replicate ((n:Int)).toNat ⟨[],0,0,⟨false,0,0,[],[],[],0,0,0,0,0,0,0⟩⟩)):=by simpa using Ic [] (List.replicate ((n:Int)).toNat ⟨[],0,0,⟨false,0,0,[],[],[],0,0,0,0,0,0,0⟩⟩) (by simp;omega)
  have e0:(n:Int) - ((([]:List Rec).length:Int) - (([]:List Rec).length:Int))=(n:Int):=by simp
  have hl0:H0 16 (Af []) (.i .i64 0) (.i .i64 (([]:List Rec).length:Int))=some (Af []):=by rw [Hg _ _ _ _ _ (by omega) (by simp) (by simp)];rfl
  have hl1:H0 16 (Af (List.replicate ((n:Int)).toNat ⟨[],0,0,⟨false,0,0,[],[],[],0,0,0,0,0,0,0⟩⟩)) (.i .i64 0) (.i .i64 (([]:List Rec).length:Int))=some (Af []):=by rw [Hg _ _ _ _ _ (by omega) (by simp) (by simp)];rfl
  simp only [Bz,Int.ofNat_zero,Int.natCast_zero,Int.sub_zero] at e0 hl0 hl1;simp (disch:=first|omega|(simp;omega)) only [Fz5,d3,Bz,Int.natCast_zero,Int.sub_zero,h0,hr,ha,e0,hl0,hl1,EVC,xe,EVP,EV,simprocAttr]
  try simp
theorem nb (a b:List Rec) (ha:a.length≤950000) (hb:b.length≤40000):S w6 1 [.l 1 ([a,b].map Af)]=some [Af (a++b)]:=by
 refine Hq0 (N:=10) rfl ?_;have i0:Iz 1 (.l 1 ([a,b].map Af)) (.i .i64 0)=some (Af a):=rfl;have i1:Iz 1 (.l 1 ([a,b].map Af)) (.i .i64 1)=some (Af b):=rfl;have hl:F9 (.l 1 ([a,b].map Af))=some (.i .i64 2):=rfl;generalize (PV.l 1 ([a,b].map Af))=ab at*;have g1:=Fx1 (a.length+b.length) (by omega);have a1:Gt 16 (Af []) (Af a)=some (Af a):=by simpa using Ic [] a (by simp;omega)
 have a2:Gt 16 (Af a) (Af b)=some (Af (a++b)):=Ic _ _ (by omega);have k0:Dj8.ev S 10 [ab]=some (.yld 0 [.i .i64 ((a.length+b.length:Nat):Int)]):=by
  refine En 2 (fun i=>[.i .i64 (if i=0 then 0 else if i=1 then (a.length:Int) else ((a.length+b.length:Nat):Int)), .i .i64 (i:Int)]) (fun _=> .yld 0 [.i .i64 ((a.length+b.length:Nat):Int)]) (by simp (disch:=omega) only [EVC,xe,EVP,EV,simprocAttr]) (by omega) (fun i hi=> ?_) ?_
  ·left;have:i=0∨i=1:=by omega
   rcases this with rfl|rfl
   ·refine ⟨?_,rfl⟩;have hn:¬((0:Int)+(a.length:Int))<0:=by omega
    have e0:(0:Int)+(a.length:Int)=(a.length:Int):=by omega
    simp (disch:=omega) only [Xy,hl,i0,e0,EVC,xe,EVP,EV,simprocAttr]
    try simp
   ·refine ⟨?_,rfl⟩;have hn:¬((a.length:Int)+(b.length:Int))<0:=by omega
    simp (disch:=omega) only [Xy,hl,i1,hn,EVC,xe,EVP,EV,simprocAttr]
    try simp
  ·refine ⟨?_,rfl⟩;simp (disch:=omega) only [Xy,hl,EVC,xe,EVP,EV,simprocAttr]
   try simp
 have k1:∀p1,Ct6.ev S 10 [ab,p1,Af []]=some (.yld 0 [Af (a++b)]):=by
  intro p1;refine En 2 (fun i=>[Af (if i=0 then [] else if i=1 then a else a++b), .i .i64 (i:Int)]) (fun _=> .yld 0 [Af (a++b)]) (by simp (disch:=omega) only [EVC,xe,EVP,EV,simprocAttr]) (by omega) (fun i hi=> ?_) ?_
  ·left;have:i=0∨i=1:=by omega
   rcases this with rfl|rfl
   ·refine ⟨?_,rfl⟩;simp (disch:=omega) only [Xy,hl,i0,a1,EVC,xe,EVP,EV,simprocAttr]
    try simp
   ·refine ⟨?_,rfl⟩;simp (disch:=omega) only [Xy,hl,i1,a2,EVC,xe,EVP,EV,simprocAttr]
    try simp
  ·refine ⟨?_,rfl⟩;simp (disch:=omega) only [Xy,hl,EVC,xe,EVP,EV,simprocAttr]
   try simp
 generalize ((a.length+b.length:Nat):Int)=n at*;simp (disch:=omega) only [Xy,hl,k0,k1,g1,Ez,L6,EVC,xe,EVP,EV,simprocAttr]
end Go.X.G
/- Names on the way up; delegations above a name. -/
namespace Go.X.G
open Go Go.X
end Go.X.G
/- Delegations and names of a zone, as the program finds them. -/
namespace Go.X.G
open Go Go.X
end Go.X.G
/- Delegations and names of a zone, as the reference finds them; what exists. -/
namespace Go.X.G
open Go Go.X
end Go.X.G
/- The reference's lists of records: sets, unions, differences. -/
namespace Go.X.G
open Go Go.X
end Go.X.G
/- Unions, differences, types of names: the program's and the reference's. -/
namespace Go.X.G
open Go Go.X
theorem Bn1 (a b:List Rec) (ha:∀r∈a,r.wf) (hb:∀r∈b,r.wf) (hal:a.length≤1000) (hbl:b.length≤1000):S xq 2 [Af a,Af b]=some [Af (sortR (a++b))]:=by
 refine Hv6 (N:=1) rfl ?_;have hs:=Tc (a++b) (fun r hr=>(B3.1 hr).elim (ha r) (hb r)) (by simp;omega);have a1:Gt 16 (Af []) (Af a)=some (Af a):=by simpa using Ic [] a (by simp;omega)
 simp (disch:=omega) only [Gm5,a1,hs,xe,EVP,EV,simprocAttr]
theorem Bn0 (a b:List Rec) (ha:∀r∈a,r.wf) (hb:∀r∈b,r.wf) (hal:a.length≤1000) (hbl:b.length≤1000):S xv 2 [Af a,Af b]=some [Af (sortR (a++b))]:=by refine Hv7 (N:=1) rfl ?_;have hs:=Np (a++b) (fun r hr=>(B3.1 hr).elim (ha r) (hb r)) (by simp;omega);have k:=nb a b (by omega) (by omega);have hl:Kg 1 [Af a,Af b]=some (.l 1 ([a,b].map Af)):=rfl;generalize PV.l 1 ([a,b].map Af)=ab at*;simp (disch:=omega) only [Gm6,hl,k,hs,EVC,xe,EVP,EV,simprocAttr]
theorem Td (a b:List Rec) (ha:a.length≤1000000):S wm 2 [Af a,Af b]=some [.b (decide (a=b))]:=by
 refine Hk7 (N:=a.length+1) rfl ?_;by_cases hl:a.length=b.length
 ·have hl':(a.length:Int)=(b.length:Int):=by omega
  have key:Dj7.ev S (a.length+1) [Af a,Af b]=some (if a.drop 0=b.drop 0 then .yld 0 [] else .ret [.b false]):=by
   refine Fg a (fun i=>[.i .i64 (i:Int)]) (fun i r=>if r=b.drop i then .yld 0 [] else .ret [.b false]) rfl (by omega) (fun i c r hd hi hc=> ?_) ?_
   ·obtain ⟨y,r',hb,hd2,hd3⟩:∃y r',b[i]? =some y∧b.drop i=y::r'∧b.drop (i+1)=r':=⟨b[i]'(by omega),_,Ay (by omega),Cl (by omega),rfl⟩;rw [hd2,hd3];have hil:(i:Int)<(b.length:Int):=by omega
    by_cases h:c=y
    ·subst h;left;simp (disch:=omega) only [iq,hc,hb,hil,hl',xe,EVP,EV,simprocAttr];simp
    ·right;simp (disch:=omega) only [iq,hc,hb,hil,hl',h,xe,EVP,EV,simprocAttr];simp [h,Out.goes]
   ·have hd2:b.drop a.length=[]:=Ds (by omega);rw [hd2];simp (disch:=omega) only [iq,Fz1,xe,EVP,EV,simprocAttr];simp [Out.goes]
  simp only [D1] at key;by_cases h:a=b
  ·rw [if_pos h] at key;simp (disch:=omega) only [iq,hl',key,xe,EVP,EV,simprocAttr]
   try simp [h]
  ·rw [if_neg h] at key;simp (disch:=omega) only [iq,hl',key,xe,EVP,EV,simprocAttr]
   try simp [h]
 ·have h:a≠b:=fun h=>hl (by rw [h]);have hl':¬(a.length:Int)=(b.length:Int):=by omega
  simp (disch:=omega) only [iq,hl',xe,EVP,EV,simprocAttr]
  try simp [h]
theorem Cp1 (a b:List Rec) (ha:∀r∈a,r.wf) (hb:∀r∈b,r.wf) (hal:a.length≤1000) (hbl:b.length≤1000):S xj 2 [Af a,Af b]=some [.b (decide (sortR a=sortR b))]:=by refine Hv2 (N:=1) rfl ?_;have h1:=Tc a ha (by omega);have h2:=Tc b hb (by omega);have h3:=Pl (sortR a) (sortR b) (by have:=Nc a;omega);simp (disch:=omega) only [Gm3,h1,h2,h3,xe,EVP,EV,simprocAttr]
theorem Cp0 (a b:List Rec) (ha:∀r∈a,r.wf) (hb:∀r∈b,r.wf) (hal:a.length≤1000) (hbl:b.length≤1000):S ln 2 [Af a,Af b]=some [.b (decide (sortR a=sortR b))]:=by refine Hv3 (N:=1) rfl ?_;have h1:=Np a ha (by omega);have h2:=Np b hb (by omega);have h3:=Td (sortR a) (sortR b) (by have:=Nc a;omega);simp (disch:=omega) only [Gm4,h1,h2,h3,xe,EVP,EV,simprocAttr]
def Tm (b:List Rec) (r:Rec):Bool:=b.any fun x=>decide (Ec x=Ec r)
def minusR (a b:List Rec):List Rec:=a.filter fun r=> !Tm b r
theorem zg (b:List Rec) (r:Rec):Tm (sortR b) r=Tm b r:=by
 rw [Ef];simp only [Tm,List.any_eq_true,decide_eq_true_eq];constructor
 ·rintro ⟨x,hx,h⟩;exact ⟨x,(((H2 b).2 x).1 hx).mem,h⟩
 ·rintro ⟨x,hx,h⟩;obtain ⟨z,z1,z2,_⟩:=Bh2 b x hx;exact ⟨z,((H2 b).2 z).2 z1,by rw [z2,h]⟩
theorem Bp6 (a b:Rec) (ha:a.wf) (hb:b.wf):S wn 2 [a.pv,b.pv]=some [.b (decide (Ec b=Ec a))]:=by
 refine Hk8 (N:=1) rfl ?_;have h:=Pk a b ha hb;have e:=Gy a b;by_cases hk:Ec a=Ec b
 ·have h0:=e.2 hk;rw [h0] at h;simp (disch:=omega) only [Fb2,h,xe,EVP,EV,simprocAttr]
  try simp [hk]
 ·have h0:¬Gs a b=0:=fun q=>hk (e.1 q);have hk2:¬Ec b=Ec a:=fun q=>hk q.symm;simp (disch:=omega) only [Fb2,h,h0,xe,EVP,EV,simprocAttr]
  try simp [hk2]
theorem Bn9 (a b:List Rec) (x:Rec) (i:Nat) (hx:a[i]? =some x) (hxw:x.wf) (hb:∀r∈b,r.wf) (N:Nat) (hN:b.length<N) (hbl:b.length≤1000) (hi:i≤1000000) (p2:PV):
  Ct7.ev S N [Af a,Af b,p2, .i .i64 (i:Int)]=some (.yld 2 [.b (false||Tm b x)]):=by
 refine Iw b (fun j (g:Bool)=>[.b g, .i .i64 (j:Int)]) (fun j g r=> .yld 2 [.b (g||Tm r x)]) (fun _ _=>True) false rfl trivial hN (fun j g c r hd hj hc _=> ?_) (fun g _=> ?_)
 ·left;have hjl:(j:Int)<(b.length:Int):=by omega
  have k:=Bp6 x c hxw (hb c (A6 hc));by_cases h:Ec c=Ec x
  ·rw [decide_eq_true h] at k;refine ⟨true,?_,trivial,by simp [Tm,h]⟩;simp (disch:=omega) only [Xz,hc,hx,hjl,k,xe,EVP,EV,simprocAttr]
  ·rw [decide_eq_false h] at k;refine ⟨g,?_,trivial,by simp [Tm,h]⟩;simp (disch:=omega) only [Xz,hc,hx,hjl,k,xe,EVP,EV,simprocAttr]
 ·simp (disch:=omega) only [Xz,Fz1,xe,EVP,EV,simprocAttr];simp [Out.goes,Tm]
theorem Bn8 (a b:List Rec) (ha:∀r∈a,r.wf) (hb:∀r∈b,r.wf) (hal:a.length≤1000) (hbl:b.length≤1000):S xk 2 [Af a,Af b]=some [Af (minusR a b)]:=by
 obtain ⟨N,hN⟩:∃N:Nat,N=1001:=⟨_,rfl⟩;refine Hv4 (N:=N) rfl ?_;have key:Dk1.ev S N [Af a,Af b]=some (.yld 0 [Af ([]++minusR a b)]):=by
  refine Iw a (fun i (g:List Rec)=>[Af g, .i .i64 (i:Int)]) (fun i g r=> .yld 0 [Af (g++minusR r b)]) (fun i g=>g.length≤i) [] rfl (Cm _) (by omega) (fun i g c r hd hi hc hI=> ?_) (fun g hI=> ?_)
  ·left;have hil:(i:Int)<(a.length:Int):=by omega
   have k:=Bn9 a b c i hc (ha c (A6 hc)) hb N (by omega) hbl (by omega) (Af g);rcases Ad (Tm b c) with h|h
   ·rw [h] at k;refine ⟨g,?_,by omega,by simp [minusR,h]⟩;simp (disch:=omega) only [Xz,hc,hil,k,Bool.or_true,Fz2,xe,EVP,EV,simprocAttr]
   ·rw [h] at k;refine ⟨g++[c],?_,by simp;omega,by simp [minusR,h]⟩;simp (disch:=omega) only [Xz,hc,hil,k,Bool.or_false,xe,EVP,EV,simprocAttr]
  ·simp (disch:=omega) only [Xz,Fz1,xe,EVP,EV,simprocAttr];simp [Out.goes,minusR]
 simp (disch:=omega) only [Xz,key,xe,EVP,EV,simprocAttr]
 try simp
theorem Bn3 (l:List Rec) (r:Rec) (hs:Bp8 l) (hl:l.length≤1000000) (hw:∀x∈l,x.wf) (hr:r.wf) (N:Nat) (hN:l.length<N):
  ∃i:Nat,yp.ev S N [Af l,r.pv, .f P2 []]=some (.yld 0 [.i .i64 (i:Int)])∧i≤l.length∧(∀k x,k<i→l[k]? =some x→Gs x r<0)∧∀k x,i≤k→l[k]? =some x→¬Gs x r<0:=by
 have mono:∀(i j:Nat) (x y:Rec),i<j→l[i]? =some x→l[j]? =some y→Gs y r<0→Gs x r<0:=fun i j x y hij hx hy h=>by obtain ⟨hx1,hx2⟩:=Aq.1 hx;obtain ⟨hy1,hy2⟩:=Aq.1 hy;have h1:=List.pairwise_iff_getElem.1 hs i j hx1 hy1 hij;rw [hx2,hy2] at h1;exact (J3 x r).2 (to_F.tr _ _ _ h1 ((J3 y r).1 h))
 refine Classical.byContradiction fun hno=> ?_;have hres:∀i:Nat,(i≤l.length∧(∀k x,k<i→l[k]? =some x→Gs x r<0)∧∀k x,i≤k→l[k]? =some x→¬Gs x r<0)→yp.ev S N [Af l,r.pv, .f P2 []]≠some (.yld 0 [.i .i64 (i:Int)]):=fun i h e=>hno ⟨i,e,h⟩;obtain ⟨p,hp1,hp2,hp3⟩:∃p:Nat,p≤l.length∧(∀k x,k<p→l[k]? =some x→Gs x r<0)∧∀k x,p≤k→l[k]? =some x→¬Gs x r<0:=by
  refine ⟨(l.takeWhile fun x=>decide (Gs x r<0)).length,?_,?_,?_⟩
  ·exact (List.takeWhile_sublist _).length_le
  ·intro k x hk hx;have hx':(l.takeWhile fun x=>decide (Gs x r<0))[k]? =some x:=by have e:=List.takeWhile_append_dropWhile (p:=fun x=>decide (Gs x r<0)) (l:=l);rw [←e,A4 hk] at hx;exact hx
   have:=A6 hx';have:=List.all_takeWhile (p:=fun x=>decide (Gs x r<0)) (l:=l);simpa using (Cv.1 this) x (A6 hx')
  ·intro k x hk hx h;have e:=List.takeWhile_append_dropWhile (p:=fun x=>decide (Gs x r<0)) (l:=l);cases hd:l.dropWhile fun x=>decide (Gs x r<0) with
   |nil=>
    rw [hd,Dd] at e;rw [e] at hk;have:=(Aq.1 hx).1;omega
   |cons y ys=>
    have hy:l[(l.takeWhile fun x=>decide (Gs x r<0)).length]? =some y:=by
     have e2:l=(l.takeWhile fun x=>decide (Gs x r<0))++(y::ys):=by rw [←hd];exact e.symm
     generalize (l.takeWhile fun x=>decide (Gs x r<0))=w at e2;rw [e2];simp
    have hny:¬Gs y r<0:=by have:=List.head?_dropWhile_not (fun x=>decide (Gs x r<0)) l;rw [hd] at this;simpa using this
    rcases Nat.lt_or_ge (l.takeWhile fun x=>decide (Gs x r<0)).length k with hlt|hge
    ·exact hny (mono _ _ y x hlt hy hx h)
    ·have:k=(l.takeWhile fun x=>decide (Gs x r<0)).length:=by omega
     subst this;rw [hy] at hx;injection hx with hx;subst hx;exact hny h
 refine hres p ⟨hp1,hp2,hp3⟩ ?_;refine Gd (fn:=S) (α:=Nat×Nat) (fun a=>[.i .i64 (a.1:Int), .i .i64 (a.2:Int)]) (fun _=> .yld 0 [.i .i64 (p:Int)]) (fun a=>a.1≤p∧p≤a.2∧a.2≤l.length) (fun a=>a.2 - a.1) (0,l.length) ?_ ⟨Cm _,hp1,Ah _⟩ (by simpa using hN) (fun a ha=> ?_)
 ·simp (disch:=omega) only [xe,EVP,EV,simprocAttr]
  try simp
 ·obtain ⟨i,j⟩:=a;obtain ⟨h1,h2,h3⟩:=ha;simp only at h1 h2 h3 ⊢;by_cases hij:i<j
  ·left;obtain ⟨h,hh⟩:∃h:Nat,h=(i+j) / 2:=⟨_,rfl⟩;have hhl:h<l.length:=by omega
   obtain ⟨x,hx⟩:∃x,l[h]? =some x:=⟨_,Ay hhl⟩;have hc:=Nf x r (hw x (A6 hx)) hr;have hij':(i:Int)<(j:Int):=by omega
   have e1:((i:Int)+(j:Int)) / 2=(h:Int):=by omega
   by_cases hlt:Gs x r<0
   ·refine ⟨(h+1,j),?_,⟨?_,h2,h3⟩,by simp only;omega,trivial⟩
    ·simp (disch:=omega) only [iw,Dm,e1,hx,hc,hij',hlt,EVC,xe,EVP,EV,simprocAttr]
    ·simp only;rcases Nat.lt_or_ge h p with q|q
     ·omega
     ·exact absurd hlt (hp3 h x q hx)
   ·refine ⟨(i,h),?_,⟨h1,?_,by simp only;omega⟩,by simp only;omega,trivial⟩
    ·simp (disch:=omega) only [iw,Dm,e1,hx,hc,hij',hlt,EVC,xe,EVP,EV,simprocAttr]
    ·simp only;rcases Nat.lt_or_ge h p with q|q
     ·exact absurd (hp2 h x q hx) hlt
     ·exact q
  ·right;have hij':¬(i:Int)<(j:Int):=by omega
   have e:(i:Int)=(p:Int):=by omega
   refine ⟨?_,rfl⟩;simp (disch:=omega) only [iw,hij',e,EVC,xe,EVP,EV,simprocAttr]
   try simp
theorem Bn2 (l:List Rec) (r:Rec) (hs:Bp8 l) (hl:l.length≤1000000) (hw:∀x∈l,x.wf) (hr:r.wf):
  ∃i:Nat,S wt 3 [Af l,r.pv, .f P2 []]=some [.i .i64 (i:Int), .b (Tm l r)]:=by
 obtain ⟨i,k,h1,h2,h3⟩:=Bn3 l r hs hl hw hr (l.length+1) (Nat.lt_succ_self _);refine ⟨i,?_⟩;refine Hk9 (N:=l.length+1) rfl ?_;by_cases hi:i<l.length
 ·have hi':(i:Int)<(l.length:Int):=by omega
  obtain ⟨x,hx⟩:∃x,l[i]? =some x:=⟨_,Ay hi⟩;have hc:=Nf x r (hw x (A6 hx)) hr;by_cases h0:Gs x r=0
  ·have e:Tm l r=true:=by simp only [Tm,List.any_eq_true,decide_eq_true_eq];exact ⟨x,A6 hx,(Gy x r).1 h0⟩
   rw [e];simp (disch:=omega) only [iw,k,hx,hc,hi',h0,F3,Zz,Zb,EVC,xe,EVP,EV,simprocAttr]
   try simp
  ·have e:Tm l r=false:=by
    rw [Ks];intro h;simp only [Tm,List.any_eq_true,decide_eq_true_eq] at h;obtain ⟨y,hy,hyk⟩:=h;have hy0:=(Gy y r).2 hyk;obtain ⟨j,hj⟩:=C3 hy;rcases Nat.lt_trichotomy j i with q|q|q
    ·have:=h2 j y q hj;omega
    ·subst q;rw [hx] at hj;injection hj with hj;subst hj;exact h0 hy0
    ·have hx3:=h3 i x (Ah _) hx;have h5:=List.pairwise_iff_getElem.1 hs i j hi (Aq.1 hj).1 q;rw [(Aq.1 hx).2,(Aq.1 hj).2,hyk] at h5;exact hx3 ((J3 x r).2 h5)
   rw [e];simp (disch:=omega) only [iw,k,hx,hc,hi',h0,F3,Zz,Zb,EVC,xe,EVP,EV,simprocAttr]
   try simp
 ·have hi':¬(i:Int)<(l.length:Int):=by omega
  have e:Tm l r=false:=by rw [Ks];intro h;simp only [Tm,List.any_eq_true,decide_eq_true_eq] at h;obtain ⟨y,hy,hyk⟩:=h;have hy0:=(Gy y r).2 hyk;obtain ⟨j,hj⟩:=C3 hy;have:=h2 j y (by have:=(Aq.1 hj).1;omega) hj;omega
  rw [e];simp (disch:=omega) only [iw,k,hi',F3,Zz,Zb,EVC,xe,EVP,EV,simprocAttr]
  try simp
theorem Bn7 (a b:List Rec) (ha:∀r∈a,r.wf) (hb:∀r∈b,r.wf) (hal:a.length≤1000) (hbl:b.length≤1000):S lp 2 [Af a,Af b]=some [Af (minusR a b)]:=by
 obtain ⟨N,hN⟩:∃N:Nat,N=1001:=⟨_,rfl⟩;refine Hv5 (N:=N) rfl ?_;have hs:=Np b hb (by omega);have key:Dk2.ev S N [Af a,Af b,Af (sortR b)]=some (.yld 0 [Af ([]++minusR a b)]):=by
  refine Iw a (fun i (g:List Rec)=>[Af g, .i .i64 (i:Int)]) (fun i g r=> .yld 0 [Af (g++minusR r b)]) (fun i g=>g.length≤i) [] rfl (Cm _) (by omega) (fun i g c r hd hi hc hI=> ?_) (fun g hI=> ?_)
  ·left;have hil:(i:Int)<(a.length:Int):=by omega
   obtain ⟨q,k⟩:=Bn2 (sortR b) c (H2 b).1 (by have:=Nc b;omega) (fun x hx=>hb x (((H2 b).2 x).1 hx).mem) (ha c (A6 hc));rw [zg] at k;rcases Ad (Tm b c) with h|h
   ·rw [h] at k;refine ⟨g,?_,by omega,by simp [minusR,h]⟩;simp (disch:=omega) only [Br9,hc,hil,k,EVC,xe,EVP,EV,simprocAttr]
   ·rw [h] at k;refine ⟨g++[c],?_,by simp;omega,by simp [minusR,h]⟩;simp (disch:=omega) only [Br9,hc,hil,k,EVC,xe,EVP,EV,simprocAttr]
  ·simp (disch:=omega) only [Br9,Fz1,EVC,xe,EVP,EV,simprocAttr];simp [Out.goes,minusR]
 simp (disch:=omega) only [Br9,hs,key,EVC,xe,EVP,EV,simprocAttr]
 try simp
end Go.X.G
/- Three records as one argument. -/
namespace Go.X
open Go
end Go.X
/- The order of records is total: the law RrsetTotal. -/
namespace Go.X.G
open Go Go.X
end Go.X.G
/- Types of names; the laws RrsetCompares, RrsetSorts, RrsetSets, RrsetPairs. -/
namespace Go.X
open Go
end Go.X
namespace Go.X.G
open Go Go.X
theorem law_RrsetPairs (a0 b0:List Rec) (ha0:Rr a0) (hb0:Rr b0):S Fr3 2 [Af a0,Af b0]=some [.b true]:=by refine Hp1 (N:=1) rfl ?_;have k0:=Dk5 a0 30 ha0 (by omega);have k1:=Dk5 b0 30 hb0 (by omega);have hwa:=zt ha0.2 30;have hla:=et a0 30;have hwb:=zt hb0.2 30;have hlb:=et b0 30;simp only [show ((30:Nat):Int)=30 from rfl] at k0 k1;generalize fewR a0 30=a at*;generalize fewR b0 30=b at*;have k2:=Bn0 a b hwa hwb (by omega) (by omega);have k3:=Bn1 a b hwa hwb (by omega) (by omega);have k4:=Pl (sortR (a++b)) (sortR (a++b)) (by have:=Nc (a++b);rw [Ab] at this;omega);have k5:=Bn7 a b hwa hwb (by omega) (by omega);have k6:=Bn8 a b hwa hwb (by omega) (by omega);have k7:=Pl (minusR a b) (minusR a b) (by have:(minusR a b).length≤a.length:=List.length_filter_le _ _;omega);have k8:=Cp0 a b hwa hwb (by omega) (by omega);have k9:=Cp1 a b hwa hwb (by omega) (by omega);rw [decide_eq_true rfl] at k4 k7;have aw:=nq;generalize sortR (a++b)=u at*;generalize minusR a b=m at*;generalize decide (sortR a=sortR b)=e at*;simp (disch:=omega) only [Hn6,k0,k1,k2,k3,k4,k5,k6,k7,k8,k9,aw,Gw5,beq_self_eq_true,xe,EVP,EV,simprocAttr]
end Go.X.G
