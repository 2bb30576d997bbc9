/- Merging in place: the library's function, the J6. -/
import Derived.Test.YtkpbcoeiijddpaaDoorRrsetUnpacksG9
import Derived.Test.YtkpbcoeiijddpaaDoorRrsetUnpacksG7
import Derived.Test.YtkpbcoeiijddpaaDoorRrsetUnpacksG6
import Derived.Test.YtkpbcoeiijddpaaDoorRrsetUnpacksG8
open Bool renaming eq_false_or_eq_true→Ad
open Int renaming toNat_natCast→G3,le_refl→Oz,lt_irrefl→Cn7
open List renaming getElem?_eq_some_iff→Aq,getElem?_eq_getElem→Az,length_append→Ac,append_assoc→Ap,length_take→Ar,mem_singleton→A0,getElem?_append_right→A3,getElem?_append_left→A5,mem_cons→A7,getElem?_drop→A9,eq_nil_of_length_eq_zero→Bj,length_cons→Bq,mem_append→Bw,getElem?_map→Bb,length_nil→Bd,length_pos_iff→Bf,mem_of_getElem?→Bl,length_drop→Bm,take_append_drop→Br,mem_append_right→Bs,take_of_length_le→Cg,mem_append_left→Cl,pairwise_append→C0,nil_append→C1,append_nil→C2,mem_filter→Dk,mem_of_mem_take→D8,take_length→Ez,take_add_one→El,map_cons→Ep,drop_drop→Er,getElem_mem→E7,drop_zero→Fz,length_set→Fp,filter_cons→Gj,filter_append→Gk,mem_of_mem_drop→Gf,flatMap_cons→G2,length_map→Hq,dropLast_concat_getLast→Hv,take_take→dn,getElem?_set_ne→dp,mem_map→yh,map_append→Eq6
open Nat renaming le_refl→Ag,mul_le_mul_right→Bv,zero_le→Ch,le_trans→C6,add_zero→Dx,min_eq_left→J0,add_sub_cancel→Ew7
open Option renaming map_eq_some_iff→Av,bind_some→Aw,map_some→As
open Option.some renaming injEq→Ak
open Prod.mk renaming injEq→Ay
set_option maxHeartbeats 1000000
set_option linter.unusedVariables false
set_option linter.unusedSimpArgs false
namespace Go.X.G
open Go Go.X
section
variable {g:Nat} {caps:List PV} {c:Rec→Rec→Int} {P:Rec→Prop}
theorem Eb8 (hC:Cmp g caps c P) (X A B Y:List Rec) (s:List Rec) (hsd:s=X++(A++(B++Y))) (a m b mid:Int) (h i0 j0:Nat) (ha:a=X.length) (hm:m=a+A.length) (hb:b=m+B.length) (hM:(a+b) / 2=mid) (hmid:mid=a+h)
  (h1:i0≤j0) (h2:j0≤A.length) (h3:j0≤h) (h4:h≤i0+B.length) (hs:s.length≤1000000) (hP:∀y∈s,P y) (N:Nat) (hN:A.length<N):
  ∃i:Nat,Ap8.ev S N [Al s, .i .i64 a, .i .i64 m, .i .i64 b, .f g caps, .i .i64 (a+i0), .i .i64 (a+j0)]=some (.yld 0 [.i .i64 (a+i)])∧i0≤i∧i≤j0∧
   (∀x y,i≠i0→A[i - 1]? =some x→B[h - i]? =some y→¬c y x<0)∧∀x y,i≠j0→A[i]? =some x→B[h - 1 - i]? =some y→c y x<0:=by
 have hl:s.length=X.length+A.length+B.length+Y.length:=by rw [hsd];simp;omega
 have hA:∀k y,A[k]? =some y→s[X.length+k]? =some y:=fun k y hk=>by have:=(Aq.1 hk).1;rw [hsd,A3 (by omega),show X.length+k - X.length=k by omega,A5 this,hk]
 have hB:∀k y,B[k]? =some y→s[X.length+A.length+k]? =some y:=fun k y hk=>by have:=(Aq.1 hk).1;rw [hsd,A3 (by omega),A3 (by omega),show X.length+A.length+k - X.length - A.length=k by omega,A5 this,hk]
 have key:=Gq (fn:=S) (N:=N) (η:=[Al s, .i .i64 a, .i .i64 m, .i .i64 b, .f g caps, .i .i64 (a+i0), .i .i64 (a+j0)]) (id:=1) (init:=[.v 5, .v 6]) (body:=wh) (α:=Nat×Nat)
  (fun w=>[.i .i64 (a+w.1), .i .i64 (a+w.2)])
  (fun o=>∃i:Nat,o= .yld 0 [.i .i64 (a+i)]∧i0≤i∧i≤j0∧(∀x y,i≠i0→A[i - 1]? =some x→B[h - i]? =some y→¬c y x<0)∧∀x y,i≠j0→A[i]? =some x→B[h - 1 - i]? =some y→c y x<0)
  (fun w=>w.1≤w.2∧i0≤w.1∧w.2≤j0∧(∀x y,w.1≠i0→A[w.1 - 1]? =some x→B[h - w.1]? =some y→¬c y x<0)∧∀x y,w.2≠j0→A[w.2]? =some x→B[h - 1 - w.2]? =some y→c y x<0)
  (fun w=>w.2 - w.1) (i0,j0) ?_ ?_ (by simp only;omega) ?_
 ·obtain ⟨o,h1,p,rfl,h2⟩:=key;exact ⟨p,h1,h2⟩
 ·simp (disch:=omega) only [EVT,EVM,EVC,xe,EVP,EV,simprocAttr]
 ·exact ⟨h1,Ag _,Ag _,fun x y h0=>absurd rfl h0,fun x y h0=>absurd rfl h0⟩
 ·rintro ⟨p,q⟩ ⟨g1,g2,g3,g4,g5⟩;simp only at g1 g2 g3 g4 g5;by_cases hpq:p<q
  ·left;have hk:(p+q) / 2<A.length:=by omega
   have hx:=Az hk;have hk2:h - 1 - (p+q) / 2<B.length:=by omega
   have hy:=Az hk2;generalize A[(p+q) / 2]=x at hx;generalize B[h - 1 - (p+q) / 2]=y at hy;have hsx:=hA _ x hx;have hsy:=hB _ y hy;have hPx:P x:=hP x (Bl hsx);have hPy:P y:=hP y (Bl hsy);have hc:=hC.ok y x hPy hPx;have hlt:a+(p:Int)<a+(q:Int):=by omega
   have e1:(a+(p:Int)+(a+(q:Int))) / 2=a+(((p+q) / 2:Nat):Int):=by omega
   have e2:(a+(((p+q) / 2:Nat):Int)).toNat=X.length+(p+q) / 2:=by omega
   have e3:(mid+m - 1 - (a+(((p+q) / 2:Nat):Int))).toNat=X.length+A.length+(h - 1 - (p+q) / 2):=by omega
   have hkh:(p+q) / 2<h:=by omega
   by_cases hcy:c y x<0
   ·refine ⟨(p,(p+q) / 2),?_,⟨by simp only;omega,g2,by simp only;omega,g4,fun u v _ hu hv=> ?_⟩,by simp only;omega⟩
    ·simp only;generalize (p+q) / 2=k at*;simp (disch:=omega) only [Fs,hlt,Dp,hM,e1,e2,e3,hsy,hsx,hc,hcy,EVT,EVM,EVC,xe,EVP,EV,simprocAttr]
    ·simp only at hu hv;rw [hx] at hu;injection hu with hu;subst hu;rw [hy] at hv;injection hv with hv;subst hv;exact hcy
   ·refine ⟨((p+q) / 2+1,q),?_,⟨by simp only;omega,by simp only;omega,g3,fun u v _ hu hv=> ?_,g5⟩,by simp only;omega⟩
    ·have e4:a+(((p+q) / 2+1:Nat):Int)=a+(((p+q) / 2:Nat):Int)+1:=by omega
     simp only [e4];generalize (p+q) / 2=k at*;simp (disch:=omega) only [Fs,hlt,Dp,hM,e1,e2,e3,hsy,hsx,hc,hcy,EVT,EVM,EVC,xe,EVP,EV,simprocAttr]
    ·simp only [Ew7] at hu hv;rw [show h - ((p+q) / 2+1)=h - 1 - (p+q) / 2 by omega] at hv;rw [hx] at hu;injection hu with hu;subst hu;rw [hy] at hv;injection hv with hv;subst hv;exact hcy
  ·right;have e:p=q:=by omega
   subst e;have hlt:¬a+(p:Int)<a+(p:Int):=by omega
   refine ⟨.yld 0 [.i .i64 (a+p)],?_,rfl,p,rfl,g2,g3,g4,g5⟩;simp (disch:=omega) only [Fs,hlt,EVT,EVM,EVC,xe,EVP,EV,simprocAttr]
theorem Cz1 {le:Rec→Rec→Bool} (ht:TP le) {B:List Rec} (hB:B.Pairwise fun x y=>le x y=true) (x:Rec) (p:Nat) (hp:p≤B.length) (h1:∀y,p≠0→B[p - 1]? =some y→le x y=false) (h2:∀y,B[p]? =some y→le x y=true):mrg le [x] B=B.take p++x::B.drop p:=by have e1:=Nq ht (A:=[x]) (B:=B) (by simp) hB 0 p (fun u v h=>absurd rfl h) (fun u v h0 hu hv=>by simp at hu;subst hu;exact h1 v h0 hv) (by simp) hp;have e2:=Nq ht (A:=[x]) (B:=B.drop p) (by simp) (hB.sublist (List.drop_sublist p B)) 1 0 (fun u v _ hu hv=>by simp at hu;subst hu;rw [A9] at hv;exact h2 v hv) (fun u v h=>absurd rfl h) (by simp) (by simp);rw [e1];simp only [List.take_zero,Fz,List.take_succ_cons,List.drop_succ_cons,Ig] at e2 ⊢;rw [e2];simp [mrg]
theorem Cz0 {le:Rec→Rec→Bool} (ht:TP le) {A:List Rec} (hA:A.Pairwise fun x y=>le x y=true) (x:Rec) (p:Nat) (hp:p≤A.length) (h1:∀y,p≠0→A[p - 1]? =some y→le y x=true) (h2:∀y,A[p]? =some y→le y x=false):mrg le A [x]=A.take p++x::A.drop p:=by have e1:=Nq ht (A:=A) (B:=[x]) hA (by simp) p 0 (fun u v h0 hu hv=>by simp at hv;subst hv;exact h1 u h0 hu) (fun u v h=>absurd rfl h) hp (by simp);have e2:=Nq ht (A:=A.drop p) (B:=[x]) (hA.sublist (List.drop_sublist p A)) (by simp) 0 1 (fun u v h=>absurd rfl h) (fun u v _ hu hv=>by simp at hv;subst hv;rw [A9] at hu;exact h2 u hu) (by simp) (by simp);rw [e1];simp only [List.take_zero,Fz,List.take_succ_cons,List.drop_succ_cons,Ig] at e2 ⊢;rw [e2];simp [mrg]
set_option maxHeartbeats 2000000 in
theorem Hl (hC:Cmp g caps c P) (ht:TP (leC c)):∀(n:Nat) (X A B Y:List Rec) (a m b:Int),A.length+B.length≤n→A≠[]→B≠[]→(A.Pairwise fun x y=>leC c x y=true)→(B.Pairwise fun x y=>leC c x y=true)→
  a=X.length→m=a+A.length→b=m+B.length→(X++A++B++Y).length≤1000000→(∀y∈X++A++B++Y,P y)→
  S S4 1048581 [Al (X++A++B++Y), .i .i64 a, .i .i64 m, .i .i64 b, .f g caps]=some [Al (X++mrg (leC c) A B++Y)]
 |0,X,A,B,Y,a,m,b,hn,hA,_,_,_,_,_,_,_,_=>absurd (Bj (by omega)) hA
 |n+1,X,A,B,Y,a,m,b,hn,hA,hB,sA,sB,ha,hm,hb,hs,hP=>by
  have hA':0<A.length:=Bf.2 hA;have hB':0<B.length:=Bf.2 hB;have hs2:=hs;simp only [Ac] at hs2;obtain ⟨N,hN⟩:∃N,N=A.length+B.length+1:=⟨_,rfl⟩;refine Eg0 (N:=N) rfl ?_;by_cases c1:A.length=1
  ·-- one ahead
   obtain ⟨x,rfl⟩:=List.length_eq_one_iff.1 c1;have hsd:X++[x]++B++Y=X++x::(B++Y):=by simp
   obtain ⟨p,k1,k2,k3,k4⟩:=Ec2 hC X B Y x (X++[x]++B++Y) hsd a m b ha (by simpa using hm) hb hs hP N (by omega);have k5:=Ec1 X B Y x (X++[x]++B++Y) hsd a m b .u p ha (by simpa using hm) k2 hs N (by omega) (.i .i64 m) (.i .i64 b) (.f g caps);have e:=Cz1 ht sB x p k2 (fun y h0 hy=>Ad6.2 (k3 y h0 hy)) (fun y hy=>Ad5.2 (k4 y hy));rw [e];have q1:m - a=1:=by simp at hm;omega
   generalize X++[x]++B++Y=s at*;generalize X++(List.take p B++x::List.drop p B)++Y=u at*;simp (disch:=omega) only [Fs,q1,k1,k5,EVT,EVM,EVC,xe,EVP,EV,simprocAttr]
  ·by_cases c2:B.length=1
   ·obtain ⟨x,rfl⟩:=List.length_eq_one_iff.1 c2;have hsd:X++A++[x]++Y=X++(A++x::Y):=by simp
    obtain ⟨p,k1,k2,k3,k4⟩:=Ec0 hC X A Y x (X++A++[x]++Y) hsd a m (.i .i64 b) ha hm hs hP N (by omega);have k5:=Eb9 X A Y x (X++A++[x]++Y) hsd a m p ha hm k2 hs N (by omega) (.i .i64 a) (.i .i64 b) (.f g caps);have e:=Cz0 ht sA x p k2 (fun y h0 hy=>Ad5.2 (k3 y h0 hy)) (fun y hy=>Ad6.2 (k4 y hy));rw [e];have q1:¬m - a=1:=by omega
    have q2:b - m=1:=by simp at hb;omega
    generalize X++A++[x]++Y=s at*;generalize X++(List.take p A++x::List.drop p A)++Y=u at*;simp (disch:=omega) only [Fs,q1,q2,k1,k5,EVT,EVM,EVC,xe,EVP,EV,simprocAttr]
   ·-- two parts of more
    have q1:¬m - a=1:=by omega
    have q2:¬b - m=1:=by omega
    obtain ⟨h,hh⟩:∃h,h=(A.length+B.length) / 2:=⟨_,rfl⟩;obtain ⟨mid,hM⟩:∃mid,(a+b) / 2=mid:=⟨_,rfl⟩;have hmid:mid=a+h:=by omega
    obtain ⟨i0,j0,hc15,h1,h2,h3,h4,hi0,hj0⟩:∃i0 j0:Nat,Ww.ev S N [Al (X++A++B++Y), .i .i64 a, .i .i64 m, .i .i64 b, .f g caps]=some (.yld 0 [.i .i64 (a+i0), .i .i64 (a+j0)])∧i0≤j0∧j0≤A.length∧j0≤h∧h≤i0+B.length∧(i0=0∨h - i0=B.length)∧(j0=h∨j0=A.length):=by
     by_cases hgt:h<A.length
     ·refine ⟨h - B.length,h,?_,by omega,by omega,by omega,by omega,by omega, .inl rfl⟩;have t1:mid<m:=by omega
      have t2:mid+m - b=a+((h - B.length:Nat):Int):=by omega
      rw [←t2,←hmid];generalize X++A++B++Y=s at*;simp (disch:=omega) only [Fs,Dp,hM,t1,EVT,EVM,EVC,xe,EVP,EV,simprocAttr]
     ·refine ⟨0,A.length,?_,by omega,by omega,by omega,by omega, .inl rfl, .inr rfl⟩;have t1:¬mid<m:=by omega
      generalize X++A++B++Y=s at*;simp (disch:=omega) only [Fs,Dp,hM,t1,hm,EVT,EVM,EVC,xe,EVP,EV,simprocAttr];simp
    have hsd:X++A++B++Y=X++(A++(B++Y)):=by simp
    obtain ⟨i,k1,k2,k3,k4,k5⟩:=Eb8 hC X A B Y (X++A++B++Y) hsd a m b mid h i0 j0 ha hm hb hM hmid h1 h2 h3 h4 hs hP N (by omega);have cut:=Nq ht sA sB i (h - i) (fun x y h0 hx hy=>Ad5.2 (k4 x y (fun e=>by
      rcases hi0 with q|q
      ·omega
      ·have:=(Aq.1 hy).1;omega) hx hy)) (fun x y h0 hx hy=>Ad6.2 (k5 x y (fun e=>by
      rcases hj0 with q|q
      ·omega
      ·have:=(Aq.1 hx).1;omega) hx (by rw [show h - 1 - i=h - i - 1 by omega];exact hy))) (by omega) (by omega)
    have eA:A.take i++A.drop i=A:=Br _ _;have eB:B.take (h - i)++B.drop (h - i)=B:=Br _ _;have lA1:(A.take i).length=i:=by rw [Ar];omega
    have lA2:(A.drop i).length=A.length - i:=Bm;have lB1:(B.take (h - i)).length=h - i:=by rw [Ar];omega
    have lB2:(B.drop (h - i)).length=B.length - (h - i):=Bm;have sA1:=sA.sublist (List.take_sublist i A);have sA2:=sA.sublist (List.drop_sublist i A);have sB1:=sB.sublist (List.take_sublist (h - i) B);have sB2:=sB.sublist (List.drop_sublist (h - i) B);generalize A.take i=A1 at*;generalize A.drop i=A2 at*;generalize B.take (h - i)=B1 at*;generalize B.drop (h - i)=B2 at*;have e0:X++A++B++Y=X++A1++A2++B1++(B2++Y):=by rw [←eA,←eB];simp
    have mem1:∀y,y∈X++A1++B1++(A2++B2++Y)→P y:=fun y hy=>hP y (by rw [e0];simp only [Bw] at hy ⊢;grind);have len1:(X++A1++B1++(A2++B2++Y)).length≤1000000:=by simp only [Ac] at hs2 ⊢;omega
    have lm1:=Nk (leC c) A1 B1;have mem2:∀y,y∈(X++mrg (leC c) A1 B1)++A2++B2++Y→P y:=fun y hy=>mem1 y (by simp only [Bw,mrg_mem] at hy ⊢;grind)
    have len2:((X++mrg (leC c) A1 B1)++A2++B2++Y).length≤1000000:=by simp only [Ac,lm1] at hs2 ⊢;omega
    have s1:(T.blk 0 Wv N0).ev S N [Al (X++A++B++Y), .i .i64 a, .i .i64 m, .i .i64 b, .f g caps, .i .i64 (a+i0), .i .i64 (a+j0), .i .i64 (a+i)]=
      N0.ev S N [Al (X++A++B++Y), .i .i64 a, .i .i64 m, .i .i64 b, .f g caps, .i .i64 (a+i0), .i .i64 (a+j0), .i .i64 (a+i),Al (X++A1++B1++(A2++B2++Y))]:=by
     by_cases t:A2=[]∨B1=[]
     ·have t1:¬(a+(i:Int)<m∧m<mid+m - (a+i)):=by
       rcases t with t|t
       ·rw [t] at lA2;simp at lA2;omega
       ·rw [t] at lB1;simp at lB1;omega
      have e1:X++A++B++Y=X++A1++B1++(A2++B2++Y):=by rw [e0];rcases t with t|t<;>subst t<;>simp
      rw [←e1];generalize X++A++B++Y=s at*;by_cases t2:a+(i:Int)<m
      ·have t3:¬m<mid+m - (a+i):=fun q=>t1 ⟨t2,q⟩;simp (disch:=omega) only [Fs,Dp,hM,t2,t3,EVT,EVM,EVC,xe,EVP,EV,simprocAttr]
      ·simp (disch:=omega) only [Fs,Dp,hM,t2,EVT,EVM,EVC,xe,EVP,EV,simprocAttr]
     ·have t':A2≠[]∧B1≠[]:=by grind
      have p1:=Bf.2 t'.1;have p2:=Bf.2 t'.2;have hr:=gk (X++A1) A2 B1 (B2++Y) (a+i) m (mid+m - (a+i)) g caps (by simp only [Ac];omega) (by simp only [Ac];omega) (by simp only [Ac];omega) t'.1 t'.2 (by rw [←e0];exact hs);have t2:a+(i:Int)<m:=by omega
      have t3:m<mid+m - (a+i):=by omega
      rw [←e0] at hr;have e1:X++A1++B1++A2++(B2++Y)=X++A1++B1++(A2++B2++Y):=by simp
      rw [e1] at hr;generalize X++A1++B1++(A2++B2++Y)=s1 at*;generalize X++A++B++Y=s at*;simp (disch:=omega) only [Fs,Dp,hM,t2,t3,hr,Ec,L6,EVT,EVM,EVC,xe,EVP,EV,simprocAttr]
    have s2:(T.blk 0 Wq N1).ev S N [Al (X++A++B++Y), .i .i64 a, .i .i64 m, .i .i64 b, .f g caps, .i .i64 (a+i0), .i .i64 (a+j0), .i .i64 (a+i),Al (X++A1++B1++(A2++B2++Y))]=
      N1.ev S N [Al (X++A++B++Y), .i .i64 a, .i .i64 m, .i .i64 b, .f g caps, .i .i64 (a+i0), .i .i64 (a+j0), .i .i64 (a+i),Al (X++A1++B1++(A2++B2++Y)),Al ((X++mrg (leC c) A1 B1)++A2++B2++Y)]:=by
     by_cases t:A1=[]∨B1=[]
     ·have t1:¬(a<a+(i:Int)∧a+(i:Int)<mid):=by
       rcases t with t|t
       ·rw [t] at lA1;simp at lA1;omega
       ·rw [t] at lB1;simp at lB1;omega
      have e1:X++A1++B1++(A2++B2++Y)=(X++mrg (leC c) A1 B1)++A2++B2++Y:=by rcases t with t|t<;>subst t<;>simp [mrg,Ig]
      rw [←e1];generalize X++A1++B1++(A2++B2++Y)=s1 at*;generalize X++A++B++Y=s at*;by_cases t2:a<a+(i:Int)
      ·have t3:¬a+(i:Int)<mid:=fun q=>t1 ⟨t2,q⟩;simp (disch:=omega) only [Fs,Dp,hM,t2,t3,EVT,EVM,EVC,xe,EVP,EV,simprocAttr]
      ·simp (disch:=omega) only [Fs,Dp,hM,t2,EVT,EVM,EVC,xe,EVP,EV,simprocAttr]
     ·have t':A1≠[]∧B1≠[]:=by grind
      have p1:=Bf.2 t'.1;have p2:=Bf.2 t'.2;have hr:=Hl hC ht n X A1 B1 (A2++B2++Y) a (a+i) mid (by omega) t'.1 t'.2 sA1 sB1 ha (by omega) (by omega) len1 mem1;have t2:a<a+(i:Int):=by omega
      have t3:a+(i:Int)<mid:=by omega
      have e1:X++mrg (leC c) A1 B1++(A2++B2++Y)=(X++mrg (leC c) A1 B1)++A2++B2++Y:=by simp
      rw [e1] at hr;generalize (X++mrg (leC c) A1 B1)++A2++B2++Y=s2 at*;generalize X++A1++B1++(A2++B2++Y)=s1 at*;generalize X++A++B++Y=s at*;simp (disch:=omega) only [Fs,Dp,hM,t2,t3,hr,Ec,L6,EVT,EVM,EVC,xe,EVP,EV,simprocAttr]
    have s3:N1.ev S N [Al (X++A++B++Y), .i .i64 a, .i .i64 m, .i .i64 b, .f g caps, .i .i64 (a+i0), .i .i64 (a+j0), .i .i64 (a+i),Al (X++A1++B1++(A2++B2++Y)),Al ((X++mrg (leC c) A1 B1)++A2++B2++Y)]=
      some (.ret [Al (X++mrg (leC c) A B++Y)]):=by
     have e9:X++mrg (leC c) A B++Y=(X++mrg (leC c) A1 B1)++mrg (leC c) A2 B2++Y:=by rw [cut];simp
     rw [e9];by_cases t:A2=[]∨B2=[]
     ·have t1:¬(mid<mid+m - (a+i)∧mid+m - (a+(i:Int))<b):=by
       rcases t with t|t
       ·rw [t] at lA2;simp at lA2;omega
       ·rw [t] at lB2;simp at lB2;omega
      have e1:(X++mrg (leC c) A1 B1)++A2++B2++Y=(X++mrg (leC c) A1 B1)++mrg (leC c) A2 B2++Y:=by rcases t with t|t<;>subst t<;>simp [mrg,Ig]
      rw [←e1];generalize (X++mrg (leC c) A1 B1)++A2++B2++Y=s2 at*;generalize X++A1++B1++(A2++B2++Y)=s1 at*;generalize X++A++B++Y=s at*;by_cases t2:mid<mid+m - (a+(i:Int))
      ·have t3:¬mid+m - (a+(i:Int))<b:=fun q=>t1 ⟨t2,q⟩;simp (disch:=omega) only [Fs,Dp,hM,t2,t3,EVT,EVM,EVC,xe,EVP,EV,simprocAttr]
      ·simp (disch:=omega) only [Fs,Dp,hM,t2,EVT,EVM,EVC,xe,EVP,EV,simprocAttr]
     ·have t':A2≠[]∧B2≠[]:=by grind
      have p1:=Bf.2 t'.1;have p2:=Bf.2 t'.2;have hr:=Hl hC ht n (X++mrg (leC c) A1 B1) A2 B2 Y mid (mid+m - (a+i)) b (by omega) t'.1 t'.2 sA2 sB2 (by simp only [Ac,lm1];omega) (by omega) (by omega) len2 mem2;have t2:mid<mid+m - (a+(i:Int)):=by omega
      have t3:mid+m - (a+(i:Int))<b:=by omega
      generalize (X++mrg (leC c) A1 B1)++mrg (leC c) A2 B2++Y=s3 at*;generalize (X++mrg (leC c) A1 B1)++A2++B2++Y=s2 at*;generalize X++A1++B1++(A2++B2++Y)=s1 at*;generalize X++A++B++Y=s at*;simp (disch:=omega) only [Fs,Dp,hM,t2,t3,hr,Ec,L6,EVT,EVM,EVC,xe,EVP,EV,simprocAttr]
    have f2:N0.ev S N [Al (X++A++B++Y), .i .i64 a, .i .i64 m, .i .i64 b, .f g caps, .i .i64 (a+i0), .i .i64 (a+j0), .i .i64 (a+i),Al (X++A1++B1++(A2++B2++Y))]=some (.ret [Al (X++mrg (leC c) A B++Y)]):=s2.trans s3;have f1:=s1.trans f2;clear s1 s2 s3 f2 mem1 mem2 cut k4 k5;generalize X++mrg (leC c) A B++Y=s3 at*;generalize X++A++B++Y=s at*;simp (disch:=omega) only [Fs,q1,q2,Dp,hM,hc15,k1,f1,EVT,EVM,EVC,xe,EVP,EV,simprocAttr]
end
end Go.X.G
/- Stable sorting: the library's functions. -/
namespace Go.X.G
open Go Go.X
section
variable {g:Nat} {caps:List PV} {c:Rec→Rec→Int} {P:Rec→Prop}
theorem Fv2 (hC:Cmp g caps c P) (L L':List Rec) (i:Nat) (x y:Rec) (g0:L[i]? =some y) (g1:L[i+1]? =some x) (sw:(L.set (i+1) y).set i x=L') (k e:Int) (hk:k=i+1) (he:e<k) (he2:0≤e) (hx:P x) (hy:P y) (hlt:c x y<0) (hL:L.length≤1000000) (w0 w2 w4 w5:PV) (N:Nat):
  L2.ev S N [w0, .i .i64 e,w2, .f g caps,w4,w5, .i .i64 k,Al L]=some (.yld 3 [.i .i64 (k - 1),Al L']):=by
 have hi:=(Aq.1 g1).1;have ti0:(k - 1).toNat=i:=by omega
 have ti1:k.toNat=i+1:=by omega
 have g2:(L.set (i+1) y)[i]? =some y:=by rw [dp (by omega)];exact g0
 have hc:=hC.ok x y hx hy;simp (disch:=first|omega|(rw [Fp];omega)) only [Rf,G4,I2,he,ti0,ti1,g0,g1,g2,sw,hc,hlt,EVT,EVM,EVC,xe,EVP,EV,simprocAttr]
theorem ob (hC:Cmp g caps c P) (L:List Rec) (i:Nat) (x y:Rec) (g0:L[i]? =some y) (g1:L[i+1]? =some x) (k e:Int) (hk:k=i+1) (he:e<k) (hx:P x) (hy:P y) (hlt:¬c x y<0) (hL:L.length≤1000000) (w0 w2 w4 w5:PV) (N:Nat):
  L2.ev S N [w0, .i .i64 e,w2, .f g caps,w4,w5, .i .i64 k,Al L]=some (.yld 2 [Al L]):=by
 have hi:=(Aq.1 g1).1;have ti0:(k - 1).toNat=i:=by omega
 have ti1:k.toNat=i+1:=by omega
 have hc:=hC.ok x y hx hy;simp (disch:=omega) only [Rf,G4,I2,he,ti0,ti1,g0,g1,hc,hlt,EVT,EVM,EVC,xe,EVP,EV,simprocAttr]
theorem Af3 (L:List Rec) (k e:Int) (he:¬e<k) (w0 w2 w3 w4 w5:PV) (N:Nat):
  L2.ev S N [w0, .i .i64 e,w2,w3,w4,w5, .i .i64 k,Al L]=some (.yld 2 [Al L]):=by
 simp (disch:=omega) only [Rf,G4,I2,he,EVT,EVM,EVC,xe,EVP,EV,simprocAttr]
theorem Fv1 (hC:Cmp g caps c P) (ht:TP (leC c)) (X R Y:List Rec) (x:Rec) (hR:R.Pairwise fun a b=>leC c a b=true) (hP:∀y∈X++R++x::Y,P y) (hs:(X++R++x::Y).length≤1000000) (a k:Int) (ha:a=X.length) (hk:k=a+R.length) (w0 w2:PV) (N:Nat) (hN:R.length<N):
  ∃R1 R2,R=R1++R2∧(∀y∈R1,leC c y x=true)∧(∀y∈R2,leC c y x=false)∧
   Ar3.ev S N [w0, .i .i64 a,w2, .f g caps, .i .i64 k,Al (X++R++x::Y)]=some (.yld 2 [Al (X++(R1++x::R2)++Y)]):=by
 have hx:P x:=hP x (by simp);have hs2:=hs;simp only [Ac,Bq] at hs2;have key:=Gq (fn:=S) (N:=N) (η:=[w0, .i .i64 a,w2, .f g caps, .i .i64 k,Al (X++R++x::Y)]) (id:=3) (init:=[.v 4, .v 5]) (body:=L2) (α:=List Rec×List Rec)
  (fun w=>[.i .i64 (a+w.1.length),Al (X++w.1++x::(w.2++Y))])
  (fun o=>∃R1 R2,R=R1++R2∧(∀y∈R1,leC c y x=true)∧(∀y∈R2,leC c y x=false)∧o= .yld 2 [Al (X++(R1++x::R2)++Y)])
  (fun w=>R=w.1++w.2∧∀y∈w.2,leC c y x=false) (fun w=>w.1.length) (R,[]) ?_ ⟨by simp,by simp⟩ hN ?_
 ·obtain ⟨o,h1,R1,R2,h2,h3,h4,rfl⟩:=key;exact ⟨R1,R2,h2,h3,h4,h1⟩
 ·subst hk;simp only [C1];generalize X++R++x::Y=s at*;simp (disch:=omega) only [EVT,EVM,EVC,xe,EVP,EV,simprocAttr]
 ·rintro ⟨R1,R2⟩ ⟨h1,h2⟩;simp only at h1 h2;have hlen:=congrArg List.length h1;simp only [Ac] at hlen;rcases List.eq_nil_or_concat R1 with rfl|⟨R0,y,rfl⟩
  ·right;refine ⟨_,Af3 _ _ a (by simp) _ _ _ _ _ N,rfl,[],R2,h1,by simp,h2,?_⟩;simp
  ·rw [List.concat_eq_append] at*;simp only [Ac,Bq,Bd] at hlen;have hy:P y:=hP y (by rw [h1];simp);have lP:(X++R0).length=X.length+R0.length:=Ac;have g0:=Tc (X++R0) (x::(R2++Y)) y;have g1:=Vt (X++R0) (R2++Y) y x;rw [lP] at g0 g1;have e0:X++(R0++[y])++x::(R2++Y)=X++R0++y::x::(R2++Y):=by simp
   have lL:(X++R0++y::x::(R2++Y)).length≤1000000:=by simp only [Ac,Bq];omega
   by_cases hlt:c x y<0
   ·left;have sw0:((X++R0++y::x::(R2++Y)).set (X.length+R0.length+1) y).set (X.length+R0.length) x=X++R0++x::(y::R2++Y):=by rw [←lP,List.set_comm _ _ (by omega)];exact Ck8 (X++R0) (R2++Y) y x
    refine ⟨(R0,y::R2),?_,⟨by simp only;rw [h1];simp,fun w hw=> ?_⟩,by simp⟩
    ·have:=Fv2 hC _ _ (X.length+R0.length) x y g0 g1 sw0 (a+((R0++[y]).length:Nat)) a (by simp;omega) (by simp;omega) (by omega) hx hy hlt lL w0 w2 (.i .i64 k) (Al (X++R++x::Y)) N;have e1:a+((R0++[y]).length:Nat) - 1=a+(R0.length:Int):=by simp;omega
     rw [e1] at this;show L2.ev S N [w0, .i .i64 a,w2, .f g caps, .i .i64 k,Al (X++R++x::Y), .i .i64 (a+((R0++[y]).length:Nat)),Al (X++(R0++[y])++x::(R2++Y))]=_;rw [e0];exact this
    ·rcases A7.1 hw with rfl|hw
     ·exact Ad6.2 hlt
     ·exact h2 w hw
   ·right;have hle:leC c y x=true:=Ad5.2 hlt;refine ⟨_,?_,rfl,R0++[y],R2,h1,U1 ht (by rw [h1] at hR;exact (C0.1 hR).1) hle,h2,rfl⟩;have:=ob hC _ (X.length+R0.length) x y g0 g1 (a+((R0++[y]).length:Nat)) a (by simp;omega) (by simp;omega) hx hy hlt lL w0 w2 (.i .i64 k) (Al (X++R++x::Y)) N;show L2.ev S N [w0, .i .i64 a,w2, .f g caps, .i .i64 k,Al (X++R++x::Y), .i .i64 (a+((R0++[y]).length:Nat)),Al (X++(R0++[y])++x::(R2++Y))]=_;rw [e0,this,←e0];simp
theorem O5 (hC:Cmp g caps c P) (ht:TP (leC c)) (X A Y:List Rec) (a b:Int) (ha:a=X.length) (hb:b=a+A.length) (hP:∀y∈X++A++Y,P y) (hs:(X++A++Y).length≤1000000):
  ∃R,Stab (leC c) R A∧R.length=A.length∧S bv 1048580 [Al (X++A++Y), .i .i64 a, .i .i64 b, .f g caps]=some [Al (X++R++Y)]:=by
 have hs2:=hs;simp only [Ac] at hs2;cases A with
 |nil=>
  refine ⟨[],Mz _,rfl,?_⟩;refine Dk9 (N:=2) rfl ?_;simp only [Bd] at hb;have h1:¬a+1<b:=by omega
  have key:oq.ev S 2 [Al (X++[]++Y), .i .i64 a, .i .i64 b, .f g caps]=some (.yld 0 [Al (X++[]++Y)]):=by
   generalize X++[]++Y=s at*;refine G7 0 (fun _=>[.i .i64 (a+1),Al s]) (fun _=> .yld 0 [Al s]) ?_ (by omega) (fun i hi=>absurd hi (by omega)) ⟨?_,rfl⟩
   ·simp (disch:=omega) only [EVT,EVM,EVC,xe,EVP,EV,simprocAttr]
   ·simp (disch:=omega) only [Rf,G4,I2,h1,EVT,EVM,EVC,xe,EVP,EV,simprocAttr]
  generalize X++[]++Y=s at*;simp (disch:=omega) only [Rf,G4,I2,key,EVT,EVM,EVC,xe,EVP,EV,simprocAttr]
 |cons x0 A=>
  obtain ⟨N,hN⟩:∃N,N=A.length+3:=⟨_,rfl⟩;simp only [Bq] at hb hs2;have key:=Gq (fn:=S) (N:=N) (η:=[Al (X++x0::A++Y), .i .i64 a, .i .i64 b, .f g caps]) (id:=1) (init:=[.bin .add (.v 1) (.c (.i .i64 1)), .v 0]) (body:=Yl) (α:=List Rec×List Rec×List Rec)
   (fun w=>[.i .i64 (a+w.1.length),Al (X++w.1++(w.2.2++Y))])
   (fun o=>∃R,Stab (leC c) R (x0::A)∧R.length=(x0::A).length∧o= .yld 0 [Al (X++R++Y)])
   (fun w=>x0::A=w.2.1++w.2.2∧Stab (leC c) w.1 w.2.1∧w.1.length=w.2.1.length) (fun w=>w.2.2.length) ([x0],[x0],A) ?_ ⟨rfl,Ut _ _,rfl⟩ (by simp only;omega) ?_
  ·obtain ⟨o,h1,R,h2,h3,rfl⟩:=key;refine ⟨R,h2,h3,?_⟩;refine Dk9 (N:=N) rfl ?_;have h4:oq.ev S N [Al (X++x0::A++Y), .i .i64 a, .i .i64 b, .f g caps]=_:=h1;clear h1;generalize X++x0::A++Y=s at*;generalize X++R++Y=u at*;simp (disch:=omega) only [Rf,G4,I2,h4,EVT,EVM,EVC,xe,EVP,EV,simprocAttr]
  ·simp only [Bq,Bd];have e:X++[x0]++(A++Y)=X++x0::A++Y:=by simp
   rw [e];have e1:a+((0+1:Nat):Int)=a+1:=by omega
   rw [e1];generalize X++x0::A++Y=s at*;simp (disch:=omega) only [EVT,EVM,EVC,xe,EVP,EV,simprocAttr]
  ·rintro ⟨R,D,Z⟩ ⟨h1,h2,h3⟩;simp only at h1 h2 h3;have hlen:=congrArg List.length h1;simp only [Ac,Bq] at hlen;cases Z with
   |nil=>
    right;rw [C2] at h1;subst h1;refine ⟨_,?_,rfl,R,h2,h3,rfl⟩;have hlt:¬a+(R.length:Int)<b:=by simp only [Bq] at h3;omega
    simp only [C1];generalize X++x0::A++Y=s at*;have hu:(X++R++Y).length≤1000000:=by simp only [Ac];omega
    generalize X++R++Y=u at*;simp (disch:=omega) only [Rf,G4,I2,hlt,EVT,EVM,EVC,xe,EVP,EV,simprocAttr]
   |cons x Z=>
    left;simp only [Bq] at hlen;have hmem:∀y∈X++R++x::(Z++Y),P y:=fun y hy=>hP y (by
     rw [h1];have:=h2.mem ht y;simp only [Bw,A7] at hy ⊢
     grind)
    have hlen2:(X++R++x::(Z++Y)).length≤1000000:=by simp only [Ac,Bq];omega
    obtain ⟨R1,R2,rfl,k1,k2,k3⟩:=Fv1 hC ht X R (Z++Y) x h2.sorted hmem hlen2 a (a+R.length) ha rfl (Al (X++x0::A++Y)) (.i .i64 b) N (by omega);refine ⟨(R1++x::R2,D++[x],Z),?_,⟨by simp only;rw [h1];simp,Av7 ht h2 k1 k2,by simp at h3 ⊢;omega⟩,by simp⟩;have e1:a+((R1++x::R2).length:Nat)=a+((R1++R2).length:Nat)+1:=by simp;omega
    have hlt:a+((R1++R2).length:Nat)<b:=by omega
    show Yl.ev S N [Al (X++x0::A++Y), .i .i64 a, .i .i64 b, .f g caps, .i .i64 (a+((R1++R2).length:Nat)),Al (X++(R1++R2)++x::(Z++Y))]=some (.yld 1 [.i .i64 (a+((R1++x::R2).length:Nat)),Al (X++(R1++x::R2)++(Z++Y))]);rw [e1];have hb2:(R1++R2).length≤1000000:=by simp only [Ac] at hlen2 ⊢;omega
    generalize (R1++R2).length=n at*;generalize X++(R1++R2)++x::(Z++Y)=s1 at*;generalize X++(R1++x::R2)++(Z++Y)=s2 at*;generalize X++x0::A++Y=s at*;simp (disch:=omega) only [Rf,G4,I2,hlt,k3,EVT,EVM,EVC,xe,EVP,EV,simprocAttr]
end
end Go.X.G
/- Stable sorting: the J6. -/
namespace Go.X.G
open Go Go.X
theorem Tt {α:Type} {le:α→α→Bool} (ht:TP le) {bs:Nat} {Y LY:List α} (h:Blk le bs Y LY) (hl:Y.length≤2*bs) (hb:bs<Y.length):Stab le (mrg le (Y.take bs) (Y.drop bs)) LY:=by have h1:=h.head;have h2:=(h.tail).all (by rw [Bm];omega);have:=Stab.mrg ht h1 h2;rwa [Br] at this
theorem Blk.pre {α:Type} {le:α→α→Bool} {bs k:Nat} {Y LY:List α} (h:Blk le bs Y LY):Blk le bs (Y.take (k*bs)) (LY.take (k*bs)):=by
 refine ⟨by simp [h.len],fun j=> ?_⟩;rw [List.drop_take,List.drop_take,dn,dn];by_cases hj:j<k
 ·have e:(j+1)*bs≤k*bs:=Bv _ hj;rw [Nat.succ_mul] at e;rw [J0 (by omega)];exact h.st j
 ·have e:k*bs≤j*bs:=Bv _ (by omega);rw [show k*bs - j*bs=0 by omega,Nat.min_eq_right (by omega),List.take_zero,List.take_zero];exact Mz le
section
variable {g:Nat} {caps:List PV} {c:Rec→Rec→Int} {P:Rec→Prop}
theorem Eb5 (hC:Cmp g caps c P) (ht:TP (leC c)) (l:List Rec) (hP:∀y∈l,P y) (hs:l.length≤1000000) (N:Nat) (hN:l.length+2<N):
  ∃(X LX Y:List Rec) (q:Nat),As8.ev S N [Al l, .i .i64 l.length, .f g caps]=some (.yld 0 [.i .i64 X.length,Al (X++Y)])∧l=LX++Y∧X.length=q*20∧Y.length<20∧Blk (leC c) 20 X LX∧∀y∈X++Y,P y:=by
 have key:=Gq (fn:=S) (N:=N) (η:=[Al l, .i .i64 l.length, .f g caps]) (id:=1) (init:=[.c (.i .i64 0), .c (.i .i64 20), .v 0]) (body:=xq) (α:=List Rec×List Rec×List Rec×Nat)
  (fun w=>[.i .i64 (w.1.length:Int), .i .i64 ((w.1.length:Int)+20),Al (w.1++w.2.2.1)])
  (fun o=>∃(X LX Y:List Rec) (q:Nat),o= .yld 0 [.i .i64 X.length,Al (X++Y)]∧l=LX++Y∧X.length=q*20∧Y.length<20∧Blk (leC c) 20 X LX∧∀y∈X++Y,P y)
  (fun w=>l=w.2.1++w.2.2.1∧w.1.length=w.2.2.2*20∧Blk (leC c) 20 w.1 w.2.1∧∀y∈w.1++w.2.2.1,P y) (fun w=>w.2.2.1.length) ([],[],l,0) ?_ ⟨rfl,by simp,Blk.nil _ _,by simpa using hP⟩ (by simp only;omega) ?_
 ·obtain ⟨o,h1,X,LX,Y,q,rfl,h2⟩:=key;exact ⟨X,LX,Y,q,h1,h2⟩
 ·simp (disch:=omega) only [EVT,EVM,EVC,xe,EVP,EV,simprocAttr]
  try simp
 ·rintro ⟨X,LX,Y,q⟩ ⟨h1,h2,h3,h4⟩;simp only at h1 h2 h3 h4;have hlen:=congrArg List.length h1;simp only [Ac] at hlen;have hXL:=h3.len;by_cases hge:20≤Y.length
  ·left;have eY:Y.take 20++Y.drop 20=Y:=Br _ _;have l1:(Y.take 20).length=20:=by rw [Ar];omega
   have l2:(Y.drop 20).length=Y.length - 20:=Bm;have eXY:X++Y.take 20++Y.drop 20=X++Y:=by rw [Ap,eY]
   obtain ⟨R,k1,k2,k3⟩:=O5 hC ht X (Y.take 20) (Y.drop 20) (X.length:Int) ((X.length:Int)+20) rfl (by omega) (by rw [eXY];exact h4) (by rw [eXY,Ac];omega);rw [eXY] at k3;refine ⟨(X++R,LX++Y.take 20,Y.drop 20,q+1),?_,⟨by simp only;rw [h1,Ap,eY],by simp only [Ac];omega,Blk.app h2 h3 (Blk.one k1 k2 (by omega)),fun y hy=>h4 y ?_⟩,by simp only;omega⟩
   ·have e1:((X++R).length:Int)=(X.length:Int)+20:=by simp only [Ac];omega
    have hge':(X.length:Int)+20≤(l.length:Int):=by omega
    simp only;rw [e1];generalize X++R++Y.drop 20=s1 at*;generalize X++Y=s0 at*;simp (disch:=omega) only [Rh,hge',k3,Ec,L6,EVT,EVM,EVC,xe,EVP,EV,simprocAttr]
   ·have:=k1.mem ht y;simp only [Bw] at hy;rcases hy with (hy|hy)|hy
    ·simp [hy]
    ·exact Bs _ (D8 (this.1 hy))
    ·exact Bs _ (Gf hy)
  ·right;have hge':¬(X.length:Int)+20≤(l.length:Int):=by omega
   refine ⟨.yld 0 [.i .i64 X.length,Al (X++Y)],?_,rfl,X,LX,Y,q,rfl,h1,h2,by omega,h3,h4⟩;simp only;generalize X++Y=s0 at*;simp (disch:=omega) only [Rh,hge',EVT,EVM,EVC,xe,EVP,EV,simprocAttr]
theorem Eb4 (hC:Cmp g caps c P) (ht:TP (leC c)) (l r:List Rec) (bs:Nat) (hbs:0<bs) (hbs2:bs<l.length) (hr:Blk (leC c) bs r l) (hP:∀y∈r,P y) (hs:l.length≤1000000) (w0:PV) (w3 w4 w5:PV) (N:Nat) (hN:l.length+2<N):
  ∃(X LX Y LY:List Rec) (q:Nat),Ar1.ev S N [w0, .i .i64 l.length, .f g caps,w3,w4,w5, .i .i64 bs,Al r]=some (.yld 2 [.i .i64 X.length,Al (X++Y)])∧l=LX++LY∧X.length=q*(2*bs)∧Y.length<2*bs∧Blk (leC c) (2*bs) X LX∧Blk (leC c) bs Y LY∧∀y∈X++Y,P y:=by
 have key:=Gq (fn:=S) (N:=N) (η:=[w0, .i .i64 l.length, .f g caps,w3,w4,w5, .i .i64 bs,Al r]) (id:=3) (init:=[.c (.i .i64 0), .bin .mul (.c (.i .i64 2)) (.v 6), .v 7]) (body:=wm) (α:=(List Rec×List Rec)×(List Rec×List Rec)×Nat)
  (fun w=>[.i .i64 (w.1.1.length:Int), .i .i64 ((w.1.1.length:Int)+2*bs),Al (w.1.1++w.2.1.1)])
  (fun o=>∃(X LX Y LY:List Rec) (q:Nat),o= .yld 2 [.i .i64 X.length,Al (X++Y)]∧l=LX++LY∧X.length=q*(2*bs)∧Y.length<2*bs∧Blk (leC c) (2*bs) X LX∧Blk (leC c) bs Y LY∧∀y∈X++Y,P y)
  (fun w=>l=w.1.2++w.2.1.2∧w.1.1.length=w.2.2*(2*bs)∧Blk (leC c) (2*bs) w.1.1 w.1.2∧Blk (leC c) bs w.2.1.1 w.2.1.2∧∀y∈w.1.1++w.2.1.1,P y) (fun w=>w.2.1.1.length) (([],[]),(r,l),0) ?_ ⟨rfl,by simp,Blk.nil _ _,hr,by simpa using hP⟩ (by have:=hr.len;simp only;omega) ?_
 ·obtain ⟨o,h1,X,LX,Y,LY,q,rfl,h2⟩:=key;exact ⟨X,LX,Y,LY,q,h1,h2⟩
 ·simp (disch:=omega) only [EVT,EVM,EVC,xe,EVP,EV,simprocAttr];simp
 ·rintro ⟨⟨X,LX⟩,⟨Y,LY⟩,q⟩ ⟨h1,h2,h3,h4,h5⟩;simp only at h1 h2 h3 h4 h5;have hlen:=congrArg List.length h1;simp only [Ac] at hlen;have hXL:=h3.len;have hYL:=h4.len;by_cases hge:2*bs≤Y.length
  ·left;have eY:Y.take (2*bs)++Y.drop (2*bs)=Y:=Br _ _;have l1:(Y.take (2*bs)).length=2*bs:=by rw [Ar];omega
   have l2:(Y.drop (2*bs)).length=Y.length - 2*bs:=Bm;have hp:=h4.pre (k:=2);have hz:Blk (leC c) bs (Y.drop (2*bs)) (LY.drop (2*bs)):=by have:=h4.tail.tail;rwa [Er,Er,show bs+bs=2*bs by omega] at this
   have hst:=Tt ht hp (by omega) (by omega);have sA:((Y.take (2*bs)).take bs).Pairwise fun x y=>leC c x y=true:=hp.head.sorted;have sB:((Y.take (2*bs)).drop bs).Pairwise fun x y=>leC c x y=true:=(hp.tail.all (by rw [Bm];omega)).sorted;have lA:((Y.take (2*bs)).take bs).length=bs:=by rw [Ar];omega
   have lB:((Y.take (2*bs)).drop bs).length=bs:=by rw [Bm];omega
   have eAB:(Y.take (2*bs)).take bs++(Y.take (2*bs)).drop bs=Y.take (2*bs):=Br _ _;generalize (Y.take (2*bs)).take bs=A at*;generalize (Y.take (2*bs)).drop bs=B at*;have eXY:X++A++B++Y.drop (2*bs)=X++Y:=by rw [Ap X,eAB,Ap,eY]
   have hm:=Hl hC ht (A.length+B.length) X A B (Y.drop (2*bs)) (X.length:Int) ((X.length:Int)+bs) ((X.length:Int)+2*bs) (Ag _) (by intro e;rw [e] at lA;simp at lA;omega) (by intro e;rw [e] at lB;simp at lB;omega) sA sB rfl (by omega) (by omega) (by rw [eXY,Ac];omega) (by rw [eXY];exact h5);rw [eXY] at hm;have lM:=Nk (leC c) A B;have eL:LY.take (2*bs)++LY.drop (2*bs)=LY:=Br _ _;refine ⟨((X++mrg (leC c) A B,LX++LY.take (2*bs)),(Y.drop (2*bs),LY.drop (2*bs)),q+1),?_,⟨by simp only;rw [h1,Ap,eL],by simp only [Ac];rw [Nat.succ_mul];omega,Blk.app h2 h3 (Blk.one hst (by rw [lM,Ar];omega) (by omega)),hz,fun y hy=>h5 y ?_⟩,by simp only;omega⟩
   ·have e1:((X++mrg (leC c) A B).length:Int)=(X.length:Int)+2*bs:=by simp only [Ac];omega
    have hge':(X.length:Int)+2*(bs:Int)≤(l.length:Int):=by omega
    simp only;rw [e1];generalize X++mrg (leC c) A B++Y.drop (2*bs)=s1 at*;generalize X++Y=s0 at*;simp (disch:=omega) only [Rh,hge',hm,Ec,L6,EVT,EVM,EVC,xe,EVP,EV,simprocAttr]
   ·rw [←eXY];simp only [Bw,mrg_mem] at hy ⊢
    grind
  ·right;have hge':¬(X.length:Int)+2*(bs:Int)≤(l.length:Int):=by omega
   refine ⟨.yld 2 [.i .i64 X.length,Al (X++Y)],?_,rfl,X,LX,Y,LY,q,rfl,h1,h2,by omega,h3,h4,h5⟩;simp only;generalize X++Y=s0 at*;simp (disch:=omega) only [Rh,hge',EVT,EVM,EVC,xe,EVP,EV,simprocAttr]
theorem Eb6 (hC:Cmp g caps c P) (ht:TP (leC c)) (l r:List Rec) (bs:Nat) (hbs:0<bs) (hbs2:bs<l.length) (hr:Blk (leC c) bs r l) (hP:∀y∈r,P y) (hs:l.length≤1000000) (w0 w3 w4 w5:PV) (N:Nat) (hN:l.length+2<N):
  ∃r',Blk (leC c) (2*bs) r' l∧(∀y∈r',P y)∧Yh.ev S N [w0, .i .i64 l.length, .f g caps,w3,w4,w5, .i .i64 bs,Al r]=some (.yld 1 [.i .i64 ((2*bs:Nat):Int),Al r']):=by
 obtain ⟨X,LX,Y,LY,q,k,h1,h2,h3,h4,h5,h6⟩:=Eb4 hC ht l r bs hbs hbs2 hr hP hs w0 w3 w4 w5 N hN;have hlen:=congrArg List.length h1;simp only [Ac] at hlen;have hXL:=h4.len;have hYL:=h5.len;have hlt:(bs:Int)<(l.length:Int):=by omega
 have e2:((2*bs:Nat):Int)=(bs:Int)*2:=by omega
 rw [e2];by_cases hge:bs<Y.length
 ·have eY:Y.take bs++Y.drop bs=Y:=Br _ _;have hst:=Tt ht h5 (by omega) hge;have sA:=h5.head.sorted;have sB:=(h5.tail.all (by rw [Bm];omega)).sorted;have lA:(Y.take bs).length=bs:=by rw [Ar];omega
  have lB:(Y.drop bs).length=Y.length - bs:=Bm;generalize Y.take bs=A at*;generalize Y.drop bs=B at*;have eXY:X++A++B++[]=X++Y:=by rw [C2,Ap,eY]
  have hm:=Hl hC ht (A.length+B.length) X A B [] (X.length:Int) ((X.length:Int)+bs) (l.length:Int) (Ag _) (by intro e;rw [e] at lA;simp at lA;omega) (by intro e;rw [e] at lB;simp at lB;omega) sA sB rfl (by omega) (by omega) (by rw [eXY,Ac];omega) (by rw [eXY];exact h6);rw [eXY,C2] at hm;have lM:=Nk (leC c) A B;refine ⟨X++mrg (leC c) A B,by rw [h1];exact Blk.app h2 h4 (Blk.one hst (by omega) (by omega)),fun y hy=>h6 y (by
   rw [←eXY];simp only [Bw,mrg_mem] at hy ⊢
   grind),?_⟩
  have hge':(X.length:Int)+(bs:Int)<(l.length:Int):=by omega
  generalize X++mrg (leC c) A B=s1 at*;generalize X++Y=s0 at*;simp (disch:=omega) only [Rh,hlt,hge',k,hm,Ec,L6,EVT,EVM,EVC,xe,EVP,EV,simprocAttr]
 ·refine ⟨X++Y,by rw [h1];exact Blk.app h2 h4 (Blk.one (h5.all (by omega)) hYL (by omega)),h6,?_⟩;have hge':¬(X.length:Int)+(bs:Int)<(l.length:Int):=by omega
  generalize X++Y=s0 at*;simp (disch:=omega) only [Rh,hlt,hge',k,EVT,EVM,EVC,xe,EVP,EV,simprocAttr]
theorem fx (hC:Cmp g caps c P) (ht:TP (leC c)) (l:List Rec) (hP:∀y∈l,P y) (hs:l.length≤1000000):
  ∃r,Stab (leC c) r l∧r.length=l.length∧S nj 1048579 [Al l, .i .i64 l.length, .f g caps]=some [Al r]:=by
 obtain ⟨N,hN⟩:∃N,N=l.length+3:=⟨_,rfl⟩;obtain ⟨X,LX,Y,q,k0,h1,h2,h3,h4,h5⟩:=Eb5 hC ht l hP hs N (by omega);have hlen:=congrArg List.length h1;simp only [Ac] at hlen;have hXL:=h4.len;obtain ⟨R,i1,i2,i3⟩:=O5 hC ht X Y [] (X.length:Int) (l.length:Int) rfl (by omega) (by simpa using h5) (by simp;omega);simp only [C2] at i3;have hB:Blk (leC c) 20 (X++R) l:=by rw [h1];exact Blk.app h2 h4 (Blk.one i1 i2 (by omega))
 have hP':∀y∈X++R,P y:=fun y hy=>h5 y (by
  have:=i1.mem ht y;simp only [Bw] at hy ⊢
  grind)
 have key:=Gq (fn:=S) (N:=N) (η:=[Al l, .i .i64 l.length, .f g caps, .i .i64 X.length,Al (X++Y),Al (X++R)]) (id:=1) (init:=[.c (.i .i64 20), .v 5]) (body:=Yh) (α:=Nat×List Rec)
  (fun w=>[.i .i64 (w.1:Int),Al w.2])
  (fun o=>∃r,Stab (leC c) r l∧r.length=l.length∧o= .yld 0 [Al r])
  (fun w=>0<w.1∧Blk (leC c) w.1 w.2 l∧∀y∈w.2,P y) (fun w=>l.length - w.1) (20,X++R) ?_ ⟨by simp,hB,hP'⟩ (by simp only;omega) ?_
 ·obtain ⟨o,k1,r,k2,k3,rfl⟩:=key;refine ⟨r,k2,k3,?_⟩;refine Eh4 (N:=N) rfl ?_;have k4:Ar4.ev S N [Al l, .i .i64 l.length, .f g caps, .i .i64 X.length,Al (X++Y),Al (X++R)]=_:=k1;clear k1;generalize X++Y=s0 at*;generalize X++R=s1 at*;simp (disch:=omega) only [Rh,k0,i3,k4,Ec,L6,EVT,EVM,EVC,xe,EVP,EV,simprocAttr]
 ·generalize X++Y=s0 at*;generalize X++R=s1 at*;simp (disch:=omega) only [EVT,EVM,EVC,xe,EVP,EV,simprocAttr]
 ·rintro ⟨bs,r⟩ ⟨g1,g2,g3⟩;simp only at g1 g2 g3;have hr:=g2.len;by_cases hlt:bs<l.length
  ·left;obtain ⟨r',k1,k2,k3⟩:=Eb6 hC ht l r bs g1 hlt g2 g3 hs (Al l) (.i .i64 X.length) (Al (X++Y)) (Al (X++R)) N (by omega);exact ⟨(2*bs,r'),k3,⟨by simp only;omega,k1,k2⟩,by simp only;omega⟩
  ·right;have hlt':¬(bs:Int)<(l.length:Int):=by omega
   refine ⟨.yld 0 [Al r],?_,rfl,r,g2.all (by omega),hr,rfl⟩;generalize X++Y=s0 at*;generalize X++R=s1 at*;simp (disch:=omega) only [Rh,hlt',EVT,EVM,EVC,xe,EVP,EV,simprocAttr]
theorem Q7 (hC:Cmp g caps c P) (ht:TP (leC c)) (l:List Rec) (hP:∀y∈l,P y) (hs:l.length≤1000000):
  ∃r,Stab (leC c) r l∧r.length=l.length∧S nq 1048578 [Al l, .f g caps]=some [Al r]:=by
 obtain ⟨r,h1,h2,h3⟩:=fx hC ht l hP hs;refine ⟨r,h1,h2,?_⟩;refine El1 (N:=1) rfl ?_;simp (disch:=omega) only [Ey1,h3,Ec,L6,EVT,EVM,EVC,xe,EVP,EV,simprocAttr]
end
end Go.X.G
/- Records compacted: the library's function. -/
namespace Go.X.G
open Go Go.X
theorem Wn (l:List Rec) (g:Nat) (caps:List PV) (eq2:Rec→Rec→Bool) (h:∀x∈l,∀y∈l,S g 2 (x.pv::y.pv::caps)=some [.b (eq2 x y)]) (hl:l.length≤1000000):S nk 1048578 [Al l, .f g caps]=some [Al (cpt eq2 l)]:=by
 refine El0 (N:=l.length+2) rfl ?_;by_cases h2:(l.length:Int)<2
 ·have e:cpt eq2 l=l:=by
   match l,h2 with
   |[],_=>rfl
   |[x],_=>rfl
   |_::_::_,h=>simp at h;omega
  rw [e];simp (disch:=omega) only [Pp,h2,EVT,EVM,EVC,xe,EVP,EV,simprocAttr]
 ·-- the inner E9, from a place where two neighbours are equal
  have inner:∀k:Nat,1≤k→k<l.length→cpt eq2 (l.take (k+1))=l.take k→∃s:List Rec,s.length=l.length∧s.take (cpt eq2 l).length=cpt eq2 l∧Ar5.ev S (l.length+2) [Al l, .f g caps, .i .i64 (k:Int),Al l, .b true]=some (.yld 2 [.i .i64 ((cpt eq2 l).length:Int),Al s]):=by
   intro k hk1 hk hcp;have key:=Gq (fn:=S) (N:=l.length+2) (η:=[Al l, .f g caps, .i .i64 (k:Int),Al l, .b true]) (id:=3) (init:=[(.v 2),(.c (.i .i64 (1))),(.v 3)]) (body:=wn) (α:=Nat×Nat×List Rec)
    (fun a=>[.i .i64 (a.1:Int), .i .i64 (a.2.1:Int),Al a.2.2])
    (fun o=>∃s:List Rec,s.length=l.length∧s.take (cpt eq2 l).length=cpt eq2 l∧o= .yld 2 [.i .i64 ((cpt eq2 l).length:Int),Al s])
    (fun a=>1≤a.2.1∧k+a.2.1≤l.length∧a.1<k+a.2.1∧a.2.2.length=l.length∧a.2.2.take a.1=cpt eq2 (l.take (k+a.2.1))∧(cpt eq2 (l.take (k+a.2.1))).length=a.1∧a.2.2.drop (k+a.2.1 - 1)=l.drop (k+a.2.1 - 1))
    (fun a=>l.length - a.2.1) (k,1,l) (by simp (disch:=omega) only [EVT,EVM,EVC,xe,EVP,EV,simprocAttr])
    ⟨by simp,by simp;omega,by simp,rfl,by simp only;rw [hcp],by simp only;rw [hcp,Ar];omega,rfl⟩ (by simp only;omega) ?_
   ·obtain ⟨o,h3,s,h4,h5,rfl⟩:=key;exact ⟨s,h4,h5,h3⟩
   ·rintro ⟨i,j,s⟩ ⟨a1,a2,a3,a4,a5,a6,a7⟩;simp only at a1 a2 a3 a4 a5 a6 a7;by_cases hj:k+j<l.length
    ·left;have c1:s[k+j]? =l[k+j]? :=by have:=congrArg (fun q=>q[1]?) a7;simp only [A9] at this;rwa [show k+j - 1+1=k+j by omega] at this
     have c0:s[k+j - 1]? =l[k+j - 1]? :=by have:=congrArg (fun q=>q[0]?) a7;simpa only [A9,Dx] using this
     have g1:l[k+j]? =some (l[k+j]'hj):=Az hj;have g0:l[k+j - 1]? =some (l[k+j - 1]'(by omega)):=Az (by omega);have tk:l.take (k+(j+1))=l.take (k+j)++[l[k+j]'hj]:=by rw [show k+(j+1)=(k+j)+1 by omega,El,g1];rfl
     have ne:l.take (k+j)≠[]:=by intro h;have:=congrArg List.length h;rw [Ar,Bd] at this;omega
     have gl:(l.take (k+j)).getLast ne=l[k+j - 1]'(by omega):=by rw [List.getLast_eq_getElem];simp only [List.getElem_take,Ar];congr 1;omega
     have cs:=Qt eq2 (l[k+j]'hj) (l.take (k+j)) ne;rw [←tk,gl] at cs;have hc:=h (l[k+j]'hj) (E7 _) (l[k+j - 1]'(by omega)) (E7 _);generalize l[k+j]'hj=x at*;generalize l[k+j - 1]'(by omega)=y at*;have hjj:(j:Int)<(s.length:Int) - (k:Int):=by omega
     have i1:Hd 16 (Al s) (.i .i64 ((k:Int)+(j:Int)))=some x.pv:=by rw [Kh _ _ _ (by omega),show ((k:Int)+(j:Int)).toNat=k+j by omega,c1,g1];rfl
     have i0:Hd 16 (Al s) (.i .i64 ((k:Int)+((j:Int) - 1)))=some y.pv:=by rw [Kh _ _ _ (by omega),show ((k:Int)+((j:Int) - 1)).toNat=k+j - 1 by omega,c0,g0];rfl
     have ls:H1 16 (Al s) (.i .i64 (k:Int)) (.i .i64 (s.length:Int))=some (Al (s.drop k)):=by rw [Jv _ _ _ _ _ (by omega) (by omega) (by omega)];simp
     have e1:(s.drop k)[j]? =some x:=by rw [A9,c1,g1]
     have e0:(s.drop k)[j - 1]? =some y:=by rw [A9,show k+(j - 1)=k+j - 1 by omega,c0,g0]
     have si:∃w,s[i]? =some w:=⟨_,Az (by omega)⟩;obtain ⟨w,si⟩:=si;have ej:((j:Int) - 1).toNat=j - 1:=by omega
     by_cases hxy:eq2 x y=true
     ·refine ⟨(i,j+1,s),?_,⟨by simp,by simp only;omega,by simp only;omega,a4,?_,?_,?_⟩,by simp only;omega⟩
      ·simp (disch:=omega) only [Pp,hjj,i1,i0,ls,e1,e0,ej,hc,hxy,EVT,EVM,EVC,xe,EVP,EV,simprocAttr]
      ·simp only;rw [cs,a5];simp [hxy]
      ·simp only;rw [cs,Ac,a6];simp [hxy]
      ·simp only;rw [show k+(j+1) - 1=(k+j - 1)+1 by omega,←Er,←Er,a7]
     ·refine ⟨(i+1,j+1,s.set i x),?_,⟨by simp,by simp only;omega,by simp only;omega,by simpa using a4,?_,?_,?_⟩,by simp only;omega⟩
      ·simp (disch:=omega) only [Pp,hjj,i1,i0,ls,e1,e0,ej,si,hc,hxy,EVT,EVM,EVC,xe,EVP,EV,simprocAttr]
      ·simp only;rw [cs,El,List.getElem?_set_self (by omega),List.take_set_of_le (by omega),a5];simp [hxy]
      ·simp only;rw [cs,Ac,a6];simp [hxy]
      ·simp only;rw [show k+(j+1) - 1=(k+j - 1)+1 by omega,List.drop_set_of_lt (by omega),←Er,←Er,a7]
    ·right;have ek:k+j=l.length:=by omega
     rw [ek,Ez] at a5 a6;have hjj:¬(j:Int)<(s.length:Int) - (k:Int):=by omega
     refine ⟨.yld 2 [.i .i64 (i:Int),Al s],?_,rfl,s,a4,by rw [a6];exact a5,by rw [a6]⟩;simp (disch:=omega) only [Pp,hjj,EVT,EVM,EVC,xe,EVP,EV,simprocAttr]
  have key:At0.ev S (l.length+2) [Al l, .f g caps]=some (if cpt eq2 l=l then .yld 0 [Al l] else .ret [Al (cpt eq2 l)]):=by
   have:=Gq (fn:=S) (N:=l.length+2) (η:=[Al l, .f g caps]) (id:=1) (init:=[(.c (.i .i64 (1))),(.v 0)]) (body:=xw) (α:=Nat)
    (fun k=>[.i .i64 (k:Int),Al l]) (fun o=>o=if cpt eq2 l=l then .yld 0 [Al l] else .ret [Al (cpt eq2 l)])
    (fun k=>1≤k∧k≤l.length∧cpt eq2 (l.take k)=l.take k) (fun k=>l.length - k) 1 (by simp (disch:=omega) only [EVT,EVM,EVC,xe,EVP,EV,simprocAttr])
    ⟨Ag 1,by omega,by cases l with
     |nil=>simp at h2
     |cons x r=>rfl⟩ (by omega) ?_
   ·obtain ⟨o,h3,h4⟩:=this;rw [←h4];exact h3
   ·rintro k ⟨k1,k2,k3⟩;by_cases hk:k<l.length
    ·have g1:l[k]? =some l[k]:=Az hk;have g0:l[k - 1]? =some (l[k - 1]'(by omega)):=Az (by omega);have tk:l.take (k+1)=l.take k++[l[k]]:=by rw [El,g1];rfl
     have ne:l.take k≠[]:=by intro h;have:=congrArg List.length h;rw [Ar,Bd] at this;omega
     have gl:(l.take k).getLast ne=l[k - 1]'(by omega):=by rw [List.getLast_eq_getElem];simp only [List.getElem_take,Ar];congr 1;omega
     have cs:=Qt eq2 l[k] (l.take k) ne;rw [←tk,gl,k3] at cs;have hkk:(k:Int)<(l.length:Int):=by omega
     have i1:Hd 16 (Al l) (.i .i64 (k:Int))=some (l[k]).pv:=by rw [Kh _ _ _ (by omega),show ((k:Int)).toNat=k by omega,g1];rfl
     have i0:Hd 16 (Al l) (.i .i64 ((k:Int) - 1))=some (l[k - 1]'(by omega)).pv:=by rw [Kh _ _ _ (by omega),show ((k:Int) - 1).toNat=k - 1 by omega,g0];rfl
     have hc:=h l[k] (E7 _) (l[k - 1]'(by omega)) (E7 _);by_cases hxy:eq2 l[k] (l[k - 1]'(by omega))=true
     ·right;have cs':cpt eq2 (l.take (k+1))=l.take k:=by rw [cs];simp [hxy]
      obtain ⟨s,s1,s2,s3⟩:=inner k k1 hk cs';have hlt:cpt eq2 l≠l:=by
       intro h;have q:(cpt eq2 l).length≤(cpt eq2 (l.take (k+1))).length+(l.drop (k+1)).length:=by
        have:∀(b a:List Rec),a≠[]→(cpt eq2 (a++b)).length≤(cpt eq2 a).length+b.length:=by
         intro b
         induction b with
         |nil=>intro a _;simp
         |cons x r ih=>
          intro a ha;have h1:=ih (a++[x]) (by simp);rw [Qt _ _ _ ha] at h1;rw [show a++x::r=a++[x]++r by simp];refine C6 h1 ?_;rw [Ac];split<;>simp<;>omega
        have h3:=this (l.drop (k+1)) (l.take (k+1)) (by intro h;have:=congrArg List.length h;rw [Ar,Bd] at this;omega);rwa [Br] at h3
       rw [h,cs',Ar,Bm] at q;omega
      have hlen:=Cf9 eq2 l;refine ⟨.ret [Al (cpt eq2 l)],?_,rfl,by rw [if_neg hlt]⟩;generalize cpt eq2 l=fl at*;have ls:H1 16 (Al l) (.i .i64 (k:Int)) (.i .i64 (l.length:Int))=some (Al (l.drop k)):=by rw [Jv _ _ _ _ _ (by omega) (by omega) (by omega)];simp
      have hsl1:H1 16 (Al s) (.i .i64 ((fl.length:Nat):Int)) (.i .i64 (s.length:Int))=some (Al (s.drop fl.length)):=by rw [Jv _ _ _ _ _ (by omega) (by omega) (by omega)];simp
      have hsl2:H1 16 (Al s) (.i .i64 0) (.i .i64 ((fl.length:Nat):Int))=some (Al fl):=by rw [Jv _ _ _ _ _ (by omega) (by omega) (by omega)];simp [s2]
      have hrep:Kw 16 (.i .i64 ((s.length:Int) - (fl.length:Int))) d3=some (Al (List.replicate (s.length - fl.length) zr)):=by rw [Ax0 _ (by omega) (by omega)];congr 3;omega
      have happ:Gs 16 (Al fl) (Al (List.replicate (s.length - fl.length) zr))=some (Al (fl++List.replicate (s.length - fl.length) zr)):=Q5 _ _ (by simp;omega);have hsl3:H1 16 (Al (fl++List.replicate (s.length - fl.length) zr)) (.i .i64 0) (.i .i64 ((fl.length:Nat):Int))=some (Al fl):=by rw [Jv _ _ _ _ _ (by omega) (by omega) (by simp;omega)];simp
      simp (disch:=omega) only [Pp,hkk,i1,i0,hc,hxy,ls,s3,hsl1,hsl2,hrep,happ,hsl3,EVT,EVM,EVC,xe,EVP,EV,simprocAttr]
     ·left;refine ⟨k+1,?_,⟨by omega,by omega,?_⟩,by omega⟩
      ·simp (disch:=omega) only [Pp,hkk,i1,i0,hc,hxy,EVT,EVM,EVC,xe,EVP,EV,simprocAttr]
      ·rw [cs,tk];simp [hxy]
    ·right;have e:k=l.length:=by omega
     subst e;rw [Ez] at k3;refine ⟨_,?_,?_,rfl⟩
     ·rw [if_pos k3];simp (disch:=omega) only [Pp,EVT,EVM,EVC,xe,EVP,EV,simprocAttr]
     ·rw [if_pos k3];rfl
  by_cases hh:cpt eq2 l=l
  ·rw [if_pos hh] at key;rw [hh];simp (disch:=omega) only [Pp,h2,key,EVT,EVM,EVC,xe,EVP,EV,simprocAttr]
  ·rw [if_neg hh] at key;simp (disch:=omega) only [Pp,h2,key,EVT,EVM,EVC,xe,EVP,EV,simprocAttr]
end Go.X.G
/- Lists of records in the program: which are valid, their order, their sorting. -/
namespace Go.X.G
open Go Go.X
theorem xh (r:Rec) (h:r.wf):S Vd 1 [r.pv]=some [.b (yw r)]:=by
 refine El6 (N:=1) rfl ?_;have g:r.name.length≤9223372036854775807:=h.name;have h1:=B3 r.name g;have h2:=Cv r.typ;have h3:=Ol r.typ r.data h.data;unfold yw;by_cases k0:0≤r.ttl<;>by_cases k1:r.ttl≤2147483647
 all_goals rcases ch3 (vld r.name) (knw r.typ) (Dn r.typ r.data) with e0|⟨e0,e1⟩|⟨e0,e1,e2⟩|⟨e0,e1,e2⟩
 all_goals simp only [*] at h1 h2 h3
 all_goals simp (disch:=omega) only [Ey3,Qr,Ej,h1,h2,h3,EVC,xe,EVP,EV,simprocAttr, *]
 all_goals simp
theorem Bs8 (x:Int):S bd 1 [.i .i64 x]=some [.b false]:=by refine Eh1 (N:=1) rfl ?_;simp (disch:=omega) only [Ex9,EVC,xe,EVP,EV,simprocAttr]
theorem xr (a b:Int):S bg 2 [.i .i64 a, .i .i64 b]=some [.i .i64 (dm a b)]:=by
 refine Eh7 (N:=1) rfl ?_;have h1:=Bs8 a;have h2:=Bs8 b;unfold dm;by_cases k1:a<b
 ·simp (disch:=omega) only [Cj1,h1,h2,k1,EVC,xe,EVP,EV,simprocAttr]
 ·by_cases k2:b<a
  ·simp (disch:=omega) only [Cj1,h1,h2,k1,k2,EVC,xe,EVP,EV,simprocAttr]
  ·simp (disch:=omega) only [Cj1,h1,h2,k1,k2,EVC,xe,EVP,EV,simprocAttr]
theorem Xw (a b:Rec) (ha:a.wf) (hb:b.wf):S Vb 2 [a.pv,b.pv]=some [.i .i64 (Uw a b)]:=by
 refine Eh8 (N:=1) rfl ?_;have g1:a.name.length≤9223372036854775807:=ha.name;have g2:b.name.length≤9223372036854775807:=hb.name;have h1:=Wg a.name b.name g1 g2;have h2:=xr a.typ b.typ;have h3:=Wm a.typ a.data b.data ha.data hb.data;unfold Uw;by_cases k1:Nt a.name b.name=0
 ·by_cases k2:dm a.typ b.typ=0
  ·rw [k1] at h1;rw [k2] at h2;simp (disch:=omega) only [Cj2,Qr,Ej,h1,h2,h3,EVC,xe,EVP,EV,simprocAttr];simp [k1,k2]
  ·rw [k1] at h1;simp (disch:=omega) only [Cj2,h1,h2,k2,EVC,xe,EVP,EV,simprocAttr];simp [k1,k2]
 ·simp (disch:=omega) only [Cj2,h1,k1,EVC,xe,EVP,EV,simprocAttr]
theorem Wd (a b:Rec) (ha:a.wf) (hb:b.wf):S Cx4 2 [a.pv,b.pv]=some [.i .i64 (Cg2 a b)]:=by
 refine Fy9 (N:=1) rfl ?_;have h1:=Xw a b ha hb;have h2:=xr a.ttl b.ttl;unfold Cg2;by_cases k1:Uw a b=0
 ·rw [k1] at h1;simp (disch:=omega) only [Fx8,h1,h2,EVC,xe,EVP,EV,simprocAttr];simp [k1]
 ·simp (disch:=omega) only [Fx8,h1,k1,EVC,xe,EVP,EV,simprocAttr]
theorem Fx3:Cmp Cx4 [] Cg2 Rec.wf:=⟨fun x y hx hy=>Wd x y hx hy⟩
theorem Dx2:leC Cg2=leR:=rfl
theorem Am9 (a b:Rec) (ha:a.wf) (hb:b.wf):S bh 2 [a.pv,b.pv]=some [.b (eqF a b)]:=by refine Eh9 (N:=1) rfl ?_;have h1:=Xw a b ha hb;simp (disch:=omega) only [Ey0,h1,EVC,xe,EVP,EV,simprocAttr]
theorem Y1 (l:List Rec) (hw:∀r∈l,r.wf) (hl:l.length≤1000000):S yx 1 [Al l]=some [Al (sortR l)]:=by refine Fz0 (N:=1) rfl ?_;have h0:=yj l hl;obtain ⟨r,h1,h2,h3⟩:=Q7 Fx3 (by rw [Dx2];exact Eb0) l hw hl;rw [Dx2] at h1;have hm:=h1.mem Eb0;have h4:=Wn r bh [] eqF (fun x hx y hy=>Am9 x y (hw x ((hm x).1 hx)) (hw y ((hm y).1 hy))) (by omega);rw [Av9 h1] at h4;simp (disch:=omega) only [Fy6,h0,h3,h4,Ec,L6,EVT,EVM,EVC,xe,EVP,EV,simprocAttr]
end Go.X.G
/- Sets of records: what the program's and the reference's functions give. -/
namespace Go.X
open Go
structure SetR where
 name:List UInt8
 typ:Int
 ttl:Int
 data:List Dat
 deriving DecidableEq
def Ed (l:List Dat):PV:= .l 13 (l.map Dat.pv)
def SetR.pv (x:SetR):PV:= .a [.s x.name, .i .i64 x.typ, .i .i64 x.ttl,Ed x.data]
def Dc (l:List SetR):PV:= .l 4 (l.map SetR.pv)
theorem Al0:PV.l 13 []=Ed []:=rfl
theorem Aw3:PV.l 4 []=Dc []:=rfl
theorem jw (x:SetR):Bc 0 x.pv=some (.s x.name):=rfl
theorem jv (x:SetR):Bc 1 x.pv=some (.i .i64 x.typ):=rfl
theorem jq (x:SetR):Bc 2 x.pv=some (.i .i64 x.ttl):=rfl
theorem jk (x:SetR):Bc 3 x.pv=some (Ed x.data):=rfl
theorem Cb7 (x:SetR):Mj 4 x.pv=some x.pv:=rfl
theorem Cq0 (x:SetR):Hp 0 4 x.pv=some x.pv:=rfl
theorem o3 (n:List UInt8) (t u:Int) (d:List Dat):PV.a [.s n, .i .i64 t, .i .i64 u,Ed d]=SetR.pv ⟨n,t,u,d⟩:=rfl
theorem Cd3 (x:SetR):(⟨x.name,x.typ,x.ttl,x.data⟩:SetR)=x:=rfl
theorem Cz6 (x:SetR):Jc 4 [x.pv]=some (Dc [x]):=rfl
theorem Cz9 (x:Dat):Jc 13 [x.pv]=some (Ed [x]):=rfl
theorem Xg (l:List SetR):Fq (Dc l)=some (.i .i64 (l.length:Int)):=by simp [Dc,Fq]
theorem Ad3 (l:List Dat):Fq (Ed l)=some (.i .i64 (l.length:Int)):=by simp [Ed,Fq]
theorem f3 (l:List SetR):Gw (Dc l)=some (Dc l):=rfl
theorem f6 (l:List Dat):Gw (Ed l)=some (Ed l):=rfl
theorem Xt (l:List SetR) (k:IntKind) (z:Int) (h:0≤z):Hd 4 (Dc l) (.i k z)=(l[z.toNat]?).map SetR.pv:=by simp [Dc,Vp _ _ _ _ h]
theorem Af9 (l:List Dat) (k:IntKind) (z:Int) (h:0≤z):Hd 13 (Ed l) (.i k z)=(l[z.toNat]?).map Dat.pv:=by simp [Ed,Vp _ _ _ _ h]
theorem xz (l:List SetR) (x:SetR) (h:l.length+1≤1073741824):Gs 4 (Dc l) (Dc [x])=some (Dc (l++[x])):=by have:=Ox 4 (l.map SetR.pv) [x.pv] (by simpa using h);simpa [Dc] using this
theorem xf (l:List Dat) (x:Dat) (h:l.length+1≤1073741824):Gs 13 (Ed l) (Ed [x])=some (Ed (l++[x])):=by have:=Ox 13 (l.map Dat.pv) [x.pv] (by simpa using h);simpa [Ed] using this
theorem Xj {l:List SetR} {k:IntKind} {z:Int} {x y:SetR} {off:Nat} {vs:List PV} (h0:0≤z) (h3:l[z.toNat]? =some x) (h:Lj x.pv off vs=some y.pv):K9 4 off vs (Dc l) (.i k z)=some (Dc (l.set z.toNat y)):=by
 have h4:(l.map SetR.pv)[z.toNat]? =some x.pv:=by rw [Bb,h3];rfl
 simp only [K9,Dc,h0,h4,and_self,if_true,Aw,h,As];simp [List.map_set]
set_option linter.defProp false in
def T9:=(And.intro @Al0 (And.intro @Aw3 (And.intro @jw (And.intro @jv (And.intro @jq (And.intro @jk (And.intro @Cb7 (And.intro @Cq0 (And.intro @o3 (And.intro @Cd3 (And.intro @Cz6 (And.intro @Cz9 (And.intro @Xg (And.intro @Ad3 (And.intro @f3 (And.intro @f6 (And.intro @Xt (And.intro @Af9 (And.intro @xz @xf)))))))))))))))))))
end Go.X
namespace Go.X.G
open Go Go.X
def addS (g:List SetR) (r:Rec):List SetR:=
 match g.getLast? with
 |some x=>if x.name=r.name∧x.typ=r.typ then g.dropLast++[⟨x.name,x.typ,if r.ttl<x.ttl then r.ttl else x.ttl,x.data++[r.data]⟩] else g++[⟨r.name,r.typ,r.ttl,[r.data]⟩]
 |none=>[⟨r.name,r.typ,r.ttl,[r.data]⟩]
def Y6 (l:List Rec):List SetR:=l.foldl addS []
def setsR (l:List Rec):List SetR:=Y6 (sortR l)
def Kc (g:List SetR):List Dat:=((g.getLast?).map SetR.data).getD []
theorem fm {g:List SetR} {x:SetR} (h:g.getLast? =some x) (y:SetR):g.set (g.length - 1) y=g.dropLast++[y]:=by obtain ⟨a,rfl⟩:=List.getLast?_eq_some_iff.1 h;simp
theorem Am7 (g:List SetR) (r:Rec):(addS g r).length≤g.length+1:=by
 unfold addS;split
 ·split
  ·simp
  ·simp
 ·simp
theorem ff (x:SetR) (g:List SetR) (c:Rec) (s:List Rec) (i:Nat) (p0 p2 p3:PV) (d:List Dat) (N:Nat) (hc:s[i]? =some c) (hg:g.getLast? =some x) (hl:g.length≤1000000) (hd:d.length≤1000000) (hi:i≤1000000) (hxd:x.data=d):
  rv.ev S N [p0,Al s,p2,p3, .i .i64 (i:Int),Dc g,Ed d, .i .i64 (g.length:Int)]=some (.yld 1 [Dc (g.dropLast++[⟨x.name,x.typ,if c.ttl<x.ttl then c.ttl else x.ttl,d++[c.data]⟩]),Ed (d++[c.data]), .i .i64 ((i+1:Nat):Int)]):=by
 have hpos:0<g.length:=by cases g<;>simp at hg ⊢
 have e1:((g.length:Int) - 1).toNat=g.length - 1:=by omega
 have hx:g[((g.length:Int) - 1).toNat]? =some x:=by rw [e1,←List.getLast?_eq_getElem?];exact hg
 have hw:IntKind.i64.wrap ((g.length:Int) - 1)=(g.length:Int) - 1:=w64 (by omega) (by omega);let y:SetR:=⟨x.name,x.typ,if c.ttl<x.ttl then c.ttl else x.ttl,x.data⟩;let z:SetR:=⟨x.name,x.typ,if c.ttl<x.ttl then c.ttl else x.ttl,d++[c.data]⟩;have s1:K9 4 2 [.i .i64 (if c.ttl<x.ttl then c.ttl else x.ttl)] (Dc g) (.i .i64 ((g.length:Int) - 1))=some (Dc (g.set (g.length - 1) y)):=by rw [←e1];exact Xj (by omega) hx rfl
 have hl2:(g.set (g.length - 1) y).length=g.length:=by simp
 have hx2:(g.set (g.length - 1) y)[((g.length:Int) - 1).toNat]? =some y:=by rw [e1,List.getElem?_set_self (by omega)]
 have s2:K9 4 3 [Ed (d++[c.data])] (Dc (g.set (g.length - 1) y)) (.i .i64 ((g.length:Int) - 1))=some (Dc (g.dropLast++[z])):=by rw [Xj (x:=y) (y:=z) (by omega) hx2 rfl,e1,List.set_set,fm hg]
 have hmn:nb (.i .i64 x.ttl) (.i .i64 c.ttl)=some (.i .i64 (if c.ttl<x.ttl then c.ttl else x.ttl)):=by simp [nb]
 have hy3:Bc 3 y.pv=some (Ed x.data):=rfl;have i1:Hd 4 (Dc (g.set (g.length - 1) y)) (.i .i64 ((g.length:Int) - 1))=some y.pv:=by rw [Xt _ _ _ (by omega),hx2];rfl
 have n1:Fq (Dc (g.set (g.length - 1) y))=some (.i .i64 (g.length:Int)):=by rw [Xg,hl2]
 generalize hG:Dc (g.set (g.length - 1) y)=G at*;generalize hY:y.pv=Y at*;simp (disch:=omega) only [Ud,hc,hx,hw,hmn,s1,s2,i1,n1,hy3,T9,xe,EVP,EV,simprocAttr]
 try rfl
structure SetsIn (g:List SetR) (i:Nat):Prop where
 len:g.length≤i
 each:∀x∈g,x.data.length≤i
theorem Cm6 {g:List SetR} {i:Nat} (h:SetsIn g i) (c:Rec):SetsIn (addS g c) (i+1):=by
 refine ⟨C6 (Am7 g c) (by have:=h.len;omega),fun x hx=> ?_⟩;unfold addS at hx;split at hx
 ·rename_i y hy;have hym:y∈g:=List.mem_of_getLast? hy;split at hx
  ·rcases Bw.1 hx with hx|hx
   ·have:=h.each x (List.dropLast_subset _ hx);omega
   ·rw [A0.1 hx];have:=h.each y hym;simp;omega
  ·rcases Bw.1 hx with hx|hx
   ·have:=h.each x hx;omega
   ·rw [A0.1 hx];simp
 ·rw [A0.1 hx];simp
theorem O4 (g:List SetR) (c:Rec):Kc (addS g c)=match g.getLast? with
  |some x=>if x.name=c.name∧x.typ=c.typ then x.data++[c.data] else [c.data]
  |none=>[c.data]:=by
 unfold addS Kc;split
 ·split<;>simp
 ·simp
theorem W9:∀(l acc:List Rec),(l.foldl (fun a x=>dz x a) acc).length≤acc.length+l.length
 |[],acc=>by simp
 |x::l,acc=>by have h1:=W9 l (dz x acc);have h2:=Xs x acc;simp only [List.foldl_cons,Bq];omega
theorem W8 (l:List Rec):(sortR l).length≤l.length:=by simpa [sortR] using W9 l []
theorem An0 (l:List Rec) (hw:∀r∈l,r.wf) (hl:l.length≤100000):S bl 1 [Al l]=some [Dc (setsR l)]:=by
 have hs:=Y1 l hw (by omega);have hsl:(sortR l).length≤1000000:=by have:=W8 l;omega
 generalize hsd:sortR l=s at*;obtain ⟨N,hN⟩:∃N,N=s.length+1:=⟨_,rfl⟩;refine El5 (N:=N) rfl ?_;have key:At3.ev S N [Al l,Al s]=some (.yld 0 [Dc (s.foldl addS []),Ed (Kc (s.foldl addS []))]):=by
  refine Jw s (fun i (g:List SetR)=>[Dc g,Ed (Kc g), .i .i64 (i:Int)]) (fun i g r=> .yld 0 [Dc (r.foldl addS g),Ed (Kc (r.foldl addS g))]) (fun i g=>SetsIn g i) [] rfl ⟨Ag _,fun x hx=>by cases hx⟩ (by omega) (fun i g c r hd hi hc hI=> ?_) (fun g hI=> ?_)
  ·left;refine ⟨addS g c,?_,Cm6 hI c,rfl⟩;have hgl:=hI.len;have hilt:(i:Int)<(s.length:Int):=by omega
   cases hg:g.getLast? with
   |none=>
    have hg0:g=[]:=List.getLast?_eq_none_iff.1 hg;subst hg0;have k:=ff ⟨c.name,c.typ,c.ttl,[]⟩ [⟨c.name,c.typ,c.ttl,[]⟩] c s i (Al l) (Dc []) (Ed (Kc [])) [] N hc rfl (by simp) (by simp) (by omega) rfl;have e1:(([⟨c.name,c.typ,c.ttl,[]⟩]:List SetR).length:Int)=1:=rfl;have e2:([⟨c.name,c.typ,c.ttl,[]⟩]:List SetR).dropLast++[⟨c.name,c.typ,if c.ttl<c.ttl then c.ttl else c.ttl,[]++[c.data]⟩]=addS [] c:=by simp [addS]
    have e3:([]++[c.data]:List Dat)=Kc (addS [] c):=by simp [addS,Kc]
    rw [e1,e2,e3] at k;generalize addS [] c=G at*;simp (disch:=omega) only [Ud,hc,hilt,k,T9,xe,EVP,EV,simprocAttr]
   |some x=>
    have hpos:0<g.length:=by cases g<;>simp at hg ⊢
    have hx:g[((g.length:Int) - 1).toNat]? =some x:=by rw [show ((g.length:Int) - 1).toNat=g.length - 1 by omega,←List.getLast?_eq_getElem?];exact hg
    have hxm:x∈g:=List.mem_of_getLast? hg;have hxd:=hI.each x hxm;have hn0:¬(g.length:Int)=0:=by omega
    have hld:Kc g=x.data:=by simp [Kc,hg]
    by_cases hk:x.name=c.name∧x.typ=c.typ
    ·have k:=ff x g c s i (Al l) (Dc g) (Ed (Kc g)) x.data N hc hg (by omega) (by omega) (by omega) rfl;have e2:g.dropLast++[⟨x.name,x.typ,if c.ttl<x.ttl then c.ttl else x.ttl,x.data++[c.data]⟩]=addS g c:=by simp [addS,hg,hk]
     have e3:x.data++[c.data]=Kc (addS g c):=by rw [O4,hg];simp [hk]
     rw [e2,e3,hld] at k;rw [hld];generalize addS g c=G at*;simp (disch:=omega) only [Ud,hc,hilt,hx,hn0,hk.1,hk.2,k,T9,xe,EVP,EV,simprocAttr]
    ·have k:=ff ⟨c.name,c.typ,c.ttl,[]⟩ (g++[⟨c.name,c.typ,c.ttl,[]⟩]) c s i (Al l) (Dc g) (Ed (Kc g)) [] N hc (by simp) (by simp;omega) (by simp) (by omega) rfl;have e1:((g++[⟨c.name,c.typ,c.ttl,[]⟩]:List SetR).length:Int)=(g.length:Int)+1:=by simp
     have e2:(g++[⟨c.name,c.typ,c.ttl,[]⟩]:List SetR).dropLast++[⟨c.name,c.typ,if c.ttl<c.ttl then c.ttl else c.ttl,[]++[c.data]⟩]=addS g c:=by simp [addS,hg,hk]
     have e3:([]++[c.data]:List Dat)=Kc (addS g c):=by rw [O4,hg];simp [hk]
     rw [e1,e2,e3,hld] at k;rw [hld];generalize addS g c=G at*;by_cases h1:x.name=c.name
     ·have h2:¬x.typ=c.typ:=fun h=>hk ⟨h1,h⟩;simp (disch:=omega) only [Ud,hc,hilt,hx,hn0,h1,h2,k,T9,xe,EVP,EV,simprocAttr]
     ·simp (disch:=omega) only [Ud,hc,hilt,hx,hn0,h1,k,T9,xe,EVP,EV,simprocAttr]
  ·simp (disch:=omega) only [Ud,T9,xe,EVP,EV,simprocAttr];simp [Out.goes]
 simp (disch:=omega) only [Ud,hs,key,T9,xe,EVP,EV,simprocAttr];simp [setsR,Y6,hsd]
end Go.X.G
/- Records with names and texts of at most 300 bytes. -/
namespace Go.X.G
open Go Go.X
def c3 (s:List UInt8):List UInt8:=s.take 300
def Jn (r:Rec):Rec:=⟨c3 r.name,r.typ,r.ttl,{r.data with host:=c3 r.data.host,mail:=c3 r.data.mail,text:=c3 r.data.text}⟩
theorem Dm9 (s:List UInt8):(c3 s).length≤300:=by unfold c3;rw [Ar];omega
theorem pb {r:Rec} (h:r.wf):(Jn r).wf:=by
 have hs:∀s:List UInt8,Av5 (c3 s):=fun s=>by have:=Dm9 s;unfold Av5;omega
 exact ⟨hs _,h.typ,h.ttl,⟨h.data.hi,h.data.lo,hs _,hs _,hs _,h.data.a,h.data.b,h.data.c,h.data.d,h.data.e,h.data.f,h.data.bits⟩⟩
theorem W6 (s:List UInt8) (hs:s.length≤9223372036854775807):R9 (.s s) (.i .i64 0) (.i .i64 (if (300:Int)<(s.length:Int) then 300 else (s.length:Int)))=some (.s (c3 s)):=by
 unfold c3;by_cases h:(300:Int)<(s.length:Int)
 ·rw [if_pos h];have h1:(0:Int)≤0∧(0:Int)≤300∧(300:Int)≤(s.length:Int):=by omega
  simp only [R9,h1,and_self,if_true];rfl
 ·rw [if_neg h];have h1:(0:Int)≤0∧(0:Int)≤(s.length:Int)∧(s.length:Int)≤(s.length:Int):=by omega
  simp only [R9,h1,and_self,if_true,G3,Ez];rw [Cg (by omega)];rfl
theorem En3 (n:Int):nb (.i .i64 n) (.i .i64 300)=some (.i .i64 (if (300:Int)<n then 300 else n)):=by simp [nb]
end Go.X.G
/- What the laws on lists of records call. -/
namespace Go.X.G
open Go Go.X
theorem Aw2 (r:Rec) (h:r.wf):S ny 1 [r.pv]=some [(Jn r).pv]:=by refine El7 (N:=1) rfl ?_;have s1:=W6 r.name h.name;have s2:=W6 r.data.host h.data.host;have s3:=W6 r.data.mail h.data.mail;have s4:=W6 r.data.text h.data.text;have g1:r.name.length≤9223372036854775807:=h.name;have g2:r.data.host.length≤9223372036854775807:=h.data.host;have g3:r.data.mail.length≤9223372036854775807:=h.data.mail;have g4:r.data.text.length≤9223372036854775807:=h.data.text;simp (disch:=omega) only [Ey4,En3,s1,s2,s3,s4,xe,EVP,EV,simprocAttr];rfl
def fewR (l:List Rec) (k:Nat):List Rec:=(l.take k).map Jn
theorem Ah2 (l:List Rec) (k:Nat):(fewR l k).length≤k:=by simp [fewR];omega
theorem Cc2 {l:List Rec} (h:∀r∈l,r.wf) (k:Nat):∀r∈fewR l k,r.wf:=fun r hr=>by simp only [fewR,yh] at hr;obtain ⟨x,hx,rfl⟩:=hr;exact pb (h x (D8 hx))
theorem Dz8 (l:List Rec) (k:Nat) (hl:Sy l) (hk:k≤1000):S Dx0 2 [Al l, .i .i64 (k:Int)]=some [Al (fewR l k)]:=by
 obtain ⟨N,hN⟩:∃N:Nat,N=1002:=⟨_,rfl⟩;refine Fz1 (N:=N) rfl ?_;have hrl:=hl.1;have key:Dx9.ev S N [Al l, .i .i64 (k:Int)]=some (.yld 0 [Al (fewR l k)]):=by
  have hm:(l.take k).length≤k:=by simp;omega
  refine F5 (l.take k) (fun i=>[Al ((l.take i).map Jn), .i .i64 (i:Int)]) (fun i r=> .yld 0 [Al (fewR l k)]) rfl (by omega) (fun i c r hd hi hc=> ?_) ?_
  ·left;refine ⟨?_,rfl⟩;have hi7:i<k:=by omega
   have hc':l[i]? =some c:=by rw [←hc,List.getElem?_take_of_lt hi7]
   have hil:=(Aq.1 hc').1;have hs:=Aw2 c (hl.2 c (Bl hc'));have e:(l.take (i+1)).map Jn=(l.take i).map Jn++[Jn c]:=by rw [El,hc'];simp
   have hlen:((l.take i).map Jn).length=i:=by rw [Hq,Ar];omega
   have h1:(i:Int)<(l.length:Int):=by omega
   have h2:(i:Int)<(k:Int):=by omega
   have ei:(i:Int).toNat=i:=by omega
   rw [e];generalize (l.take i).map Jn=g at*;simp (disch:=omega) only [Cp2,h1,h2,ei,hc',hs,xe,EVP,EV,simprocAttr]
  ·have hlen:(l.take k).length=min k l.length:=by simp
   rw [hlen];have e:(l.take (min k l.length)).map Jn=fewR l k:=by
    unfold fewR;rcases Nat.le_total k l.length with h|h
    ·rw [J0 h]
    ·rw [Nat.min_eq_right h,Cg (Ag _),Cg h]
   rw [e];by_cases h:k≤l.length
   ·have h1:¬((min k l.length:Nat):Int)<(k:Int):=by omega
    have h2:((min k l.length:Nat):Int)=(k:Int):=by omega
    rw [h2];by_cases h3:(k:Int)<(l.length:Int)
    ·simp (disch:=omega) only [Cp2,h3,Cn7,xe,EVP,EV,simprocAttr];simp [Out.goes]
    ·simp (disch:=omega) only [Cp2,h3,xe,EVP,EV,simprocAttr];simp [Out.goes]
   ·have h2:((min k l.length:Nat):Int)=(l.length:Int):=by omega
    rw [h2];simp (disch:=omega) only [Cp2,Cn7,xe,EVP,EV,simprocAttr];simp [Out.goes]
 simp (disch:=omega) only [Cp2,key,xe,EVP,EV,simprocAttr]
def N4 (a b:Rec):Bool:=decide (a.name=b.name) && decide (a.typ=b.typ) && decide (a.data=b.data)
theorem Ys (a b:Rec):S bn 2 [a.pv,b.pv]=some [.b (N4 a b)]:=by refine El9 (N:=1) rfl ?_;unfold N4;by_cases h1:a.name=b.name<;>by_cases h2:a.typ=b.typ<;>simp (disch:=omega) [Ey5,h1,h2,xe,EVP,EV,simprocAttr]
theorem dj:S Ac3 0 []=some [.b true]:=(M0 ext_mono).2 ⟨300,by kernel_rfl⟩
end Go.X.G
/- Three records as one argument. -/
namespace Go.X
open Go
end Go.X
/- The order of records is total: the law RrsetTotal. -/
namespace Go.X.G
open Go Go.X
end Go.X.G
/- What is sorted keeps the records: the law RrsetKeeps. -/
namespace Go.X.G
open Go Go.X
theorem y4 (l:List Rec) (hw:∀r∈l,r.wf) (hl:l.length≤1000000):S nz 1 [Al l]=some [Al (l.filter yw)]:=by
 refine El8 (N:=l.length+1) rfl ?_;have key:At4.ev S (l.length+1) [Al l]=some (.yld 0 [Al ([]++l.filter yw)]):=by
  refine Jw l (fun i (g:List Rec)=>[Al g, .i .i64 (i:Int)]) (fun i g r=> .yld 0 [Al (g++r.filter yw)]) (fun i g=>g.length≤i) [] rfl (Ch _) (by omega) (fun i g c r hd hi hc hI=> ?_) (fun g hI=> ?_)
  ·left;have hv:=xh c (hw c (Bl hc));rcases Ad (yw c) with h|h
   ·rw [h] at hv;refine ⟨g++[c],?_,by simp;omega,by simp [h]⟩;simp (disch:=omega) only [y1,hc,hv,xe,EVP,EV,simprocAttr]
   ·rw [h] at hv;refine ⟨g,?_,by omega,by simp [h]⟩;simp (disch:=omega) only [y1,hc,hv,xe,EVP,EV,simprocAttr]
  ·simp (disch:=omega) only [y1,xe,EVP,EV,simprocAttr];simp [Out.goes]
 simp (disch:=omega) only [y1,key,xe,EVP,EV,simprocAttr]
 try simp
end Go.X.G
/- Sets of sorted records, in plain words. -/
namespace Go.X.G
open Go Go.X
abbrev Af0 (x:SetR):List UInt8×Int:=(x.name,x.typ)
abbrev keyN (r:Rec):List UInt8×Int:=(r.name,r.typ)
structure InvS (g:List SetR) (p:List Rec):Prop where
 all:g.flatMap (fun x=>x.data.map fun d=>(x.name,x.typ,d))=p.map fun r=>(r.name,r.typ,r.data)
 ne:∀x∈g,x.data≠[]
 low:∀x∈g,∀r∈p,keyN r=Af0 x→x.ttl≤r.ttl
 find:∀x∈g,(findR p x.name x.typ).map Rec.data=x.data
 dist:g.Pairwise (fun x y=>Af0 x≠Af0 y)
 last:∀x,g.getLast? =some x→∃r,p.getLast? =some r∧keyN r=Af0 x
theorem Nz {n:List UInt8} {t:Int} {r:Rec}:isK n t r=true↔keyN r=(n,t):=by simp [isK]
theorem Ir (p:List Rec) (r:Rec) (n:List UInt8) (t:Int):findR (p++[r]) n t=findR p n t++if keyN r=(n,t) then [r] else []:=by
 unfold findR;rw [Gk];congr 1;by_cases h:keyN r=(n,t)
 ·rw [if_pos h,Gj,if_pos (Nz.2 h),List.filter_nil]
 ·rw [if_neg h,Gj,if_neg (fun q=>h (Nz.1 q)),List.filter_nil]
theorem Vm {y l r:Rec} (h1:ltF (Ey y) (Ey l)) (h2:ltF (Ey l) (Ey r)) (h:keyN y=keyN r):keyN l=keyN r:=by
 simp only [keyN,Ay] at h ⊢;obtain ⟨h3,h4⟩:=h;simp only [Ey,ltF] at h1 h2;have hn:y.name=l.name:=by
  rcases h1 with h1|⟨h1,_⟩
  ·exfalso;rcases h2 with h2|⟨h2,_⟩
   ·have:=y7.tr _ _ _ h1 h2;rw [h3] at this;exact y7.irr _ this
   ·rw [h2,←h3] at h1;exact y7.irr _ h1
  ·exact h1
 have hn2:l.name=r.name:=by rw [←hn];exact h3
 refine ⟨hn2,?_⟩;rcases h1 with h1|⟨_,h1⟩
 ·rw [hn] at h1;exact absurd h1 (y7.irr _)
 ·rcases h2 with h2|⟨_,h2⟩
  ·rw [hn2] at h2;exact absurd h2 (y7.irr _)
  ·omega
theorem om {g:List SetR} {p:List Rec} {r:Rec} (h:InvS g p) (hs:gv (p++[r])):InvS (addS g r) (p++[r]):=by
 have hp:=C0.1 hs;have hlast:∀y∈p,ltF (Ey y) (Ey r):=fun y hy=>hp.2.2 y hy r (.head _);unfold addS;split
 ·rename_i x hx;obtain ⟨g',rfl⟩:=List.getLast?_eq_some_iff.1 hx;have hdist:=C0.1 h.dist;have hxm:x∈g'++[x]:=by simp
  split
  ·rename_i hk;have hk':keyN r=Af0 x:=by simp [hk.1,hk.2]
   rw [List.dropLast_concat];have hne:∀y∈g',keyN r≠Af0 y:=fun y hy e=>hdist.2.2 y hy x (.head _) (by rw [←e,hk']);refine ⟨?_,fun y hy=> ?_,fun y hy z hz hzk=> ?_,fun y hy=> ?_,?_,fun y hy=> ?_⟩
   ·have:=h.all;simp only [List.flatMap_append,G2,List.flatMap_nil,C2,Eq6,Ep,List.map_nil] at this ⊢;rw [←Ap,this,hk.1,hk.2]
   ·rcases Bw.1 hy with hy|hy
    ·exact h.ne y (Cl _ hy)
    ·rw [A0.1 hy];simp
   ·rcases Bw.1 hy with hy|hy
    ·rcases Bw.1 hz with hz|hz
     ·exact h.low y (Cl _ hy) z hz hzk
     ·rw [A0.1 hz] at hzk;exact absurd hzk (hne y hy)
    ·rw [A0.1 hy] at hzk ⊢;rcases Bw.1 hz with hz|hz
     ·have:=h.low x hxm z hz hzk;show (if r.ttl<x.ttl then r.ttl else x.ttl)≤z.ttl;split<;>omega
     ·rw [A0.1 hz];show (if r.ttl<x.ttl then r.ttl else x.ttl)≤r.ttl;split<;>omega
   ·rcases Bw.1 hy with hy|hy
    ·rw [Ir,if_neg (hne y hy),C2];exact h.find y (Cl _ hy)
    ·rw [A0.1 hy];show (findR (p++[r]) x.name x.typ).map Rec.data=x.data++[r.data];rw [Ir,if_pos hk',Eq6,h.find x hxm];rfl
   ·refine C0.2 ⟨hdist.1,List.pairwise_singleton ..,fun a ha b hb=> ?_⟩;rw [A0.1 hb];exact hdist.2.2 a ha x (.head _)
   ·simp only [List.getLast?_append,List.getLast?_singleton,Option.some_or,Ak] at hy;subst hy;exact ⟨r,by simp,hk'⟩
  ·rename_i hk;have hk':keyN r≠Af0 x:=fun e=>by simp only [keyN,Af0,Ay] at e;exact hk ⟨e.1.symm,e.2.symm⟩
   obtain ⟨l,hl,hlk⟩:=h.last x hx;obtain ⟨p',rfl⟩:=List.getLast?_eq_some_iff.1 hl;have hno:∀y∈p'++[l],keyN y≠keyN r:=fun y hy e=>by
    have hlr:keyN l=keyN r:=by
     rcases Bw.1 hy with hy'|hy'
     ·have hyl:=(C0.1 hp.1).2.2 y hy' l (.head _);exact Vm hyl (hlast l (by simp)) e
     ·rw [A0.1 hy'] at e;exact e
    exact hk' (by rw [←hlr,hlk])
   have hng:∀y∈g'++[x],keyN r≠Af0 y:=fun y hy e=>by
    have h1:=h.ne y hy;rw [←h.find y hy] at h1;cases hf:findR (p'++[l]) y.name y.typ with
    |nil=>rw [hf] at h1;exact h1 rfl
    |cons z zs=>
     have hz:z∈findR (p'++[l]) y.name y.typ:=by rw [hf];exact .head _
     obtain ⟨hz1,hz2⟩:=Dk.1 hz;exact hno z hz1 (by rw [Nz.1 hz2,e])
   have hfr:findR (p'++[l]) r.name r.typ=[]:=by rw [List.eq_nil_iff_forall_not_mem];intro z hz;obtain ⟨hz1,hz2⟩:=Dk.1 hz;exact hno z hz1 (Nz.1 hz2)
   refine ⟨?_,fun y hy=> ?_,fun y hy z hz hzk=> ?_,fun y hy=> ?_,?_,fun y hy=> ?_⟩
   ·have:=h.all;rw [List.flatMap_append,this,show p'++[l]++[r]=(p'++[l])++[r] from rfl,Eq6 (l₁:=p'++[l])];rfl
   ·rcases Bw.1 hy with hy|hy
    ·exact h.ne y hy
    ·rw [A0.1 hy];simp
   ·rcases Bw.1 hy with hy|hy
    ·rcases Bw.1 hz with hz|hz
     ·exact h.low y hy z hz hzk
     ·rw [A0.1 hz] at hzk;exact absurd hzk (hng y hy)
    ·rw [A0.1 hy] at hzk ⊢;rcases Bw.1 hz with hz|hz
     ·exact absurd hzk (hno z hz)
     ·rw [A0.1 hz];exact Oz _
   ·rcases Bw.1 hy with hy|hy
    ·rw [Ir,if_neg (hng y hy),C2];exact h.find y hy
    ·rw [A0.1 hy];show (findR (p'++[l]++[r]) r.name r.typ).map Rec.data=[r.data];rw [Ir,if_pos rfl,hfr];rfl
   ·refine C0.2 ⟨h.dist,List.pairwise_singleton ..,fun a ha b hb=> ?_⟩;rw [A0.1 hb];exact fun e=>hng a ha e.symm
   ·simp only [List.getLast?_append,List.getLast?_singleton,Option.some_or,Ak] at hy;subst hy;exact ⟨r,by simp,rfl⟩
 ·rename_i hx;have hg:g=[]:=List.getLast?_eq_none_iff.1 hx;subst hg;have hp0:p=[]:=by have:=h.all;simp only [List.flatMap_nil] at this;exact List.map_eq_nil_iff.1 this.symm
  subst hp0;refine ⟨rfl,fun y hy=> ?_,fun y hy z hz _=> ?_,fun y hy=> ?_,List.pairwise_singleton ..,fun y hy=> ?_⟩
  ·rw [A0.1 hy];simp
  ·rw [A0.1 hy,A0.1 hz];exact Oz _
  ·rw [A0.1 hy];show (findR ([]++[r]) r.name r.typ).map Rec.data=[r.data];rw [Ir,if_pos rfl];rfl
  ·simp only [List.getLast?_singleton,Ak] at hy;subst hy;exact ⟨r,by simp,rfl⟩
theorem fh:∀(n:Nat) (s:List Rec),s.length=n→gv s→InvS (Y6 s) s:=by
 intro n
 induction n with
 |zero=>
  intro s hn _;have:s=[]:=Bj hn;subst this;exact ⟨rfl,fun x hx=>(by cases hx),fun x hx=>(by cases hx),fun x hx=>(by cases hx), .nil,fun x hx=>(by cases hx)⟩
 |succ n ih=>
  intro s hn hs;obtain ⟨p,r,rfl⟩:∃p r,s=p++[r]:=by
   have hne:s≠[]:=fun e=>by rw [e] at hn;cases hn
   exact ⟨s.dropLast,s.getLast hne,(Hv hne).symm⟩
  have h1:gv p:=(C0.1 hs).1;have:=ih p (by simpa using hn) h1;have e:Y6 (p++[r])=addS (Y6 p) r:=by simp [Y6,List.foldl_append]
  rw [e];exact om this hs
theorem fg (l:List Rec):InvS (setsR l) (sortR l):=fh _ _ rfl (Of l).1
end Go.X.G
/- The records of sets: the law RrsetUnpacks. -/
namespace Go.X.G
open Go Go.X
def unsetR (x:SetR):List Rec:=x.data.map fun d=>⟨x.name,x.typ,x.ttl,d⟩
theorem Wb (x:SetR) (hl:x.data.length≤1000000):S nx 1 [x.pv]=some [Al (unsetR x)]:=by
 refine El4 (N:=x.data.length+1) rfl ?_;have key:At2.ev S (x.data.length+1) [x.pv]=some (.yld 0 [Al ([]++unsetR x)]):=by
  refine Jw (N:=x.data.length+1) x.data (fun i (g:List Rec)=>[Al g, .i .i64 (i:Int)]) (fun i g r=> .yld 0 [Al (g++r.map fun d=>(⟨x.name,x.typ,x.ttl,d⟩:Rec))]) (fun i g=>g.length≤i) [] rfl (Ch _) (Nat.lt_succ_self _) (fun i g c r hd hi hc hI=> ?_) (fun g hI=> ?_)
  ·left;refine ⟨g++[⟨x.name,x.typ,x.ttl,c⟩],?_,by simp;omega,by simp⟩;have hil:(i:Int)<(x.data.length:Int):=by omega
   simp (disch:=omega) only [Cj3,hc,hil,T9,xe,EVP,EV,simprocAttr]
  ·simp (disch:=omega) only [Cj3,Cn7,T9,xe,EVP,EV,simprocAttr];simp [Out.goes]
 simp (disch:=omega) only [Cj3,key,T9,xe,EVP,EV,simprocAttr]
 try simp
theorem Eq0 (x:SetR) (gs:List SetR) (i:Nat) (one fo:List Rec) (hx:gs[i]? =some x) (hlen:one.length=fo.length) (h:∀(j:Nat) (a b:Rec),one[j]? =some a→fo[j]? =some b→a.ttl=x.ttl∧N4 a b=true∧x.ttl≤b.ttl)
  (N:Nat) (hN:one.length<N) (hl:one.length≤1000000) (hi:i≤1000000) (p0 p1 p2 p3 p5:PV):
  Dx4.ev S N [p0,p1,p2,p3,Dc gs,p5, .i .i64 (i:Int),Al one,Al fo]=some (.yld 2 []):=by
 refine F5 one (fun j=>[.i .i64 (j:Int)]) (fun j r=> .yld 2 []) rfl hN (fun j c r hd hj hc=> ?_) ?_
 ·left;refine ⟨?_,rfl⟩;obtain ⟨b,hb⟩:∃b,fo[j]? =some b:=⟨_,Az (by omega)⟩;obtain ⟨h1,h2,h3⟩:=h j c b hc hb;have q:=Ys c b;rw [h2] at q;have hjl:(j:Int)<(one.length:Int):=by omega
  have h4:¬b.ttl<x.ttl:=by omega
  simp (disch:=omega) only [Bt9,hc,hb,hx,hjl,h1,q,h4,T9,xe,EVP,EV,simprocAttr]
 ·simp (disch:=omega) only [Bt9,Cn7,T9,xe,EVP,EV,simprocAttr];simp [Out.goes]
structure UnpIn (gs:List SetR) (s:List Rec):Prop where
 len:gs.length≤s.length
 small:s.length≤1000
 each:∀x∈gs,x.data.length≤1000∧x.data≠[]∧(findR s x.name x.typ).length=x.data.length∧∀(j:Nat) (a b:Rec),(unsetR x)[j]? =some a→(findR s x.name x.typ)[j]? =some b→a.ttl=x.ttl∧N4 a b=true∧x.ttl≤b.ttl
theorem Af7 {gs:List SetR} {s:List Rec} (h:InvS gs s) (hs:s.length≤1000):UnpIn gs s:=by
 have hlen:∀l:List SetR,(∀x∈l,x.data≠[])→l.length≤(l.flatMap (fun x=>x.data.map fun d=>(x.name,x.typ,d))).length:=by
  intro l
  induction l with
  |nil=>intro _;simp
  |cons x l ih=>
   intro hl;have h1:=ih fun y hy=>hl y (.tail _ hy);have h2:0<x.data.length:=Bf.2 (hl x (.head _));simp only [G2,Ac,Hq,Bq] at h1 ⊢;omega
 refine ⟨?_,hs,fun x hx=> ?_⟩
 ·have:=hlen gs h.ne;rw [h.all,Hq] at this;exact this
 ·have hf:=h.find x hx;have hfl:(findR s x.name x.typ).length=x.data.length:=by rw [←hf,Hq]
  refine ⟨?_,h.ne x hx,hfl,fun j a b ha hb=> ?_⟩
  ·have:=List.length_filter_le (isK x.name x.typ) s;have h2:(findR s x.name x.typ).length≤s.length:=this;omega
  ·simp only [unsetR,Bb,Av] at ha;obtain ⟨d,hd,rfl⟩:=ha;have hbm:=Dk.1 (Bl hb);have hk:=Nz.1 hbm.2;have hd2:((findR s x.name x.typ).map Rec.data)[j]? =some b.data:=by rw [Bb,hb];rfl
   rw [hf,hd] at hd2;injection hd2 with hd2;simp only [keyN,Ay] at hk;exact ⟨rfl,by simp [N4,hk.1,hk.2,hd2],h.low x hx b hbm.1 (by simp [hk.1,hk.2])⟩
theorem ew (x:SetR):(unsetR x).length=x.data.length:=by simp [unsetR]
theorem Eq1 (gs:List SetR) (s:List Rec) (h:UnpIn gs s) (hall:(gs.flatMap unsetR).length=s.length) (N:Nat) (hN:1000<N) (p0 p1 p2:PV):
  Dy2.ev S N [p0,p1,p2,Al s,Dc gs]=some (.yld 0 [Al ([]++gs.flatMap unsetR)]):=by
 have hs:=h.small;have hgl:=h.len;refine Jw gs (fun i (g:List Rec)=>[Al g, .i .i64 (i:Int)]) (fun i g r=> .yld 0 [Al (g++r.flatMap unsetR)]) (fun i g=>g.length≤1000*i) [] rfl (Ch _) (by omega) (fun i g c r hd hi hc hI=> ?_) (fun g hI=> ?_)
 ·left;obtain ⟨e1,e2,e3,e4⟩:=h.each c (Bl hc);have hul:=ew c;refine ⟨g++unsetR c,?_,by rw [Ac];omega,by simp⟩;have k1:=Wb c (by omega);have k2:=An1 s c.name c.typ (by omega);have k3:=Eq0 c gs i (unsetR c) (findR s c.name c.typ) hc (by omega) e4 N (by omega) (by omega) (by omega) p0 p1 p2 (Al s) (Al g);have hne:¬(c.data.length:Int)=0:=by have:=Bf.2 e2;omega
  have hul':((unsetR c).length:Int)=(c.data.length:Int):=by omega
  have hfl':((findR s c.name c.typ).length:Int)=(c.data.length:Int):=by omega
  have hil:(i:Int)<(gs.length:Int):=by omega
  generalize unsetR c=one at*;generalize findR s c.name c.typ=fo at*;simp (disch:=omega) only [Bt9,hc,hil,k1,k2,k3,hne,hul',hfl',T9,xe,EVP,EV,simprocAttr]
 ·simp (disch:=omega) only [Bt9,Cn7,T9,xe,EVP,EV,simprocAttr];simp [Out.goes]
theorem Ek9 (all s:List Rec) (hlen:all.length=s.length) (h:∀(j:Nat) (a b:Rec),all[j]? =some a→s[j]? =some b→N4 a b=true) (N:Nat) (hN:s.length<N) (hl:s.length≤1000000) (p0 p1 p2 p4:PV):
  Dx3.ev S N [p0,p1,p2,Al s,p4,Al all]=some (.yld 0 []):=by
 refine F5 s (fun j=>[.i .i64 (j:Int)]) (fun j r=> .yld 0 []) rfl hN (fun j c r hd hj hc=> ?_) ?_
 ·left;refine ⟨?_,rfl⟩;obtain ⟨a,ha⟩:∃a,all[j]? =some a:=⟨_,Az (by omega)⟩;have q:=Ys a c;rw [h j a c ha hc] at q;have hjl:(j:Int)<(s.length:Int):=by omega
  simp (disch:=omega) only [Bt9,hc,ha,hjl,q,T9,xe,EVP,EV,simprocAttr]
 ·simp (disch:=omega) only [Bt9,Cn7,T9,xe,EVP,EV,simprocAttr];simp [Out.goes]
theorem law_RrsetUnpacks (l0:List Rec) (hl0:Sy l0):S Dx1 1 [Al l0]=some [.b true]:=by
 obtain ⟨N,hN⟩:∃N:Nat,N=1002:=⟨_,rfl⟩;refine Fz2 (N:=N) rfl ?_;have k0:=Dz8 l0 40 hl0 (by omega);have hlw:=Cc2 hl0.2 40;have hll:=Ah2 l0 40;simp only [show ((40:Nat):Int)=40 from rfl] at k0;generalize fewR l0 40=l1 at*;have k1:=y4 l1 hlw (by omega);have hvw:∀r∈l1.filter yw,r.wf:=fun r hr=>hlw r (Dk.1 hr).1;have hvl:(l1.filter yw).length≤40:=C6 (List.length_filter_le _ _) hll;generalize l1.filter yw=l at*;have k2:=Y1 l hvw (by omega);have k3:=An0 l hvw (by omega);have hsl:=W8 l;have hin:=fg l;have hun:=Af7 hin (by omega);have hmap:(setsR l).flatMap unsetR=((setsR l).flatMap unsetR):=rfl;have hkey:((setsR l).flatMap unsetR).map (fun r=>(r.name,r.typ,r.data))=(sortR l).map fun r=>(r.name,r.typ,r.data):=by rw [←hin.all,List.map_flatMap];congr 1;funext x;simp [unsetR,Function.comp_def]
 have hall:((setsR l).flatMap unsetR).length=(sortR l).length:=by have:=congrArg List.length hkey;simpa only [Hq] using this
 have k4:=Eq1 (setsR l) (sortR l) hun hall N (by omega) (Al l0) (Al l1) (Al l);rw [C1] at k4;have k5:=Ek9 ((setsR l).flatMap unsetR) (sortR l) hall (fun j a b ha hb=>by have:=congrArg (fun m=>m[j]?) hkey;simp only [Bb,ha,hb,As,Ak,Ay] at this;simp [N4,this.1,this.2.1,this.2.2]) N (by omega) (by omega) (Al l0) (Al l1) (Al l) (Dc (setsR l))
 have aw:=dj;have g1:(sortR l).length≤40:=by omega
 have hall':(((setsR l).flatMap unsetR).length:Int)=((sortR l).length:Int):=by omega
 generalize (setsR l).flatMap unsetR=all at*;generalize sortR l=s at*;generalize setsR l=gs at*;simp (disch:=omega) only [Bt9,k0,k1,k2,k3,k4,k5,aw,hall',T9,xe,EVP,EV,simprocAttr]
 try simp
end Go.X.G
