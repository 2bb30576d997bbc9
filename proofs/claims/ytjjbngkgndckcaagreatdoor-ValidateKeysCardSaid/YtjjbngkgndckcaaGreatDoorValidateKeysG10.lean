/- Merging in place: the library's function, the Rv. -/
import Derived.Test.YtjjbngkgndckcaaGreatDoorValidateKeysG9
import Derived.Test.YtjjbngkgndckcaaGreatDoorValidateKeysG6
import Derived.Test.YtjjbngkgndckcaaGreatDoorValidateKeysG8
import Derived.Test.YtjjbngkgndckcaaGreatDoorValidateKeysG7
open Bool renaming eq_false_or_eq_true->Bs,and_eq_true->B0,false_eq_true->B5,or_eq_true->Cv,true_and->Ef7
open Int renaming lt_irrefl->Df,toNat_natCast->E4,le_refl->Ud
open List renaming getElem?_eq_some_iff->Bn,length_append->Bp,getElem?_eq_getElem->B3,length_take->Ck,mem_of_getElem?->Cq,append_assoc->Cw,length_cons->Cy,getElem?_append_right->Cc,getElem?_append_left->Cf,mem_cons->Ch,mem_singleton->Cl,length_nil->Cm,getElem?_drop->Cn,eq_nil_of_length_eq_zero->Cs,length_pos_iff->Ct,length_drop->C3,getElem?_map->C4,mem_append->C8,take_append_drop->Dv,all_eq_true->Dc,mem_append_right->Dp,take_length->Ej,nil_append->Et,take_add_one->E2,mem_of_mem_take->E3,append_nil->Fc,mem_of_mem_drop->F8,drop_drop->F9,length_map->Gw,drop_zero->Gs,getElem_mem->Hj,flatMap_cons->H1,length_set->Iq,getLast?_eq_getElem?->Ix,mem_cons_self->Ir,mem_cons_of_mem->Jx,all_cons->Kr,pairwise_append->Nb,mem_of_getLast?->Nc,find?_cons_of_neg->V7,length_singleton->d9,take_take->zt,take_left->z0,getElem?_set_ne->z5,mem_map->Bs9
open Nat renaming le_refl->B6,mul_le_mul_right->Cr,zero_le->D7,le_trans->Eh,add_zero->Gc,min_eq_left->Y0,add_sub_cancel->Gq6
open Option renaming bind_some->Bt,map_some->Cz
set_option maxHeartbeats 1000000
set_option linter.defProp false
set_option linter.unusedVariables false
set_option linter.unusedSimpArgs false
namespace Go.X.G
open Go Go.X
def Ay:=And.intro xe<|And.intro EVP EV
def Ax:=And.intro EVC<|And.intro xe<|And.intro EVP EV
def Aw:=And.intro EVM<|And.intro EVC<|And.intro xe<|And.intro EVP EV
section
variable {g:Nat} {caps:List PV} {c:Rec->Rec->Int} {P:Rec->Prop}
def Gb4 (hC:Cmp g caps c P) (X A B Y:List Rec) (s:List Rec) (hsd:s=X++(A++(B++Y))) (a m b mid:Int) (h i0 j0:Nat) (ha:a=X.length) (hm:m=a+A.length) (hb:b=m+B.length) (hM:(a+b) / 2=mid) (hmid:mid=a+h)
  (h1:i0<=j0) (h2:j0<=A.length) (h3:j0<=h) (h4:h<=i0+B.length) (hs:s.length<=1000000) (hP:∀y∈s,P y) (N:Nat) (hN:A.length<N):
  ∃i:Nat,Bx3.ev S N [B9 s,.i .i64 a,.i .i64 m,.i .i64 b,.f g caps,.i .i64 (a+i0),.i .i64 (a+j0)]=some (.yld 0 [.i .i64 (a+i)])∧i0<=i∧i<=j0∧
   (∀x y,i≠i0->A[i - 1]? =some x->B[h - i]? =some y->¬c y x<0)∧∀x y,i≠j0->A[i]? =some x->B[h - 1 - i]? =some y->c y x<0:=by
 have hl:s.length=X.length+A.length+B.length+Y.length:=by rw[hsd];simp;omega
 have hA:∀k y,A[k]? =some y->s[X.length+k]? =some y:=fun k y hk=>by have:=(Bn.1 hk).1;rw[hsd,Cc (by omega),show X.length+k - X.length=k by omega,Cf this,hk]
 have hB:∀k y,B[k]? =some y->s[X.length+A.length+k]? =some y:=fun k y hk=>by have:=(Bn.1 hk).1;rw[hsd,Cc (by omega),Cc (by omega),show X.length+A.length+k - X.length - A.length=k by omega,Cf this,hk]
 have key:=It (fn:=S) (N:=N) (J:=[B9 s,.i .i64 a,.i .i64 m,.i .i64 b,.f g caps,.i .i64 (a+i0),.i .i64 (a+j0)]) (id:=1) (init:=[.v 5,.v 6]) (body:=j6) (D:=Nat×Nat)
  (fun w=>[.i .i64 (a+w.1),.i .i64 (a+w.2)])
  (fun o=>∃i:Nat,o= .yld 0 [.i .i64 (a+i)]∧i0<=i∧i<=j0∧(∀x y,i≠i0->A[i - 1]? =some x->B[h - i]? =some y->¬c y x<0)∧∀x y,i≠j0->A[i]? =some x->B[h - 1 - i]? =some y->c y x<0)
  (fun w=>w.1<=w.2∧i0<=w.1∧w.2<=j0∧(∀x y,w.1≠i0->A[w.1 - 1]? =some x->B[h - w.1]? =some y->¬c y x<0)∧∀x y,w.2≠j0->A[w.2]? =some x->B[h - 1 - w.2]? =some y->c y x<0)
  (fun w=>w.2 - w.1) (i0,j0) ?_ ?_ (by simp only;omega) ?_
 .obtain⟨o,h1,p,rfl,h2⟩:=key;exact⟨p,h1,h2⟩
 .simp(disch:=omega)only[EVT,Aw,simprocAttr]
 .exact⟨h1,B6 _,B6 _,fun x y h0=>absurd rfl h0,fun x y h0=>absurd rfl h0⟩
 .rintro⟨p,q⟩ ⟨g1,g2,g3,g4,g5⟩;simp only at g1 g2 g3 g4 g5;by_cases hpq:p<q
  .left;have hk:(p+q) / 2<A.length:=by omega
   have hx:=B3 hk;have hk2:h - 1 - (p+q) / 2<B.length:=by omega
   have hy:=B3 hk2;generalize A[(p+q) / 2]=x at hx;generalize B[h - 1 - (p+q) / 2]=y at hy;have hsx:=hA _ x hx;have hsy:=hB _ y hy;have hPx:P x:=hP x (Cq hsx);have hPy:P y:=hP y (Cq hsy);have hc:=hC.ok y x hPy hPx;have hlt:a+(p:Int)<a+(q:Int):=by omega
   have e1:(a+(p:Int)+(a+(q:Int))) / 2=a+(((p+q) / 2:Nat):Int):=by omega
   have e2:(a+(((p+q) / 2:Nat):Int)).toNat=X.length+(p+q) / 2:=by omega
   have e3:(mid+m - 1 - (a+(((p+q) / 2:Nat):Int))).toNat=X.length+A.length+(h - 1 - (p+q) / 2):=by omega
   have hkh:(p+q) / 2<h:=by omega
   by_cases hcy:c y x<0
   .refine⟨(p,(p+q) / 2),?_,⟨by simp only;omega,g2,by simp only;omega,g4,fun u v _ hu hv=> ?_⟩,by simp only;omega⟩
    .simp only;generalize (p+q) / 2=k at*;simp(disch:=omega)only[Gj,hlt,Fg,hM,e1,e2,e3,hsy,hsx,hc,hcy,EVT,Aw,simprocAttr]
    .simp only at hu hv;rw[hx] at hu;injection hu with hu;subst hu;rw[hy] at hv;injection hv with hv;subst hv;exact hcy
   .refine⟨((p+q) / 2+1,q),?_,⟨by simp only;omega,by simp only;omega,g3,fun u v _ hu hv=> ?_,g5⟩,by simp only;omega⟩
    .have e4:a+(((p+q) / 2+1:Nat):Int)=a+(((p+q) / 2:Nat):Int)+1:=by omega
     simp only[e4];generalize (p+q) / 2=k at*;simp(disch:=omega)only[Gj,hlt,Fg,hM,e1,e2,e3,hsy,hsx,hc,hcy,EVT,Aw,simprocAttr]
    .simp only[Gq6] at hu hv;rw[show h - ((p+q) / 2+1)=h - 1 - (p+q) / 2 by omega] at hv;rw[hx] at hu;injection hu with hu;subst hu;rw[hy] at hv;injection hv with hv;subst hv;exact hcy
  .right;have e:p=q:=by omega
   subst e;have hlt:¬a+(p:Int)<a+(p:Int):=by omega
   refine⟨.yld 0 [.i .i64 (a+p)],?_,rfl,p,rfl,g2,g3,g4,g5⟩;simp(disch:=omega)only[Gj,hlt,EVT,Aw,simprocAttr]
def Ds3 {le:Rec->Rec->Bool} (ht:TP le) {B:List Rec} (hB:B.Pairwise fun x y=>le x y=true) (x:Rec) (p:Nat) (hp:p<=B.length) (h1:∀y,p≠0->B[p - 1]? =some y->le x y=false) (h2:∀y,B[p]? =some y->le x y=true):mrg le [x] B=B.take p++x::B.drop p:=by have e1:=Sl ht (A:=[x]) (B:=B) (by simp) hB 0 p (fun u v h=>absurd rfl h) (fun u v h0 hu hv=>by simp at hu;subst hu;exact h1 v h0 hv) (by simp) hp;have e2:=Sl ht (A:=[x]) (B:=B.drop p) (by simp) (hB.sublist (List.drop_sublist p B)) 1 0 (fun u v _ hu hv=>by simp at hu;subst hu;rw[Cn] at hv;exact h2 v hv) (fun u v h=>absurd rfl h) (by simp) (by simp);rw[e1];simp only[List.take_zero,Gs,List.take_succ_cons,List.drop_succ_cons,Lc] at e2 ⊢;rw[e2];simp[mrg]
def Ds2 {le:Rec->Rec->Bool} (ht:TP le) {A:List Rec} (hA:A.Pairwise fun x y=>le x y=true) (x:Rec) (p:Nat) (hp:p<=A.length) (h1:∀y,p≠0->A[p - 1]? =some y->le y x=true) (h2:∀y,A[p]? =some y->le y x=false):mrg le A [x]=A.take p++x::A.drop p:=by have e1:=Sl ht (A:=A) (B:=[x]) hA (by simp) p 0 (fun u v h0 hu hv=>by simp at hv;subst hv;exact h1 u h0 hu) (fun u v h=>absurd rfl h) hp (by simp);have e2:=Sl ht (A:=A.drop p) (B:=[x]) (hA.sublist (List.drop_sublist p A)) (by simp) 0 1 (fun u v h=>absurd rfl h) (fun u v _ hu hv=>by simp at hv;subst hv;rw[Cn] at hu;exact h2 u hu) (by simp) (by simp);rw[e1];simp only[List.take_zero,Gs,List.take_succ_cons,List.drop_succ_cons,Lc] at e2 ⊢;rw[e2];simp[mrg]
set_option maxHeartbeats 2000000 in
def Kx (hC:Cmp g caps c P) (ht:TP (leC c)):∀(n:Nat) (X A B Y:List Rec) (a m b:Int),A.length+B.length<=n->A≠[]->B≠[]->(A.Pairwise fun x y=>leC c x y=true)->(B.Pairwise fun x y=>leC c x y=true)->
  a=X.length->m=a+A.length->b=m+B.length->(X++A++B++Y).length<=1000000->(∀y∈X++A++B++Y,P y)->
  S Sz 1048581 [B9 (X++A++B++Y),.i .i64 a,.i .i64 m,.i .i64 b,.f g caps]=some [B9 (X++mrg (leC c) A B++Y)]
 |0,X,A,B,Y,a,m,b,hn,hA,_,_,_,_,_,_,_,_=>absurd (Cs (by omega)) hA
 |n+1,X,A,B,Y,a,m,b,hn,hA,hB,sA,sB,ha,hm,hb,hs,hP=>by
  have hA':0<A.length:=Ct.2 hA;have hB':0<B.length:=Ct.2 hB;have hs2:=hs;simp only[Bp] at hs2;obtain⟨N,hN⟩:∃N,N=A.length+B.length+1:=⟨_,rfl⟩;refine Fq1 (N:=N) rfl ?_;by_cases c1:A.length=1
  ·-- one ahead
   obtain⟨x,rfl⟩:=List.length_eq_one_iff.1 c1;have hsd:X++[x]++B++Y=X++x::(B++Y):=by simp
   obtain⟨p,k1,k2,k3,k4⟩:=Gb8 hC X B Y x (X++[x]++B++Y) hsd a m b ha (by simpa using hm) hb hs hP N (by omega);have k5:=Gb7 X B Y x (X++[x]++B++Y) hsd a m b .u p ha (by simpa using hm) k2 hs N (by omega) (.i .i64 m) (.i .i64 b) (.f g caps);have e:=Ds3 ht sB x p k2 (fun y h0 hy=>Cd1.2 (k3 y h0 hy)) (fun y hy=>Cd0.2 (k4 y hy));rw[e];have q1:m - a=1:=by simp at hm;omega
   generalize X++[x]++B++Y=s at*;generalize X++(List.take p B++x::List.drop p B)++Y=u at*;simp(disch:=omega)only[Gj,q1,k1,k5,EVT,Aw,simprocAttr]
  .by_cases c2:B.length=1
   .obtain⟨x,rfl⟩:=List.length_eq_one_iff.1 c2;have hsd:X++A++[x]++Y=X++(A++x::Y):=by simp
    obtain⟨p,k1,k2,k3,k4⟩:=Gb6 hC X A Y x (X++A++[x]++Y) hsd a m (.i .i64 b) ha hm hs hP N (by omega);have k5:=Gb5 X A Y x (X++A++[x]++Y) hsd a m p ha hm k2 hs N (by omega) (.i .i64 a) (.i .i64 b) (.f g caps);have e:=Ds2 ht sA x p k2 (fun y h0 hy=>Cd0.2 (k3 y h0 hy)) (fun y hy=>Cd1.2 (k4 y hy));rw[e];have q1:¬m - a=1:=by omega
    have q2:b - m=1:=by simp at hb;omega
    generalize X++A++[x]++Y=s at*;generalize X++(List.take p A++x::List.drop p A)++Y=u at*;simp(disch:=omega)only[Gj,q1,q2,k1,k5,EVT,Aw,simprocAttr]
   ·-- two parts of more
    have q1:¬m - a=1:=by omega
    have q2:¬b - m=1:=by omega
    obtain⟨h,hh⟩:∃h,h=(A.length+B.length) / 2:=⟨_,rfl⟩;obtain⟨mid,hM⟩:∃mid,(a+b) / 2=mid:=⟨_,rfl⟩;have hmid:mid=a+h:=by omega
    obtain⟨i0,j0,hc15,h1,h2,h3,h4,hi0,hj0⟩:∃i0 j0:Nat,X6.ev S N [B9 (X++A++B++Y),.i .i64 a,.i .i64 m,.i .i64 b,.f g caps]=some (.yld 0 [.i .i64 (a+i0),.i .i64 (a+j0)])∧i0<=j0∧j0<=A.length∧j0<=h∧h<=i0+B.length∧(i0=0∨h - i0=B.length)∧(j0=h∨j0=A.length):=by
     by_cases hgt:h<A.length
     .refine⟨h - B.length,h,?_,by omega,by omega,by omega,by omega,by omega,.inl rfl⟩;have t1:mid<m:=by omega
      have t2:mid+m - b=a+((h - B.length:Nat):Int):=by omega
      rw[<-t2,<-hmid];generalize X++A++B++Y=s at*;simp(disch:=omega)only[Gj,Fg,hM,t1,EVT,Aw,simprocAttr]
     .refine⟨0,A.length,?_,by omega,by omega,by omega,by omega,.inl rfl,.inr rfl⟩;have t1:¬mid<m:=by omega
      generalize X++A++B++Y=s at*;simp(disch:=omega)only[Gj,Fg,hM,t1,hm,EVT,Aw,simprocAttr];simp
    have hsd:X++A++B++Y=X++(A++(B++Y)):=by simp
    obtain⟨i,k1,k2,k3,k4,k5⟩:=Gb4 hC X A B Y (X++A++B++Y) hsd a m b mid h i0 j0 ha hm hb hM hmid h1 h2 h3 h4 hs hP N (by omega);have cut:=Sl ht sA sB i (h - i) (fun x y h0 hx hy=>Cd0.2 (k4 x y (fun e=>by
      rcases hi0 with q|q
      .omega
      .have:=(Bn.1 hy).1;omega) hx hy)) (fun x y h0 hx hy=>Cd1.2 (k5 x y (fun e=>by
      rcases hj0 with q|q
      .omega
      .have:=(Bn.1 hx).1;omega) hx (by rw[show h - 1 - i=h - i - 1 by omega];exact hy))) (by omega) (by omega)
    have eA:A.take i++A.drop i=A:=Dv _ _;have eB:B.take (h - i)++B.drop (h - i)=B:=Dv _ _;have lA1:(A.take i).length=i:=by rw[Ck];omega
    have lA2:(A.drop i).length=A.length - i:=C3;have lB1:(B.take (h - i)).length=h - i:=by rw[Ck];omega
    have lB2:(B.drop (h - i)).length=B.length - (h - i):=C3;have sA1:=sA.sublist (List.take_sublist i A);have sA2:=sA.sublist (List.drop_sublist i A);have sB1:=sB.sublist (List.take_sublist (h - i) B);have sB2:=sB.sublist (List.drop_sublist (h - i) B);generalize A.take i=A1 at*;generalize A.drop i=A2 at*;generalize B.take (h - i)=B1 at*;generalize B.drop (h - i)=B2 at*;have e0:X++A++B++Y=X++A1++A2++B1++(B2++Y):=by rw[<-eA,<-eB];simp
    have mem1:∀y,y∈X++A1++B1++(A2++B2++Y)->P y:=fun y hy=>hP y (by rw[e0];simp only[C8] at hy ⊢;grind);have len1:(X++A1++B1++(A2++B2++Y)).length<=1000000:=by simp only[Bp] at hs2 ⊢;omega
    have lm1:=Sg (leC c) A1 B1;have mem2:∀y,y∈(X++mrg (leC c) A1 B1)++A2++B2++Y->P y:=fun y hy=>mem1 y (by simp only[C8,mrg_mem] at hy ⊢;grind)
    have len2:((X++mrg (leC c) A1 B1)++A2++B2++Y).length<=1000000:=by simp only[Bp,lm1] at hs2 ⊢;omega
    have s1:(T.blk 0 X5 On).ev S N [B9 (X++A++B++Y),.i .i64 a,.i .i64 m,.i .i64 b,.f g caps,.i .i64 (a+i0),.i .i64 (a+j0),.i .i64 (a+i)]=
      On.ev S N [B9 (X++A++B++Y),.i .i64 a,.i .i64 m,.i .i64 b,.f g caps,.i .i64 (a+i0),.i .i64 (a+j0),.i .i64 (a+i),B9 (X++A1++B1++(A2++B2++Y))]:=by
     by_cases t:A2=[]∨B1=[]
     .have t1:¬(a+(i:Int)<m∧m<mid+m - (a+i)):=by
       rcases t with t|t
       .rw[t] at lA2;simp at lA2;omega
       .rw[t] at lB1;simp at lB1;omega
      have e1:X++A++B++Y=X++A1++B1++(A2++B2++Y):=by rw[e0];rcases t with t|t<;>subst t<;>simp
      rw[<-e1];generalize X++A++B++Y=s at*;by_cases t2:a+(i:Int)<m
      .have t3:¬m<mid+m - (a+i):=fun q=>t1 ⟨t2,q⟩;simp(disch:=omega)only[Gj,Fg,hM,t2,t3,EVT,Aw,simprocAttr]
      .simp(disch:=omega)only[Gj,Fg,hM,t2,EVT,Aw,simprocAttr]
     .have t':A2≠[]∧B1≠[]:=by grind
      have p1:=Ct.2 t'.1;have p2:=Ct.2 t'.2;have hr:=Ah7 (X++A1) A2 B1 (B2++Y) (a+i) m (mid+m - (a+i)) g caps (by simp only[Bp];omega) (by simp only[Bp];omega) (by simp only[Bp];omega) t'.1 t'.2 (by rw[<-e0];exact hs);have t2:a+(i:Int)<m:=by omega
      have t3:m<mid+m - (a+i):=by omega
      rw[<-e0] at hr;have e1:X++A1++B1++A2++(B2++Y)=X++A1++B1++(A2++B2++Y):=by simp
      rw[e1] at hr;generalize X++A1++B1++(A2++B2++Y)=s1 at*;generalize X++A++B++Y=s at*;simp(disch:=omega)only[Gj,Fg,hM,t2,t3,hr,Gd,Qy,EVT,Aw,simprocAttr]
    have s2:(T.blk 0 X4 Or).ev S N [B9 (X++A++B++Y),.i .i64 a,.i .i64 m,.i .i64 b,.f g caps,.i .i64 (a+i0),.i .i64 (a+j0),.i .i64 (a+i),B9 (X++A1++B1++(A2++B2++Y))]=
      Or.ev S N [B9 (X++A++B++Y),.i .i64 a,.i .i64 m,.i .i64 b,.f g caps,.i .i64 (a+i0),.i .i64 (a+j0),.i .i64 (a+i),B9 (X++A1++B1++(A2++B2++Y)),B9 ((X++mrg (leC c) A1 B1)++A2++B2++Y)]:=by
     by_cases t:A1=[]∨B1=[]
     .have t1:¬(a<a+(i:Int)∧a+(i:Int)<mid):=by
       rcases t with t|t
       .rw[t] at lA1;simp at lA1;omega
       .rw[t] at lB1;simp at lB1;omega
      have e1:X++A1++B1++(A2++B2++Y)=(X++mrg (leC c) A1 B1)++A2++B2++Y:=by rcases t with t|t<;>subst t<;>simp[mrg,Lc]
      rw[<-e1];generalize X++A1++B1++(A2++B2++Y)=s1 at*;generalize X++A++B++Y=s at*;by_cases t2:a<a+(i:Int)
      .have t3:¬a+(i:Int)<mid:=fun q=>t1 ⟨t2,q⟩;simp(disch:=omega)only[Gj,Fg,hM,t2,t3,EVT,Aw,simprocAttr]
      .simp(disch:=omega)only[Gj,Fg,hM,t2,EVT,Aw,simprocAttr]
     .have t':A1≠[]∧B1≠[]:=by grind
      have p1:=Ct.2 t'.1;have p2:=Ct.2 t'.2;have hr:=Kx hC ht n X A1 B1 (A2++B2++Y) a (a+i) mid (by omega) t'.1 t'.2 sA1 sB1 ha (by omega) (by omega) len1 mem1;have t2:a<a+(i:Int):=by omega
      have t3:a+(i:Int)<mid:=by omega
      have e1:X++mrg (leC c) A1 B1++(A2++B2++Y)=(X++mrg (leC c) A1 B1)++A2++B2++Y:=by simp
      rw[e1] at hr;generalize (X++mrg (leC c) A1 B1)++A2++B2++Y=s2 at*;generalize X++A1++B1++(A2++B2++Y)=s1 at*;generalize X++A++B++Y=s at*;simp(disch:=omega)only[Gj,Fg,hM,t2,t3,hr,Gd,Qy,EVT,Aw,simprocAttr]
    have s3:Or.ev S N [B9 (X++A++B++Y),.i .i64 a,.i .i64 m,.i .i64 b,.f g caps,.i .i64 (a+i0),.i .i64 (a+j0),.i .i64 (a+i),B9 (X++A1++B1++(A2++B2++Y)),B9 ((X++mrg (leC c) A1 B1)++A2++B2++Y)]=
      some (.ret [B9 (X++mrg (leC c) A B++Y)]):=by
     have e9:X++mrg (leC c) A B++Y=(X++mrg (leC c) A1 B1)++mrg (leC c) A2 B2++Y:=by rw[cut];simp
     rw[e9];by_cases t:A2=[]∨B2=[]
     .have t1:¬(mid<mid+m - (a+i)∧mid+m - (a+(i:Int))<b):=by
       rcases t with t|t
       .rw[t] at lA2;simp at lA2;omega
       .rw[t] at lB2;simp at lB2;omega
      have e1:(X++mrg (leC c) A1 B1)++A2++B2++Y=(X++mrg (leC c) A1 B1)++mrg (leC c) A2 B2++Y:=by rcases t with t|t<;>subst t<;>simp[mrg,Lc]
      rw[<-e1];generalize (X++mrg (leC c) A1 B1)++A2++B2++Y=s2 at*;generalize X++A1++B1++(A2++B2++Y)=s1 at*;generalize X++A++B++Y=s at*;by_cases t2:mid<mid+m - (a+(i:Int))
      .have t3:¬mid+m - (a+(i:Int))<b:=fun q=>t1 ⟨t2,q⟩;simp(disch:=omega)only[Gj,Fg,hM,t2,t3,EVT,Aw,simprocAttr]
      .simp(disch:=omega)only[Gj,Fg,hM,t2,EVT,Aw,simprocAttr]
     .have t':A2≠[]∧B2≠[]:=by grind
      have p1:=Ct.2 t'.1;have p2:=Ct.2 t'.2;have hr:=Kx hC ht n (X++mrg (leC c) A1 B1) A2 B2 Y mid (mid+m - (a+i)) b (by omega) t'.1 t'.2 sA2 sB2 (by simp only[Bp,lm1];omega) (by omega) (by omega) len2 mem2;have t2:mid<mid+m - (a+(i:Int)):=by omega
      have t3:mid+m - (a+(i:Int))<b:=by omega
      generalize (X++mrg (leC c) A1 B1)++mrg (leC c) A2 B2++Y=s3 at*;generalize (X++mrg (leC c) A1 B1)++A2++B2++Y=s2 at*;generalize X++A1++B1++(A2++B2++Y)=s1 at*;generalize X++A++B++Y=s at*;simp(disch:=omega)only[Gj,Fg,hM,t2,t3,hr,Gd,Qy,EVT,Aw,simprocAttr]
    have f2:On.ev S N [B9 (X++A++B++Y),.i .i64 a,.i .i64 m,.i .i64 b,.f g caps,.i .i64 (a+i0),.i .i64 (a+j0),.i .i64 (a+i),B9 (X++A1++B1++(A2++B2++Y))]=some (.ret [B9 (X++mrg (leC c) A B++Y)]):=s2.trans s3;have f1:=s1.trans f2;clear s1 s2 s3 f2 mem1 mem2 cut k4 k5;generalize X++mrg (leC c) A B++Y=s3 at*;generalize X++A++B++Y=s at*;simp(disch:=omega)only[Gj,q1,q2,Fg,hM,hc15,k1,f1,EVT,Aw,simprocAttr]
end
section
variable {g:Nat} {caps:List PV} {c:Rec->Rec->Int} {P:Rec->Prop}
def Gm2 (hC:Cmp g caps c P) (L L':List Rec) (i:Nat) (x y:Rec) (g0:L[i]? =some y) (g1:L[i+1]? =some x) (sw:(L.set (i+1) y).set i x=L') (k e:Int) (hk:k=i+1) (he:e<k) (he2:0<=e) (hx:P x) (hy:P y) (hlt:c x y<0) (hL:L.length<=1000000) (w0 w2 w4 w5:PV) (N:Nat):
  L3.ev S N [w0,.i .i64 e,w2,.f g caps,w4,w5,.i .i64 k,B9 L]=some (.yld 3 [.i .i64 (k - 1),B9 L']):=by
 have hi:=(Bn.1 g1).1;have ti0:(k - 1).toNat=i:=by omega
 have ti1:k.toNat=i+1:=by omega
 have g2:(L.set (i+1) y)[i]? =some y:=by rw[z5 (by omega)];exact g0
 have hc:=hC.ok x y hx hy;simp(disch:=first|omega|(rw[Iq];omega))only[Ps,Jp,L1,he,ti0,ti1,g0,g1,g2,sw,hc,hlt,EVT,Aw,simprocAttr]
def Bc9 (hC:Cmp g caps c P) (L:List Rec) (i:Nat) (x y:Rec) (g0:L[i]? =some y) (g1:L[i+1]? =some x) (k e:Int) (hk:k=i+1) (he:e<k) (hx:P x) (hy:P y) (hlt:¬c x y<0) (hL:L.length<=1000000) (w0 w2 w4 w5:PV) (N:Nat):
  L3.ev S N [w0,.i .i64 e,w2,.f g caps,w4,w5,.i .i64 k,B9 L]=some (.yld 2 [B9 L]):=by
 have hi:=(Bn.1 g1).1;have ti0:(k - 1).toNat=i:=by omega
 have ti1:k.toNat=i+1:=by omega
 have hc:=hC.ok x y hx hy;simp(disch:=omega)only[Ps,Jp,L1,he,ti0,ti1,g0,g1,hc,hlt,EVT,Aw,simprocAttr]
def Cf1 (L:List Rec) (k e:Int) (he:¬e<k) (w0 w2 w3 w4 w5:PV) (N:Nat):
  L3.ev S N [w0,.i .i64 e,w2,w3,w4,w5,.i .i64 k,B9 L]=some (.yld 2 [B9 L]):=by
 simp(disch:=omega)only[Ps,Jp,L1,he,EVT,Aw,simprocAttr]
def Gm1 (hC:Cmp g caps c P) (ht:TP (leC c)) (X R Y:List Rec) (x:Rec) (hR:R.Pairwise fun a b=>leC c a b=true) (hP:∀y∈X++R++x::Y,P y) (hs:(X++R++x::Y).length<=1000000) (a k:Int) (ha:a=X.length) (hk:k=a+R.length) (w0 w2:PV) (N:Nat) (hN:R.length<N):
  ∃R1 R2,R=R1++R2∧(∀y∈R1,leC c y x=true)∧(∀y∈R2,leC c y x=false)∧
   By1.ev S N [w0,.i .i64 a,w2,.f g caps,.i .i64 k,B9 (X++R++x::Y)]=some (.yld 2 [B9 (X++(R1++x::R2)++Y)]):=by
 have hx:P x:=hP x (by simp);have hs2:=hs;simp only[Bp,Cy] at hs2;have key:=It (fn:=S) (N:=N) (J:=[w0,.i .i64 a,w2,.f g caps,.i .i64 k,B9 (X++R++x::Y)]) (id:=3) (init:=[.v 4,.v 5]) (body:=L3) (D:=List Rec×List Rec)
  (fun w=>[.i .i64 (a+w.1.length),B9 (X++w.1++x::(w.2++Y))])
  (fun o=>∃R1 R2,R=R1++R2∧(∀y∈R1,leC c y x=true)∧(∀y∈R2,leC c y x=false)∧o= .yld 2 [B9 (X++(R1++x::R2)++Y)])
  (fun w=>R=w.1++w.2∧∀y∈w.2,leC c y x=false) (fun w=>w.1.length) (R,[]) ?_ ⟨by simp,by simp⟩ hN ?_
 .obtain⟨o,h1,R1,R2,h2,h3,h4,rfl⟩:=key;exact⟨R1,R2,h2,h3,h4,h1⟩
 .subst hk;simp only[Et];generalize X++R++x::Y=s at*;simp(disch:=omega)only[EVT,Aw,simprocAttr]
 .rintro⟨R1,R2⟩ ⟨h1,h2⟩;simp only at h1 h2;have hlen:=congrArg List.length h1;simp only[Bp] at hlen;rcases List.eq_nil_or_concat R1 with rfl|⟨R0,y,rfl⟩
  .right;refine⟨_,Cf1 _ _ a (by simp) _ _ _ _ _ N,rfl,[],R2,h1,by simp,h2,?_⟩;simp
  .rw[List.concat_eq_append] at*;simp only[Bp,Cy,Cm] at hlen;have hy:P y:=hP y (by rw[h1];simp);have lP:(X++R0).length=X.length+R0.length:=Bp;have g0:=cz (X++R0) (x::(R2++Y)) y;have g1:=im (X++R0) (R2++Y) y x;rw[lP] at g0 g1;have e0:X++(R0++[y])++x::(R2++Y)=X++R0++y::x::(R2++Y):=by simp
   have lL:(X++R0++y::x::(R2++Y)).length<=1000000:=by simp only[Bp,Cy];omega
   by_cases hlt:c x y<0
   .left;have sw0:((X++R0++y::x::(R2++Y)).set (X.length+R0.length+1) y).set (X.length+R0.length) x=X++R0++x::(y::R2++Y):=by rw[<-lP,List.set_comm _ _ (by omega)];exact Dl5 (X++R0) (R2++Y) y x
    refine⟨(R0,y::R2),?_,⟨by simp only;rw[h1];simp,fun w hw=> ?_⟩,by simp⟩
    .have:=Gm2 hC _ _ (X.length+R0.length) x y g0 g1 sw0 (a+((R0++[y]).length:Nat)) a (by simp;omega) (by simp;omega) (by omega) hx hy hlt lL w0 w2 (.i .i64 k) (B9 (X++R++x::Y)) N;have e1:a+((R0++[y]).length:Nat) - 1=a+(R0.length:Int):=by simp;omega
     rw[e1] at this;show L3.ev S N [w0,.i .i64 a,w2,.f g caps,.i .i64 k,B9 (X++R++x::Y),.i .i64 (a+((R0++[y]).length:Nat)),B9 (X++(R0++[y])++x::(R2++Y))]=_;rw[e0];exact this
    .rcases Ch.1 hw with rfl|hw
     .exact Cd1.2 hlt
     .exact h2 w hw
   .right;have hle:leC c y x=true:=Cd0.2 hlt;refine⟨_,?_,rfl,R0++[y],R2,h1,fm ht (by rw[h1] at hR;exact(Nb.1 hR).1) hle,h2,rfl⟩;have:=Bc9 hC _ (X.length+R0.length) x y g0 g1 (a+((R0++[y]).length:Nat)) a (by simp;omega) (by simp;omega) hx hy hlt lL w0 w2 (.i .i64 k) (B9 (X++R++x::Y)) N;show L3.ev S N [w0,.i .i64 a,w2,.f g caps,.i .i64 k,B9 (X++R++x::Y),.i .i64 (a+((R0++[y]).length:Nat)),B9 (X++(R0++[y])++x::(R2++Y))]=_;rw[e0,this,<-e0];simp
def Vz (hC:Cmp g caps c P) (ht:TP (leC c)) (X A Y:List Rec) (a b:Int) (ha:a=X.length) (hb:b=a+A.length) (hP:∀y∈X++A++Y,P y) (hs:(X++A++Y).length<=1000000):
  ∃R,Stab (leC c) R A∧R.length=A.length∧S aj 1048580 [B9 (X++A++Y),.i .i64 a,.i .i64 b,.f g caps]=some [B9 (X++R++Y)]:=by
 have hs2:=hs;simp only[Bp] at hs2;cases A with
 |nil=>
  refine⟨[],Qs _,rfl,?_⟩;refine Cs8 (N:=2) rfl ?_;simp only[Cm] at hb;have h1:¬a+1<b:=by omega
  have key:ik.ev S 2 [B9 (X++[]++Y),.i .i64 a,.i .i64 b,.f g caps]=some (.yld 0 [B9 (X++[]++Y)]):=by
   generalize X++[]++Y=s at*;refine F0 0 (fun _=>[.i .i64 (a+1),B9 s]) (fun _=> .yld 0 [B9 s]) ?_ (by omega) (fun i hi=>absurd hi (by omega)) ⟨?_,rfl⟩
   .simp(disch:=omega)only[EVT,Aw,simprocAttr]
   .simp(disch:=omega)only[Ps,Jp,L1,h1,EVT,Aw,simprocAttr]
  generalize X++[]++Y=s at*;simp(disch:=omega)only[Ps,Jp,L1,key,EVT,Aw,simprocAttr]
 |cons x0 A=>
  obtain⟨N,hN⟩:∃N,N=A.length+3:=⟨_,rfl⟩;simp only[Cy] at hb hs2;have key:=It (fn:=S) (N:=N) (J:=[B9 (X++x0::A++Y),.i .i64 a,.i .i64 b,.f g caps]) (id:=1) (init:=[.bin .add (.v 1) (.c (.i .i64 1)),.v 0]) (body:=Yk) (D:=List Rec×List Rec×List Rec)
   (fun w=>[.i .i64 (a+w.1.length),B9 (X++w.1++(w.2.2++Y))])
   (fun o=>∃R,Stab (leC c) R (x0::A)∧R.length=(x0::A).length∧o= .yld 0 [B9 (X++R++Y)])
   (fun w=>x0::A=w.2.1++w.2.2∧Stab (leC c) w.1 w.2.1∧w.1.length=w.2.1.length) (fun w=>w.2.2.length) ([x0],[x0],A) ?_ ⟨rfl,ff _ _,rfl⟩ (by simp only;omega) ?_
  .obtain⟨o,h1,R,h2,h3,rfl⟩:=key;refine⟨R,h2,h3,?_⟩;refine Cs8 (N:=N) rfl ?_;have h4:ik.ev S N [B9 (X++x0::A++Y),.i .i64 a,.i .i64 b,.f g caps]=_:=h1;clear h1;generalize X++x0::A++Y=s at*;generalize X++R++Y=u at*;simp(disch:=omega)only[Ps,Jp,L1,h4,EVT,Aw,simprocAttr]
  .simp only[Cy,Cm];have e:X++[x0]++(A++Y)=X++x0::A++Y:=by simp
   rw[e];have e1:a+((0+1:Nat):Int)=a+1:=by omega
   rw[e1];generalize X++x0::A++Y=s at*;simp(disch:=omega)only[EVT,Aw,simprocAttr]
  .rintro⟨R,Bf,Z⟩ ⟨h1,h2,h3⟩;simp only at h1 h2 h3;have hlen:=congrArg List.length h1;simp only[Bp,Cy] at hlen;cases Z with
   |nil=>
    right;rw[Fc] at h1;subst h1;refine⟨_,?_,rfl,R,h2,h3,rfl⟩;have hlt:¬a+(R.length:Int)<b:=by simp only[Cy] at h3;omega
    simp only[Et];generalize X++x0::A++Y=s at*;have hu:(X++R++Y).length<=1000000:=by simp only[Bp];omega
    generalize X++R++Y=u at*;simp(disch:=omega)only[Ps,Jp,L1,hlt,EVT,Aw,simprocAttr]
   |cons x Z=>
    left;simp only[Cy] at hlen;have hmem:∀y∈X++R++x::(Z++Y),P y:=fun y hy=>hP y (by
     rw[h1];have:=h2.mem ht y;simp only[C8,Ch] at hy ⊢
     grind)
    have hlen2:(X++R++x::(Z++Y)).length<=1000000:=by simp only[Bp,Cy];omega
    obtain⟨R1,R2,rfl,k1,k2,k3⟩:=Gm1 hC ht X R (Z++Y) x h2.sorted hmem hlen2 a (a+R.length) ha rfl (B9 (X++x0::A++Y)) (.i .i64 b) N (by omega);refine⟨(R1++x::R2,Bf++[x],Z),?_,⟨by simp only;rw[h1];simp,Ck3 ht h2 k1 k2,by simp at h3 ⊢;omega⟩,by simp⟩;have e1:a+((R1++x::R2).length:Nat)=a+((R1++R2).length:Nat)+1:=by simp;omega
    have hlt:a+((R1++R2).length:Nat)<b:=by omega
    show Yk.ev S N [B9 (X++x0::A++Y),.i .i64 a,.i .i64 b,.f g caps,.i .i64 (a+((R1++R2).length:Nat)),B9 (X++(R1++R2)++x::(Z++Y))]=some (.yld 1 [.i .i64 (a+((R1++x::R2).length:Nat)),B9 (X++(R1++x::R2)++(Z++Y))]);rw[e1];have hb2:(R1++R2).length<=1000000:=by simp only[Bp] at hlen2 ⊢;omega
    generalize (R1++R2).length=n at*;generalize X++(R1++R2)++x::(Z++Y)=s1 at*;generalize X++(R1++x::R2)++(Z++Y)=s2 at*;generalize X++x0::A++Y=s at*;simp(disch:=omega)only[Ps,Jp,L1,hlt,k3,EVT,Aw,simprocAttr]
end
def dx {D:Type} {le:D->D->Bool} (ht:TP le) {bs:Nat} {Y LY:List D} (h:Blk le bs Y LY) (hl:Y.length<=2*bs) (hb:bs<Y.length):Stab le (mrg le (Y.take bs) (Y.drop bs)) LY:=by have h1:=h.head;have h2:=(h.tail).all (by rw[C3];omega);have:=Stab.mrg ht h1 h2;rwa[Dv] at this
def Blk.pre {D:Type} {le:D->D->Bool} {bs k:Nat} {Y LY:List D} (h:Blk le bs Y LY):Blk le bs (Y.take (k*bs)) (LY.take (k*bs)):=by
 refine⟨by simp[h.len],fun j=> ?_⟩;rw[List.drop_take,List.drop_take,zt,zt];by_cases hj:j<k
 .have e:(j+1)*bs<=k*bs:=Cr _ hj;rw[Nat.succ_mul] at e;rw[Y0 (by omega)];exact h.st j
 .have e:k*bs<=j*bs:=Cr _ (by omega);rw[show k*bs - j*bs=0 by omega,Nat.min_eq_right (by omega),List.take_zero,List.take_zero];exact Qs le
section
variable {g:Nat} {caps:List PV} {c:Rec->Rec->Int} {P:Rec->Prop}
def Gb2 (hC:Cmp g caps c P) (ht:TP (leC c)) (l:List Rec) (hP:∀y∈l,P y) (hs:l.length<=1000000) (N:Nat) (hN:l.length+2<N):
  ∃(X LX Y:List Rec) (q:Nat),Bz5.ev S N [B9 l,.i .i64 l.length,.f g caps]=some (.yld 0 [.i .i64 X.length,B9 (X++Y)])∧l=LX++Y∧X.length=q*20∧Y.length<20∧Blk (leC c) 20 X LX∧∀y∈X++Y,P y:=by
 have key:=It (fn:=S) (N:=N) (J:=[B9 l,.i .i64 l.length,.f g caps]) (id:=1) (init:=[.c (.i .i64 0),.c (.i .i64 20),.v 0]) (body:=kc) (D:=List Rec×List Rec×List Rec×Nat)
  (fun w=>[.i .i64 (w.1.length:Int),.i .i64 ((w.1.length:Int)+20),B9 (w.1++w.2.2.1)])
  (fun o=>∃(X LX Y:List Rec) (q:Nat),o= .yld 0 [.i .i64 X.length,B9 (X++Y)]∧l=LX++Y∧X.length=q*20∧Y.length<20∧Blk (leC c) 20 X LX∧∀y∈X++Y,P y)
  (fun w=>l=w.2.1++w.2.2.1∧w.1.length=w.2.2.2*20∧Blk (leC c) 20 w.1 w.2.1∧∀y∈w.1++w.2.2.1,P y) (fun w=>w.2.2.1.length) ([],[],l,0) ?_ ⟨rfl,by simp,Blk.nil _ _,by simpa using hP⟩ (by simp only;omega) ?_
 .obtain⟨o,h1,X,LX,Y,q,rfl,h2⟩:=key;exact⟨X,LX,Y,q,h1,h2⟩
 .simp(disch:=omega)only[EVT,Aw,simprocAttr]
  try simp
 .rintro⟨X,LX,Y,q⟩ ⟨h1,h2,h3,h4⟩;simp only at h1 h2 h3 h4;have hlen:=congrArg List.length h1;simp only[Bp] at hlen;have hXL:=h3.len;by_cases hge:20<=Y.length
  .left;have eY:Y.take 20++Y.drop 20=Y:=Dv _ _;have l1:(Y.take 20).length=20:=by rw[Ck];omega
   have l2:(Y.drop 20).length=Y.length - 20:=C3;have eXY:X++Y.take 20++Y.drop 20=X++Y:=by rw[Cw,eY]
   obtain⟨R,k1,k2,k3⟩:=Vz hC ht X (Y.take 20) (Y.drop 20) (X.length:Int) ((X.length:Int)+20) rfl (by omega) (by rw[eXY];exact h4) (by rw[eXY,Bp];omega);rw[eXY] at k3;refine⟨(X++R,LX++Y.take 20,Y.drop 20,q+1),?_,⟨by simp only;rw[h1,Cw,eY],by simp only[Bp];omega,Blk.app h2 h3 (Blk.one k1 k2 (by omega)),fun y hy=>h4 y ?_⟩,by simp only;omega⟩
   .have e1:((X++R).length:Int)=(X.length:Int)+20:=by simp only[Bp];omega
    have hge':(X.length:Int)+20<=(l.length:Int):=by omega
    simp only;rw[e1];generalize X++R++Y.drop 20=s1 at*;generalize X++Y=s0 at*;simp(disch:=omega)only[Pt,hge',k3,Gd,Qy,EVT,Aw,simprocAttr]
   .have:=k1.mem ht y;simp only[C8] at hy;rcases hy with(hy|hy)|hy
    .simp[hy]
    .exact Dp _ (E3 (this.1 hy))
    .exact Dp _ (F8 hy)
  .right;have hge':¬(X.length:Int)+20<=(l.length:Int):=by omega
   refine⟨.yld 0 [.i .i64 X.length,B9 (X++Y)],?_,rfl,X,LX,Y,q,rfl,h1,h2,by omega,h3,h4⟩;simp only;generalize X++Y=s0 at*;simp(disch:=omega)only[Pt,hge',EVT,Aw,simprocAttr]
def Gb1 (hC:Cmp g caps c P) (ht:TP (leC c)) (l r:List Rec) (bs:Nat) (hbs:0<bs) (hbs2:bs<l.length) (hr:Blk (leC c) bs r l) (hP:∀y∈r,P y) (hs:l.length<=1000000) (w0:PV) (w3 w4 w5:PV) (N:Nat) (hN:l.length+2<N):
  ∃(X LX Y LY:List Rec) (q:Nat),Bx6.ev S N [w0,.i .i64 l.length,.f g caps,w3,w4,w5,.i .i64 bs,B9 r]=some (.yld 2 [.i .i64 X.length,B9 (X++Y)])∧l=LX++LY∧X.length=q*(2*bs)∧Y.length<2*bs∧Blk (leC c) (2*bs) X LX∧Blk (leC c) bs Y LY∧∀y∈X++Y,P y:=by
 have key:=It (fn:=S) (N:=N) (J:=[w0,.i .i64 l.length,.f g caps,w3,w4,w5,.i .i64 bs,B9 r]) (id:=3) (init:=[.c (.i .i64 0),.bin .mul (.c (.i .i64 2)) (.v 6),.v 7]) (body:=j8) (D:=(List Rec×List Rec)×(List Rec×List Rec)×Nat)
  (fun w=>[.i .i64 (w.1.1.length:Int),.i .i64 ((w.1.1.length:Int)+2*bs),B9 (w.1.1++w.2.1.1)])
  (fun o=>∃(X LX Y LY:List Rec) (q:Nat),o= .yld 2 [.i .i64 X.length,B9 (X++Y)]∧l=LX++LY∧X.length=q*(2*bs)∧Y.length<2*bs∧Blk (leC c) (2*bs) X LX∧Blk (leC c) bs Y LY∧∀y∈X++Y,P y)
  (fun w=>l=w.1.2++w.2.1.2∧w.1.1.length=w.2.2*(2*bs)∧Blk (leC c) (2*bs) w.1.1 w.1.2∧Blk (leC c) bs w.2.1.1 w.2.1.2∧∀y∈w.1.1++w.2.1.1,P y) (fun w=>w.2.1.1.length) (([],[]),(r,l),0) ?_ ⟨rfl,by simp,Blk.nil _ _,hr,by simpa using hP⟩ (by have:=hr.len;simp only;omega) ?_
 .obtain⟨o,h1,X,LX,Y,LY,q,rfl,h2⟩:=key;exact⟨X,LX,Y,LY,q,h1,h2⟩
 .simp(disch:=omega)only[EVT,Aw,simprocAttr];simp
 .rintro⟨⟨X,LX⟩,⟨Y,LY⟩,q⟩ ⟨h1,h2,h3,h4,h5⟩;simp only at h1 h2 h3 h4 h5;have hlen:=congrArg List.length h1;simp only[Bp] at hlen;have hXL:=h3.len;have hYL:=h4.len;by_cases hge:2*bs<=Y.length
  .left;have eY:Y.take (2*bs)++Y.drop (2*bs)=Y:=Dv _ _;have l1:(Y.take (2*bs)).length=2*bs:=by rw[Ck];omega
   have l2:(Y.drop (2*bs)).length=Y.length - 2*bs:=C3;have hp:=h4.pre (k:=2);have hz:Blk (leC c) bs (Y.drop (2*bs)) (LY.drop (2*bs)):=by have:=h4.tail.tail;rwa[F9,F9,show bs+bs=2*bs by omega] at this
   have hst:=dx ht hp (by omega) (by omega);have sA:((Y.take (2*bs)).take bs).Pairwise fun x y=>leC c x y=true:=hp.head.sorted;have sB:((Y.take (2*bs)).drop bs).Pairwise fun x y=>leC c x y=true:=(hp.tail.all (by rw[C3];omega)).sorted;have lA:((Y.take (2*bs)).take bs).length=bs:=by rw[Ck];omega
   have lB:((Y.take (2*bs)).drop bs).length=bs:=by rw[C3];omega
   have eAB:(Y.take (2*bs)).take bs++(Y.take (2*bs)).drop bs=Y.take (2*bs):=Dv _ _;generalize (Y.take (2*bs)).take bs=A at*;generalize (Y.take (2*bs)).drop bs=B at*;have eXY:X++A++B++Y.drop (2*bs)=X++Y:=by rw[Cw X,eAB,Cw,eY]
   have hm:=Kx hC ht (A.length+B.length) X A B (Y.drop (2*bs)) (X.length:Int) ((X.length:Int)+bs) ((X.length:Int)+2*bs) (B6 _) (by intro e;rw[e] at lA;simp at lA;omega) (by intro e;rw[e] at lB;simp at lB;omega) sA sB rfl (by omega) (by omega) (by rw[eXY,Bp];omega) (by rw[eXY];exact h5);rw[eXY] at hm;have lM:=Sg (leC c) A B;have eL:LY.take (2*bs)++LY.drop (2*bs)=LY:=Dv _ _;refine⟨((X++mrg (leC c) A B,LX++LY.take (2*bs)),(Y.drop (2*bs),LY.drop (2*bs)),q+1),?_,⟨by simp only;rw[h1,Cw,eL],by simp only[Bp];rw[Nat.succ_mul];omega,Blk.app h2 h3 (Blk.one hst (by rw[lM,Ck];omega) (by omega)),hz,fun y hy=>h5 y ?_⟩,by simp only;omega⟩
   .have e1:((X++mrg (leC c) A B).length:Int)=(X.length:Int)+2*bs:=by simp only[Bp];omega
    have hge':(X.length:Int)+2*(bs:Int)<=(l.length:Int):=by omega
    simp only;rw[e1];generalize X++mrg (leC c) A B++Y.drop (2*bs)=s1 at*;generalize X++Y=s0 at*;simp(disch:=omega)only[Pt,hge',hm,Gd,Qy,EVT,Aw,simprocAttr]
   .rw[<-eXY];simp only[C8,mrg_mem] at hy ⊢
    grind
  .right;have hge':¬(X.length:Int)+2*(bs:Int)<=(l.length:Int):=by omega
   refine⟨.yld 2 [.i .i64 X.length,B9 (X++Y)],?_,rfl,X,LX,Y,LY,q,rfl,h1,h2,by omega,h3,h4,h5⟩;simp only;generalize X++Y=s0 at*;simp(disch:=omega)only[Pt,hge',EVT,Aw,simprocAttr]
def Gb3 (hC:Cmp g caps c P) (ht:TP (leC c)) (l r:List Rec) (bs:Nat) (hbs:0<bs) (hbs2:bs<l.length) (hr:Blk (leC c) bs r l) (hP:∀y∈r,P y) (hs:l.length<=1000000) (w0 w3 w4 w5:PV) (N:Nat) (hN:l.length+2<N):
  ∃r',Blk (leC c) (2*bs) r' l∧(∀y∈r',P y)∧Yj.ev S N [w0,.i .i64 l.length,.f g caps,w3,w4,w5,.i .i64 bs,B9 r]=some (.yld 1 [.i .i64 ((2*bs:Nat):Int),B9 r']):=by
 obtain⟨X,LX,Y,LY,q,k,h1,h2,h3,h4,h5,h6⟩:=Gb1 hC ht l r bs hbs hbs2 hr hP hs w0 w3 w4 w5 N hN;have hlen:=congrArg List.length h1;simp only[Bp] at hlen;have hXL:=h4.len;have hYL:=h5.len;have hlt:(bs:Int)<(l.length:Int):=by omega
 have e2:((2*bs:Nat):Int)=(bs:Int)*2:=by omega
 rw[e2];by_cases hge:bs<Y.length
 .have eY:Y.take bs++Y.drop bs=Y:=Dv _ _;have hst:=dx ht h5 (by omega) hge;have sA:=h5.head.sorted;have sB:=(h5.tail.all (by rw[C3];omega)).sorted;have lA:(Y.take bs).length=bs:=by rw[Ck];omega
  have lB:(Y.drop bs).length=Y.length - bs:=C3;generalize Y.take bs=A at*;generalize Y.drop bs=B at*;have eXY:X++A++B++[]=X++Y:=by rw[Fc,Cw,eY]
  have hm:=Kx hC ht (A.length+B.length) X A B [] (X.length:Int) ((X.length:Int)+bs) (l.length:Int) (B6 _) (by intro e;rw[e] at lA;simp at lA;omega) (by intro e;rw[e] at lB;simp at lB;omega) sA sB rfl (by omega) (by omega) (by rw[eXY,Bp];omega) (by rw[eXY];exact h6);rw[eXY,Fc] at hm;have lM:=Sg (leC c) A B;refine⟨X++mrg (leC c) A B,by rw[h1];exact Blk.app h2 h4 (Blk.one hst (by omega) (by omega)),fun y hy=>h6 y (by
   rw[<-eXY];simp only[C8,mrg_mem] at hy ⊢
   grind),?_⟩
  have hge':(X.length:Int)+(bs:Int)<(l.length:Int):=by omega
  generalize X++mrg (leC c) A B=s1 at*;generalize X++Y=s0 at*;simp(disch:=omega)only[Pt,hlt,hge',k,hm,Gd,Qy,EVT,Aw,simprocAttr]
 .refine⟨X++Y,by rw[h1];exact Blk.app h2 h4 (Blk.one (h5.all (by omega)) hYL (by omega)),h6,?_⟩;have hge':¬(X.length:Int)+(bs:Int)<(l.length:Int):=by omega
  generalize X++Y=s0 at*;simp(disch:=omega)only[Pt,hlt,hge',k,EVT,Aw,simprocAttr]
def Af7 (hC:Cmp g caps c P) (ht:TP (leC c)) (l:List Rec) (hP:∀y∈l,P y) (hs:l.length<=1000000):
  ∃r,Stab (leC c) r l∧r.length=l.length∧S og 1048579 [B9 l,.i .i64 l.length,.f g caps]=some [B9 r]:=by
 obtain⟨N,hN⟩:∃N,N=l.length+3:=⟨_,rfl⟩;obtain⟨X,LX,Y,q,k0,h1,h2,h3,h4,h5⟩:=Gb2 hC ht l hP hs N (by omega);have hlen:=congrArg List.length h1;simp only[Bp] at hlen;have hXL:=h4.len;obtain⟨R,i1,i2,i3⟩:=Vz hC ht X Y [] (X.length:Int) (l.length:Int) rfl (by omega) (by simpa using h5) (by simp;omega);simp only[Fc] at i3;have hB:Blk (leC c) 20 (X++R) l:=by rw[h1];exact Blk.app h2 h4 (Blk.one i1 i2 (by omega))
 have hP':∀y∈X++R,P y:=fun y hy=>h5 y (by
  have:=i1.mem ht y;simp only[C8] at hy ⊢
  grind)
 have key:=It (fn:=S) (N:=N) (J:=[B9 l,.i .i64 l.length,.f g caps,.i .i64 X.length,B9 (X++Y),B9 (X++R)]) (id:=1) (init:=[.c (.i .i64 20),.v 5]) (body:=Yj) (D:=Nat×List Rec)
  (fun w=>[.i .i64 (w.1:Int),B9 w.2])
  (fun o=>∃r,Stab (leC c) r l∧r.length=l.length∧o= .yld 0 [B9 r])
  (fun w=>0<w.1∧Blk (leC c) w.1 w.2 l∧∀y∈w.2,P y) (fun w=>l.length - w.1) (20,X++R) ?_ ⟨by simp,hB,hP'⟩ (by simp only;omega) ?_
 .obtain⟨o,k1,r,k2,k3,rfl⟩:=key;refine⟨r,k2,k3,?_⟩;refine Fv8 (N:=N) rfl ?_;have k4:By4.ev S N [B9 l,.i .i64 l.length,.f g caps,.i .i64 X.length,B9 (X++Y),B9 (X++R)]=_:=k1;clear k1;generalize X++Y=s0 at*;generalize X++R=s1 at*;simp(disch:=omega)only[Pt,k0,i3,k4,Gd,Qy,EVT,Aw,simprocAttr]
 .generalize X++Y=s0 at*;generalize X++R=s1 at*;simp(disch:=omega)only[EVT,Aw,simprocAttr]
 .rintro⟨bs,r⟩ ⟨g1,g2,g3⟩;simp only at g1 g2 g3;have hr:=g2.len;by_cases hlt:bs<l.length
  .left;obtain⟨r',k1,k2,k3⟩:=Gb3 hC ht l r bs g1 hlt g2 g3 hs (B9 l) (.i .i64 X.length) (B9 (X++Y)) (B9 (X++R)) N (by omega);exact⟨(2*bs,r'),k3,⟨by simp only;omega,k1,k2⟩,by simp only;omega⟩
  .right;have hlt':¬(bs:Int)<(l.length:Int):=by omega
   refine⟨.yld 0 [B9 r],?_,rfl,r,g2.all (by omega),hr,rfl⟩;generalize X++Y=s0 at*;generalize X++R=s1 at*;simp(disch:=omega)only[Pt,hlt',EVT,Aw,simprocAttr]
def Yw (hC:Cmp g caps c P) (ht:TP (leC c)) (l:List Rec) (hP:∀y∈l,P y) (hs:l.length<=1000000):
  ∃r,Stab (leC c) r l∧r.length=l.length∧S pb 1048578 [B9 l,.f g caps]=some [B9 r]:=by
 obtain⟨r,h1,h2,h3⟩:=Af7 hC ht l hP hs;refine⟨r,h1,h2,?_⟩;refine Fz7 (N:=1) rfl ?_;simp(disch:=omega)only[El2,h3,Gd,Qy,EVT,Aw,simprocAttr]
end
def lr (l:List Rec) (g:Nat) (caps:List PV) (eq2:Rec->Rec->Bool) (h:∀x∈l,∀y∈l,S g 2 (x.pv::y.pv::caps)=some [.b (eq2 x y)]) (hl:l.length<=1000000):S pw 1048578 [B9 l,.f g caps]=some [B9 (cpt eq2 l)]:=by
 refine Fz5 (N:=l.length+2) rfl ?_;by_cases h2:(l.length:Int)<2
 .have e:cpt eq2 l=l:=by
   match l,h2 with
   |[],_=>rfl
   |[x],_=>rfl
   |_::_::_,h=>simp at h;omega
  rw[e];simp(disch:=omega)only[Nl,h2,EVT,Aw,simprocAttr]
 ·-- the inner Hv, from a place where two neighbours are equal
  have inner:∀k:Nat,1<=k->k<l.length->cpt eq2 (l.take (k+1))=l.take k->∃s:List Rec,s.length=l.length∧s.take (cpt eq2 l).length=cpt eq2 l∧By6.ev S (l.length+2) [B9 l,.f g caps,.i .i64 (k:Int),B9 l,.b true]=some (.yld 2 [.i .i64 ((cpt eq2 l).length:Int),B9 s]):=by
   intro k hk1 hk hcp;have key:=It (fn:=S) (N:=l.length+2) (J:=[B9 l,.f g caps,.i .i64 (k:Int),B9 l,.b true]) (id:=3) (init:=[(.v 2),(.c (.i .i64 (1))),(.v 3)]) (body:=j9) (D:=Nat×Nat×List Rec)
    (fun a=>[.i .i64 (a.1:Int),.i .i64 (a.2.1:Int),B9 a.2.2])
    (fun o=>∃s:List Rec,s.length=l.length∧s.take (cpt eq2 l).length=cpt eq2 l∧o= .yld 2 [.i .i64 ((cpt eq2 l).length:Int),B9 s])
    (fun a=>1<=a.2.1∧k+a.2.1<=l.length∧a.1<k+a.2.1∧a.2.2.length=l.length∧a.2.2.take a.1=cpt eq2 (l.take (k+a.2.1))∧(cpt eq2 (l.take (k+a.2.1))).length=a.1∧a.2.2.drop (k+a.2.1 - 1)=l.drop (k+a.2.1 - 1))
    (fun a=>l.length - a.2.1) (k,1,l) (by simp(disch:=omega)only[EVT,Aw,simprocAttr])
    ⟨by simp,by simp;omega,by simp,rfl,by simp only;rw[hcp],by simp only;rw[hcp,Ck];omega,rfl⟩ (by simp only;omega) ?_
   .obtain⟨o,h3,s,h4,h5,rfl⟩:=key;exact⟨s,h4,h5,h3⟩
   .rintro⟨i,j,s⟩ ⟨a1,a2,a3,a4,a5,a6,a7⟩;simp only at a1 a2 a3 a4 a5 a6 a7;by_cases hj:k+j<l.length
    .left;have c1:s[k+j]? =l[k+j]? :=by have:=congrArg (fun q=>q[1]?) a7;simp only[Cn] at this;rwa[show k+j - 1+1=k+j by omega] at this
     have c0:s[k+j - 1]? =l[k+j - 1]? :=by have:=congrArg (fun q=>q[0]?) a7;simpa only[Cn,Gc] using this
     have g1:l[k+j]? =some (l[k+j]'hj):=B3 hj;have g0:l[k+j - 1]? =some (l[k+j - 1]'(by omega)):=B3 (by omega);have tk:l.take (k+(j+1))=l.take (k+j)++[l[k+j]'hj]:=by rw[show k+(j+1)=(k+j)+1 by omega,E2,g1];rfl
     have ne:l.take (k+j)≠[]:=by intro h;have:=congrArg List.length h;rw[Ck,Cm] at this;omega
     have gl:(l.take (k+j)).getLast ne=l[k+j - 1]'(by omega):=by rw[List.getLast_eq_getElem];simp only[List.getElem_take,Ck];congr 1;omega
     have cs:=Xt eq2 (l[k+j]'hj) (l.take (k+j)) ne;rw[<-tk,gl] at cs;have hc:=h (l[k+j]'hj) (Hj _) (l[k+j - 1]'(by omega)) (Hj _);generalize l[k+j]'hj=x at*;generalize l[k+j - 1]'(by omega)=y at*;have hjj:(j:Int)<(s.length:Int) - (k:Int):=by omega
     have i1:J8 16 (B9 s) (.i .i64 ((k:Int)+(j:Int)))=some x.pv:=by rw[Ox _ _ _ (by omega),show ((k:Int)+(j:Int)).toNat=k+j by omega,c1,g1];rfl
     have i0:J8 16 (B9 s) (.i .i64 ((k:Int)+((j:Int) - 1)))=some y.pv:=by rw[Ox _ _ _ (by omega),show ((k:Int)+((j:Int) - 1)).toNat=k+j - 1 by omega,c0,g0];rfl
     have ls:J4 16 (B9 s) (.i .i64 (k:Int)) (.i .i64 (s.length:Int))=some (B9 (s.drop k)):=by rw[Mz _ _ _ _ _ (by omega) (by omega) (by omega)];simp
     have e1:(s.drop k)[j]? =some x:=by rw[Cn,c1,g1]
     have e0:(s.drop k)[j - 1]? =some y:=by rw[Cn,show k+(j - 1)=k+j - 1 by omega,c0,g0]
     have si:∃w,s[i]? =some w:=⟨_,B3 (by omega)⟩;obtain⟨w,si⟩:=si;have ej:((j:Int) - 1).toNat=j - 1:=by omega
     by_cases hxy:eq2 x y=true
     .refine⟨(i,j+1,s),?_,⟨by simp,by simp only;omega,by simp only;omega,a4,?_,?_,?_⟩,by simp only;omega⟩
      .simp(disch:=omega)only[Nl,hjj,i1,i0,ls,e1,e0,ej,hc,hxy,EVT,Aw,simprocAttr]
      .simp only;rw[cs,a5];simp[hxy]
      .simp only;rw[cs,Bp,a6];simp[hxy]
      .simp only;rw[show k+(j+1) - 1=(k+j - 1)+1 by omega,<-F9,<-F9,a7]
     .refine⟨(i+1,j+1,s.set i x),?_,⟨by simp,by simp only;omega,by simp only;omega,by simpa using a4,?_,?_,?_⟩,by simp only;omega⟩
      .simp(disch:=omega)only[Nl,hjj,i1,i0,ls,e1,e0,ej,si,hc,hxy,EVT,Aw,simprocAttr]
      .simp only;rw[cs,E2,List.getElem?_set_self (by omega),List.take_set_of_le (by omega),a5];simp[hxy]
      .simp only;rw[cs,Bp,a6];simp[hxy]
      .simp only;rw[show k+(j+1) - 1=(k+j - 1)+1 by omega,List.drop_set_of_lt (by omega),<-F9,<-F9,a7]
    .right;have ek:k+j=l.length:=by omega
     rw[ek,Ej] at a5 a6;have hjj:¬(j:Int)<(s.length:Int) - (k:Int):=by omega
     refine⟨.yld 2 [.i .i64 (i:Int),B9 s],?_,rfl,s,a4,by rw[a6];exact a5,by rw[a6]⟩;simp(disch:=omega)only[Nl,hjj,EVT,Aw,simprocAttr]
  have key:Bb8.ev S (l.length+2) [B9 l,.f g caps]=some (if cpt eq2 l=l then .yld 0 [B9 l] else .ret [B9 (cpt eq2 l)]):=by
   have:=It (fn:=S) (N:=l.length+2) (J:=[B9 l,.f g caps]) (id:=1) (init:=[(.c (.i .i64 (1))),(.v 0)]) (body:=kf) (D:=Nat)
    (fun k=>[.i .i64 (k:Int),B9 l]) (fun o=>o=if cpt eq2 l=l then .yld 0 [B9 l] else .ret [B9 (cpt eq2 l)])
    (fun k=>1<=k∧k<=l.length∧cpt eq2 (l.take k)=l.take k) (fun k=>l.length - k) 1 (by simp(disch:=omega)only[EVT,Aw,simprocAttr])
    ⟨B6 1,by omega,by cases l with
     |nil=>simp at h2
     |cons x r=>rfl⟩ (by omega) ?_
   .obtain⟨o,h3,h4⟩:=this;rw[<-h4];exact h3
   .rintro k ⟨k1,k2,k3⟩;by_cases hk:k<l.length
    .have g1:l[k]? =some l[k]:=B3 hk;have g0:l[k - 1]? =some (l[k - 1]'(by omega)):=B3 (by omega);have tk:l.take (k+1)=l.take k++[l[k]]:=by rw[E2,g1];rfl
     have ne:l.take k≠[]:=by intro h;have:=congrArg List.length h;rw[Ck,Cm] at this;omega
     have gl:(l.take k).getLast ne=l[k - 1]'(by omega):=by rw[List.getLast_eq_getElem];simp only[List.getElem_take,Ck];congr 1;omega
     have cs:=Xt eq2 l[k] (l.take k) ne;rw[<-tk,gl,k3] at cs;have hkk:(k:Int)<(l.length:Int):=by omega
     have i1:J8 16 (B9 l) (.i .i64 (k:Int))=some (l[k]).pv:=by rw[Ox _ _ _ (by omega),show ((k:Int)).toNat=k by omega,g1];rfl
     have i0:J8 16 (B9 l) (.i .i64 ((k:Int) - 1))=some (l[k - 1]'(by omega)).pv:=by rw[Ox _ _ _ (by omega),show ((k:Int) - 1).toNat=k - 1 by omega,g0];rfl
     have hc:=h l[k] (Hj _) (l[k - 1]'(by omega)) (Hj _);by_cases hxy:eq2 l[k] (l[k - 1]'(by omega))=true
     .right;have cs':cpt eq2 (l.take (k+1))=l.take k:=by rw[cs];simp[hxy]
      obtain⟨s,s1,s2,s3⟩:=inner k k1 hk cs';have hlt:cpt eq2 l≠l:=by
       intro h;have q:(cpt eq2 l).length<=(cpt eq2 (l.take (k+1))).length+(l.drop (k+1)).length:=by
        have:∀(b a:List Rec),a≠[]->(cpt eq2 (a++b)).length<=(cpt eq2 a).length+b.length:=by
         intro b
         induction b with
         |nil=>intro a _;simp
         |cons x r ih=>
          intro a ha;have h1:=ih (a++[x]) (by simp);rw[Xt _ _ _ ha] at h1;rw[show a++x::r=a++[x]++r by simp];refine Eh h1 ?_;rw[Bp];split<;>simp<;>omega
        have h3:=this (l.drop (k+1)) (l.take (k+1)) (by intro h;have:=congrArg List.length h;rw[Ck,Cm] at this;omega);rwa[Dv] at h3
       rw[h,cs',Ck,C3] at q;omega
      have hlen:=Ex0 eq2 l;refine⟨.ret [B9 (cpt eq2 l)],?_,rfl,by rw[if_neg hlt]⟩;generalize cpt eq2 l=fl at*;have ls:J4 16 (B9 l) (.i .i64 (k:Int)) (.i .i64 (l.length:Int))=some (B9 (l.drop k)):=by rw[Mz _ _ _ _ _ (by omega) (by omega) (by omega)];simp
      have hsl1:J4 16 (B9 s) (.i .i64 ((fl.length:Nat):Int)) (.i .i64 (s.length:Int))=some (B9 (s.drop fl.length)):=by rw[Mz _ _ _ _ _ (by omega) (by omega) (by omega)];simp
      have hsl2:J4 16 (B9 s) (.i .i64 0) (.i .i64 ((fl.length:Nat):Int))=some (B9 fl):=by rw[Mz _ _ _ _ _ (by omega) (by omega) (by omega)];simp[s2]
      have hrep:Ly 16 (.i .i64 ((s.length:Int) - (fl.length:Int))) z8=some (B9 (List.replicate (s.length - fl.length) zr)):=by rw[Cq9 _ (by omega) (by omega)];congr 3;omega
      have happ:I1 16 (B9 fl) (B9 (List.replicate (s.length - fl.length) zr))=some (B9 (fl++List.replicate (s.length - fl.length) zr)):=Yq _ _ (by simp;omega);have hsl3:J4 16 (B9 (fl++List.replicate (s.length - fl.length) zr)) (.i .i64 0) (.i .i64 ((fl.length:Nat):Int))=some (B9 fl):=by rw[Mz _ _ _ _ _ (by omega) (by omega) (by simp;omega)];simp
      simp(disch:=omega)only[Nl,hkk,i1,i0,hc,hxy,ls,s3,hsl1,hsl2,hrep,happ,hsl3,EVT,Aw,simprocAttr]
     .left;refine⟨k+1,?_,⟨by omega,by omega,?_⟩,by omega⟩
      .simp(disch:=omega)only[Nl,hkk,i1,i0,hc,hxy,EVT,Aw,simprocAttr]
      .rw[cs,tk];simp[hxy]
    .right;have e:k=l.length:=by omega
     subst e;rw[Ej] at k3;refine⟨_,?_,?_,rfl⟩
     .rw[if_pos k3];simp(disch:=omega)only[Nl,EVT,Aw,simprocAttr]
     .rw[if_pos k3];rfl
  by_cases hh:cpt eq2 l=l
  .rw[if_pos hh] at key;rw[hh];simp(disch:=omega)only[Nl,h2,key,EVT,Aw,simprocAttr]
  .rw[if_neg hh] at key;simp(disch:=omega)only[Nl,h2,key,EVT,Aw,simprocAttr]
def Bp6 (r:Rec) (h:r.wf):S Cy8 1 [r.pv]=some [.b (Yc r)]:=by
 refine Gc5 (N:=1) rfl ?_;have g:r.name.length<=9223372036854775807:=h.name;have h1:=C9 r.name g;have h2:=D1 r.typ;have h3:=Pv r.typ r.data h.data;unfold Yc;by_cases k0:0<=r.ttl<;>by_cases k1:r.ttl<=2147483647
 all_goals rcases ch3 (vld r.name) (knw r.typ) (Ex r.typ r.data) with e0|⟨e0,e1⟩|⟨e0,e1,e2⟩|⟨e0,e1,e2⟩
 all_goals simp only[*] at h1 h2 h3
 all_goals simp(disch:=omega)only[Gq9,Xf,Gq,h1,h2,h3,EVC,xe,EVP,EV,simprocAttr, *]
 all_goals simp
def Dy9 (x:Int):S Z9 1 [.i .i64 x]=some [.b false]:=by refine Fq0 (N:=1) rfl ?_;simp(disch:=omega)only[Eg3,Ax,simprocAttr]
def Bs0 (a b:Int):S aw 2 [.i .i64 a,.i .i64 b]=some [.i .i64 (jl a b)]:=by
 refine Fv7 (N:=1) rfl ?_;have h1:=Dy9 a;have h2:=Dy9 b;unfold jl;by_cases k1:a<b
 .simp(disch:=omega)only[Aj4,h1,h2,k1,Ax,simprocAttr]
 .by_cases k2:b<a
  .simp(disch:=omega)only[Aj4,h1,h2,k1,k2,Ax,simprocAttr]
  .simp(disch:=omega)only[Aj4,h1,h2,k1,k2,Ax,simprocAttr]
def nw (a b:Rec) (ha:a.wf) (hb:b.wf):S bj 2 [a.pv,b.pv]=some [.i .i64 (Qn a b)]:=by
 refine Fz3 (N:=1) rfl ?_;have g1:a.name.length<=9223372036854775807:=ha.name;have g2:b.name.length<=9223372036854775807:=hb.name;have h1:=lf a.name b.name g1 g2;have h2:=Bs0 a.typ b.typ;have h3:=lm a.typ a.data b.data ha.data hb.data;unfold Qn;by_cases k1:Qk a.name b.name=0
 .by_cases k2:jl a.typ b.typ=0
  .rw[k1] at h1;rw[k2] at h2;simp(disch:=omega)only[Ak4,Xf,Gq,h1,h2,h3,Ax,simprocAttr];simp[k1,k2]
  .rw[k1] at h1;simp(disch:=omega)only[Ak4,h1,h2,k2,Ax,simprocAttr];simp[k1,k2]
 .simp(disch:=omega)only[Ak4,h1,k1,Ax,simprocAttr]
def lc (a b:Rec) (ha:a.wf) (hb:b.wf):S bq 2 [a.pv,b.pv]=some [.i .i64 (Ex3 a b)]:=by
 refine Fz6 (N:=1) rfl ?_;have h1:=nw a b ha hb;have h2:=Bs0 a.ttl b.ttl;unfold Ex3;by_cases k1:Qn a b=0
 .rw[k1] at h1;simp(disch:=omega)only[Cr8,h1,h2,Ax,simprocAttr];simp[k1]
 .simp(disch:=omega)only[Cr8,h1,k1,Ax,simprocAttr]
def Gn9:Cmp bq [] Ex3 Rec.wf:=⟨fun x y hx hy=>lc x y hx hy⟩
def Fh7:leC Ex3=leR:=rfl
def Cn6 (a b:Rec) (ha:a.wf) (hb:b.wf):S bk 2 [a.pv,b.pv]=some [.b (eqF a b)]:=by refine Fz4 (N:=1) rfl ?_;have h1:=nw a b ha hb;simp(disch:=omega)only[El1,h1,Ax,simprocAttr]
def uh (l:List Rec) (hw:∀r∈l,r.wf) (hl:l.length<=1000000):S Bq6 1 [B9 l]=some [B9 (sortR l)]:=by refine Gc8 (N:=1) rfl ?_;have h0:=Bs1 l hl;obtain⟨r,h1,h2,h3⟩:=Yw Gn9 (by rw[Fh7];exact Gx2) l hw hl;rw[Fh7] at h1;have hm:=h1.mem Gx2;have h4:=lr r bk [] eqF (fun x hx y hy=>Cn6 x y (hw x ((hm x).1 hx)) (hw y ((hm y).1 hy))) (by omega);rw[Ck6 h1] at h4;simp(disch:=omega)only[Gv0,h0,h3,h4,Gd,Qy,EVT,Aw,simprocAttr]
end Go.X.G
/- Sets of records: what the program's and the reference's functions give. -/
namespace Go.X
open Go
structure SetR where
 name:List UInt8
 typ:Int
 ttl:Int
 data:List Dat
 deriving DecidableEq
def Dk (l:List Dat):PV:= .l 13 (l.map Dat.pv)
def SetR.pv (x:SetR):PV:= .a [.s x.name,.i .i64 x.typ,.i .i64 x.ttl,Dk x.data]
def Ec (l:List SetR):PV:= .l 4 (l.map SetR.pv)
def Cl4:PV.l 13 []=Dk []:=rfl
def Cq0:PV.l 4 []=Ec []:=rfl
def Ap7 (x:SetR):C2 0 x.pv=some (.s x.name):=rfl
def Ap6 (x:SetR):C2 1 x.pv=some (.i .i64 x.typ):=rfl
def Ap5 (x:SetR):C2 2 x.pv=some (.i .i64 x.ttl):=rfl
def Ap4 (x:SetR):C2 3 x.pv=some (Dk x.data):=rfl
def Ek3 (x:SetR):Pf 4 x.pv=some x.pv:=rfl
def Dl7 (x:SetR):J7 0 4 x.pv=some x.pv:=rfl
def Bd8 (n:List UInt8) (t u:Int) (d:List Dat):PV.a [.s n,.i .i64 t,.i .i64 u,Dk d]=SetR.pv ⟨n,t,u,d⟩:=rfl
def Eq7 (x:SetR):(⟨x.name,x.typ,x.ttl,x.data⟩:SetR)=x:=rfl
def Ds7 (x:SetR):K2 4 [x.pv]=some (Ec [x]):=rfl
def Dt0 (x:Dat):K2 13 [x.pv]=some (Dk [x]):=rfl
def qd (l:List SetR):Hz (Ec l)=some (.i .i64 (l.length:Int)):=by simp[Ec,Hz]
def Cc8 (l:List Dat):Hz (Dk l)=some (.i .i64 (l.length:Int)):=by simp[Dk,Hz]
def Ah1 (l:List SetR):I4 (Ec l)=some (Ec l):=rfl
def Ah3 (l:List Dat):I4 (Dk l)=some (Dk l):=rfl
def q9 (l:List SetR) (k:IntKind) (z:Int) (h:0<=z):J8 4 (Ec l) (.i k z)=(l[z.toNat]?).map SetR.pv:=by simp[Ec,ic _ _ _ _ h]
def Cf7 (l:List Dat) (k:IntKind) (z:Int) (h:0<=z):J8 13 (Dk l) (.i k z)=(l[z.toNat]?).map Dat.pv:=by simp[Dk,ic _ _ _ _ h]
def Bp0 (l:List SetR) (x:SetR) (h:l.length+1<=1073741824):I1 4 (Ec l) (Ec [x])=some (Ec (l++[x])):=by have:=Pp 4 (l.map SetR.pv) [x.pv] (by simpa using h);simpa [Ec] using this
def Bp2 (l:List Dat) (x:Dat) (h:l.length+1<=1073741824):I1 13 (Dk l) (Dk [x])=some (Dk (l++[x])):=by have:=Pp 13 (l.map Dat.pv) [x.pv] (by simpa using h);simpa [Dk] using this
def Wp {l:List SetR} {k:IntKind} {z:Int} {x y:SetR} {off:Nat} {vs:List PV} (h0:0<=z) (h3:l[z.toNat]? =some x) (h:O9 x.pv off vs=some y.pv):M6 4 off vs (Ec l) (.i k z)=some (Ec (l.set z.toNat y)):=by
 have h4:(l.map SetR.pv)[z.toNat]? =some x.pv:=by rw[C4,h3];rfl
 simp only[M6,Ec,h0,h4,and_self,if_true,Bt,h,Cz];simp[List.map_set]
set_option linter.defProp false in
def Ey:=(And.intro @Cl4 (And.intro @Cq0 (And.intro @Ap7 (And.intro @Ap6 (And.intro @Ap5 (And.intro @Ap4 (And.intro @Ek3 (And.intro @Dl7 (And.intro @Bd8 (And.intro @Eq7 (And.intro @Ds7 (And.intro @Dt0 (And.intro @qd (And.intro @Cc8 (And.intro @Ah1 (And.intro @Ah3 (And.intro @q9 (And.intro @Cf7 (And.intro @Bp0 @Bp2)))))))))))))))))))
end Go.X
namespace Go.X.G
open Go Go.X
def addS (g:List SetR) (r:Rec):List SetR:=
 match g.getLast? with
 |some x=>if x.name=r.name∧x.typ=r.typ then g.dropLast++[⟨x.name,x.typ,if r.ttl<x.ttl then r.ttl else x.ttl,x.data++[r.data]⟩] else g++[⟨r.name,r.typ,r.ttl,[r.data]⟩]
 |none=>[⟨r.name,r.typ,r.ttl,[r.data]⟩]
def Cq1 (l:List Rec):List SetR:=l.foldl addS []
def setsR (l:List Rec):List SetR:=Cq1 (sortR l)
def Ig (g:List SetR):List Dat:=((g.getLast?).map SetR.data).getD []
def Zm {g:List SetR} {x:SetR} (h:g.getLast? =some x) (y:SetR):g.set (g.length - 1) y=g.dropLast++[y]:=by obtain⟨a,rfl⟩:=List.getLast?_eq_some_iff.1 h;simp
def uw (g:List SetR) (r:Rec):(addS g r).length<=g.length+1:=by
 unfold addS;split
 .split
  .simp
  .simp
 .simp
def Ag3 (x:SetR) (g:List SetR) (c:Rec) (s:List Rec) (i:Nat) (p0 p2 p3:PV) (d:List Dat) (N:Nat) (hc:s[i]? =some c) (hg:g.getLast? =some x) (hl:g.length<=1000000) (hd:d.length<=1000000) (hi:i<=1000000) (hxd:x.data=d):
  Bl3.ev S N [p0,B9 s,p2,p3,.i .i64 (i:Int),Ec g,Dk d,.i .i64 (g.length:Int)]=some (.yld 1 [Ec (g.dropLast++[⟨x.name,x.typ,if c.ttl<x.ttl then c.ttl else x.ttl,d++[c.data]⟩]),Dk (d++[c.data]),.i .i64 ((i+1:Nat):Int)]):=by
 have hpos:0<g.length:=by cases g<;>simp at hg ⊢
 have e1:((g.length:Int) - 1).toNat=g.length - 1:=by omega
 have hx:g[((g.length:Int) - 1).toNat]? =some x:=by rw[e1,<-Ix];exact hg
 have hw:IntKind.i64.wrap ((g.length:Int) - 1)=(g.length:Int) - 1:=w64 (by omega) (by omega);let y:SetR:=⟨x.name,x.typ,if c.ttl<x.ttl then c.ttl else x.ttl,x.data⟩;let z:SetR:=⟨x.name,x.typ,if c.ttl<x.ttl then c.ttl else x.ttl,d++[c.data]⟩;have s1:M6 4 2 [.i .i64 (if c.ttl<x.ttl then c.ttl else x.ttl)] (Ec g) (.i .i64 ((g.length:Int) - 1))=some (Ec (g.set (g.length - 1) y)):=by rw[<-e1];exact Wp (by omega) hx rfl
 have hl2:(g.set (g.length - 1) y).length=g.length:=by simp
 have hx2:(g.set (g.length - 1) y)[((g.length:Int) - 1).toNat]? =some y:=by rw[e1,List.getElem?_set_self (by omega)]
 have s2:M6 4 3 [Dk (d++[c.data])] (Ec (g.set (g.length - 1) y)) (.i .i64 ((g.length:Int) - 1))=some (Ec (g.dropLast++[z])):=by rw[Wp (x:=y) (y:=z) (by omega) hx2 rfl,e1,List.set_set,Zm hg]
 have hmn:Cb9 (.i .i64 x.ttl) (.i .i64 c.ttl)=some (.i .i64 (if c.ttl<x.ttl then c.ttl else x.ttl)):=by simp[Cb9]
 have hy3:C2 3 y.pv=some (Dk x.data):=rfl;have i1:J8 4 (Ec (g.set (g.length - 1) y)) (.i .i64 ((g.length:Int) - 1))=some y.pv:=by rw[q9 _ _ _ (by omega),hx2];rfl
 have n1:Hz (Ec (g.set (g.length - 1) y))=some (.i .i64 (g.length:Int)):=by rw[qd,hl2]
 generalize hG:Ec (g.set (g.length - 1) y)=G at*;generalize hY:y.pv=Y at*;simp(disch:=omega)only[eg,hc,hx,hw,hmn,s1,s2,i1,n1,hy3,Ey,Ay,simprocAttr]
 try rfl
structure SetsIn (g:List SetR) (i:Nat):Prop where
 len:g.length<=i
 each:∀x∈g,x.data.length<=i
def Bp5 {g:List SetR} {i:Nat} (h:SetsIn g i) (c:Rec):SetsIn (addS g c) (i+1):=by
 refine⟨Eh (uw g c) (by have:=h.len;omega),fun x hx=> ?_⟩;unfold addS at hx;split at hx
 .rename_i y hy;have hym:y∈g:=Nc hy;split at hx
  .rcases C8.1 hx with hx|hx
   .have:=h.each x (List.dropLast_subset _ hx);omega
   .rw[Cl.1 hx];have:=h.each y hym;simp;omega
  .rcases C8.1 hx with hx|hx
   .have:=h.each x hx;omega
   .rw[Cl.1 hx];simp
 .rw[Cl.1 hx];simp
def Mc (g:List SetR) (c:Rec):Ig (addS g c)=match g.getLast? with
  |some x=>if x.name=c.name∧x.typ=c.typ then x.data++[c.data] else [c.data]
  |none=>[c.data]:=by
 unfold addS Ig;split
 .split<;>simp
 .simp
def m8:∀(l acc:List Rec),(l.foldl (fun a x=>Xb x a) acc).length<=acc.length+l.length
 |[],acc=>by simp
 |x::l,acc=>by have h1:=m8 l (Xb x acc);have h2:=Xz x acc;simp only[List.foldl_cons,Cy];omega
def Kz (l:List Rec):(sortR l).length<=l.length:=by simpa [sortR] using m8 l []
def Cn7 (l:List Rec) (hw:∀r∈l,r.wf) (hl:l.length<=100000):S Bv7 1 [B9 l]=some [Ec (setsR l)]:=by
 have hs:=uh l hw (by omega);have hsl:(sortR l).length<=1000000:=by have:=Kz l;omega
 generalize hsd:sortR l=s at*;obtain⟨N,hN⟩:∃N,N=s.length+1:=⟨_,rfl⟩;refine Gf9 (N:=N) rfl ?_;have key:Dw4.ev S N [B9 l,B9 s]=some (.yld 0 [Ec (s.foldl addS []),Dk (Ig (s.foldl addS []))]):=by
  refine F6 s (fun i (g:List SetR)=>[Ec g,Dk (Ig g),.i .i64 (i:Int)]) (fun i g r=> .yld 0 [Ec (r.foldl addS g),Dk (Ig (r.foldl addS g))]) (fun i g=>SetsIn g i) [] rfl ⟨B6 _,fun x hx=>by cases hx⟩ (by omega) (fun i g c r hd hi hc hI=> ?_) (fun g hI=> ?_)
  .left;refine⟨addS g c,?_,Bp5 hI c,rfl⟩;have hgl:=hI.len;have hilt:(i:Int)<(s.length:Int):=by omega
   cases hg:g.getLast? with
   |none=>
    have hg0:g=[]:=List.getLast?_eq_none_iff.1 hg;subst hg0;have k:=Ag3 ⟨c.name,c.typ,c.ttl,[]⟩ [⟨c.name,c.typ,c.ttl,[]⟩] c s i (B9 l) (Ec []) (Dk (Ig [])) [] N hc rfl (by simp) (by simp) (by omega) rfl;have e1:(([⟨c.name,c.typ,c.ttl,[]⟩]:List SetR).length:Int)=1:=rfl;have e2:([⟨c.name,c.typ,c.ttl,[]⟩]:List SetR).dropLast++[⟨c.name,c.typ,if c.ttl<c.ttl then c.ttl else c.ttl,[]++[c.data]⟩]=addS [] c:=by simp[addS]
    have e3:([]++[c.data]:List Dat)=Ig (addS [] c):=by simp[addS,Ig]
    rw[e1,e2,e3] at k;generalize addS [] c=G at*;simp(disch:=omega)only[eg,hc,hilt,k,Ey,Ay,simprocAttr]
   |some x=>
    have hpos:0<g.length:=by cases g<;>simp at hg ⊢
    have hx:g[((g.length:Int) - 1).toNat]? =some x:=by rw[show ((g.length:Int) - 1).toNat=g.length - 1 by omega,<-Ix];exact hg
    have hxm:x∈g:=Nc hg;have hxd:=hI.each x hxm;have hn0:¬(g.length:Int)=0:=by omega
    have hld:Ig g=x.data:=by simp[Ig,hg]
    by_cases hk:x.name=c.name∧x.typ=c.typ
    .have k:=Ag3 x g c s i (B9 l) (Ec g) (Dk (Ig g)) x.data N hc hg (by omega) (by omega) (by omega) rfl;have e2:g.dropLast++[⟨x.name,x.typ,if c.ttl<x.ttl then c.ttl else x.ttl,x.data++[c.data]⟩]=addS g c:=by simp[addS,hg,hk]
     have e3:x.data++[c.data]=Ig (addS g c):=by rw[Mc,hg];simp[hk]
     rw[e2,e3,hld] at k;rw[hld];generalize addS g c=G at*;simp(disch:=omega)only[eg,hc,hilt,hx,hn0,hk.1,hk.2,k,Ey,Ay,simprocAttr]
    .have k:=Ag3 ⟨c.name,c.typ,c.ttl,[]⟩ (g++[⟨c.name,c.typ,c.ttl,[]⟩]) c s i (B9 l) (Ec g) (Dk (Ig g)) [] N hc (by simp) (by simp;omega) (by simp) (by omega) rfl;have e1:((g++[⟨c.name,c.typ,c.ttl,[]⟩]:List SetR).length:Int)=(g.length:Int)+1:=by simp
     have e2:(g++[⟨c.name,c.typ,c.ttl,[]⟩]:List SetR).dropLast++[⟨c.name,c.typ,if c.ttl<c.ttl then c.ttl else c.ttl,[]++[c.data]⟩]=addS g c:=by simp[addS,hg,hk]
     have e3:([]++[c.data]:List Dat)=Ig (addS g c):=by rw[Mc,hg];simp[hk]
     rw[e1,e2,e3,hld] at k;rw[hld];generalize addS g c=G at*;by_cases h1:x.name=c.name
     .have h2:¬x.typ=c.typ:=fun h=>hk ⟨h1,h⟩;simp(disch:=omega)only[eg,hc,hilt,hx,hn0,h1,h2,k,Ey,Ay,simprocAttr]
     .simp(disch:=omega)only[eg,hc,hilt,hx,hn0,h1,k,Ey,Ay,simprocAttr]
  .simp(disch:=omega)only[eg,Ey,Ay,simprocAttr];simp[Out.goes]
 simp(disch:=omega)only[eg,hs,key,Ey,Ay,simprocAttr];simp[setsR,Cq1,hsd]
end Go.X.G
namespace Go.X.G
open Go Go.X
def c3 (s:List UInt8):List UInt8:=s.take 300
def unsetR (x:SetR):List Rec:=x.data.map fun d=>⟨x.name,x.typ,x.ttl,d⟩
def Tf (x:SetR) (hl:x.data.length<=1000000):S gp 1 [x.pv]=some [B9 (unsetR x)]:=by
 refine Gg9 (N:=x.data.length+1) rfl ?_;have key:Dx1.ev S (x.data.length+1) [x.pv]=some (.yld 0 [B9 ([]++unsetR x)]):=by
  refine F6 (N:=x.data.length+1) x.data (fun i (g:List Rec)=>[B9 g,.i .i64 (i:Int)]) (fun i g r=> .yld 0 [B9 (g++r.map fun d=>(⟨x.name,x.typ,x.ttl,d⟩:Rec))]) (fun i g=>g.length<=i) [] rfl (D7 _) (Nat.lt_succ_self _) (fun i g c r hd hi hc hI=> ?_) (fun g hI=> ?_)
  .left;refine⟨g++[⟨x.name,x.typ,x.ttl,c⟩],?_,by simp;omega,by simp⟩;have hil:(i:Int)<(x.data.length:Int):=by omega
   simp(disch:=omega)only[Db2,hc,hil,Ey,Ay,simprocAttr]
  .simp(disch:=omega)only[Db2,Df,Ey,Ay,simprocAttr];simp[Out.goes]
 simp(disch:=omega)only[Db2,key,Ey,Ay,simprocAttr]
 try simp
def Tg (x:SetR) (hl:x.data.length<=1000000):S Bv2 1 [x.pv]=some [B9 (unsetR x)]:=by
 refine Gd7 (N:=x.data.length+1) rfl ?_;have key:Dw0.ev S (x.data.length+1) [x.pv]=some (.yld 0 [B9 ([]++unsetR x)]):=by
  refine F6 (N:=x.data.length+1) x.data (fun i (g:List Rec)=>[B9 g,.i .i64 (i:Int)]) (fun i g r=> .yld 0 [B9 (g++r.map fun d=>(⟨x.name,x.typ,x.ttl,d⟩:Rec))]) (fun i g=>g.length<=i) [] rfl (D7 _) (Nat.lt_succ_self _) (fun i g c r hd hi hc hI=> ?_) (fun g hI=> ?_)
  .left;refine⟨g++[⟨x.name,x.typ,x.ttl,c⟩],?_,by simp;omega,by simp⟩;have hil:(i:Int)<(x.data.length:Int):=by omega
   simp(disch:=omega)only[Dz6,hc,hil,Ey,Ay,simprocAttr]
  .simp(disch:=omega)only[Dz6,Df,Ey,Ay,simprocAttr];simp[Out.goes]
 simp(disch:=omega)only[Dz6,key,Ey,Ay,simprocAttr]
 try simp
def f4 (x:SetR) (g:List SetR) (c:Rec) (s:List Rec) (i:Nat) (p0 p2 p3:PV) (d:List Dat) (N:Nat) (hc:s[i]? =some c) (hg:g.getLast? =some x) (hl:g.length<=1000000) (hd:d.length<=1000000) (hi:i<=1000000) (hxd:x.data=d):
  V0.ev S N [p0,B9 s,p2,p3,.i .i64 (i:Int),Ec g,Dk d,.i .i64 (g.length:Int)]=some (.yld 1 [Ec (g.dropLast++[⟨x.name,x.typ,if c.ttl<x.ttl then c.ttl else x.ttl,d++[c.data]⟩]),Dk (d++[c.data]),.i .i64 ((i+1:Nat):Int)]):=by
 have hpos:0<g.length:=by cases g<;>simp at hg ⊢
 have e1:((g.length:Int) - 1).toNat=g.length - 1:=by omega
 have hx:g[((g.length:Int) - 1).toNat]? =some x:=by rw[e1,<-Ix];exact hg
 have hw:IntKind.i64.wrap ((g.length:Int) - 1)=(g.length:Int) - 1:=w64 (by omega) (by omega);have s2:∀u:Int,M6 4 0 [.s x.name,.i .i64 x.typ,.i .i64 u,Dk (d++[c.data])] (Ec g) (.i .i64 ((g.length:Int) - 1))=some (Ec (g.dropLast++[⟨x.name,x.typ,u,d++[c.data]⟩])):=fun u=>by rw[Wp (x:=x) (y:=⟨x.name,x.typ,u,d++[c.data]⟩) (by omega) hx rfl,e1,Zm hg]
 by_cases ht:c.ttl<x.ttl
 .rw[if_pos ht];simp(disch:=omega)only[Y4,hc,hx,hw,ht,s2,Ey,Ay,simprocAttr]
  try rfl
 .rw[if_neg ht];simp(disch:=omega)only[Y4,hc,hx,hw,ht,s2,Ey,Ay,simprocAttr]
  try rfl
def Cn8 (l:List Rec) (hw:∀r∈l,r.wf) (hl:l.length<=100000):S Cz9 1 [B9 l]=some [Ec (setsR l)]:=by
 have hs:=ul l hw (by omega);have hsl:(sortR l).length<=1000000:=by have:=Kz l;omega
 generalize hsd:sortR l=s at*;obtain⟨N,hN⟩:∃N,N=s.length+1:=⟨_,rfl⟩;refine Gg5 (N:=N) rfl ?_;have key:Dw8.ev S N [B9 l,B9 s]=some (.yld 0 [Ec (s.foldl addS []),Dk (Ig (s.foldl addS []))]):=by
  refine F6 s (fun i (g:List SetR)=>[Ec g,Dk (Ig g),.i .i64 (i:Int)]) (fun i g r=> .yld 0 [Ec (r.foldl addS g),Dk (Ig (r.foldl addS g))]) (fun i g=>SetsIn g i) [] rfl ⟨B6 _,fun x hx=>by cases hx⟩ (by omega) (fun i g c r hd hi hc hI=> ?_) (fun g hI=> ?_)
  .left;refine⟨addS g c,?_,Bp5 hI c,rfl⟩;have hgl:=hI.len;have hilt:(i:Int)<(s.length:Int):=by omega
   cases hg:g.getLast? with
   |none=>
    have hg0:g=[]:=List.getLast?_eq_none_iff.1 hg;subst hg0;have k:=f4 ⟨c.name,c.typ,c.ttl,[]⟩ [⟨c.name,c.typ,c.ttl,[]⟩] c s i (B9 l) (Ec []) (Dk (Ig [])) [] N hc rfl (by simp) (by simp) (by omega) rfl;have e1:(([⟨c.name,c.typ,c.ttl,[]⟩]:List SetR).length:Int)=1:=rfl;have e2:([⟨c.name,c.typ,c.ttl,[]⟩]:List SetR).dropLast++[⟨c.name,c.typ,if c.ttl<c.ttl then c.ttl else c.ttl,[]++[c.data]⟩]=addS [] c:=by simp[addS]
    have e3:([]++[c.data]:List Dat)=Ig (addS [] c):=by simp[addS,Ig]
    rw[e1,e2,e3] at k;generalize addS [] c=G at*;generalize hC7:V0=C7 at*;simp(disch:=omega)only[Y4,hC7,hc,hilt,k,Ey,Ay,simprocAttr]
   |some x=>
    have hpos:0<g.length:=by cases g<;>simp at hg ⊢
    have hx:g[((g.length:Int) - 1).toNat]? =some x:=by rw[show ((g.length:Int) - 1).toNat=g.length - 1 by omega,<-Ix];exact hg
    have hxm:x∈g:=Nc hg;have hxd:=hI.each x hxm;have hn0:¬(g.length:Int)=0:=by omega
    have hld:Ig g=x.data:=by simp[Ig,hg]
    by_cases hk:x.name=c.name∧x.typ=c.typ
    .have k:=f4 x g c s i (B9 l) (Ec g) (Dk (Ig g)) x.data N hc hg (by omega) (by omega) (by omega) rfl;have e2:g.dropLast++[⟨x.name,x.typ,if c.ttl<x.ttl then c.ttl else x.ttl,x.data++[c.data]⟩]=addS g c:=by simp[addS,hg,hk]
     have e3:x.data++[c.data]=Ig (addS g c):=by rw[Mc,hg];simp[hk]
     rw[e2,e3,hld] at k;rw[hld];generalize addS g c=G at*;generalize hC7:V0=C7 at*;simp(disch:=omega)only[Y4,hC7,hc,hilt,hx,hn0,hk.1,hk.2,k,Ey,Ay,simprocAttr]
    .have k:=f4 ⟨c.name,c.typ,c.ttl,[]⟩ (g++[⟨c.name,c.typ,c.ttl,[]⟩]) c s i (B9 l) (Ec g) (Dk (Ig g)) [] N hc (by simp) (by simp;omega) (by simp) (by omega) rfl;have e1:((g++[⟨c.name,c.typ,c.ttl,[]⟩]:List SetR).length:Int)=(g.length:Int)+1:=by simp
     have e2:(g++[⟨c.name,c.typ,c.ttl,[]⟩]:List SetR).dropLast++[⟨c.name,c.typ,if c.ttl<c.ttl then c.ttl else c.ttl,[]++[c.data]⟩]=addS g c:=by simp[addS,hg,hk]
     have e3:([]++[c.data]:List Dat)=Ig (addS g c):=by rw[Mc,hg];simp[hk]
     rw[e1,e2,e3,hld] at k;rw[hld];generalize addS g c=G at*;generalize hC7:V0=C7 at*;by_cases h1:x.name=c.name
     .have h2:¬x.typ=c.typ:=fun h=>hk ⟨h1,h⟩;simp(disch:=omega)only[Y4,hC7,hc,hilt,hx,hn0,h1,h2,k,Ey,Ay,simprocAttr]
     .simp(disch:=omega)only[Y4,hC7,hc,hilt,hx,hn0,h1,k,Ey,Ay,simprocAttr]
  .simp(disch:=omega)only[Y4,Df,Ey,Ay,simprocAttr];simp[Out.goes]
 simp(disch:=omega)only[Y4,hs,key,Ey,Ay,simprocAttr]
 try simp[setsR,Cq1,hsd]
end Go.X.G
namespace Go.X
structure Begin where
 q:Ques
 zone:List UInt8
 hosts:List (List UInt8)
 addrs:List Adr
structure Actn where
 kind:Int
 n:Int
 odd:Bool
 m:Msg
 host:List UInt8
 addrs:List Adr
def u8r (x:Int):Prop:=0<=x∧x<=255
structure Begin.wf (b:Begin):Prop where
 q:b.q.wf
 zone:d4 b.zone
 hosts:b.hosts.length<=9223372036854775807∧∀h∈b.hosts,d4 h
 addrs:b.addrs.length<=9223372036854775807
structure Actn.wf (a:Actn):Prop where
 kind:u8r a.kind
 n:u8r a.n
 m:a.m.wf
 host:d4 a.host
 addrs:a.addrs.length<=9223372036854775807
def Begin.cells (b:Begin):List PV:=[.s b.q.name,.i .i64 b.q.typ,.s b.zone,Dy b.hosts,F1 b.addrs]
def Begin.pv (b:Begin):PV:= .a b.cells
def Actn.cells (a:Actn):List PV:=[.i .u8 a.kind,.i .u8 a.n,.b a.odd,.i .i64 a.m.id,.i .i64 a.m.op,.i .i64 a.m.code,.b a.m.resp,.b a.m.aa,.b a.m.tc,.b a.m.rd,.b a.m.ra,.b a.m.ad,.b a.m.cd,.b a.m.dok,.i .i64 a.m.size,.s a.m.q.name,.i .i64 a.m.q.typ,B9 a.m.ans,B9 a.m.auth,B9 a.m.ext,.s a.host,F1 a.addrs]
def Actn.pv (a:Actn):PV:= .a a.cells
def Dp6 {e:Sh} {D:Type} (W:D->Prop) (pv:D->PV) (hag:e.agg=true) (h1:∀ds,e.okC ds->∃x,W x∧PV.a ds=pv x) {cs:List PV} (h:(Sh.l e).okC cs):∃l:List D,l.length<=9223372036854775807∧(∀x∈l,W x)∧cs=[.l e.size (l.map pv)]:=by
 simp only[Sh.okC,hag,if_true] at h;obtain⟨xs,rfl,hl,hx⟩:=h;have go:∀xs:List PV,(∀x,x∈xs->∃ds,x= .a ds∧e.okC ds)->∃l:List D,(∀r∈l,W r)∧xs=l.map pv:=by
  intro xs
  induction xs with
  |nil=>exact fun _=>⟨[],fun r h=>(by cases h),rfl⟩
  |cons x xs ih=>
   intro hx;obtain⟨l,g1,rfl⟩:=ih (fun y hy=>hx y (Jx _ hy));obtain⟨ds,rfl,hd⟩:=hx x (Ir ..);obtain⟨r,hr,hpv⟩:=h1 ds hd;refine⟨r::l,fun y hy=> ?_,by rw[hpv];rfl⟩;rcases Ch.1 hy with rfl|hy
   .exact hr
   .exact g1 y hy
 obtain⟨l,g1,rfl⟩:=go xs hx;exact⟨l,by simpa [maxLen] using hl,g1,rfl⟩
open Go
structure Ask where
 zone:List UInt8
 keys:List Dat
 now:Int
 deriving DecidableEq
def Ask.cells (x:Ask):List PV:=[.s x.zone,Dk x.keys,.i .i64 x.now]
def Ask.pv (x:Ask):PV:= .a x.cells
structure Ask.wf (x:Ask):Prop where
 zone:d4 x.zone
 keys:∀d∈x.keys,d.wf
 now:Yf x.now
structure SetW (s:SetR):Prop where
 name:d4 s.name
 typ:Yf s.typ
 ttl:Yf s.ttl
 data:∀d∈s.data,d.wf
def Bj1 (x:Ask):C2 0 x.pv=some (.s x.zone):=rfl
def Bj0 (x:Ask):C2 1 x.pv=some (Dk x.keys):=rfl
def At9 (x:Ask):C2 2 x.pv=some (.i .i64 x.now):=rfl
def Ek7 (x:Ask):Pf 3 x.pv=some x.pv:=rfl
def Dm1 (x:Ask):J7 0 3 x.pv=some x.pv:=rfl
set_option linter.defProp false in
def Gq4:=(And.intro @Bj1 (And.intro @Bj0 (And.intro @At9 (And.intro @Ek7 @Dm1))))
def Ck9:Sh:= .st [.s,.l Ck8,.i .i64]
def Dp7 {cs:List PV} (h:(Sh.l Ck8).okC cs):∃l:List Dat,(∀d∈l,d.wf)∧cs=[Dk l]:=by obtain⟨l,_,h2,rfl⟩:=Dp6 (fun d:Dat=>d.wf) Dat.pv rfl (fun ds h=>by obtain⟨d,hd,rfl⟩:=Ct4 h;exact⟨d,hd,rfl⟩) h;exact⟨l,h2,rfl⟩
def Dp8 {p:PV} (h:Ck9.ok p):∃x:Ask,x.wf∧p=x.pv:=by obtain⟨ds,rfl,h⟩:∃ds,p= .a ds∧Ck9.okC ds:=h;obtain⟨a0,r0,rfl,h0,h⟩:=Eg (nz h);obtain⟨a1,r1,rfl,h1,h⟩:=Eg h;obtain⟨a2,r2,rfl,h2,h⟩:=Eg h;obtain rfl:=Qt h;obtain⟨x0,rfl,k0⟩:=Bq2 h0;obtain⟨x1,k1,rfl⟩:=Dp7 h1;obtain⟨x2,rfl,k2⟩:=Kc h2;exact⟨⟨x0,x1,x2⟩,⟨k0,k1,k2⟩,rfl⟩
end Go.X
namespace Go.X.G
open Go Go.X
def labK (n:List UInt8):List (List UInt8):=if(lbl n)[0]? =some [42] then(lbl n).drop 1 else lbl n
def Q2 (n:List UInt8):(labK n).length<=254:=by
 have:=G7 n;unfold labK;split
 .rw[C3];omega
 .exact this
def Bx2 (n:List UInt8) (b:Nat) (hb:b<=(labK n).length):(labK n).drop ((labK n).length - b)=(lbl n).drop ((lbl n).length - b):=by
 unfold labK at hb ⊢;split at hb
 .rename_i h;rw[if_pos h];rw[C3] at hb ⊢;rw[F9];have h1:=(Bn.1 h).1;congr 1;omega
 .rename_i h;rw[if_neg h]
def Cd3 (n:List UInt8):∀x∈labK n,Ih x=true:=fun x hx=>by
 unfold labK at hx;split at hx
 .exact H7 n x (F8 hx)
 .exact H7 n x hx
def Vv (n:List UInt8) (hn:n.length<=9223372036854775807):S xg 1 [.s n]=some [Dy (labK n)]:=by
 refine Gf5 (N:=1) rfl ?_;have k1:=Kq n hn;have hl:=G7 n;unfold labK;generalize lbl n=l at*;cases l with
 |nil=>simp(disch:=omega)only[Dz8,k1,Ax,simprocAttr];try simp
 |cons c r=>
  have hc:(c::r)[0]? =some c:=rfl;have hp:(0:Int)<((c::r).length:Int):=by rw[Cy];omega
  have hl1:(1:Int)<=((c::r).length:Int):=by rw[Cy];omega
  have ht:(c::r).take (c::r).length=c::r:=Ej;have hd:(c::r).drop 1=r:=rfl;by_cases h:c=[42]
  .rw[if_pos (by rw[hc,h])];have ls:J4 1 (Dy (c::r)) (.i .i64 1) (.i .i64 ((c::r).length:Int))=some (Dy r):=by have e:=Xx (c::r) .i64 .i64 1 ((c::r).length:Int) (by omega) hl1 (Ud _);rw[e,E4,ht];rfl
   rw[hd];generalize hg:c::r=l at*;simp(disch:=omega)only[Dz8,k1,hc,hp,h,ls,Ax,simprocAttr]
  .rw[if_neg (by rw[hc];simpa using h)];generalize hg:c::r=l at*;simp(disch:=omega)only[Dz8,k1,hc,hp,h,Ax,simprocAttr]
def y7 (n:List UInt8) (hn:n.length<=9223372036854775807):S az 1 [.s n]=some [.i .i64 ((labK n).length:Int)]:=by
 refine Fw9 (N:=1) rfl ?_;have k1:=Mr n hn;have hl:=G7 n;unfold labK;generalize lbl n=l at*;cases l with
 |nil=>simp(disch:=omega)only[Aj8,k1,Ax,simprocAttr];try simp
 |cons c r=>
  have hc:(c::r)[0]? =some c:=rfl;have hp:(0:Int)<((c::r).length:Int):=by rw[Cy];omega
  have hd:(((c::r).drop 1).length:Int)=((c::r).length:Int) - 1:=by rw[C3,Cy];omega
  by_cases h:c=[42]
  .rw[if_pos (by rw[hc,h]),hd];generalize hg:c::r=l at*;simp(disch:=omega)only[Aj8,k1,hc,hp,h,Ax,simprocAttr]
  .rw[if_neg (by rw[hc];simpa using h)];generalize hg:c::r=l at*;simp(disch:=omega)only[Aj8,k1,hc,hp,h,Ax,simprocAttr]
def joinL (l:List (List UInt8)):List UInt8×Int:=if l=[] then([46],0) else if vld (flat l)=true then(flat l,0) else([],2)
def Ob:∀(l:List (List UInt8)),(∀x∈l,Ih x=true)->(flat l).length<=64*l.length
 |[],_=>by simp[flat]
 |x::l,h=>by have h1:=H8 (h x (.head _));have h2:=Ob l fun y hy=>h y (.tail _ hy);simp only[flat,H1,Bp,Cy,Cm] at h2 ⊢;omega
def Cg6 {l:List (List UInt8)} (h:l≠[]):0<(flat l).length:=by
 cases l with
 |nil=>exact absurd rfl h
 |cons x r=>simp only[flat,H1,Bp,d9];omega
def Cd8 (l:List (List UInt8)) (hl:l.length<=255) (hw:∀x∈l,Ih x=true) (N:Nat) (hN:l.length<N):
  Dw1.ev S N [Dy l]=some (.yld 0 [.l 1 (bytesPV (flat l))]):=by
 refine Eb l (fun i=>[.i .i64 (i:Int),.l 1 (bytesPV (flat (l.take i)))]) (fun i r=> .yld 0 [.l 1 (bytesPV (flat l))]) rfl hN (fun i c r hd hi hc=> ?_) ?_
 .left;refine⟨?_,rfl⟩;have hlab:=hw c (Cq hc);have hc63:=H8 hlab;have hfl:=Ob (l.take i) fun x hx=>hw x (E3 hx);have htl:(l.take i).length<=255:=by rw[Ck];omega
  have e1:flat (l.take (i+1))=flat (l.take i)++c++[46]:=by rw[E2,hc];simp[flat]
  have g1:(bytesPV (flat (l.take i))).length<=64*255:=by rw[Gv];omega
  have g2:(bytesPV c).length<=63:=by rw[Gv];omega
  have g3:(bytesPV (flat (l.take i))++bytesPV c).length<=20000:=by rw[Bp];omega
  have hord:=Jb c (by omega);have e2:bytesPV (flat (l.take i))++bytesPV c++[.i .u8 46]=bytesPV (flat (l.take (i+1))):=by rw[e1];simp[bytesPV]
  have hb:Ub (.l 1 [.i .u8 46])=some (.s [46]):=Hb [46];rw[cq] at hlab;by_cases h42:c=[42]
  .subst h42;have hos:ord [42]=false:=by decide
   rw[hos] at hord;simp(disch:=omega)only[u4,hc,hord,hb,e2,Ax,simprocAttr]
  .have h1:ord c=true:=by simpa [h42] using hlab
   rw[h1] at hord;simp(disch:=omega)only[u4,hc,hord,hb,e2,Ax,simprocAttr]
 .have e:l.take l.length=l:=Ej;simp(disch:=omega)only[u4,e,Ax,simprocAttr]
  try simp[Out.goes]
def Cp2 (l:List (List UInt8)) (hl:l.length<=255) (hw:∀x∈l,Ih x=true):S Bv3 1 [Dy l]=some [.s (joinL l).1,.i .i64 (joinL l).2]:=by
 refine Gd8 (N:=300) rfl ?_;unfold joinL;by_cases h:l=[]
 .subst h;simp(disch:=omega)only[u4,Ax,simprocAttr]
  try simp
 .have hp:=Ct.2 h;have key:=Cd8 l hl hw 300 (by omega);have hfl:=Ob l hw;have hval:=C9 (flat l) (by omega);obtain⟨c,hc⟩:∃c,(flat l)[0]? =some c:=⟨_,B3 (Cg6 h)⟩;have e0:¬((l.length:Int)=0):=by omega
  have e1:¬(255<(l.length:Int)):=by omega
  rw[if_neg h];rcases Bs (vld (flat l)) with hv|hv
  .rw[hv] at hval;simp only[hv,if_true];simp(disch:=omega)only[u4,key,hval,hc,e0,e1,Ax,simprocAttr]
  .rw[hv] at hval;simp only[hv,B5,if_false];simp(disch:=omega)only[u4,key,hval,hc,e0,e1,Ax,simprocAttr]
def Cp1 (l:List (List UInt8)) (hl:l.length<=255) (hne:l≠[]) (hw:∀x∈l,Ih x=true):S Cz1 1 [Dy l]=some [.s (joinL l).1,.i .i64 (joinL l).2]:=by
 refine Gd2 (N:=300) rfl ?_;have key:Dv7.ev S 300 [Dy l]=some (.yld 0 []):=by
  refine Eb l (fun i=>[.i .i64 (i:Int)]) (fun _ _=> .yld 0 []) rfl (by omega) (fun i c r hd hi hc=> ?_) ?_
  .left;refine⟨?_,rfl⟩;have hlab:=hw c (Cq hc);have hc63:=H8 hlab;have k:=Vy c (by omega);rw[hlab] at k;simp(disch:=omega)only[Bt4,hc,k,Ax,simprocAttr]
  .simp(disch:=omega)only[Bt4,Ax,simprocAttr]
   try simp[Out.goes]
 have k1:=Dr2 l (by omega) (fun x hx=>by have:=H8 (hw x hx);omega);have hfl:=Ob l hw;have hj:jn l=flat l:=by unfold jn;rw[if_neg hne]
 rw[hj] at k1;have hval:=Kk (flat l) (by omega);have e1:¬(255<(l.length:Int)):=by omega
 unfold joinL;rw[if_neg hne];rcases Bs (vld (flat l)) with hv|hv
 .rw[hv] at hval;simp only[hv,if_true];simp(disch:=omega)only[Bt4,key,k1,hval,e1,Ax,simprocAttr]
 .rw[hv] at hval;simp only[hv,B5,if_false];simp(disch:=omega)only[Bt4,key,k1,hval,e1,Ax,simprocAttr]
def starK (n:List UInt8) (b:Nat):List (List UInt8):=[42]::(labK n).drop ((labK n).length - b)
def Rm (n:List UInt8) (b:Nat):∀x∈starK n b,Ih x=true:=fun x hx=>by
 unfold starK at hx;rcases Ch.1 hx with rfl|hx
 .decide
 .exact Cd3 n x (F8 hx)
def Rl (n:List UInt8) (b:Nat):(starK n b).length<=255:=by have:=Q2 n;unfold starK;rw[Cy,C3];omega
def ownK (n:List UInt8) (b:Int):List UInt8:=if b=((labK n).length:Int) then n else(joinL (starK n b.toNat)).1
def nv (n:List UInt8) (b:Int) (hn:n.length<=9223372036854775807):(ownK n b).length<=9223372036854775807:=by
 unfold ownK;split
 .exact hn
 .have h1:=Ob (starK n b.toNat) (Rm n _);have h2:=Rl n b.toNat;unfold joinL;split
  .simp
  .split
   .simp only;omega
   .simp
def Bh0 (l:List (List UInt8)) (b:Nat) (hb:b<=l.length) (hl:l.length<=1000):J4 1 (Dy l) (.i .i64 ((l.length:Int) - (b:Int))) (.i .i64 (l.length:Int))=some (Dy (l.drop (l.length - b))):=by have e:=Xx l .i64 .i64 ((l.length:Int) - (b:Int)) (l.length:Int) (by omega) (by omega) (Ud _);rw[e,E4,Ej,show ((l.length:Int) - (b:Int)).toNat=l.length - b by omega]
def t8 (l:List (List UInt8)) (hl:l.length<=1000):I1 1 (.l 1 [.s [42]]) (Dy l)=some (Dy ([42]::l)):=by have:=Pp 1 [.s [42]] (l.map .s) (by simp;omega);simpa [Dy] using this
def Cx3 (n:List UInt8) (b:Int) (hn:n.length<=9223372036854775807) (h0:0<=b) (h1:b<=((labK n).length:Int)):S p7 2 [.s n,.i .i64 b]=some [.s (ownK n b)]:=by
 refine Fc2 (N:=1) rfl ?_;have k1:=Vv n hn;have hl:=Q2 n;unfold ownK;by_cases h:b=((labK n).length:Int)
 .rw[if_pos h];simp(disch:=omega)only[Cs1,k1,h,Ax,simprocAttr]
 .rw[if_neg h];obtain⟨m,rfl⟩:∃m:Nat,b=(m:Int):=⟨b.toNat,by omega⟩;rw[E4];have ls:=Bh0 (labK n) m (by omega) (by omega);have hdl:((labK n).drop ((labK n).length - m)).length<=1000:=by rw[C3];omega
  have ap:=t8 _ hdl;have k2:=Cp2 (starK n m) (Rl n m) (Rm n m);have e:starK n m=[42]::(labK n).drop ((labK n).length - m):=rfl;rw[<-e] at ap;have hlt:K2 1 [.s [42]]=some (.l 1 [.s [42]]):=rfl;generalize joinL (starK n m)=j at*;generalize starK n m=st at*;generalize (labK n).drop ((labK n).length - m)=dr at*;generalize labK n=lk at*;simp(disch:=omega)only[Cs1,k1,k2,h,ls,ap,hlt,Ax,simprocAttr]
def L8 {s:SetR} (h:SetW s):∀r∈unsetR s,r.wf:=fun r hr=>by unfold unsetR at hr;obtain⟨d,hd,rfl⟩:=Bs9.1 hr;exact⟨h.name,h.typ,h.ttl,h.data d hd⟩
def f3 (s:SetR):Bool:=decide (1<=s.data.length) && decide (s.data.length<=64) && decide (s.typ≠46) && (unsetR s).all Yc
def fr (s:SetR) (h:SetW s) (hd:s.data.length<=1000000):S Bv6 1 [s.pv]=some [.b (f3 s)]:=by
 have k1:=Tf s hd;have hul:(unsetR s).length=s.data.length:=by unfold unsetR;rw[Gw]
 refine Gf6 (N:=s.data.length+1) rfl ?_;have key:Dw3.ev S (s.data.length+1) [s.pv,B9 (unsetR s)]=some (if(unsetR s).all Yc=true then .yld 0 [] else .ret [.b false]):=by
  refine Eb (unsetR s) (fun i=>[.i .i64 (i:Int)]) (fun i r=>if r.all Yc=true then .yld 0 [] else .ret [.b false]) rfl (by omega) (fun i c r hd hi hc=> ?_) ?_
  .have k:=Bp6 c (L8 h c (Cq hc));have hil:(i:Int)<((unsetR s).length:Int):=by omega
   rcases Bs (Yc c) with hv|hv
   .left;rw[hv] at k;refine⟨?_,by rw[Kr,hv,Ef7]⟩;simp(disch:=omega)only[ed,hc,hil,k,Ey,Ax,simprocAttr]
   .right;rw[hv] at k;rw[Kr,hv,Bool.false_and];simp(disch:=omega)only[ed,hc,hil,k,Ey,Ax,simprocAttr];simp[Out.goes]
  .simp(disch:=omega)only[ed,Df,Ey,Ax,simprocAttr];simp[Out.goes]
 unfold f3;by_cases h1:1<=s.data.length
 .have h1':¬(s.data.length:Int)<1:=by omega
  by_cases h2:s.data.length<=64
  .have h2':¬(64:Int)<(s.data.length:Int):=by omega
   by_cases h3:s.typ=46
   .simp(disch:=omega)only[ed,h1',h2',h3,Ey,Ax,simprocAttr]
    try simp
   .rcases Bs ((unsetR s).all Yc) with hv|hv<;>rw[hv] at key ⊢<;>simp(disch:=omega)only[ed,k1,key,h1',h2',h3,Ey,Ax,simprocAttr]<;>simp[h1,h2]
  .have h2':(64:Int)<(s.data.length:Int):=by omega
   simp(disch:=omega)only[ed,h1',h2',Ey,Ax,simprocAttr]
   try simp[h2]
 .have h1':(s.data.length:Int)<1:=by omega
  simp(disch:=omega)only[ed,h1',Ey,Ax,simprocAttr]
  try simp[h1]
def Wn (s:SetR) (h:SetW s) (hd:s.data.length<=1000000):S o3 1 [s.pv]=some [.b (f3 s)]:=by
 have k1:=Tg s hd;have hul:(unsetR s).length=s.data.length:=by unfold unsetR;rw[Gw]
 refine Fx0 (N:=s.data.length+1) rfl ?_;have key:Bb0.ev S (s.data.length+1) [s.pv,B9 (unsetR s)]=some (if(unsetR s).all Yc=true then .yld 0 [] else .ret [.b false]):=by
  refine Eb (unsetR s) (fun i=>[.i .i64 (i:Int)]) (fun i r=>if r.all Yc=true then .yld 0 [] else .ret [.b false]) rfl (by omega) (fun i c r hd hi hc=> ?_) ?_
  .have k:=Bp8 c (L8 h c (Cq hc));have hil:(i:Int)<((unsetR s).length:Int):=by omega
   rcases Bs (Yc c) with hv|hv
   .left;rw[hv] at k;refine⟨?_,by rw[Kr,hv,Ef7]⟩;simp(disch:=omega)only[Rq,hc,hil,k,Ey,Ax,simprocAttr]
   .right;rw[hv] at k;rw[Kr,hv,Bool.false_and];simp(disch:=omega)only[Rq,hc,hil,k,Ey,Ax,simprocAttr];simp[Out.goes]
  .simp(disch:=omega)only[Rq,Df,Ey,Ax,simprocAttr];simp[Out.goes]
 unfold f3;by_cases h1:1<=s.data.length
 .have h1':¬(s.data.length:Int)<1:=by omega
  by_cases h2:s.data.length<=64
  .have h2':¬(64:Int)<(s.data.length:Int):=by omega
   by_cases h3:s.typ=46
   .simp(disch:=omega)only[Rq,h1',h2',h3,Ey,Ax,simprocAttr]
    try simp
   .rcases Bs ((unsetR s).all Yc) with hv|hv<;>rw[hv] at key ⊢<;>simp(disch:=omega)only[Rq,k1,key,h1',h2',h3,Ey,Ax,simprocAttr]<;>simp[h1,h2]
  .have h2':(64:Int)<(s.data.length:Int):=by omega
   simp(disch:=omega)only[Rq,h1',h2',Ey,Ax,simprocAttr]
   try simp[h2]
 .have h1':(s.data.length:Int)<1:=by omega
  simp(disch:=omega)only[Rq,h1',Ey,Ax,simprocAttr]
  try simp[h1]
def Hc {t:Int} {d:Dat} (h:Ex t d=true):(wireD t d).length<=50000:=by
 have hn:=M7 h;have h1:=H3 d.host;have h2:=H3 d.mail;have h3:=Q6 d.bits;have h4:=hn.text;have h5:(Ms d).length<=16:=by unfold Ms;split<;>simp[Ds]
 unfold wireD
 repeat' split
 all_goals try simp only[Bp,Ds,Cm]
 all_goals omega
def Zq (d:Dat):∃x,wireD 46 d=x++d.text∧0<x.length:=by refine⟨be d.a 2++be 253 1++be d.b 1++be d.c 4++be d.d 4++be d.e 4++be d.f 2++wireN d.host,rfl,?_⟩;simp only[Bp,Ds];omega
def Qd (s:SetR) (g:Dat):List UInt8:=wireN (ownK s.name g.b)++be s.typ 2++be 1 2++be g.c 4
def Qz (h:List UInt8) (r:Rec):List UInt8:=h++be ((wireD r.typ r.data).length:Int) 2++wireD r.typ r.data
def preK (g:Dat):List UInt8:=(wireD 46 g).take ((wireD 46 g).length - g.text.length)
def bodyK (s:SetR) (g:Dat):List UInt8:=preK g++(sortR (unsetR s)).flatMap (Qz (Qd s g))
def signedM (s:SetR) (g:Dat):List UInt8×Int:=
 if Ex 46 g=false∨f3 s=false then([],5)
 else if g.a≠s.typ∨((labK s.name).length:Int)<g.b then([],1)
 else(bodyK s g,0)
def Cw2 (g:Dat):0<(preK g).length:=by obtain⟨x,hx,hp⟩:=Zq g;unfold preK;rw[hx,Bp,Gq6,z0];exact hp
def S2 (s:SetR) (g:Dat):(Qd s g).length<=20008:=by have:=H3 (ownK s.name g.b);unfold Qd;simp only[Bp,Ds];omega
def Rr {h:List UInt8} {r:Rec} (hh:h.length<=20008) (hv:Ex r.typ r.data=true):(Qz h r).length<=70010:=by have:=Hc hv;unfold Qz;simp only[Bp,Ds];omega
def O8 {s:SetR} (h:f3 s=true):1<=s.data.length∧s.data.length<=64∧∀r∈unsetR s,Yc r=true:=by unfold f3 at h;simp only[B0,decide_eq_true_eq,Dc] at h;exact⟨h.1.1.1,h.1.1.2,h.2⟩
def Aq4 {r:Rec} (h:Yc r=true):Ex r.typ r.data=true:=by unfold Yc at h;simp only[B0] at h;exact h.2
def Fm0 {t:Int} (h:knw t=true):0<=t:=by unfold knw at h;simp only[Cv,decide_eq_true_eq] at h;omega
def Ag5 {s:SetR} (h:f3 s=true):0<=s.typ:=by
 obtain⟨h1,_,h3⟩:=O8 h;cases hd:s.data with
 |nil=>rw[hd] at h1;simp at h1
 |cons d r=>
  have:=h3 ⟨s.name,s.typ,s.ttl,d⟩ (by unfold unsetR;rw[hd];exact .head _);unfold Yc at this;simp only[B0] at this;exact Fm0 this.1.1.1.2
def Nn {w t:List UInt8} (h:t.length<=w.length):vq (.s w) (.i .i64 0) (.i .i64 ((w.length:Int) - (t.length:Int)))=some (.s (w.take (w.length - t.length))):=by rw[Fj2 w .i64 .i64 0 _ (by omega) (by omega) (by omega),show ((w.length:Int) - (t.length:Int)).toNat=w.length - t.length by omega];rfl
def Ot (a b:List UInt8) (h:a.length+b.length<=1073741824):I1 1 (.l 1 (bytesPV a)) (.l 1 (bytesPV b))=some (.l 1 (bytesPV (a++b))):=by have:=Pp 1 (bytesPV a) (bytesPV b) (by rw[Gv,Gv];exact h);rw[this];simp[bytesPV]
def V4 (b:List UInt8) (h:b.length<=1073741824):I1 1 (Dy []) (.l 1 (bytesPV b))=some (.l 1 (bytesPV b)):=by have:=Ot [] b (by simpa using h);simpa [bytesPV,Dy] using this
def fg {s:SetR} {r:Rec} (h:r∈sortR (unsetR s)):r∈unsetR s:=(((O7 (unsetR s)).2 r).1 h).mem
def Ag1 (s:SetR) (g:Dat) (hw:SetW s) (hg:Ex 46 g=true) (hs:f3 s=true) (p4 p5 p6 p11:PV) (w1 w2 w3 w4:List UInt8) (hh:Qd s g=w1++w2++w3++w4) (h1:w1.length<=20000) (h2:w2.length=2) (h3:w3.length=2) (h4:w4.length=4) (N:Nat) (hN:70<N):
  Dw2.ev S N [s.pv,g.pv,.s (wireD 46 g),.i .i64 0,p4,p5,p6,.s w1,.s w2,.s w3,.s w4,p11,B9 (sortR (unsetR s))]=some (.yld 0 [.l 1 (bytesPV (bodyK s g))]):=by
 obtain⟨_,hsl,hall⟩:=O8 hs;have hul:(unsetR s).length=s.data.length:=by unfold unsetR;rw[Gw]
 have hrl:=Kz (unsetR s);have hwl:=Hc hg;have htl:g.text.length<=(wireD 46 g).length:=by obtain⟨x,hx,_⟩:=Zq g;rw[hx,Bp];omega
 have hpl:(preK g).length<=50000:=by unfold preK;rw[Ck];omega
 have ht:=Nn htl;have hp0:=V4 (preK g) (by omega);have e0:(wireD 46 g).take ((wireD 46 g).length - g.text.length)=preK g:=rfl;rw[e0] at ht;unfold bodyK;have hmem:∀r∈sortR (unsetR s),r∈unsetR s:=fun r hr=>fg hr;generalize sortR (unsetR s)=L at*;refine F6 L (fun i (b:List UInt8)=>[.i .i64 (i:Int),.l 1 (bytesPV b)]) (fun _ b r=> .yld 0 [.l 1 (bytesPV (b++r.flatMap (Qz (Qd s g))))]) (fun i b=>b.length<=70010*(i+1)) (preK g) ?_ (by omega) (by omega) (fun i b c r hd hi hc hI=> ?_) (fun b _=> ?_)
 .generalize preK g=pk at*;generalize wireD 46 g=wd at*;simp(disch:=omega)only[ht,hp0,Ey,Ax,simprocAttr]
  try simp
 .left;have hil:(i:Int)<(L.length:Int):=by omega
  have hcm:=hmem c (Cq hc);have hcw:=L8 hw c hcm;have hcv:=Aq4 (hall c hcm);have k1:=Mn c.typ c.data hcw.data;rw[if_pos hcv] at k1;have hdl:=Hc hcv;have k2:=Xj ((wireD c.typ c.data).length:Int) 2 (by omega) (by omega) (by omega);have h22:((2:Nat):Int)=2:=rfl;rw[h22] at k2;have hbl:=Ds ((wireD c.typ c.data).length:Int) 2;refine⟨b++Qz (Qd s g) c,?_,?_,by simp⟩
  .have e:b++Qz (Qd s g) c=b++(w1++w2++w3++w4)++be ((wireD c.typ c.data).length:Int) 2++wireD c.typ c.data:=by unfold Qz;rw[hh];simp
   rw[e];have a1:=Ot b (w1++w2++w3++w4) (by simp only[Bp];omega);have a2:=Ot (b++(w1++w2++w3++w4)) (be ((wireD c.typ c.data).length:Int) 2) (by simp only[Bp];omega);have a3:=Ot (b++(w1++w2++w3++w4)++be ((wireD c.typ c.data).length:Int) 2) (wireD c.typ c.data) (by simp only[Bp];omega);have l1:(w1++w2).length<=20002:=by rw[Bp];omega
   have l2:(w1++w2++w3).length<=20004:=by rw[Bp];omega
   have l3:(w1++w2++w3++w4).length<=20008:=by rw[Bp];omega
   generalize be ((wireD c.typ c.data).length:Int) 2=nb at*;generalize wireD c.typ c.data=wd at*;simp(disch:=omega)only[ez,hc,hil,k1,k2,a1,a2,a3,Ey,Ax,simprocAttr]
  .have:=Rr (S2 s g) hcv;rw[Bp];omega
 .simp(disch:=omega)only[ez,Df,Ey,Ax,simprocAttr];simp[Out.goes]
def Db8 {g:Dat} (h:Ex 46 g=true):0<=g.b∧0<=g.c∧g.text.length<=255:=⟨(M7 h).b,(M7 h).c,(M7 h).text⟩
def tp {s:SetR} {g:Dat} (hg:Ex 46 g=true) (hs:f3 s=true):(bodyK s g).length<=10000000∧0<(bodyK s g).length:=by
 obtain⟨_,hsl,hall⟩:=O8 hs;have hul:(unsetR s).length=s.data.length:=by unfold unsetR;rw[Gw]
 have hrl:=Kz (unsetR s);have hwl:=Hc hg;have hpl:(preK g).length<=50000:=by unfold preK;rw[Ck];omega
 have hpp:=Cw2 g;have hf:∀l:List Rec,(∀r∈l,Ex r.typ r.data=true)->(l.flatMap (Qz (Qd s g))).length<=70010*l.length:=by
  intro l
  induction l with
  |nil=>intro _;simp
  |cons r l ih=>
   intro h;have h1:=Rr (S2 s g) (h r (.head _));have h2:=ih fun x hx=>h x (.tail _ hx);rw[H1,Bp,Cy];omega
 have:=hf (sortR (unsetR s)) fun r hr=>Aq4 (hall r (fg hr));unfold bodyK;rw[Bp];omega
def zd (s:SetR) (g:Dat) (hw:SetW s) (hgw:g.wf) (hd:s.data.length<=1000000):S Bv4 2 [s.pv,g.pv]=some [.s (signedM s g).1,.i .i64 (signedM s g).2]:=by
 have k1:=Mn 46 g hgw;have k2:=fr s hw hd;have k3:=Vv s.name hw.name;have hlk:=Q2 s.name;unfold signedM;refine Gf3 (N:=100) rfl ?_;rcases Bs (Ex 46 g) with hg|hg
 .rw[if_pos hg] at k1;rcases Bs (f3 s) with hs|hs
  .rw[hs] at k2;rw[if_neg (by simp[hg,hs])];by_cases ha:g.a=s.typ
   .by_cases hb:((labK s.name).length:Int)<g.b
    .rw[if_pos (.inr hb)];generalize wireD 46 g=wd at*;generalize labK s.name=lk at*;simp(disch:=omega)only[ez,k1,k2,k3,ha,hb,Ey,Ax,simprocAttr]
    .rw[if_neg (fun q=>q.elim (fun q=>q ha) hb)];obtain⟨hb0,hc0,_⟩:=Db8 hg;obtain⟨_,hsl,hall⟩:=O8 hs;have hul:(unsetR s).length=s.data.length:=by unfold unsetR;rw[Gw]
     have k4:=Cx3 s.name g.b hw.name hb0 (by omega);have k5:=Bt9 (ownK s.name g.b) (nv s.name g.b hw.name);have k6:=Xj s.typ 2 (by omega) (Ag5 hs) hw.typ.2;have k7:=Xj 1 2 (by omega) (by omega) (by omega);have k8:=Xj g.c 4 (by omega) hc0 hgw.c.2;have k9:=Tf s hd;have k10:=uh (unsetR s) (L8 hw) (by omega);have c2:((2:Nat):Int)=2:=rfl;have c4:((4:Nat):Int)=4:=rfl;rw[c2] at k6 k7;rw[c4] at k8;have n1:=H3 (ownK s.name g.b);have n2:=Ds s.typ 2;have n3:=Ds 1 2;have n4:=Ds g.c 4;have key:=fun p4 p5 p6 p11=>Ag1 s g hw hg hs p4 p5 p6 p11 _ _ _ _ rfl n1 n2 n3 n4 100 (by omega);have l1:(wireN (ownK s.name g.b)++be s.typ 2).length<=20002:=by rw[Bp];omega
     have l2:(wireN (ownK s.name g.b)++be s.typ 2++be 1 2).length<=20004:=by rw[Bp];omega
     obtain⟨hbl,hbp⟩:=tp hg hs;have hwl:=Hc hg;have htl:g.text.length<=(wireD 46 g).length:=by obtain⟨x,hx,_⟩:=Zq g;rw[hx,Bp];omega
     have ht:=Nn htl;have hp0:=V4 ((wireD 46 g).take ((wireD 46 g).length - g.text.length)) (by rw[Ck];omega);have htk:((wireD 46 g).take ((wireD 46 g).length - g.text.length)).length<=50000:=by rw[Ck];omega
     obtain⟨c0,hc00⟩:∃c0,(bodyK s g)[0]? =some c0:=⟨_,B3 hbp⟩;generalize bodyK s g=bd at*;generalize (wireD 46 g).take ((wireD 46 g).length - g.text.length)=tk at*;generalize wireD 46 g=wd at*;generalize sortR (unsetR s)=sr at*;generalize unsetR s=us at*;generalize be s.typ 2=b2 at*;generalize be 1 2=b3 at*;generalize be g.c 4=b4 at*;generalize wireN (ownK s.name g.b)=b1 at*;generalize ownK s.name g.b=ow at*;generalize labK s.name=lk at*;simp(disch:=omega)only[ez,k1,k2,k3,k4,k5,k6,k7,k8,k9,k10,key,ha,hb,ht,hp0,hc00,Ey,Ax,simprocAttr]
   .rw[if_pos (.inl ha)];generalize wireD 46 g=wd at*;simp(disch:=omega)only[ez,k1,k2,ha,Ey,Ax,simprocAttr]
  .rw[hs] at k2;rw[if_pos (.inr hs)];generalize wireD 46 g=wd at*;simp(disch:=omega)only[ez,k1,k2,Ey,Ax,simprocAttr]
 .rw[if_pos (.inl hg)];rw[if_neg (by simp[hg]),if_pos (by decide)] at k1;simp(disch:=omega)only[ez,k1,Ey,Ax,simprocAttr]
def fp (s:SetR) (g:Dat) (hw:SetW s) (hgw:g.wf) (hg:Ex 46 g=true) (hs:f3 s=true) (p2 p3 p4 p5 p8 p9:PV) (hown:(ownK s.name g.b).length<=9223372036854775807) (N:Nat) (hN:70<N):
  Bc0.ev S N [s.pv,g.pv,p2,p3,p4,p5,.s (ownK s.name g.b),.s (wireD 46 g),p8,p9,B9 (sortR (unsetR s))]=some (.yld 0 [.s (bodyK s g)]):=by
 obtain⟨_,hsl,hall⟩:=O8 hs;obtain⟨hb0,hc0,_⟩:=Db8 hg;have hul:(unsetR s).length=s.data.length:=by unfold unsetR;rw[Gw]
 have hrl:=Kz (unsetR s);have hwl:=Hc hg;have htl:g.text.length<=(wireD 46 g).length:=by obtain⟨x,hx,_⟩:=Zq g;rw[hx,Bp];omega
 have hpl:(preK g).length<=50000:=by unfold preK;rw[Ck];omega
 have ht:=Nn htl;have e0:(wireD 46 g).take ((wireD 46 g).length - g.text.length)=preK g:=rfl;rw[e0] at ht;have k3:=Aq1 (ownK s.name g.b) hown;have k6:=Mh s.typ 2 (by omega) (Ag5 hs) hw.typ.2;have k7:=Mh 1 2 (by omega) (by omega) (by omega);have k8:=Mh g.c 4 (by omega) hc0 hgw.c.2;have c2:((2:Nat):Int)=2:=rfl;have c4:((4:Nat):Int)=4:=rfl;rw[c2] at k6 k7;rw[c4] at k8;have n1:=H3 (ownK s.name g.b);have n2:=Ds s.typ 2;have n3:=Ds 1 2;have n4:=Ds g.c 4;unfold bodyK;have hmem:∀r∈sortR (unsetR s),r∈unsetR s:=fun r hr=>fg hr;generalize sortR (unsetR s)=L at*;refine F6 L (fun i (b:List UInt8)=>[.s b,.i .i64 (i:Int)]) (fun _ b r=> .yld 0 [.s (b++r.flatMap (Qz (Qd s g)))]) (fun i b=>b.length<=70010*(i+1)) (preK g) ?_ (by omega) (by omega) (fun i b c r hd hi hc hI=> ?_) (fun b _=> ?_)
 .generalize preK g=pk at*;generalize wireD 46 g=wd at*;simp(disch:=omega)only[ht,Ey,Ax,simprocAttr]
  try simp
 .left;have hil:(i:Int)<(L.length:Int):=by omega
  have hcm:=hmem c (Cq hc);have hcw:=L8 hw c hcm;have hcv:=Aq4 (hall c hcm);have k1:=J2 c.typ c.data hcw.data;rw[if_pos hcv] at k1;have hdl:=Hc hcv;have k2:=Mh ((wireD c.typ c.data).length:Int) 2 (by omega) (by omega) (by omega);rw[c2] at k2;have hbl:=Ds ((wireD c.typ c.data).length:Int) 2;refine⟨b++Qz (Qd s g) c,?_,?_,by simp⟩
  .have e:b++Qz (Qd s g) c=b++wireN (ownK s.name g.b)++be s.typ 2++be 1 2++be g.c 4++be ((wireD c.typ c.data).length:Int) 2++wireD c.typ c.data:=by unfold Qz Qd;simp
   rw[e];generalize be ((wireD c.typ c.data).length:Int) 2=nb at*;generalize wireD c.typ c.data=wd at*;generalize be s.typ 2=b2 at*;generalize be 1 2=b3 at*;generalize be g.c 4=b4 at*;generalize wireN (ownK s.name g.b)=b1 at*;have l1:(b++b1).length<=5000000:=by rw[Bp];omega
   have l2:(b++b1++b2).length<=5000002:=by rw[Bp];omega
   have l3:(b++b1++b2++b3).length<=5000004:=by rw[Bp];omega
   have l4:(b++b1++b2++b3++b4).length<=5000008:=by rw[Bp];omega
   have l5:(b++b1++b2++b3++b4++nb).length<=5000010:=by rw[Bp];omega
   simp(disch:=omega)only[P0,hc,hil,k1,k2,k3,k6,k7,k8,Ey,Ax,simprocAttr]
  .have:=Rr (S2 s g) hcv;rw[Bp];omega
 .simp(disch:=omega)only[P0,Df,Ey,Ax,simprocAttr];simp[Out.goes]
def lv (s:SetR) (g:Dat) (hw:SetW s) (hgw:g.wf) (hd:s.data.length<=1000000):S pp 2 [s.pv,g.pv]=some [.s (signedM s g).1,.i .i64 (signedM s g).2]:=by
 have k1:=En 46 g hgw;have k1w:=J2 46 g hgw;have k2:=Wn s hw hd;have k3:=y7 s.name hw.name;have hlk:=Q2 s.name;unfold signedM;refine Fb6 (N:=100) rfl ?_;rcases Bs (Ex 46 g) with hg|hg
 .rw[hg] at k1;rw[if_pos hg] at k1w;rcases Bs (f3 s) with hs|hs
  .rw[hs] at k2;rw[if_neg (by simp[hg,hs])];by_cases ha:g.a=s.typ
   .by_cases hb:((labK s.name).length:Int)<g.b
    .rw[if_pos (.inr hb)];generalize wireD 46 g=wd at*;generalize (labK s.name).length=lk at*;simp(disch:=omega)only[P0,k1,k2,k3,ha,hb,Ey,Ax,simprocAttr]
    .rw[if_neg (fun q=>q.elim (fun q=>q ha) hb)];obtain⟨hb0,hc0,_⟩:=Db8 hg;obtain⟨_,hsl,hall⟩:=O8 hs;have hul:(unsetR s).length=s.data.length:=by unfold unsetR;rw[Gw]
     have hown:=nv s.name g.b hw.name;have k9:=Tg s hd;have k10:=ul (unsetR s) (L8 hw) (by omega);have key:=fun p2 p3 p4 p5 p8 p9=>fp s g hw hgw hg hs p2 p3 p4 p5 p8 p9 hown 100 (by omega);have hwl:=Hc hg;have htl:g.text.length<=(wireD 46 g).length:=by obtain⟨x,hx,_⟩:=Zq g;rw[hx,Bp];omega
     have ht:=Nn htl;by_cases hbl:g.b=((labK s.name).length:Int)
     .have ho:ownK s.name g.b=s.name:=by unfold ownK;rw[if_pos hbl]
      rw[ho] at key;have hbl':((labK s.name).length:Int)=g.b:=hbl.symm;rw[hbl'] at k3;generalize (wireD 46 g).take ((wireD 46 g).length - g.text.length)=tk at*;generalize bodyK s g=bd at*;generalize wireD 46 g=wd at*;generalize sortR (unsetR s)=sr at*;generalize unsetR s=us at*;simp(disch:=omega)only[P0,k1,k1w,k2,k3,k9,k10,key,ha,ht,Df,Ey,Ax,simprocAttr]
     .have k4:=Mr s.name hw.name;have hll:=G7 s.name;obtain⟨m,hm⟩:∃m:Nat,g.b=(m:Int):=⟨g.b.toNat,by omega⟩;have hlab:(labK s.name).length<=(lbl s.name).length:=by
       unfold labK;split
       .rw[C3];omega
       .exact B6 _
      have ls:=Bh0 (lbl s.name) m (by omega) (by omega);rw[<-Bx2 s.name m (by omega),<-hm] at ls;have hdl:((labK s.name).drop ((labK s.name).length - m)).length<=1000:=by rw[C3];omega
      have ap:=t8 _ hdl;have k5:=Cp1 (starK s.name m) (Rl s.name m) (by unfold starK;simp) (Rm s.name m);have e:starK s.name m=[42]::(labK s.name).drop ((labK s.name).length - m):=rfl;rw[<-e] at ap;have ho:ownK s.name g.b=(joinL (starK s.name m)).1:=by unfold ownK;rw[if_neg hbl,hm,E4]
      rw[ho] at key;have hlt:K2 1 [.s [42]]=some (.l 1 [.s [42]]):=rfl;have hbl':¬((labK s.name).length:Int)=g.b:=fun q=>hbl q.symm;generalize joinL (starK s.name m)=j at*;generalize starK s.name m=st at*;generalize (labK s.name).drop ((labK s.name).length - m)=dr at*;generalize lbl s.name=lb at*;generalize (labK s.name).length=lk at*;generalize (wireD 46 g).take ((wireD 46 g).length - g.text.length)=tk at*;generalize bodyK s g=bd at*;generalize wireD 46 g=wd at*;generalize sortR (unsetR s)=sr at*;generalize unsetR s=us at*;simp(disch:=omega)only[P0,k1,k1w,k2,k3,k4,k5,k9,k10,key,ha,hb,hbl',ht,ls,ap,hlt,Ey,Ax,simprocAttr]
   .rw[if_pos (.inl ha)];simp(disch:=omega)only[P0,k1,k2,ha,Ey,Ax,simprocAttr]
  .rw[hs] at k2;rw[if_pos (.inr hs)];simp(disch:=omega)only[P0,k1,k2,Ey,Ax,simprocAttr]
 .rw[hg] at k1;rw[if_pos (.inl hg)];simp(disch:=omega)only[P0,k1,Ey,Ax,simprocAttr]
def tagK (d:Dat):Int:=if Ex 48 d=true then tagM (wireD 48 d) else 0
def Ed0 (d:Dat) (h:d.wf):S Bv5 1 [d.pv]=some [.i .i64 (tagK d)]:=by
 have k1:=Mn 48 d h;unfold tagK;refine Gf4 (N:=1) rfl ?_;rcases Bs (Ex 48 d) with hv|hv
 .have hl:=Hc hv;have k2:=Br2 (wireD 48 d) (by omega);rw[if_pos hv] at k1 ⊢;generalize wireD 48 d=w at*;simp(disch:=omega)only[Eg0,k1,k2,Ax,simprocAttr]
 .rw[if_neg (by simp[hv]),if_pos (by decide)] at k1;rw[if_neg (by simp[hv])];simp(disch:=omega)only[Eg0,k1,Ax,simprocAttr]
def ug (d:Dat) (h:d.wf):S bf 1 [d.pv]=some [.i .i64 (tagK d)]:=by
 have k0:=En 48 d h;have k1:=J2 48 d h;unfold tagK;refine Fb8 (N:=1) rfl ?_;rcases Bs (Ex 48 d) with hv|hv
 .have hl:=Hc hv;have k2:=Cn3 (wireD 48 d) (by omega);rw[hv] at k0;rw[if_pos hv] at k1 ⊢;generalize wireD 48 d=w at*;simp(disch:=omega)only[Cs0,k0,k1,k2,Ax,simprocAttr]
 .rw[hv] at k0;rw[if_neg (by simp[hv])];simp(disch:=omega)only[Cs0,k0,Ax,simprocAttr]
def Cj1 (zone:List UInt8) (key:Dat) (s:SetR) (g:Dat) (now:Int):Int:=
 if g.host≠zone∨under s.name zone=false∨g.f≠tagK key then 18
 else if Ex 48 key=false then 5
 else if(signedM s g).2≠0 then(signedM s g).2
 else if now<g.e∨g.d<now then 20
 else if g.text≠macM key.text (signedM s g).1 then 19
 else 0
def Ut (s:SetR) (g:Dat):(signedM s g).1.length<=10000000:=by
 unfold signedM;split
 .simp
 .rename_i h;split
  .simp
  .have hg:Ex 46 g=true:=by
    rcases Bs (Ex 46 g) with q|q
    .exact q
    .exact absurd (.inl q) h
   have hs:f3 s=true:=by
    rcases Bs (f3 s) with q|q
    .exact q
    .exact absurd (.inr q) h
   exact(tp hg hs).1
def zc (zone:List UInt8) (key:Dat) (s:SetR) (g:Dat) (now:Int) (hz:zone.length<=9223372036854775807) (hk:key.wf) (hw:SetW s) (hgw:g.wf) (hd:s.data.length<=1000000):
  S Cz4 5 [.s zone,key.pv,s.pv,g.pv,.i .i64 now]=some [.i .i64 (Cj1 zone key s g now)]:=by
 have k1:=Br0 s.name zone hw.name hz;have k2:=Ed0 key hk;have k3:=Pv 48 key hk;have k4:=zd s g hw hgw hd;have hsl:=Ut s g;unfold Cj1;refine Gf1 (N:=1) rfl ?_;generalize tagK key=tk at*;by_cases h1:g.host=zone
 .rcases Bs (under s.name zone) with h2|h2
  .rw[h2] at k1;by_cases h3:g.f=tk
   .rw[if_neg (by simp[h1,h2,h3])];rcases Bs (Ex 48 key) with h4|h4
    .have h4t:key.text.length<=255:=(M7 h4).text;have k5:=Br6 key.text (signedM s g).1 (by omega) (by omega);rw[h4] at k3;rw[if_neg (by simp[h4])];generalize macM key.text (signedM s g).1=mm at*;generalize signedM s g=sm at*;by_cases h5:sm.2=0
     .rw[if_neg (by simp[h5])];by_cases h6:now<g.e
      .rw[if_pos (.inl h6)];simp(disch:=omega)only[Wq,k1,k2,k3,k4,h1,h3,h5,h6,Ey,Ax,simprocAttr]
      .by_cases h7:g.d<now
       .rw[if_pos (.inr h7)];simp(disch:=omega)only[Wq,k1,k2,k3,k4,h1,h3,h5,h6,h7,Ey,Ax,simprocAttr]
       .rw[if_neg (fun q=>q.elim h6 h7)];by_cases h8:g.text=mm
        .rw[if_neg (by simp[h8])];simp(disch:=omega)only[Wq,k1,k2,k3,k4,k5,h1,h3,h5,h6,h7,h8,Ey,Ax,simprocAttr]
        .rw[if_pos h8];simp(disch:=omega)only[Wq,k1,k2,k3,k4,k5,h1,h3,h5,h6,h7,h8,Ey,Ax,simprocAttr]
     .rw[if_pos h5];simp(disch:=omega)only[Wq,k1,k2,k3,k4,h1,h3,h5,Ey,Ax,simprocAttr]
    .rw[h4] at k3;rw[if_pos h4];simp(disch:=omega)only[Wq,k1,k2,k3,h1,h3,Ey,Ax,simprocAttr]
   .rw[if_pos (.inr (.inr h3))];simp(disch:=omega)only[Wq,k1,k2,h1,h3,Ey,Ax,simprocAttr]
  .rw[h2] at k1;rw[if_pos (.inr (.inl h2))];simp(disch:=omega)only[Wq,k1,h1,Ey,Ax,simprocAttr]
 .rw[if_pos (.inl h1)];simp(disch:=omega)only[Wq,h1,Ey,Ax,simprocAttr]
def lq (zone:List UInt8) (key:Dat) (s:SetR) (g:Dat) (now:Int) (hz:zone.length<=9223372036854775807) (hk:key.wf) (hw:SetW s) (hgw:g.wf) (hd:s.data.length<=1000000):
  S Cz3 5 [.s zone,key.pv,s.pv,g.pv,.i .i64 now]=some [.i .i64 (Cj1 zone key s g now)]:=by
 have k1:=Br1 s.name zone hw.name hz;have k2:=ug key hk;have k3:=En 48 key hk;have k4:=lv s g hw hgw hd;have hsl:=Ut s g;unfold Cj1;refine Gf0 (N:=1) rfl ?_;generalize tagK key=tk at*;by_cases h1:g.host=zone
 .rcases Bs (under s.name zone) with h2|h2
  .rw[h2] at k1;by_cases h3:g.f=tk
   .rw[if_neg (by simp[h1,h2,h3])];rcases Bs (Ex 48 key) with h4|h4
    .have h4t:key.text.length<=255:=(M7 h4).text;have k5:=um key.text (signedM s g).1 (by omega) (by omega);rw[h4] at k3;rw[if_neg (by simp[h4])];generalize macM key.text (signedM s g).1=mm at*;generalize signedM s g=sm at*;by_cases h5:sm.2=0
     .rw[if_neg (by simp[h5])];by_cases h6:now<g.e
      .rw[if_pos (.inl h6)];simp(disch:=omega)only[Wk,k1,k2,k3,k4,h1,h3,h5,h6,Ey,Ax,simprocAttr]
      .by_cases h7:g.d<now
       .rw[if_pos (.inr h7)];simp(disch:=omega)only[Wk,k1,k2,k3,k4,h1,h3,h5,h6,h7,Ey,Ax,simprocAttr]
       .rw[if_neg (fun q=>q.elim h6 h7)];by_cases h8:g.text=mm
        .rw[if_neg (by simp[h8])];simp(disch:=omega)only[Wk,k1,k2,k3,k4,k5,h1,h3,h5,h6,h7,h8,Ey,Ax,simprocAttr]
        .rw[if_pos h8];simp(disch:=omega)only[Wk,k1,k2,k3,k4,k5,h1,h3,h5,h6,h7,h8,Ey,Ax,simprocAttr]
     .rw[if_pos h5];simp(disch:=omega)only[Wk,k1,k2,k3,k4,h1,h3,h5,Ey,Ax,simprocAttr]
    .rw[h4] at k3;rw[if_pos h4];simp(disch:=omega)only[Wk,k1,k2,k3,h1,h3,Ey,Ax,simprocAttr]
   .rw[if_pos (.inr (.inr h3))];simp(disch:=omega)only[Wk,k1,k2,h1,h3,Ey,Ax,simprocAttr]
  .rw[h2] at k1;rw[if_pos (.inr (.inl h2))];simp(disch:=omega)only[Wk,k1,h1,Ey,Ax,simprocAttr]
 .rw[if_pos (.inl h1)];simp(disch:=omega)only[Wk,h1,Ey,Ax,simprocAttr]
set_option maxRecDepth 100000 in
def zx:S Cb7 0 []=some [.b true]:=(Rt ext_mono).2 ⟨400,by kernel_rfl⟩
def Ed8 (s:SetR) (r:Rec):Bool:=decide (r.typ=46) && decide (r.name=s.name) && decide (r.data.a=s.typ)
def Bs3 (zone:List UInt8) (keys:List Dat) (s:SetR) (g:Dat) (now:Int):Bool:=keys.any fun k=>decide (Cj1 zone k s g now=0)
def Aq5 (zone:List UInt8) (keys:List Dat) (now:Int) (s:SetR) (r:Rec):Bool:=Ed8 s r && Bs3 zone keys s r.data now
def setM (zone:List UInt8) (keys:List Dat) (s:SetR) (l:List Rec) (now:Int):Int:=if l.any (Aq5 zone keys now s)=true then 1 else 3
structure AskOk (zone:List UInt8) (keys:List Dat):Prop where
 zoneL:zone.length<=9223372036854775807
 keysW:∀d∈keys,d.wf
 few:keys.length<=1000
def fk (zone:List UInt8) (keys:List Dat) (s:SetR) (r:Rec) (now:Int) (ha:AskOk zone keys) (hs:SetW s) (hd:s.data.length<=1000000) (hr:r.wf):
  S xl 5 [.s zone,Dk keys,s.pv,r.pv,.i .i64 now]=some [.b (Aq5 zone keys now s r)]:=by
 have hf:=ha.few;have key:Dx0.ev S (keys.length+1) [.s zone,Dk keys,s.pv,r.pv,.i .i64 now]=some (if Bs3 zone keys s r.data now=true then .ret [.b true] else .yld 0 []):=by
  unfold Bs3;refine Eb keys (fun i=>[.i .i64 (i:Int)]) (fun _ l=>if(l.any fun k=>decide (Cj1 zone k s r.data now=0))=true then .ret [.b true] else .yld 0 []) rfl (by omega) (fun i c l hd2 hi hc=> ?_) ?_
  .have k:=zc zone c s r.data now ha.zoneL (ha.keysW c (Cq hc)) hs hr.data hd;have hil:(i:Int)<(keys.length:Int):=by omega
   by_cases h:Cj1 zone c s r.data now=0
   .right;simp(disch:=omega)only[ep,hc,hil,k,h,Ey,Ax,simprocAttr];simp[h,Out.goes]
   .left;refine⟨?_,by simp[h]⟩;simp(disch:=omega)only[ep,hc,hil,k,h,Ey,Ax,simprocAttr]
  .simp(disch:=omega)only[ep,Df,Ey,Ax,simprocAttr];simp[Out.goes]
 refine Gg8 (N:=keys.length+1) rfl ?_;unfold Aq5 Ed8;by_cases h1:r.typ=46
 .by_cases h2:r.name=s.name
  .by_cases h3:r.data.a=s.typ
   .rcases Bs (Bs3 zone keys s r.data now) with hv|hv<;>rw[hv] at key ⊢<;>simp(disch:=omega)only[ep,key,h1,h2,h3,Ey,Ax,simprocAttr]<;>simp
   .simp(disch:=omega)only[ep,h1,h2,h3,Ey,Ax,simprocAttr]
    try simp[h3]
  .simp(disch:=omega)only[ep,h1,h2,Ey,Ax,simprocAttr]
   try simp[h2]
 .simp(disch:=omega)only[ep,h1,Ey,Ax,simprocAttr]
  try simp[h1]
def vv (s:SetR) (r:Rec):S Cb1 2 [r.pv,s.pv]=some [.b (Ed8 s r)]:=by
 refine Gg7 (N:=1) rfl ?_;unfold Ed8;by_cases h1:r.typ=46
 .by_cases h2:r.name=s.name
  .simp(disch:=omega)only[Db1,h1,h2,Ey,Ax,simprocAttr]
   try simp
  .simp(disch:=omega)only[Db1,h1,h2,Ey,Ax,simprocAttr]
   try simp[h2]
 .simp(disch:=omega)only[Db1,h1,Ey,Ax,simprocAttr]
  try simp[h1]
def Wy (zone:List UInt8) (keys:List Dat) (s:SetR) (g:Dat) (now:Int) (ha:AskOk zone keys) (hs:SetW s) (hd:s.data.length<=1000000) (hr:g.wf):
  S Cb0 5 [.s zone,Dk keys,s.pv,g.pv,.i .i64 now]=some [.b (Bs3 zone keys s g now)]:=by
 have hf:=ha.few;have key:Dw9.ev S (keys.length+1) [.s zone,Dk keys,s.pv,g.pv,.i .i64 now]=some (if Bs3 zone keys s g now=true then .ret [.b true] else .yld 0 []):=by
  unfold Bs3;refine Eb keys (fun i=>[.i .i64 (i:Int)]) (fun _ l=>if(l.any fun k=>decide (Cj1 zone k s g now=0))=true then .ret [.b true] else .yld 0 []) rfl (by omega) (fun i c l hd2 hi hc=> ?_) ?_
  .have k:=lq zone c s g now ha.zoneL (ha.keysW c (Cq hc)) hs hr hd;have hil:(i:Int)<(keys.length:Int):=by omega
   by_cases h:Cj1 zone c s g now=0
   .right;simp(disch:=omega)only[Bt6,hc,hil,k,h,Ey,Ax,simprocAttr];simp[h,Out.goes]
   .left;refine⟨?_,by simp[h]⟩;simp(disch:=omega)only[Bt6,hc,hil,k,h,Ey,Ax,simprocAttr]
  .simp(disch:=omega)only[Bt6,Df,Ey,Ax,simprocAttr];simp[Out.goes]
 refine Gg6 (N:=keys.length+1) rfl ?_;rcases Bs (Bs3 zone keys s g now) with hv|hv<;>rw[hv] at key ⊢<;>simp(disch:=omega)only[Bt6,key,Ey,Ax,simprocAttr]<;>simp
def Ed4 (zone:List UInt8) (keys:List Dat) (s:SetR) (l:List Rec) (now:Int) (ha:AskOk zone keys) (hs:SetW s) (hd:s.data.length<=1000000) (hw:∀r∈l,r.wf) (hl:l.length<=1000000):
  S xm 5 [.s zone,Dk keys,s.pv,B9 l,.i .i64 now]=some [.i .i64 (setM zone keys s l now)]:=by
 have key:Dx6.ev S (l.length+1) [.s zone,Dk keys,s.pv,B9 l,.i .i64 now]=some (if l.any (Aq5 zone keys now s)=true then .ret [.i .i64 1] else .yld 0 []):=by
  refine Eb l (fun i=>[.i .i64 (i:Int)]) (fun _ l=>if l.any (Aq5 zone keys now s)=true then .ret [.i .i64 1] else .yld 0 []) rfl (by omega) (fun i c r hd2 hi hc=> ?_) ?_
  .have k:=fk zone keys s c now ha hs hd (hw c (Cq hc));have hil:(i:Int)<(l.length:Int):=by omega
   rcases Bs (Aq5 zone keys now s c) with hv|hv
   .right;rw[hv] at k;simp(disch:=omega)only[Bt7,hc,hil,k,Ey,Ax,simprocAttr];simp[hv,Out.goes]
   .left;rw[hv] at k;refine⟨?_,by simp[hv]⟩;simp(disch:=omega)only[Bt7,hc,hil,k,Ey,Ax,simprocAttr]
  .simp(disch:=omega)only[Bt7,Df,Ey,Ax,simprocAttr];simp[Out.goes]
 refine Gh5 (N:=l.length+1) rfl ?_;unfold setM;rcases Bs (l.any (Aq5 zone keys now s)) with hv|hv<;>rw[hv] at key ⊢<;>simp(disch:=omega)only[Bt7,key,Ey,Ax,simprocAttr]<;>simp
def Cn9 (zone:List UInt8) (keys:List Dat) (s:SetR) (l:List Rec) (now:Int) (ha:AskOk zone keys) (hs:SetW s) (hd:s.data.length<=1000000) (hw:∀r∈l,r.wf) (hl:l.length<=1000000):
  S Cb6 5 [.s zone,Dk keys,s.pv,B9 l,.i .i64 now]=some [.i .i64 (setM zone keys s l now)]:=by
 have key:Dx5.ev S (l.length+1) [.s zone,Dk keys,s.pv,B9 l,.i .i64 now]=some (if l.any (Aq5 zone keys now s)=true then .ret [.i .i64 1] else .yld 0 []):=by
  refine Eb l (fun i=>[.i .i64 (i:Int)]) (fun _ l=>if l.any (Aq5 zone keys now s)=true then .ret [.i .i64 1] else .yld 0 []) rfl (by omega) (fun i c r hd2 hi hc=> ?_) ?_
  .have k1:=vv s c;have k2:=Wy zone keys s c.data now ha hs hd (hw c (Cq hc)).data;have hil:(i:Int)<(l.length:Int):=by omega
   have e:Aq5 zone keys now s c=(Ed8 s c && Bs3 zone keys s c.data now):=rfl;rcases Bs (Ed8 s c) with h1|h1
   .rw[h1] at k1 e;rcases Bs (Bs3 zone keys s c.data now) with h2|h2
    .right;rw[h2] at k2 e;simp(disch:=omega)only[Ak7,hc,hil,k1,k2,Ey,Ax,simprocAttr];simp[e,Out.goes]
    .left;rw[h2] at k2 e;refine⟨?_,by simp[e]⟩;simp(disch:=omega)only[Ak7,hc,hil,k1,k2,Ey,Ax,simprocAttr]
   .left;rw[h1] at k1 e;refine⟨?_,by simp[e]⟩;simp(disch:=omega)only[Ak7,hc,hil,k1,Ey,Ax,simprocAttr]
  .simp(disch:=omega)only[Ak7,Df,Ey,Ax,simprocAttr];simp[Out.goes]
 refine Gh4 (N:=l.length+1) rfl ?_;unfold setM;rcases Bs (l.any (Aq5 zone keys now s)) with hv|hv<;>rw[hv] at key ⊢<;>simp(disch:=omega)only[Ak7,key,Ey,Ax,simprocAttr]<;>simp
def Ch2 (x:Ask):S Gk3 1 [x.pv]=some [.b (decide ((x.keys.length:Int)<=8))]:=by refine Gr6 (N:=1) rfl ?_;simp(disch:=omega)only[Gr3,Gq4,Ey,Ax,simprocAttr]
def zD:Dat:=⟨false,0,0,[],[],[],0,0,0,0,0,0,0⟩
def dsM (zone:List UInt8) (d:Dat):Dat×Int:=
 if vld zone=false then(zD,2) else if Ex 48 d=false then(zD,5) else(⟨false,0,0,[],[],macM zone (wireD 48 d),tagM (wireD 48 d),253,1,0,0,0,0⟩,0)
def Fs3 (zone:List UInt8) (d:Dat) (hz:zone.length<=9223372036854775807) (h:d.wf):S Cz0 2 [.s zone,d.pv]=some [(dsM zone d).1.pv,.i .i64 (dsM zone d).2]:=by
 have k0:=C9 zone hz;have k1:=Mn 48 d h;refine Gc7 (N:=1) rfl ?_;unfold dsM;rcases Bs (vld zone) with h1|h1
 .have hzl:=Rw h1;rw[h1] at k0;rw[if_neg (by simp[h1])];rcases Bs (Ex 48 d) with h2|h2
  .have hl:=Hc h2;have k2:=Br2 (wireD 48 d) (by omega);have k3:=Br6 zone (wireD 48 d) (by omega) (by omega);rw[if_pos h2] at k1;rw[if_neg (by simp[h2])];generalize tagM (wireD 48 d)=tg at*;generalize macM zone (wireD 48 d)=mm at*;generalize wireD 48 d=w at*;simp(disch:=omega)only[Dz5,k0,k1,k2,k3,Ey,Ax,simprocAttr]
  .rw[if_neg (by simp[h2]),if_pos (by decide)] at k1;rw[if_pos h2];simp(disch:=omega)only[Dz5,k0,k1,Ey,Ax,simprocAttr]
   try rfl
 .rw[h1] at k0;rw[if_pos h1];simp(disch:=omega)only[Dz5,k0,Ey,Ax,simprocAttr]
  try rfl
def Ew7 (zone:List UInt8) (d:Dat) (hz:zone.length<=9223372036854775807) (h:d.wf):S Cy9 2 [.s zone,d.pv]=some [(dsM zone d).1.pv,.i .i64 (dsM zone d).2]:=by
 have k0:=Kk zone hz;have kv:=En 48 d h;have k1:=J2 48 d h;have kt:=ug d h;refine Gc6 (N:=1) rfl ?_;unfold dsM;rcases Bs (vld zone) with h1|h1
 .have hzl:=Rw h1;rw[h1] at k0;rw[if_neg (by simp[h1])];rcases Bs (Ex 48 d) with h2|h2
  .have hl:=Hc h2;have k3:=um zone (wireD 48 d) (by omega) (by omega);have et:tagK d=tagM (wireD 48 d):=by unfold tagK;rw[if_pos h2]
   rw[et] at kt;rw[h2] at kv;rw[if_pos h2] at k1;rw[if_neg (by simp[h2])];generalize tagM (wireD 48 d)=tg at*;generalize macM zone (wireD 48 d)=mm at*;generalize wireD 48 d=w at*;simp(disch:=omega)only[Dz4,k0,kv,k1,kt,k3,Ey,Ax,simprocAttr]
  .rw[h2] at kv;rw[if_pos h2];simp(disch:=omega)only[Dz4,k0,kv,Ey,Ax,simprocAttr]
   try rfl
 .rw[h1] at k0;rw[if_pos h1];simp(disch:=omega)only[Dz4,k0,Ey,Ax,simprocAttr]
  try rfl
def matB (zone:List UInt8) (ds key:Dat):Bool:=decide ((dsM zone key).2=0) && decide ((dsM zone key).1=ds)
def Ds4 (zone:List UInt8) (ds key:Dat) (hz:zone.length<=9223372036854775807) (h:key.wf):S Cz6 3 [.s zone,ds.pv,key.pv]=some [.b (matB zone ds key)]:=by
 have k:=Fs3 zone key hz h;refine Gf8 (N:=1) rfl ?_;unfold matB;generalize dsM zone key=m at*;by_cases h1:m.2=0
 .by_cases h2:m.1=ds
  .simp(disch:=omega)only[Db0,k,h1,h2,Ey,Ax,simprocAttr]
   try simp
  .simp(disch:=omega)only[Db0,k,h1,h2,Ey,Ax,simprocAttr]
   try simp[h2]
 .simp(disch:=omega)only[Db0,k,h1,Ey,Ax,simprocAttr]
  try simp[h1]
def Cc2 (zone:List UInt8) (ds key:Dat) (hz:zone.length<=9223372036854775807) (h:key.wf):S Cz5 3 [.s zone,ds.pv,key.pv]=some [.b (matB zone ds key)]:=by
 have k:=Ew7 zone key hz h;refine Gf7 (N:=1) rfl ?_;unfold matB;generalize dsM zone key=m at*;by_cases h1:m.2=0
 .by_cases h2:m.1=ds
  .simp(disch:=omega)only[Dz9,k,h1,h2,Ey,Ax,simprocAttr]
   try simp
  .simp(disch:=omega)only[Dz9,k,h1,h2,Ey,Ax,simprocAttr]
   try simp[h2]
 .simp(disch:=omega)only[Dz9,k,h1,Ey,Ax,simprocAttr]
  try simp[h1]
def zS:SetR:=⟨[],0,0,[]⟩
def isS (n:List UInt8) (t:Int) (x:SetR):Bool:=decide (x.name=n) && decide (x.typ=t)
def setF (l:List SetR) (n:List UInt8) (t:Int):Option SetR:=l.find? (isS n t)
def Dm9:Option SetR->List PV
 |some x=>[x.pv,.b true]
 |none=>[zS.pv,.b false]
def Bf0 (l:List SetR) (n:List UInt8) (t:Int) (hl:l.length<=1000000):S gn 3 [Ec l,.s n,.i .i64 t]=some (Dm9 (setF l n t)):=by
 have key:Dw5.ev S (l.length+1) [Ec l,.s n,.i .i64 t]=some (match setF l n t with|some x=> .ret [x.pv,.b true]|none=> .yld 0 [.s [],.i .i64 0,.i .i64 0,Dk []]):=by
  unfold setF;refine Eb l (fun i=>[.i .i64 (i:Int),.s [],.i .i64 0,.i .i64 0,Dk []]) (fun _ l=>match l.find? (isS n t) with|some x=> .ret [x.pv,.b true]|none=> .yld 0 [.s [],.i .i64 0,.i .i64 0,Dk []]) (by simp(disch:=omega)only[Ey,Ax,simprocAttr]) (by omega) (fun i c r hd2 hi hc=> ?_) ?_
  .have hil:(i:Int)<(l.length:Int):=by omega
   by_cases h1:c.name=n
   .by_cases h2:c.typ=t
    .right;have e:(c::r).find? (isS n t)=some c:=List.find?_cons_of_pos (by simp[isS,h1,h2]);rw[e];simp(disch:=omega)only[u5,hc,hil,h1,h2,Ey,Ax,simprocAttr];simp[Out.goes]
    .left;have e:(c::r).find? (isS n t)=r.find? (isS n t):=V7 (by simp[isS,h2]);refine⟨?_,by rw[e]⟩;simp(disch:=omega)only[u5,hc,hil,h1,h2,Ey,Ax,simprocAttr]
   .left;have e:(c::r).find? (isS n t)=r.find? (isS n t):=V7 (by simp[isS,h1]);refine⟨?_,by rw[e]⟩;simp(disch:=omega)only[u5,hc,hil,h1,Ey,Ax,simprocAttr]
  .simp(disch:=omega)only[u5,Df,Ey,Ax,simprocAttr];simp[Out.goes]
 refine Gg0 (N:=l.length+1) rfl ?_;cases h:setF l n t with
 |some x=>
  rw[h] at key;simp only at key;simp(disch:=omega)only[u5,key,Dm9,Ey,Ax,simprocAttr]
 |none=>
  rw[h] at key;simp only at key;simp(disch:=omega)only[u5,key,Dm9,Ey,Ax,simprocAttr]
  try rfl
def m9 (l:List Rec):(setsR l).length<=l.length:=by
 have h:∀(l:List Rec) (g:List SetR),(l.foldl addS g).length<=g.length+l.length:=by
  intro l
  induction l with
  |nil=>intro g;exact B6 _
  |cons r l ih=>
   intro g;have h1:=ih (addS g r);have h2:=uw g r;rw[List.foldl_cons,Cy];omega
 have h1:=h (sortR l) [];have h2:=Kz l;unfold setsR Cq1;rw[Cm] at h1;omega
def Cy3 (l:List Rec) (n:List UInt8) (t:Int) (hw:∀r∈l,r.wf) (hl:l.length<=100000):S Cz7 3 [B9 l,.s n,.i .i64 t]=some (Dm9 (setF (setsR l) n t)):=by
 have k1:=Cn8 l hw hl;have hsl:=m9 l;generalize setsR l=ss at*;have key:Dw7.ev S (ss.length+1) [B9 l,.s n,.i .i64 t,Ec ss]=some (match setF ss n t with|some x=> .ret [x.pv,.b true]|none=> .yld 0 [.s [],.i .i64 0,.i .i64 0,Dk []]):=by
  unfold setF;refine Eb ss (fun i=>[.i .i64 (i:Int),.s [],.i .i64 0,.i .i64 0,Dk []]) (fun _ l=>match l.find? (isS n t) with|some x=> .ret [x.pv,.b true]|none=> .yld 0 [.s [],.i .i64 0,.i .i64 0,Dk []]) (by simp(disch:=omega)only[Ey,Ax,simprocAttr]) (by omega) (fun i c r hd2 hi hc=> ?_) ?_
  .have hil:(i:Int)<(ss.length:Int):=by omega
   by_cases h1:c.name=n
   .by_cases h2:c.typ=t
    .right;have e:(c::r).find? (isS n t)=some c:=List.find?_cons_of_pos (by simp[isS,h1,h2]);rw[e];simp(disch:=omega)only[u6,hc,hil,h1,h2,Ey,Ax,simprocAttr];simp[Out.goes]
    .left;have e:(c::r).find? (isS n t)=r.find? (isS n t):=V7 (by simp[isS,h2]);refine⟨?_,by rw[e]⟩;simp(disch:=omega)only[u6,hc,hil,h1,h2,Ey,Ax,simprocAttr]
   .left;have e:(c::r).find? (isS n t)=r.find? (isS n t):=V7 (by simp[isS,h1]);refine⟨?_,by rw[e]⟩;simp(disch:=omega)only[u6,hc,hil,h1,Ey,Ax,simprocAttr]
  .simp(disch:=omega)only[u6,Df,Ey,Ax,simprocAttr];simp[Out.goes]
 refine Gg3 (N:=ss.length+1) rfl ?_;cases h:setF ss n t with
 |some x=>
  rw[h] at key;simp only at key;simp(disch:=omega)only[u6,k1,key,Dm9,Ey,Ax,simprocAttr]
 |none=>
  rw[h] at key;simp only at key;simp(disch:=omega)only[u6,k1,key,Dm9,Ey,Ax,simprocAttr]
  try rfl
def Gj4 {g:List SetR} {r:Rec} (hg:∀x∈g,SetW x) (hr:r.wf):∀x∈addS g r,SetW x:=by
 have h1:SetW ⟨r.name,r.typ,r.ttl,[r.data]⟩:=⟨hr.name,hr.typ,hr.ttl,fun d hd=>by rw[Cl.1 hd];exact hr.data⟩;intro x hx;unfold addS at hx;split at hx
 .rename_i y hy;have hym:=hg y (Nc hy);split at hx
  .rcases C8.1 hx with hx|hx
   .exact hg x (List.dropLast_subset _ hx)
   .rw[Cl.1 hx];refine⟨hym.name,hym.typ,?_,fun d hd=> ?_⟩
    .show Yf (if r.ttl<y.ttl then r.ttl else y.ttl);split
     .exact hr.ttl
     .exact hym.ttl
    .rcases C8.1 hd with hd|hd
     .exact hym.data d hd
     .rw[Cl.1 hd];exact hr.data
  .rcases C8.1 hx with hx|hx
   .exact hg x hx
   .rw[Cl.1 hx];exact h1
 .rw[Cl.1 hx];exact h1
def Ec9 {g:List SetR} {r:Rec} {n:Nat} (hg:∀x∈g,x.data.length<=n):∀x∈addS g r,x.data.length<=n+1:=by
 intro x hx;unfold addS at hx;split at hx
 .rename_i y hy;have hym:=hg y (Nc hy);split at hx
  .rcases C8.1 hx with hx|hx
   .have:=hg x (List.dropLast_subset _ hx);omega
   .rw[Cl.1 hx];show (y.data++[r.data]).length<=n+1;rw[Bp,d9];omega
  .rcases C8.1 hx with hx|hx
   .have:=hg x hx;omega
   .rw[Cl.1 hx];simp
 .rw[Cl.1 hx];simp
def Ag4:∀(l:List Rec) (g:List SetR) (n:Nat),(∀x∈g,SetW x)->(∀x∈g,x.data.length<=n)->(∀r∈l,r.wf)->∀x∈l.foldl addS g,SetW x∧x.data.length<=n+l.length
 |[],g,n,h1,h2,_=>fun x hx=>⟨h1 x hx,by have:=h2 x hx;simpa using this⟩
 |r::l,g,n,h1,h2,h3=>fun x hx=>by obtain⟨i1,i2⟩:=Ag4 l (addS g r) (n+1) (Gj4 h1 (h3 r (.head _))) (Ec9 h2) (fun y hy=>h3 y (.tail _ hy)) x hx;exact⟨i1,by rw[Cy];omega⟩
def Dm6 (l:List Rec) (hw:∀r∈l,r.wf):∀x∈setsR l,SetW x∧x.data.length<=l.length:=fun x hx=>by obtain⟨h1,h2⟩:=Ag4 (sortR l) [] 0 (by simp) (by simp) (fun r hr=>hw r (((O7 l).2 r).1 hr).mem) x hx;have:=Kz l;exact⟨h1,by omega⟩
def Gr2:SetW zS:=⟨D7 _,⟨by decide,by decide⟩,⟨by decide,by decide⟩,by simp[zS]⟩
def Ag8 {l:List Rec} {n:List UInt8} {t:Int} (hw:∀r∈l,r.wf):SetW ((setF (setsR l) n t).getD zS)∧((setF (setsR l) n t).getD zS).data.length<=l.length:=by
 cases h:setF (setsR l) n t with
 |some x=>exact Dm6 l hw x (List.mem_of_find?_eq_some h)
 |none=>exact⟨Gr2,by simp[zS]⟩
def Ag7 (o:Option SetR):Dm9 o=[(o.getD zS).pv,.b o.isSome]:=by cases o<;>rfl
def rj (zone:List UInt8) (ds:List Dat) (s:SetR) (l:List Rec) (now:Int) (k:Dat):Bool:=ds.any (fun d=>matB zone d k) && decide (setM zone [k] s l now=1)
def keysM (zone:List UInt8) (ds:List Dat) (l:List Rec) (now:Int):List Dat×Int:=
 if ds=[] then([],2)
 else if((setF (setsR l) zone 48).getD zS).data.any (rj zone ds ((setF (setsR l) zone 48).getD zS) l now)=true then(((setF (setsR l) zone 48).getD zS).data,1) else([],3)
def Bq1 {zone:List UInt8} {ds:List Dat} (ha:AskOk zone ds) {k:Dat} (hk:k.wf):AskOk zone [k]:=⟨ha.zoneL,fun d hd=>by rw[Cl.1 hd];exact hk,by simp⟩
def Ej7 (zone:List UInt8) (ds:List Dat) (l:List Rec) (now:Int) (s:SetR) (i:Nat) (k:Dat) (p4 p6:PV) (ha:AskOk zone ds) (hs:SetW s) (hd:s.data.length<=1000000) (hw:∀r∈l,r.wf) (hl:l.length<=1000000) (hk:s.data[i]? =some k) (N:Nat) (hN:ds.length<N):
  Dv2.ev S N [.s zone,Dk ds,B9 l,.i .i64 now,p4,s.pv,p6,.i .i64 (i:Int)]=some (if rj zone ds s l now k=true then .ret [Dk s.data,.i .i64 1] else .yld 2 []):=by
 have hf:=ha.few;have hil:=(Bn.1 hk).1;have hkw:=hs.data k (Cq hk);have h0:I1 13 (Dk []) (Dk s.data)=some (Dk s.data):=by have:=Pp 13 [] (s.data.map Dat.pv) (by simp;omega);simpa [Dk] using this
 have k2:=Ed4 zone [k] s l now (Bq1 ha hkw) hs hd hw hl;have e:∀r:List Dat,(if(r.any (fun d=>matB zone d k) && decide (setM zone [k] s l now=1))=true then Out.ret [Dk s.data,.i .i64 1] else .yld 2 [])=(if(r.any (fun d=>matB zone d k) && decide (setM zone [k] s l now=1))=true then Out.ret [Dk s.data,.i .i64 1] else .yld 2 []):=fun _=>rfl;unfold rj;refine Eb ds (fun j=>[.i .i64 (j:Int)]) (fun _ r=>if(r.any (fun d=>matB zone d k) && decide (setM zone [k] s l now=1))=true then .ret [Dk s.data,.i .i64 1] else .yld 2 []) rfl hN (fun j c r hd2 hj hc=> ?_) ?_
 .have k1:=Ds4 zone c k ha.zoneL hkw;have hjl:(j:Int)<(ds.length:Int):=by omega
  generalize setM zone [k] s l now=v at*;rcases Bs (matB zone c k) with h1|h1
  .rw[h1] at k1;by_cases h2:v=1
   .right;simp(disch:=omega)only[Ww,hc,hk,hjl,k1,k2,h2,h0,Ey,Ax,simprocAttr];simp[h1,Out.goes]
   .left;refine⟨?_,by simp[h2]⟩;simp(disch:=omega)only[Ww,hc,hk,hjl,k1,k2,h2,Ey,Ax,simprocAttr]
  .left;rw[h1] at k1;refine⟨?_,by simp[h1]⟩;simp(disch:=omega)only[Ww,hc,hk,hjl,k1,Ey,Ax,simprocAttr]
 .simp(disch:=omega)only[Ww,Df,Ey,Ax,simprocAttr];simp[Out.goes]
def Cp0 (zone:List UInt8) (ds:List Dat) (l:List Rec) (now:Int) (ha:AskOk zone ds) (hw:∀r∈l,r.wf) (hl:l.length<=100000):
  S Cb3 4 [.s zone,Dk ds,B9 l,.i .i64 now]=some [Dk (keysM zone ds l now).1,.i .i64 (keysM zone ds l now).2]:=by
 have k1:=Cn7 l hw hl;have hsl:=m9 l;have k2:=Bf0 (setsR l) zone 48 (by omega);rw[Ag7] at k2;obtain⟨hs,hsd⟩:=Ag8 (n:=zone) (t:=48) hw;unfold keysM;generalize (setF (setsR l) zone 48).isSome=ok at*;generalize (setF (setsR l) zone 48).getD zS=s at*;generalize setsR l=ss at*;have key:∀p4 p6,Dx3.ev S (s.data.length+ds.length+1) [.s zone,Dk ds,B9 l,.i .i64 now,p4,s.pv,p6]=some (if s.data.any (rj zone ds s l now)=true then .ret [Dk s.data,.i .i64 1] else .yld 0 []):=by
  intro p4 p6;refine Eb s.data (fun j=>[.i .i64 (j:Int)]) (fun _ r=>if r.any (rj zone ds s l now)=true then .ret [Dk s.data,.i .i64 1] else .yld 0 []) rfl (by omega) (fun j c r hd2 hj hc=> ?_) ?_
  .have k3:=fun p4 p6=>Ej7 zone ds l now s j c p4 p6 ha hs (by omega) hw (by omega) hc (s.data.length+ds.length+1) (by omega);have hjl:(j:Int)<(s.data.length:Int):=by omega
   rcases Bs (rj zone ds s l now c) with h1|h1
   .right;rw[h1] at k3;simp(disch:=omega)only[Ww,hc,hjl,k3,Ey,Ax,simprocAttr];simp[h1,Out.goes]
   .left;rw[h1] at k3;refine⟨?_,by simp[h1]⟩;simp(disch:=omega)only[Ww,hc,hjl,k3,Ey,Ax,simprocAttr]
  .simp(disch:=omega)only[Ww,Df,Ey,Ax,simprocAttr];simp[Out.goes]
 refine Gh1 (N:=s.data.length+ds.length+1) rfl ?_;by_cases h:ds=[]
 .subst h;rw[if_pos rfl];simp(disch:=omega)only[Ww,Ey,Ax,simprocAttr]
  try simp
 .have h':¬(ds.length:Int)=0:=by have:=Ct.2 h;omega
  rw[if_neg h];rcases Bs (s.data.any (rj zone ds s l now)) with hv|hv<;>rw[hv] at key ⊢<;>simp(disch:=omega)only[Ww,h',k1,k2,key,Ey,Ax,simprocAttr]<;>simp
def Bc7 (zone:List UInt8) (ds:List Dat) (s:SetR) (i:Nat) (k:Dat) (p2 p3 p5:PV) (ha:AskOk zone ds) (hs:SetW s) (hk:s.data[i]? =some k) (hd:s.data.length<=1000000) (N:Nat) (hN:ds.length<N):
  Bx8.ev S N [.s zone,Dk ds,p2,p3,s.pv,p5,.i .i64 (i:Int)]=some (.yld 2 [.b (ds.any fun d=>matB zone d k)]):=by
 have hf:=ha.few;have hil:=(Bn.1 hk).1;have hkw:=hs.data k (Cq hk);have key:Bx8.ev S N [.s zone,Dk ds,p2,p3,s.pv,p5,.i .i64 (i:Int)]=some (.yld 2 [.b (false||ds.any fun d=>matB zone d k)]):=by
  refine F6 ds (fun j (b:Bool)=>[.b b,.i .i64 (j:Int)]) (fun _ b r=> .yld 2 [.b (b||r.any fun d=>matB zone d k)]) (fun _ _=>True) false rfl trivial hN (fun j b c r hd2 hj hc _=> ?_) (fun b _=> ?_)
  .left;have k1:=Cc2 zone c k ha.zoneL hkw;have hjl:(j:Int)<(ds.length:Int):=by omega
   refine⟨b||matB zone c k,?_,trivial,by simp[Bool.or_assoc]⟩;generalize matB zone c k=m at*;cases b with
   |true=>
    simp(disch:=omega)only[Rj,hc,hk,hjl,Ey,Ax,simprocAttr]
    try simp
   |false=>
    cases m with
    |true=>
     simp(disch:=omega)only[Rj,hc,hk,hjl,k1,Ey,Ax,simprocAttr]
     try simp
    |false=>
     simp(disch:=omega)only[Rj,hc,hk,hjl,k1,Ey,Ax,simprocAttr]
     try simp
  .simp(disch:=omega)only[Rj,Df,Ey,Ax,simprocAttr];simp[Out.goes]
 simpa using key
def Br7 (zone:List UInt8) (ds:List Dat) (l:List Rec) (now:Int) (ha:AskOk zone ds) (hw:∀r∈l,r.wf) (hl:l.length<=100000):
  S Cb2 4 [.s zone,Dk ds,B9 l,.i .i64 now]=some [Dk (keysM zone ds l now).1,.i .i64 (keysM zone ds l now).2]:=by
 have k2:=Cy3 l zone 48 hw hl;rw[Ag7] at k2;obtain⟨hs,hsd⟩:=Ag8 (n:=zone) (t:=48) hw;have hno:(setF (setsR l) zone 48).isSome=false->((setF (setsR l) zone 48).getD zS).data=[]:=fun h=>by
  cases hf:setF (setsR l) zone 48 with
  |some x=>rw[hf] at h;cases h
  |none=>rfl
 unfold keysM;generalize (setF (setsR l) zone 48).isSome=ok at*;generalize (setF (setsR l) zone 48).getD zS=s at*;have key:∀p5,Dx2.ev S (s.data.length+ds.length+1) [.s zone,Dk ds,B9 l,.i .i64 now,s.pv,p5]=some (if s.data.any (rj zone ds s l now)=true then .ret [Dk s.data,.i .i64 1] else .yld 0 []):=by
  intro p5;refine Eb s.data (fun j=>[.i .i64 (j:Int)]) (fun _ r=>if r.any (rj zone ds s l now)=true then .ret [Dk s.data,.i .i64 1] else .yld 0 []) rfl (by omega) (fun j c r hd2 hj hc=> ?_) ?_
  .have k3:=fun p2 p3 p5=>Bc7 zone ds s j c p2 p3 p5 ha hs hc (by omega) (s.data.length+ds.length+1) (by omega);have hcw:=hs.data c (Cq hc);have k4:=Cn9 zone [c] s l now (Bq1 ha hcw) hs (by omega) hw (by omega);have hjl:(j:Int)<(s.data.length:Int):=by omega
   have e:rj zone ds s l now c=(ds.any (fun d=>matB zone d c) && decide (setM zone [c] s l now=1)):=rfl;generalize ds.any (fun d=>matB zone d c)=m at*;generalize setM zone [c] s l now=v at*;cases m with
   |true=>
    by_cases h2:v=1
    .right;have e1:rj zone ds s l now c=true:=by rw[e];simp[h2]
     simp(disch:=omega)only[Rj,hc,hjl,k3,k4,h2,Ey,Ax,simprocAttr];simp[e1,Out.goes]
    .left;have e1:rj zone ds s l now c=false:=by rw[e];simp[h2]
     refine⟨?_,by simp[e1]⟩;simp(disch:=omega)only[Rj,hc,hjl,k3,k4,h2,Ey,Ax,simprocAttr]
   |false=>
    left;have e1:rj zone ds s l now c=false:=by rw[e];simp
    refine⟨?_,by simp[e1]⟩;simp(disch:=omega)only[Rj,hc,hjl,k3,Ey,Ax,simprocAttr]
  .simp(disch:=omega)only[Rj,Df,Ey,Ax,simprocAttr];simp[Out.goes]
 refine Gh0 (N:=s.data.length+ds.length+1) rfl ?_;by_cases h:ds=[]
 .subst h;rw[if_pos rfl];simp(disch:=omega)only[Rj,Ey,Ax,simprocAttr]
  try simp
 .have h':¬(ds.length:Int)=0:=by have:=Ct.2 h;omega
  rw[if_neg h];cases ok with
  |false=>
   rw[hno rfl] ;simp(disch:=omega)only[Rj,h',k2,Ey,Ax,simprocAttr]
   try simp
  |true=>
   rcases Bs (s.data.any (rj zone ds s l now)) with hv|hv<;>rw[hv] at key ⊢<;>simp(disch:=omega)only[Rj,h',k2,key,Ey,Ax,simprocAttr]<;>simp
def dv (a:List Dat) (ha:a.length<=1000000):S Cb4 2 [Dk a,Dk a]=some [.b true]:=by
 refine Gh3 (N:=a.length+1) rfl ?_;have key:Dx4.ev S (a.length+1) [Dk a,Dk a]=some (.yld 0 []):=by
  refine Eb a (fun j=>[.i .i64 (j:Int)]) (fun _ _=> .yld 0 []) rfl (by omega) (fun j c r hd2 hj hc=> ?_) ?_
  .left;refine⟨?_,rfl⟩;have hjl:(j:Int)<(a.length:Int):=by omega
   simp(disch:=omega)only[Db4,hc,hjl,Ey,Ax,simprocAttr]
  .simp(disch:=omega)only[Db4,Df,Ey,Ax,simprocAttr];simp[Out.goes]
 simp(disch:=omega)only[Db4,key,Ey,Ax,simprocAttr]
def Bc6 (zone:List UInt8) (ds:List Dat) (l:List Rec) (now:Int) (hw:∀r∈l,r.wf):(keysM zone ds l now).1.length<=l.length:=by
 obtain⟨hs,hsd⟩:=Ag8 (n:=zone) (t:=48) hw;unfold keysM;split
 .simp
 .split
  .exact hsd
  .simp
def law_ValidateKeys (x:Ask) (l:List Rec) (hx:x.wf) (hl:gk l):S Gk4 2 [x.pv,B9 l]=some [.b true]:=by
 have k0:=zx;have k1:=Ch2 x;refine Gr7 (N:=1) rfl ?_;by_cases h1:(x.keys.length:Int)<=8
 .have ha:AskOk x.zone x.keys:=⟨hx.zone,hx.keys,by omega⟩;rw[decide_eq_true h1] at k1;by_cases h3:l.length<=60
  .have h3':¬(60:Int)<(l.length:Int):=by omega
   have k2:=Cp0 x.zone x.keys l x.now ha hl.2 (by omega);have k3:=Br7 x.zone x.keys l x.now ha hl.2 (by omega);have hkl:=Bc6 x.zone x.keys l x.now hl.2;have k4:=dv (keysM x.zone x.keys l x.now).1 (by omega);generalize keysM x.zone x.keys l x.now=v at*;simp(disch:=omega)only[Gv4,k0,k1,k2,k3,k4,h3',Gq4,Ey,Ax,simprocAttr]
  .have h3':(60:Int)<(l.length:Int):=by omega
   simp(disch:=omega)only[Gv4,k0,k1,h3',Gq4,Ey,Ax,simprocAttr]
 .rw[decide_eq_false h1] at k1;simp(disch:=omega)only[Gv4,k0,k1,Gq4,Ey,Ax,simprocAttr]
end Go.X.G
