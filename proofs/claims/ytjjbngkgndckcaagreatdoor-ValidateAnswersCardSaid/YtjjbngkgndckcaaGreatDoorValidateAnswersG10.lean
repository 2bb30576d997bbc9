/- Merging in place: the library's function, the U5. -/
import Derived.Test.YtjjbngkgndckcaaGreatDoorValidateAnswersG9
import Derived.Test.YtjjbngkgndckcaaGreatDoorValidateAnswersG6
import Derived.Test.YtjjbngkgndckcaaGreatDoorValidateAnswersG8
import Derived.Test.YtjjbngkgndckcaaGreatDoorValidateAnswersG7
open BitVec renaming toNat_ofInt->Ik1
open Bool renaming eq_false_or_eq_true->Bm,and_eq_true->Bt,false_eq_true->B5,or_eq_true->Cz,not_eq_true'->Dp,true_and->F0,false_or->Hb,and_true->Mc
open Int renaming lt_irrefl->C2,toNat_natCast->Eg,le_refl->Yh
open List renaming length_append->Bp,getElem?_eq_some_iff->Br,getElem?_eq_getElem->B3,mem_of_getElem?->B6,length_cons->Cq,length_take->Cv,append_assoc->Cy,getElem?_append_right->Cf,mem_cons->Ch,mem_singleton->Cl,getElem?_append_left->Cm,length_drop->Cn,getElem?_drop->Cr,length_nil->Cs,length_pos_iff->Ct,eq_nil_of_length_eq_zero->C1,take_append_drop->C8,filter_cons_of_pos->C9,getElem?_map->Dk,mem_append->Dw,all_eq_true->Ds,nil_append->D3,find?_cons_of_neg->D4,take_length->D6,filter_cons_of_neg->D8,mem_append_right->Ej,append_nil->Ek,flatMap_cons->Er,drop_eq_getElem_cons->Et,take_add_one->E3,length_map->Fq,take_of_length_le->Fv,mem_of_mem_take->Fw,mem_of_mem_drop->Fx,drop_drop->Fy,mem_filter->Fp,mem_cons_self->Gm,isSuffixOf_iff_suffix->Gn,drop_zero->Gp,map_cons->G2,length_singleton->Hw,getElem_mem->H1,find?_cons_of_pos->Il,length_set->I6,getLast?_eq_getElem?->Jx,any_cons->J2,mem_cons_of_mem->Kw,dropLast_concat_getLast->Lq,all_cons->Mb,pairwise_append->Pt,mem_of_getLast?->P0,take_left->Um,foldl_cons->il,take_take->Bz8,getElem?_set_ne->Bz9,dropLast_subset->Bb0,mem_map->Dm0
open Nat renaming le_refl->B7,mul_le_mul_right->C0,zero_le->Dz,le_trans->Ep,mod_eq_of_lt->Fj,one_mul->Gh,add_assoc->G1,add_zero->G6,add_sub_cancel->bg,min_eq_left->ig,lt_or_ge->Dl8
open Option renaming bind_some->B0,map_some->Cc
open Option.some renaming injEq->Bn
set_option maxHeartbeats 1000000
set_option linter.defProp false
set_option linter.unusedVariables false
set_option linter.unusedSimpArgs false
namespace Go.X.G
open Go Go.X
def Ay:=And.intro xe<|And.intro EVP EV
def Ax:=And.intro EVC<|And.intro xe<|And.intro EVP EV
def Aw:=And.intro EVM<|And.intro EVC<|And.intro xe<|And.intro EVP EV
section
variable {g:Nat} {caps:List PV} {c:Rec->Rec->Int} {P:Rec->Prop}
def Ix6 (hC:Cmp g caps c P) (X A B Y:List Rec) (s:List Rec) (hsd:s=X++(A++(B++Y))) (a m b mid:Int) (h i0 j0:Nat) (ha:a=X.length) (hm:m=a+A.length) (hb:b=m+B.length) (hM:(a+b) / 2=mid) (hmid:mid=a+h)
  (h1:i0<=j0) (h2:j0<=A.length) (h3:j0<=h) (h4:h<=i0+B.length) (hs:s.length<=1000000) (hP:∀y∈s,P y) (N:Nat) (hN:A.length<N):
  ∃i:Nat,Cs1.ev S N [B8 s,.i .i64 a,.i .i64 m,.i .i64 b,.f g caps,.i .i64 (a+i0),.i .i64 (a+j0)]=some (.yld 0 [.i .i64 (a+i)])∧i0<=i∧i<=j0∧
   (∀x y,i≠i0->A[i - 1]? =some x->B[h - i]? =some y->¬c y x<0)∧∀x y,i≠j0->A[i]? =some x->B[h - 1 - i]? =some y->c y x<0:=by
 have hl:s.length=X.length+A.length+B.length+Y.length:=by rw[hsd];simp;omega
 have hA:∀k y,A[k]? =some y->s[X.length+k]? =some y:=fun k y hk=>by have:=(Br.1 hk).1;rw[hsd,Cf (by omega),show X.length+k - X.length=k by omega,Cm this,hk]
 have hB:∀k y,B[k]? =some y->s[X.length+A.length+k]? =some y:=fun k y hk=>by have:=(Br.1 hk).1;rw[hsd,Cf (by omega),Cf (by omega),show X.length+A.length+k - X.length - A.length=k by omega,Cm this,hk]
 have key:=Jp (fn:=S) (N:=N) (J:=[B8 s,.i .i64 a,.i .i64 m,.i .i64 b,.f g caps,.i .i64 (a+i0),.i .i64 (a+j0)]) (id:=1) (init:=[.v 5,.v 6]) (body:=yv) (D:=Nat×Nat)
  (fun w=>[.i .i64 (a+w.1),.i .i64 (a+w.2)])
  (fun o=>∃i:Nat,o= .yld 0 [.i .i64 (a+i)]∧i0<=i∧i<=j0∧(∀x y,i≠i0->A[i - 1]? =some x->B[h - i]? =some y->¬c y x<0)∧∀x y,i≠j0->A[i]? =some x->B[h - 1 - i]? =some y->c y x<0)
  (fun w=>w.1<=w.2∧i0<=w.1∧w.2<=j0∧(∀x y,w.1≠i0->A[w.1 - 1]? =some x->B[h - w.1]? =some y->¬c y x<0)∧∀x y,w.2≠j0->A[w.2]? =some x->B[h - 1 - w.2]? =some y->c y x<0)
  (fun w=>w.2 - w.1) (i0,j0) ?_ ?_ (by simp only;omega) ?_
 .obtain⟨o,h1,p,rfl,h2⟩:=key;exact⟨p,h1,h2⟩
 .simp(disch:=omega)only[EVT,Aw,simprocAttr]
 .exact⟨h1,B7 _,B7 _,fun x y h0=>absurd rfl h0,fun x y h0=>absurd rfl h0⟩
 .rintro⟨p,q⟩ ⟨g1,g2,g3,g4,g5⟩;simp only at g1 g2 g3 g4 g5;by_cases hpq:p<q
  .left;have hk:(p+q) / 2<A.length:=by omega
   have hx:=B3 hk;have hk2:h - 1 - (p+q) / 2<B.length:=by omega
   have hy:=B3 hk2;generalize A[(p+q) / 2]=x at hx;generalize B[h - 1 - (p+q) / 2]=y at hy;have hsx:=hA _ x hx;have hsy:=hB _ y hy;have hPx:P x:=hP x (B6 hsx);have hPy:P y:=hP y (B6 hsy);have hc:=hC.ok y x hPy hPx;have hlt:a+(p:Int)<a+(q:Int):=by omega
   have e1:(a+(p:Int)+(a+(q:Int))) / 2=a+(((p+q) / 2:Nat):Int):=by omega
   have e2:(a+(((p+q) / 2:Nat):Int)).toNat=X.length+(p+q) / 2:=by omega
   have e3:(mid+m - 1 - (a+(((p+q) / 2:Nat):Int))).toNat=X.length+A.length+(h - 1 - (p+q) / 2):=by omega
   have hkh:(p+q) / 2<h:=by omega
   by_cases hcy:c y x<0
   .refine⟨(p,(p+q) / 2),?_,⟨by simp only;omega,g2,by simp only;omega,g4,fun u v _ hu hv=> ?_⟩,by simp only;omega⟩
    .simp only;generalize (p+q) / 2=k at*;simp(disch:=omega)only[Gr,hlt,Gq,hM,e1,e2,e3,hsy,hsx,hc,hcy,EVT,Aw,simprocAttr]
    .simp only at hu hv;rw[hx] at hu;injection hu with hu;subst hu;rw[hy] at hv;injection hv with hv;subst hv;exact hcy
   .refine⟨((p+q) / 2+1,q),?_,⟨by simp only;omega,by simp only;omega,g3,fun u v _ hu hv=> ?_,g5⟩,by simp only;omega⟩
    .have e4:a+(((p+q) / 2+1:Nat):Int)=a+(((p+q) / 2:Nat):Int)+1:=by omega
     simp only[e4];generalize (p+q) / 2=k at*;simp(disch:=omega)only[Gr,hlt,Gq,hM,e1,e2,e3,hsy,hsx,hc,hcy,EVT,Aw,simprocAttr]
    .simp only[bg] at hu hv;rw[show h - ((p+q) / 2+1)=h - 1 - (p+q) / 2 by omega] at hv;rw[hx] at hu;injection hu with hu;subst hu;rw[hy] at hv;injection hv with hv;subst hv;exact hcy
  .right;have e:p=q:=by omega
   subst e;have hlt:¬a+(p:Int)<a+(p:Int):=by omega
   refine⟨.yld 0 [.i .i64 (a+p)],?_,rfl,p,rfl,g2,g3,g4,g5⟩;simp(disch:=omega)only[Gr,hlt,EVT,Aw,simprocAttr]
def Fs9 {le:Rec->Rec->Bool} (ht:TP le) {B:List Rec} (hB:B.Pairwise fun x y=>le x y=true) (x:Rec) (p:Nat) (hp:p<=B.length) (h1:∀y,p≠0->B[p - 1]? =some y->le x y=false) (h2:∀y,B[p]? =some y->le x y=true):mrg le [x] B=B.take p++x::B.drop p:=by have e1:=Wz ht (A:=[x]) (B:=B) (by simp) hB 0 p (fun u v h=>absurd rfl h) (fun u v h0 hu hv=>by simp at hu;subst hu;exact h1 v h0 hv) (by simp) hp;have e2:=Wz ht (A:=[x]) (B:=B.drop p) (by simp) (hB.sublist (List.drop_sublist p B)) 1 0 (fun u v _ hu hv=>by simp at hu;subst hu;rw[Cr] at hv;exact h2 v hv) (fun u v h=>absurd rfl h) (by simp) (by simp);rw[e1];simp only[List.take_zero,Gp,List.take_succ_cons,List.drop_succ_cons,Nq] at e2 ⊢;rw[e2];simp[mrg]
def Fs8 {le:Rec->Rec->Bool} (ht:TP le) {A:List Rec} (hA:A.Pairwise fun x y=>le x y=true) (x:Rec) (p:Nat) (hp:p<=A.length) (h1:∀y,p≠0->A[p - 1]? =some y->le y x=true) (h2:∀y,A[p]? =some y->le y x=false):mrg le A [x]=A.take p++x::A.drop p:=by have e1:=Wz ht (A:=A) (B:=[x]) hA (by simp) p 0 (fun u v h0 hu hv=>by simp at hv;subst hv;exact h1 u h0 hu) (fun u v h=>absurd rfl h) hp (by simp);have e2:=Wz ht (A:=A.drop p) (B:=[x]) (hA.sublist (List.drop_sublist p A)) (by simp) 0 1 (fun u v h=>absurd rfl h) (fun u v _ hu hv=>by simp at hv;subst hv;rw[Cr] at hu;exact h2 u hu) (by simp) (by simp);rw[e1];simp only[List.take_zero,Gp,List.take_succ_cons,List.drop_succ_cons,Nq] at e2 ⊢;rw[e2];simp[mrg]
set_option maxHeartbeats 2000000 in
def Ls (hC:Cmp g caps c P) (ht:TP (leC c)):∀(n:Nat) (X A B Y:List Rec) (a m b:Int),A.length+B.length<=n->A≠[]->B≠[]->(A.Pairwise fun x y=>leC c x y=true)->(B.Pairwise fun x y=>leC c x y=true)->
  a=X.length->m=a+A.length->b=m+B.length->(X++A++B++Y).length<=1000000->(∀y∈X++A++B++Y,P y)->
  S Wk 1048581 [B8 (X++A++B++Y),.i .i64 a,.i .i64 m,.i .i64 b,.f g caps]=some [B8 (X++mrg (leC c) A B++Y)]
 |0,X,A,B,Y,a,m,b,hn,hA,_,_,_,_,_,_,_,_=>absurd (C1 (by omega)) hA
 |n+1,X,A,B,Y,a,m,b,hn,hA,hB,sA,sB,ha,hm,hb,hs,hP=>by
  have hA':0<A.length:=Ct.2 hA;have hB':0<B.length:=Ct.2 hB;have hs2:=hs;simp only[Bp] at hs2;obtain⟨N,hN⟩:∃N,N=A.length+B.length+1:=⟨_,rfl⟩;refine Gt8 (N:=N) rfl ?_;by_cases c1:A.length=1
  ·-- one ahead
   obtain⟨x,rfl⟩:=List.length_eq_one_iff.1 c1;have hsd:X++[x]++B++Y=X++x::(B++Y):=by simp
   obtain⟨p,k1,k2,k3,k4⟩:=Iy0 hC X B Y x (X++[x]++B++Y) hsd a m b ha (by simpa using hm) hb hs hP N (by omega);have k5:=Ix9 X B Y x (X++[x]++B++Y) hsd a m b .u p ha (by simpa using hm) k2 hs N (by omega) (.i .i64 m) (.i .i64 b) (.f g caps);have e:=Fs9 ht sB x p k2 (fun y h0 hy=>Ey8.2 (k3 y h0 hy)) (fun y hy=>Ey7.2 (k4 y hy));rw[e];have q1:m - a=1:=by simp at hm;omega
   generalize X++[x]++B++Y=s at*;generalize X++(List.take p B++x::List.drop p B)++Y=u at*;simp(disch:=omega)only[Gr,q1,k1,k5,EVT,Aw,simprocAttr]
  .by_cases c2:B.length=1
   .obtain⟨x,rfl⟩:=List.length_eq_one_iff.1 c2;have hsd:X++A++[x]++Y=X++(A++x::Y):=by simp
    obtain⟨p,k1,k2,k3,k4⟩:=Ix8 hC X A Y x (X++A++[x]++Y) hsd a m (.i .i64 b) ha hm hs hP N (by omega);have k5:=Ix7 X A Y x (X++A++[x]++Y) hsd a m p ha hm k2 hs N (by omega) (.i .i64 a) (.i .i64 b) (.f g caps);have e:=Fs8 ht sA x p k2 (fun y h0 hy=>Ey7.2 (k3 y h0 hy)) (fun y hy=>Ey8.2 (k4 y hy));rw[e];have q1:¬m - a=1:=by omega
    have q2:b - m=1:=by simp at hb;omega
    generalize X++A++[x]++Y=s at*;generalize X++(List.take p A++x::List.drop p A)++Y=u at*;simp(disch:=omega)only[Gr,q1,q2,k1,k5,EVT,Aw,simprocAttr]
   ·-- two parts of more
    have q1:¬m - a=1:=by omega
    have q2:¬b - m=1:=by omega
    obtain⟨h,hh⟩:∃h,h=(A.length+B.length) / 2:=⟨_,rfl⟩;obtain⟨mid,hM⟩:∃mid,(a+b) / 2=mid:=⟨_,rfl⟩;have hmid:mid=a+h:=by omega
    obtain⟨i0,j0,hc15,h1,h2,h3,h4,hi0,hj0⟩:∃i0 j0:Nat,f7.ev S N [B8 (X++A++B++Y),.i .i64 a,.i .i64 m,.i .i64 b,.f g caps]=some (.yld 0 [.i .i64 (a+i0),.i .i64 (a+j0)])∧i0<=j0∧j0<=A.length∧j0<=h∧h<=i0+B.length∧(i0=0∨h - i0=B.length)∧(j0=h∨j0=A.length):=by
     by_cases hgt:h<A.length
     .refine⟨h - B.length,h,?_,by omega,by omega,by omega,by omega,by omega,.inl rfl⟩;have t1:mid<m:=by omega
      have t2:mid+m - b=a+((h - B.length:Nat):Int):=by omega
      rw[<-t2,<-hmid];generalize X++A++B++Y=s at*;simp(disch:=omega)only[Gr,Gq,hM,t1,EVT,Aw,simprocAttr]
     .refine⟨0,A.length,?_,by omega,by omega,by omega,by omega,.inl rfl,.inr rfl⟩;have t1:¬mid<m:=by omega
      generalize X++A++B++Y=s at*;simp(disch:=omega)only[Gr,Gq,hM,t1,hm,EVT,Aw,simprocAttr];simp
    have hsd:X++A++B++Y=X++(A++(B++Y)):=by simp
    obtain⟨i,k1,k2,k3,k4,k5⟩:=Ix6 hC X A B Y (X++A++B++Y) hsd a m b mid h i0 j0 ha hm hb hM hmid h1 h2 h3 h4 hs hP N (by omega);have cut:=Wz ht sA sB i (h - i) (fun x y h0 hx hy=>Ey7.2 (k4 x y (fun e=>by
      rcases hi0 with q|q
      .omega
      .have:=(Br.1 hy).1;omega) hx hy)) (fun x y h0 hx hy=>Ey8.2 (k5 x y (fun e=>by
      rcases hj0 with q|q
      .omega
      .have:=(Br.1 hx).1;omega) hx (by rw[show h - 1 - i=h - i - 1 by omega];exact hy))) (by omega) (by omega)
    have eA:A.take i++A.drop i=A:=C8 _ _;have eB:B.take (h - i)++B.drop (h - i)=B:=C8 _ _;have lA1:(A.take i).length=i:=by rw[Cv];omega
    have lA2:(A.drop i).length=A.length - i:=Cn;have lB1:(B.take (h - i)).length=h - i:=by rw[Cv];omega
    have lB2:(B.drop (h - i)).length=B.length - (h - i):=Cn;have sA1:=sA.sublist (List.take_sublist i A);have sA2:=sA.sublist (List.drop_sublist i A);have sB1:=sB.sublist (List.take_sublist (h - i) B);have sB2:=sB.sublist (List.drop_sublist (h - i) B);generalize A.take i=A1 at*;generalize A.drop i=A2 at*;generalize B.take (h - i)=B1 at*;generalize B.drop (h - i)=B2 at*;have e0:X++A++B++Y=X++A1++A2++B1++(B2++Y):=by rw[<-eA,<-eB];simp
    have mem1:∀y,y∈X++A1++B1++(A2++B2++Y)->P y:=fun y hy=>hP y (by rw[e0];simp only[Dw] at hy ⊢;grind);have len1:(X++A1++B1++(A2++B2++Y)).length<=1000000:=by simp only[Bp] at hs2 ⊢;omega
    have lm1:=Wy (leC c) A1 B1;have mem2:∀y,y∈(X++mrg (leC c) A1 B1)++A2++B2++Y->P y:=fun y hy=>mem1 y (by simp only[Dw,mrg_mem] at hy ⊢;grind)
    have len2:((X++mrg (leC c) A1 B1)++A2++B2++Y).length<=1000000:=by simp only[Bp,lm1] at hs2 ⊢;omega
    have s1:(T.blk 0 f6 Rq).ev S N [B8 (X++A++B++Y),.i .i64 a,.i .i64 m,.i .i64 b,.f g caps,.i .i64 (a+i0),.i .i64 (a+j0),.i .i64 (a+i)]=
      Rq.ev S N [B8 (X++A++B++Y),.i .i64 a,.i .i64 m,.i .i64 b,.f g caps,.i .i64 (a+i0),.i .i64 (a+j0),.i .i64 (a+i),B8 (X++A1++B1++(A2++B2++Y))]:=by
     by_cases t:A2=[]∨B1=[]
     .have t1:¬(a+(i:Int)<m∧m<mid+m - (a+i)):=by
       rcases t with t|t
       .rw[t] at lA2;simp at lA2;omega
       .rw[t] at lB1;simp at lB1;omega
      have e1:X++A++B++Y=X++A1++B1++(A2++B2++Y):=by rw[e0];rcases t with t|t<;>subst t<;>simp
      rw[<-e1];generalize X++A++B++Y=s at*;by_cases t2:a+(i:Int)<m
      .have t3:¬m<mid+m - (a+i):=fun q=>t1 ⟨t2,q⟩;simp(disch:=omega)only[Gr,Gq,hM,t2,t3,EVT,Aw,simprocAttr]
      .simp(disch:=omega)only[Gr,Gq,hM,t2,EVT,Aw,simprocAttr]
     .have t':A2≠[]∧B1≠[]:=by grind
      have p1:=Ct.2 t'.1;have p2:=Ct.2 t'.2;have hr:=Cx2 (X++A1) A2 B1 (B2++Y) (a+i) m (mid+m - (a+i)) g caps (by simp only[Bp];omega) (by simp only[Bp];omega) (by simp only[Bp];omega) t'.1 t'.2 (by rw[<-e0];exact hs);have t2:a+(i:Int)<m:=by omega
      have t3:m<mid+m - (a+i):=by omega
      rw[<-e0] at hr;have e1:X++A1++B1++A2++(B2++Y)=X++A1++B1++(A2++B2++Y):=by simp
      rw[e1] at hr;generalize X++A1++B1++(A2++B2++Y)=s1 at*;generalize X++A++B++Y=s at*;simp(disch:=omega)only[Gr,Gq,hM,t2,t3,hr,G7,Tc,EVT,Aw,simprocAttr]
    have s2:(T.blk 0 f5 Rv).ev S N [B8 (X++A++B++Y),.i .i64 a,.i .i64 m,.i .i64 b,.f g caps,.i .i64 (a+i0),.i .i64 (a+j0),.i .i64 (a+i),B8 (X++A1++B1++(A2++B2++Y))]=
      Rv.ev S N [B8 (X++A++B++Y),.i .i64 a,.i .i64 m,.i .i64 b,.f g caps,.i .i64 (a+i0),.i .i64 (a+j0),.i .i64 (a+i),B8 (X++A1++B1++(A2++B2++Y)),B8 ((X++mrg (leC c) A1 B1)++A2++B2++Y)]:=by
     by_cases t:A1=[]∨B1=[]
     .have t1:¬(a<a+(i:Int)∧a+(i:Int)<mid):=by
       rcases t with t|t
       .rw[t] at lA1;simp at lA1;omega
       .rw[t] at lB1;simp at lB1;omega
      have e1:X++A1++B1++(A2++B2++Y)=(X++mrg (leC c) A1 B1)++A2++B2++Y:=by rcases t with t|t<;>subst t<;>simp[mrg,Nq]
      rw[<-e1];generalize X++A1++B1++(A2++B2++Y)=s1 at*;generalize X++A++B++Y=s at*;by_cases t2:a<a+(i:Int)
      .have t3:¬a+(i:Int)<mid:=fun q=>t1 ⟨t2,q⟩;simp(disch:=omega)only[Gr,Gq,hM,t2,t3,EVT,Aw,simprocAttr]
      .simp(disch:=omega)only[Gr,Gq,hM,t2,EVT,Aw,simprocAttr]
     .have t':A1≠[]∧B1≠[]:=by grind
      have p1:=Ct.2 t'.1;have p2:=Ct.2 t'.2;have hr:=Ls hC ht n X A1 B1 (A2++B2++Y) a (a+i) mid (by omega) t'.1 t'.2 sA1 sB1 ha (by omega) (by omega) len1 mem1;have t2:a<a+(i:Int):=by omega
      have t3:a+(i:Int)<mid:=by omega
      have e1:X++mrg (leC c) A1 B1++(A2++B2++Y)=(X++mrg (leC c) A1 B1)++A2++B2++Y:=by simp
      rw[e1] at hr;generalize (X++mrg (leC c) A1 B1)++A2++B2++Y=s2 at*;generalize X++A1++B1++(A2++B2++Y)=s1 at*;generalize X++A++B++Y=s at*;simp(disch:=omega)only[Gr,Gq,hM,t2,t3,hr,G7,Tc,EVT,Aw,simprocAttr]
    have s3:Rv.ev S N [B8 (X++A++B++Y),.i .i64 a,.i .i64 m,.i .i64 b,.f g caps,.i .i64 (a+i0),.i .i64 (a+j0),.i .i64 (a+i),B8 (X++A1++B1++(A2++B2++Y)),B8 ((X++mrg (leC c) A1 B1)++A2++B2++Y)]=
      some (.ret [B8 (X++mrg (leC c) A B++Y)]):=by
     have e9:X++mrg (leC c) A B++Y=(X++mrg (leC c) A1 B1)++mrg (leC c) A2 B2++Y:=by rw[cut];simp
     rw[e9];by_cases t:A2=[]∨B2=[]
     .have t1:¬(mid<mid+m - (a+i)∧mid+m - (a+(i:Int))<b):=by
       rcases t with t|t
       .rw[t] at lA2;simp at lA2;omega
       .rw[t] at lB2;simp at lB2;omega
      have e1:(X++mrg (leC c) A1 B1)++A2++B2++Y=(X++mrg (leC c) A1 B1)++mrg (leC c) A2 B2++Y:=by rcases t with t|t<;>subst t<;>simp[mrg,Nq]
      rw[<-e1];generalize (X++mrg (leC c) A1 B1)++A2++B2++Y=s2 at*;generalize X++A1++B1++(A2++B2++Y)=s1 at*;generalize X++A++B++Y=s at*;by_cases t2:mid<mid+m - (a+(i:Int))
      .have t3:¬mid+m - (a+(i:Int))<b:=fun q=>t1 ⟨t2,q⟩;simp(disch:=omega)only[Gr,Gq,hM,t2,t3,EVT,Aw,simprocAttr]
      .simp(disch:=omega)only[Gr,Gq,hM,t2,EVT,Aw,simprocAttr]
     .have t':A2≠[]∧B2≠[]:=by grind
      have p1:=Ct.2 t'.1;have p2:=Ct.2 t'.2;have hr:=Ls hC ht n (X++mrg (leC c) A1 B1) A2 B2 Y mid (mid+m - (a+i)) b (by omega) t'.1 t'.2 sA2 sB2 (by simp only[Bp,lm1];omega) (by omega) (by omega) len2 mem2;have t2:mid<mid+m - (a+(i:Int)):=by omega
      have t3:mid+m - (a+(i:Int))<b:=by omega
      generalize (X++mrg (leC c) A1 B1)++mrg (leC c) A2 B2++Y=s3 at*;generalize (X++mrg (leC c) A1 B1)++A2++B2++Y=s2 at*;generalize X++A1++B1++(A2++B2++Y)=s1 at*;generalize X++A++B++Y=s at*;simp(disch:=omega)only[Gr,Gq,hM,t2,t3,hr,G7,Tc,EVT,Aw,simprocAttr]
    have f2:Rq.ev S N [B8 (X++A++B++Y),.i .i64 a,.i .i64 m,.i .i64 b,.f g caps,.i .i64 (a+i0),.i .i64 (a+j0),.i .i64 (a+i),B8 (X++A1++B1++(A2++B2++Y))]=some (.ret [B8 (X++mrg (leC c) A B++Y)]):=s2.trans s3;have f1:=s1.trans f2;clear s1 s2 s3 f2 mem1 mem2 cut k4 k5;generalize X++mrg (leC c) A B++Y=s3 at*;generalize X++A++B++Y=s at*;simp(disch:=omega)only[Gr,q1,q2,Gq,hM,hc15,k1,f1,EVT,Aw,simprocAttr]
end
section
variable {g:Nat} {caps:List PV} {c:Rec->Rec->Int} {P:Rec->Prop}
def Il9 (hC:Cmp g caps c P) (L L':List Rec) (i:Nat) (x y:Rec) (g0:L[i]? =some y) (g1:L[i+1]? =some x) (sw:(L.set (i+1) y).set i x=L') (k e:Int) (hk:k=i+1) (he:e<k) (he2:0<=e) (hx:P x) (hy:P y) (hlt:c x y<0) (hL:L.length<=1000000) (w0 w2 w4 w5:PV) (N:Nat):
  N0.ev S N [w0,.i .i64 e,w2,.f g caps,w4,w5,.i .i64 k,B8 L]=some (.yld 3 [.i .i64 (k - 1),B8 L']):=by
 have hi:=(Br.1 g1).1;have ti0:(k - 1).toNat=i:=by omega
 have ti1:k.toNat=i+1:=by omega
 have g2:(L.set (i+1) y)[i]? =some y:=by rw[Bz9 (by omega)];exact g0
 have hc:=hC.ok x y hx hy;simp(disch:=first|omega|(rw[I6];omega))only[Sr,Hh,Ns,he,ti0,ti1,g0,g1,g2,sw,hc,hlt,EVT,Aw,simprocAttr]
def Dv3 (hC:Cmp g caps c P) (L:List Rec) (i:Nat) (x y:Rec) (g0:L[i]? =some y) (g1:L[i+1]? =some x) (k e:Int) (hk:k=i+1) (he:e<k) (hx:P x) (hy:P y) (hlt:¬c x y<0) (hL:L.length<=1000000) (w0 w2 w4 w5:PV) (N:Nat):
  N0.ev S N [w0,.i .i64 e,w2,.f g caps,w4,w5,.i .i64 k,B8 L]=some (.yld 2 [B8 L]):=by
 have hi:=(Br.1 g1).1;have ti0:(k - 1).toNat=i:=by omega
 have ti1:k.toNat=i+1:=by omega
 have hc:=hC.ok x y hx hy;simp(disch:=omega)only[Sr,Hh,Ns,he,ti0,ti1,g0,g1,hc,hlt,EVT,Aw,simprocAttr]
def Ez7 (L:List Rec) (k e:Int) (he:¬e<k) (w0 w2 w3 w4 w5:PV) (N:Nat):
  N0.ev S N [w0,.i .i64 e,w2,w3,w4,w5,.i .i64 k,B8 L]=some (.yld 2 [B8 L]):=by
 simp(disch:=omega)only[Sr,Hh,Ns,he,EVT,Aw,simprocAttr]
def Il8 (hC:Cmp g caps c P) (ht:TP (leC c)) (X R Y:List Rec) (x:Rec) (hR:R.Pairwise fun a b=>leC c a b=true) (hP:∀y∈X++R++x::Y,P y) (hs:(X++R++x::Y).length<=1000000) (a k:Int) (ha:a=X.length) (hk:k=a+R.length) (w0 w2:PV) (N:Nat) (hN:R.length<N):
  ∃R1 R2,R=R1++R2∧(∀y∈R1,leC c y x=true)∧(∀y∈R2,leC c y x=false)∧
   Cs9.ev S N [w0,.i .i64 a,w2,.f g caps,.i .i64 k,B8 (X++R++x::Y)]=some (.yld 2 [B8 (X++(R1++x::R2)++Y)]):=by
 have hx:P x:=hP x (by simp);have hs2:=hs;simp only[Bp,Cq] at hs2;have key:=Jp (fn:=S) (N:=N) (J:=[w0,.i .i64 a,w2,.f g caps,.i .i64 k,B8 (X++R++x::Y)]) (id:=3) (init:=[.v 4,.v 5]) (body:=N0) (D:=List Rec×List Rec)
  (fun w=>[.i .i64 (a+w.1.length),B8 (X++w.1++x::(w.2++Y))])
  (fun o=>∃R1 R2,R=R1++R2∧(∀y∈R1,leC c y x=true)∧(∀y∈R2,leC c y x=false)∧o= .yld 2 [B8 (X++(R1++x::R2)++Y)])
  (fun w=>R=w.1++w.2∧∀y∈w.2,leC c y x=false) (fun w=>w.1.length) (R,[]) ?_ ⟨by simp,by simp⟩ hN ?_
 .obtain⟨o,h1,R1,R2,h2,h3,h4,rfl⟩:=key;exact⟨R1,R2,h2,h3,h4,h1⟩
 .subst hk;simp only[D3];generalize X++R++x::Y=s at*;simp(disch:=omega)only[EVT,Aw,simprocAttr]
 .rintro⟨R1,R2⟩ ⟨h1,h2⟩;simp only at h1 h2;have hlen:=congrArg List.length h1;simp only[Bp] at hlen;rcases List.eq_nil_or_concat R1 with rfl|⟨R0,y,rfl⟩
  .right;refine⟨_,Ez7 _ _ a (by simp) _ _ _ _ _ N,rfl,[],R2,h1,by simp,h2,?_⟩;simp
  .rw[List.concat_eq_append] at*;simp only[Bp,Cq,Cs] at hlen;have hy:P y:=hP y (by rw[h1];simp);have lP:(X++R0).length=X.length+R0.length:=Bp;have g0:=od (X++R0) (x::(R2++Y)) y;have g1:=v4 (X++R0) (R2++Y) y x;rw[lP] at g0 g1;have e0:X++(R0++[y])++x::(R2++Y)=X++R0++y::x::(R2++Y):=by simp
   have lL:(X++R0++y::x::(R2++Y)).length<=1000000:=by simp only[Bp,Cq];omega
   by_cases hlt:c x y<0
   .left;have sw0:((X++R0++y::x::(R2++Y)).set (X.length+R0.length+1) y).set (X.length+R0.length) x=X++R0++x::(y::R2++Y):=by rw[<-lP,List.set_comm _ _ (by omega)];exact Fm0 (X++R0) (R2++Y) y x
    refine⟨(R0,y::R2),?_,⟨by simp only;rw[h1];simp,fun w hw=> ?_⟩,by simp⟩
    .have:=Il9 hC _ _ (X.length+R0.length) x y g0 g1 sw0 (a+((R0++[y]).length:Nat)) a (by simp;omega) (by simp;omega) (by omega) hx hy hlt lL w0 w2 (.i .i64 k) (B8 (X++R++x::Y)) N;have e1:a+((R0++[y]).length:Nat) - 1=a+(R0.length:Int):=by simp;omega
     rw[e1] at this;show N0.ev S N [w0,.i .i64 a,w2,.f g caps,.i .i64 k,B8 (X++R++x::Y),.i .i64 (a+((R0++[y]).length:Nat)),B8 (X++(R0++[y])++x::(R2++Y))]=_;rw[e0];exact this
    .rcases Ch.1 hw with rfl|hw
     .exact Ey8.2 hlt
     .exact h2 w hw
   .right;have hle:leC c y x=true:=Ey7.2 hlt;refine⟨_,?_,rfl,R0++[y],R2,h1,tj ht (by rw[h1] at hR;exact(Pt.1 hR).1) hle,h2,rfl⟩;have:=Dv3 hC _ (X.length+R0.length) x y g0 g1 (a+((R0++[y]).length:Nat)) a (by simp;omega) (by simp;omega) hx hy hlt lL w0 w2 (.i .i64 k) (B8 (X++R++x::Y)) N;show N0.ev S N [w0,.i .i64 a,w2,.f g caps,.i .i64 k,B8 (X++R++x::Y),.i .i64 (a+((R0++[y]).length:Nat)),B8 (X++(R0++[y])++x::(R2++Y))]=_;rw[e0,this,<-e0];simp
def Z5 (hC:Cmp g caps c P) (ht:TP (leC c)) (X A Y:List Rec) (a b:Int) (ha:a=X.length) (hb:b=a+A.length) (hP:∀y∈X++A++Y,P y) (hs:(X++A++Y).length<=1000000):
  ∃R,Stab (leC c) R A∧R.length=A.length∧S l6 1048580 [B8 (X++A++Y),.i .i64 a,.i .i64 b,.f g caps]=some [B8 (X++R++Y)]:=by
 have hs2:=hs;simp only[Bp] at hs2;cases A with
 |nil=>
  refine⟨[],Uk _,rfl,?_⟩;refine En1 (N:=2) rfl ?_;simp only[Cs] at hb;have h1:¬a+1<b:=by omega
  have key:vq.ev S 2 [B8 (X++[]++Y),.i .i64 a,.i .i64 b,.f g caps]=some (.yld 0 [B8 (X++[]++Y)]):=by
   generalize X++[]++Y=s at*;refine F6 0 (fun _=>[.i .i64 (a+1),B8 s]) (fun _=> .yld 0 [B8 s]) ?_ (by omega) (fun i hi=>absurd hi (by omega)) ⟨?_,rfl⟩
   .simp(disch:=omega)only[EVT,Aw,simprocAttr]
   .simp(disch:=omega)only[Sr,Hh,Ns,h1,EVT,Aw,simprocAttr]
  generalize X++[]++Y=s at*;simp(disch:=omega)only[Sr,Hh,Ns,key,EVT,Aw,simprocAttr]
 |cons x0 A=>
  obtain⟨N,hN⟩:∃N,N=A.length+3:=⟨_,rfl⟩;simp only[Cq] at hb hs2;have key:=Jp (fn:=S) (N:=N) (J:=[B8 (X++x0::A++Y),.i .i64 a,.i .i64 b,.f g caps]) (id:=1) (init:=[.bin .add (.v 1) (.c (.i .i64 1)),.v 0]) (body:=gv) (D:=List Rec×List Rec×List Rec)
   (fun w=>[.i .i64 (a+w.1.length),B8 (X++w.1++(w.2.2++Y))])
   (fun o=>∃R,Stab (leC c) R (x0::A)∧R.length=(x0::A).length∧o= .yld 0 [B8 (X++R++Y)])
   (fun w=>x0::A=w.2.1++w.2.2∧Stab (leC c) w.1 w.2.1∧w.1.length=w.2.1.length) (fun w=>w.2.2.length) ([x0],[x0],A) ?_ ⟨rfl,s6 _ _,rfl⟩ (by simp only;omega) ?_
  .obtain⟨o,h1,R,h2,h3,rfl⟩:=key;refine⟨R,h2,h3,?_⟩;refine En1 (N:=N) rfl ?_;have h4:vq.ev S N [B8 (X++x0::A++Y),.i .i64 a,.i .i64 b,.f g caps]=_:=h1;clear h1;generalize X++x0::A++Y=s at*;generalize X++R++Y=u at*;simp(disch:=omega)only[Sr,Hh,Ns,h4,EVT,Aw,simprocAttr]
  .simp only[Cq,Cs];have e:X++[x0]++(A++Y)=X++x0::A++Y:=by simp
   rw[e];have e1:a+((0+1:Nat):Int)=a+1:=by omega
   rw[e1];generalize X++x0::A++Y=s at*;simp(disch:=omega)only[EVT,Aw,simprocAttr]
  .rintro⟨R,Bf,Z⟩ ⟨h1,h2,h3⟩;simp only at h1 h2 h3;have hlen:=congrArg List.length h1;simp only[Bp,Cq] at hlen;cases Z with
   |nil=>
    right;rw[Ek] at h1;subst h1;refine⟨_,?_,rfl,R,h2,h3,rfl⟩;have hlt:¬a+(R.length:Int)<b:=by simp only[Cq] at h3;omega
    simp only[D3];generalize X++x0::A++Y=s at*;have hu:(X++R++Y).length<=1000000:=by simp only[Bp];omega
    generalize X++R++Y=u at*;simp(disch:=omega)only[Sr,Hh,Ns,hlt,EVT,Aw,simprocAttr]
   |cons x Z=>
    left;simp only[Cq] at hlen;have hmem:∀y∈X++R++x::(Z++Y),P y:=fun y hy=>hP y (by
     rw[h1];have:=h2.mem ht y;simp only[Dw,Ch] at hy ⊢
     grind)
    have hlen2:(X++R++x::(Z++Y)).length<=1000000:=by simp only[Bp,Cq];omega
    obtain⟨R1,R2,rfl,k1,k2,k3⟩:=Il8 hC ht X R (Z++Y) x h2.sorted hmem hlen2 a (a+R.length) ha rfl (B8 (X++x0::A++Y)) (.i .i64 b) N (by omega);refine⟨(R1++x::R2,Bf++[x],Z),?_,⟨by simp only;rw[h1];simp,Dr0 ht h2 k1 k2,by simp at h3 ⊢;omega⟩,by simp⟩;have e1:a+((R1++x::R2).length:Nat)=a+((R1++R2).length:Nat)+1:=by simp;omega
    have hlt:a+((R1++R2).length:Nat)<b:=by omega
    show gv.ev S N [B8 (X++x0::A++Y),.i .i64 a,.i .i64 b,.f g caps,.i .i64 (a+((R1++R2).length:Nat)),B8 (X++(R1++R2)++x::(Z++Y))]=some (.yld 1 [.i .i64 (a+((R1++x::R2).length:Nat)),B8 (X++(R1++x::R2)++(Z++Y))]);rw[e1];have hb2:(R1++R2).length<=1000000:=by simp only[Bp] at hlen2 ⊢;omega
    generalize (R1++R2).length=n at*;generalize X++(R1++R2)++x::(Z++Y)=s1 at*;generalize X++(R1++x::R2)++(Z++Y)=s2 at*;generalize X++x0::A++Y=s at*;simp(disch:=omega)only[Sr,Hh,Ns,hlt,k3,EVT,Aw,simprocAttr]
end
def pq {D:Type} {le:D->D->Bool} (ht:TP le) {bs:Nat} {Y LY:List D} (h:Blk le bs Y LY) (hl:Y.length<=2*bs) (hb:bs<Y.length):Stab le (mrg le (Y.take bs) (Y.drop bs)) LY:=by have h1:=h.head;have h2:=(h.tail).all (by rw[Cn];omega);have:=Stab.mrg ht h1 h2;rwa[C8] at this
def Blk.pre {D:Type} {le:D->D->Bool} {bs k:Nat} {Y LY:List D} (h:Blk le bs Y LY):Blk le bs (Y.take (k*bs)) (LY.take (k*bs)):=by
 refine⟨by simp[h.len],fun j=> ?_⟩;rw[List.drop_take,List.drop_take,Bz8,Bz8];by_cases hj:j<k
 .have e:(j+1)*bs<=k*bs:=C0 _ hj;rw[Nat.succ_mul] at e;rw[ig (by omega)];exact h.st j
 .have e:k*bs<=j*bs:=C0 _ (by omega);rw[show k*bs - j*bs=0 by omega,Nat.min_eq_right (by omega),List.take_zero,List.take_zero];exact Uk le
section
variable {g:Nat} {caps:List PV} {c:Rec->Rec->Int} {P:Rec->Prop}
def Ix4 (hC:Cmp g caps c P) (ht:TP (leC c)) (l:List Rec) (hP:∀y∈l,P y) (hs:l.length<=1000000) (N:Nat) (hN:l.length+2<N):
  ∃(X LX Y:List Rec) (q:Nat),Dj3.ev S N [B8 l,.i .i64 l.length,.f g caps]=some (.yld 0 [.i .i64 X.length,B8 (X++Y)])∧l=LX++Y∧X.length=q*20∧Y.length<20∧Blk (leC c) 20 X LX∧∀y∈X++Y,P y:=by
 have key:=Jp (fn:=S) (N:=N) (J:=[B8 l,.i .i64 l.length,.f g caps]) (id:=1) (init:=[.c (.i .i64 0),.c (.i .i64 20),.v 0]) (body:=yl) (D:=List Rec×List Rec×List Rec×Nat)
  (fun w=>[.i .i64 (w.1.length:Int),.i .i64 ((w.1.length:Int)+20),B8 (w.1++w.2.2.1)])
  (fun o=>∃(X LX Y:List Rec) (q:Nat),o= .yld 0 [.i .i64 X.length,B8 (X++Y)]∧l=LX++Y∧X.length=q*20∧Y.length<20∧Blk (leC c) 20 X LX∧∀y∈X++Y,P y)
  (fun w=>l=w.2.1++w.2.2.1∧w.1.length=w.2.2.2*20∧Blk (leC c) 20 w.1 w.2.1∧∀y∈w.1++w.2.2.1,P y) (fun w=>w.2.2.1.length) ([],[],l,0) ?_ ⟨rfl,by simp,Blk.nil _ _,by simpa using hP⟩ (by simp only;omega) ?_
 .obtain⟨o,h1,X,LX,Y,q,rfl,h2⟩:=key;exact⟨X,LX,Y,q,h1,h2⟩
 .simp(disch:=omega)only[EVT,Aw,simprocAttr]
  try simp
 .rintro⟨X,LX,Y,q⟩ ⟨h1,h2,h3,h4⟩;simp only at h1 h2 h3 h4;have hlen:=congrArg List.length h1;simp only[Bp] at hlen;have hXL:=h3.len;by_cases hge:20<=Y.length
  .left;have eY:Y.take 20++Y.drop 20=Y:=C8 _ _;have l1:(Y.take 20).length=20:=by rw[Cv];omega
   have l2:(Y.drop 20).length=Y.length - 20:=Cn;have eXY:X++Y.take 20++Y.drop 20=X++Y:=by rw[Cy,eY]
   obtain⟨R,k1,k2,k3⟩:=Z5 hC ht X (Y.take 20) (Y.drop 20) (X.length:Int) ((X.length:Int)+20) rfl (by omega) (by rw[eXY];exact h4) (by rw[eXY,Bp];omega);rw[eXY] at k3;refine⟨(X++R,LX++Y.take 20,Y.drop 20,q+1),?_,⟨by simp only;rw[h1,Cy,eY],by simp only[Bp];omega,Blk.app h2 h3 (Blk.one k1 k2 (by omega)),fun y hy=>h4 y ?_⟩,by simp only;omega⟩
   .have e1:((X++R).length:Int)=(X.length:Int)+20:=by simp only[Bp];omega
    have hge':(X.length:Int)+20<=(l.length:Int):=by omega
    simp only;rw[e1];generalize X++R++Y.drop 20=s1 at*;generalize X++Y=s0 at*;simp(disch:=omega)only[Ss,hge',k3,G7,Tc,EVT,Aw,simprocAttr]
   .have:=k1.mem ht y;simp only[Dw] at hy;rcases hy with(hy|hy)|hy
    .simp[hy]
    .exact Ej _ (Fw (this.1 hy))
    .exact Ej _ (Fx hy)
  .right;have hge':¬(X.length:Int)+20<=(l.length:Int):=by omega
   refine⟨.yld 0 [.i .i64 X.length,B8 (X++Y)],?_,rfl,X,LX,Y,q,rfl,h1,h2,by omega,h3,h4⟩;simp only;generalize X++Y=s0 at*;simp(disch:=omega)only[Ss,hge',EVT,Aw,simprocAttr]
def Ix3 (hC:Cmp g caps c P) (ht:TP (leC c)) (l r:List Rec) (bs:Nat) (hbs:0<bs) (hbs2:bs<l.length) (hr:Blk (leC c) bs r l) (hP:∀y∈r,P y) (hs:l.length<=1000000) (w0:PV) (w3 w4 w5:PV) (N:Nat) (hN:l.length+2<N):
  ∃(X LX Y LY:List Rec) (q:Nat),Cs4.ev S N [w0,.i .i64 l.length,.f g caps,w3,w4,w5,.i .i64 bs,B8 r]=some (.yld 2 [.i .i64 X.length,B8 (X++Y)])∧l=LX++LY∧X.length=q*(2*bs)∧Y.length<2*bs∧Blk (leC c) (2*bs) X LX∧Blk (leC c) bs Y LY∧∀y∈X++Y,P y:=by
 have key:=Jp (fn:=S) (N:=N) (J:=[w0,.i .i64 l.length,.f g caps,w3,w4,w5,.i .i64 bs,B8 r]) (id:=3) (init:=[.c (.i .i64 0),.bin .mul (.c (.i .i64 2)) (.v 6),.v 7]) (body:=yx) (D:=(List Rec×List Rec)×(List Rec×List Rec)×Nat)
  (fun w=>[.i .i64 (w.1.1.length:Int),.i .i64 ((w.1.1.length:Int)+2*bs),B8 (w.1.1++w.2.1.1)])
  (fun o=>∃(X LX Y LY:List Rec) (q:Nat),o= .yld 2 [.i .i64 X.length,B8 (X++Y)]∧l=LX++LY∧X.length=q*(2*bs)∧Y.length<2*bs∧Blk (leC c) (2*bs) X LX∧Blk (leC c) bs Y LY∧∀y∈X++Y,P y)
  (fun w=>l=w.1.2++w.2.1.2∧w.1.1.length=w.2.2*(2*bs)∧Blk (leC c) (2*bs) w.1.1 w.1.2∧Blk (leC c) bs w.2.1.1 w.2.1.2∧∀y∈w.1.1++w.2.1.1,P y) (fun w=>w.2.1.1.length) (([],[]),(r,l),0) ?_ ⟨rfl,by simp,Blk.nil _ _,hr,by simpa using hP⟩ (by have:=hr.len;simp only;omega) ?_
 .obtain⟨o,h1,X,LX,Y,LY,q,rfl,h2⟩:=key;exact⟨X,LX,Y,LY,q,h1,h2⟩
 .simp(disch:=omega)only[EVT,Aw,simprocAttr];simp
 .rintro⟨⟨X,LX⟩,⟨Y,LY⟩,q⟩ ⟨h1,h2,h3,h4,h5⟩;simp only at h1 h2 h3 h4 h5;have hlen:=congrArg List.length h1;simp only[Bp] at hlen;have hXL:=h3.len;have hYL:=h4.len;by_cases hge:2*bs<=Y.length
  .left;have eY:Y.take (2*bs)++Y.drop (2*bs)=Y:=C8 _ _;have l1:(Y.take (2*bs)).length=2*bs:=by rw[Cv];omega
   have l2:(Y.drop (2*bs)).length=Y.length - 2*bs:=Cn;have hp:=h4.pre (k:=2);have hz:Blk (leC c) bs (Y.drop (2*bs)) (LY.drop (2*bs)):=by have:=h4.tail.tail;rwa[Fy,Fy,show bs+bs=2*bs by omega] at this
   have hst:=pq ht hp (by omega) (by omega);have sA:((Y.take (2*bs)).take bs).Pairwise fun x y=>leC c x y=true:=hp.head.sorted;have sB:((Y.take (2*bs)).drop bs).Pairwise fun x y=>leC c x y=true:=(hp.tail.all (by rw[Cn];omega)).sorted;have lA:((Y.take (2*bs)).take bs).length=bs:=by rw[Cv];omega
   have lB:((Y.take (2*bs)).drop bs).length=bs:=by rw[Cn];omega
   have eAB:(Y.take (2*bs)).take bs++(Y.take (2*bs)).drop bs=Y.take (2*bs):=C8 _ _;generalize (Y.take (2*bs)).take bs=A at*;generalize (Y.take (2*bs)).drop bs=B at*;have eXY:X++A++B++Y.drop (2*bs)=X++Y:=by rw[Cy X,eAB,Cy,eY]
   have hm:=Ls hC ht (A.length+B.length) X A B (Y.drop (2*bs)) (X.length:Int) ((X.length:Int)+bs) ((X.length:Int)+2*bs) (B7 _) (by intro e;rw[e] at lA;simp at lA;omega) (by intro e;rw[e] at lB;simp at lB;omega) sA sB rfl (by omega) (by omega) (by rw[eXY,Bp];omega) (by rw[eXY];exact h5);rw[eXY] at hm;have lM:=Wy (leC c) A B;have eL:LY.take (2*bs)++LY.drop (2*bs)=LY:=C8 _ _;refine⟨((X++mrg (leC c) A B,LX++LY.take (2*bs)),(Y.drop (2*bs),LY.drop (2*bs)),q+1),?_,⟨by simp only;rw[h1,Cy,eL],by simp only[Bp];rw[Nat.succ_mul];omega,Blk.app h2 h3 (Blk.one hst (by rw[lM,Cv];omega) (by omega)),hz,fun y hy=>h5 y ?_⟩,by simp only;omega⟩
   .have e1:((X++mrg (leC c) A B).length:Int)=(X.length:Int)+2*bs:=by simp only[Bp];omega
    have hge':(X.length:Int)+2*(bs:Int)<=(l.length:Int):=by omega
    simp only;rw[e1];generalize X++mrg (leC c) A B++Y.drop (2*bs)=s1 at*;generalize X++Y=s0 at*;simp(disch:=omega)only[Ss,hge',hm,G7,Tc,EVT,Aw,simprocAttr]
   .rw[<-eXY];simp only[Dw,mrg_mem] at hy ⊢
    grind
  .right;have hge':¬(X.length:Int)+2*(bs:Int)<=(l.length:Int):=by omega
   refine⟨.yld 2 [.i .i64 X.length,B8 (X++Y)],?_,rfl,X,LX,Y,LY,q,rfl,h1,h2,by omega,h3,h4,h5⟩;simp only;generalize X++Y=s0 at*;simp(disch:=omega)only[Ss,hge',EVT,Aw,simprocAttr]
def Ix5 (hC:Cmp g caps c P) (ht:TP (leC c)) (l r:List Rec) (bs:Nat) (hbs:0<bs) (hbs2:bs<l.length) (hr:Blk (leC c) bs r l) (hP:∀y∈r,P y) (hs:l.length<=1000000) (w0 w3 w4 w5:PV) (N:Nat) (hN:l.length+2<N):
  ∃r',Blk (leC c) (2*bs) r' l∧(∀y∈r',P y)∧gq.ev S N [w0,.i .i64 l.length,.f g caps,w3,w4,w5,.i .i64 bs,B8 r]=some (.yld 1 [.i .i64 ((2*bs:Nat):Int),B8 r']):=by
 obtain⟨X,LX,Y,LY,q,k,h1,h2,h3,h4,h5,h6⟩:=Ix3 hC ht l r bs hbs hbs2 hr hP hs w0 w3 w4 w5 N hN;have hlen:=congrArg List.length h1;simp only[Bp] at hlen;have hXL:=h4.len;have hYL:=h5.len;have hlt:(bs:Int)<(l.length:Int):=by omega
 have e2:((2*bs:Nat):Int)=(bs:Int)*2:=by omega
 rw[e2];by_cases hge:bs<Y.length
 .have eY:Y.take bs++Y.drop bs=Y:=C8 _ _;have hst:=pq ht h5 (by omega) hge;have sA:=h5.head.sorted;have sB:=(h5.tail.all (by rw[Cn];omega)).sorted;have lA:(Y.take bs).length=bs:=by rw[Cv];omega
  have lB:(Y.drop bs).length=Y.length - bs:=Cn;generalize Y.take bs=A at*;generalize Y.drop bs=B at*;have eXY:X++A++B++[]=X++Y:=by rw[Ek,Cy,eY]
  have hm:=Ls hC ht (A.length+B.length) X A B [] (X.length:Int) ((X.length:Int)+bs) (l.length:Int) (B7 _) (by intro e;rw[e] at lA;simp at lA;omega) (by intro e;rw[e] at lB;simp at lB;omega) sA sB rfl (by omega) (by omega) (by rw[eXY,Bp];omega) (by rw[eXY];exact h6);rw[eXY,Ek] at hm;have lM:=Wy (leC c) A B;refine⟨X++mrg (leC c) A B,by rw[h1];exact Blk.app h2 h4 (Blk.one hst (by omega) (by omega)),fun y hy=>h6 y (by
   rw[<-eXY];simp only[Dw,mrg_mem] at hy ⊢
   grind),?_⟩
  have hge':(X.length:Int)+(bs:Int)<(l.length:Int):=by omega
  generalize X++mrg (leC c) A B=s1 at*;generalize X++Y=s0 at*;simp(disch:=omega)only[Ss,hlt,hge',k,hm,G7,Tc,EVT,Aw,simprocAttr]
 .refine⟨X++Y,by rw[h1];exact Blk.app h2 h4 (Blk.one (h5.all (by omega)) hYL (by omega)),h6,?_⟩;have hge':¬(X.length:Int)+(bs:Int)<(l.length:Int):=by omega
  generalize X++Y=s0 at*;simp(disch:=omega)only[Ss,hlt,hge',k,EVT,Aw,simprocAttr]
def Cq9 (hC:Cmp g caps c P) (ht:TP (leC c)) (l:List Rec) (hP:∀y∈l,P y) (hs:l.length<=1000000):
  ∃r,Stab (leC c) r l∧r.length=l.length∧S Aw5 1048579 [B8 l,.i .i64 l.length,.f g caps]=some [B8 r]:=by
 obtain⟨N,hN⟩:∃N,N=l.length+3:=⟨_,rfl⟩;obtain⟨X,LX,Y,q,k0,h1,h2,h3,h4,h5⟩:=Ix4 hC ht l hP hs N (by omega);have hlen:=congrArg List.length h1;simp only[Bp] at hlen;have hXL:=h4.len;obtain⟨R,i1,i2,i3⟩:=Z5 hC ht X Y [] (X.length:Int) (l.length:Int) rfl (by omega) (by simpa using h5) (by simp;omega);simp only[Ek] at i3;have hB:Blk (leC c) 20 (X++R) l:=by rw[h1];exact Blk.app h2 h4 (Blk.one i1 i2 (by omega))
 have hP':∀y∈X++R,P y:=fun y hy=>h5 y (by
  have:=i1.mem ht y;simp only[Dw] at hy ⊢
  grind)
 have key:=Jp (fn:=S) (N:=N) (J:=[B8 l,.i .i64 l.length,.f g caps,.i .i64 X.length,B8 (X++Y),B8 (X++R)]) (id:=1) (init:=[.c (.i .i64 20),.v 5]) (body:=gq) (D:=Nat×List Rec)
  (fun w=>[.i .i64 (w.1:Int),B8 w.2])
  (fun o=>∃r,Stab (leC c) r l∧r.length=l.length∧o= .yld 0 [B8 r])
  (fun w=>0<w.1∧Blk (leC c) w.1 w.2 l∧∀y∈w.2,P y) (fun w=>l.length - w.1) (20,X++R) ?_ ⟨by simp,hB,hP'⟩ (by simp only;omega) ?_
 .obtain⟨o,k1,r,k2,k3,rfl⟩:=key;refine⟨r,k2,k3,?_⟩;refine Hk8 (N:=N) rfl ?_;have k4:Ct2.ev S N [B8 l,.i .i64 l.length,.f g caps,.i .i64 X.length,B8 (X++Y),B8 (X++R)]=_:=k1;clear k1;generalize X++Y=s0 at*;generalize X++R=s1 at*;simp(disch:=omega)only[Ss,k0,i3,k4,G7,Tc,EVT,Aw,simprocAttr]
 .generalize X++Y=s0 at*;generalize X++R=s1 at*;simp(disch:=omega)only[EVT,Aw,simprocAttr]
 .rintro⟨bs,r⟩ ⟨g1,g2,g3⟩;simp only at g1 g2 g3;have hr:=g2.len;by_cases hlt:bs<l.length
  .left;obtain⟨r',k1,k2,k3⟩:=Ix5 hC ht l r bs g1 hlt g2 g3 hs (B8 l) (.i .i64 X.length) (B8 (X++Y)) (B8 (X++R)) N (by omega);exact⟨(2*bs,r'),k3,⟨by simp only;omega,k1,k2⟩,by simp only;omega⟩
  .right;have hlt':¬(bs:Int)<(l.length:Int):=by omega
   refine⟨.yld 0 [B8 r],?_,rfl,r,g2.all (by omega),hr,rfl⟩;generalize X++Y=s0 at*;generalize X++R=s1 at*;simp(disch:=omega)only[Ss,hlt',EVT,Aw,simprocAttr]
def gh (hC:Cmp g caps c P) (ht:TP (leC c)) (l:List Rec) (hP:∀y∈l,P y) (hs:l.length<=1000000):
  ∃r,Stab (leC c) r l∧r.length=l.length∧S Ay8 1048578 [B8 l,.f g caps]=some [B8 r]:=by
 obtain⟨r,h1,h2,h3⟩:=Cq9 hC ht l hP hs;refine⟨r,h1,h2,?_⟩;refine Hy7 (N:=1) rfl ?_;simp(disch:=omega)only[Gh2,h3,G7,Tc,EVT,Aw,simprocAttr]
end
def zf (l:List Rec) (g:Nat) (caps:List PV) (eq2:Rec->Rec->Bool) (h:∀x∈l,∀y∈l,S g 2 (x.pv::y.pv::caps)=some [.b (eq2 x y)]) (hl:l.length<=1000000):S Ay7 1048578 [B8 l,.f g caps]=some [B8 (cpt eq2 l)]:=by
 refine Hy5 (N:=l.length+2) rfl ?_;by_cases h2:(l.length:Int)<2
 .have e:cpt eq2 l=l:=by
   match l,h2 with
   |[],_=>rfl
   |[x],_=>rfl
   |_::_::_,h=>simp at h;omega
  rw[e];simp(disch:=omega)only[P4,h2,EVT,Aw,simprocAttr]
 ·-- the inner H4, from a place where two neighbours are equal
  have inner:∀k:Nat,1<=k->k<l.length->cpt eq2 (l.take (k+1))=l.take k->∃s:List Rec,s.length=l.length∧s.take (cpt eq2 l).length=cpt eq2 l∧Ct4.ev S (l.length+2) [B8 l,.f g caps,.i .i64 (k:Int),B8 l,.b true]=some (.yld 2 [.i .i64 ((cpt eq2 l).length:Int),B8 s]):=by
   intro k hk1 hk hcp;have key:=Jp (fn:=S) (N:=l.length+2) (J:=[B8 l,.f g caps,.i .i64 (k:Int),B8 l,.b true]) (id:=3) (init:=[(.v 2),(.c (.i .i64 (1))),(.v 3)]) (body:=yy) (D:=Nat×Nat×List Rec)
    (fun a=>[.i .i64 (a.1:Int),.i .i64 (a.2.1:Int),B8 a.2.2])
    (fun o=>∃s:List Rec,s.length=l.length∧s.take (cpt eq2 l).length=cpt eq2 l∧o= .yld 2 [.i .i64 ((cpt eq2 l).length:Int),B8 s])
    (fun a=>1<=a.2.1∧k+a.2.1<=l.length∧a.1<k+a.2.1∧a.2.2.length=l.length∧a.2.2.take a.1=cpt eq2 (l.take (k+a.2.1))∧(cpt eq2 (l.take (k+a.2.1))).length=a.1∧a.2.2.drop (k+a.2.1 - 1)=l.drop (k+a.2.1 - 1))
    (fun a=>l.length - a.2.1) (k,1,l) (by simp(disch:=omega)only[EVT,Aw,simprocAttr])
    ⟨by simp,by simp;omega,by simp,rfl,by simp only;rw[hcp],by simp only;rw[hcp,Cv];omega,rfl⟩ (by simp only;omega) ?_
   .obtain⟨o,h3,s,h4,h5,rfl⟩:=key;exact⟨s,h4,h5,h3⟩
   .rintro⟨i,j,s⟩ ⟨a1,a2,a3,a4,a5,a6,a7⟩;simp only at a1 a2 a3 a4 a5 a6 a7;by_cases hj:k+j<l.length
    .left;have c1:s[k+j]? =l[k+j]? :=by have:=congrArg (fun q=>q[1]?) a7;simp only[Cr] at this;rwa[show k+j - 1+1=k+j by omega] at this
     have c0:s[k+j - 1]? =l[k+j - 1]? :=by have:=congrArg (fun q=>q[0]?) a7;simpa only[Cr,G6] using this
     have g1:l[k+j]? =some (l[k+j]'hj):=B3 hj;have g0:l[k+j - 1]? =some (l[k+j - 1]'(by omega)):=B3 (by omega);have tk:l.take (k+(j+1))=l.take (k+j)++[l[k+j]'hj]:=by rw[show k+(j+1)=(k+j)+1 by omega,E3,g1];rfl
     have ne:l.take (k+j)≠[]:=by intro h;have:=congrArg List.length h;rw[Cv,Cs] at this;omega
     have gl:(l.take (k+j)).getLast ne=l[k+j - 1]'(by omega):=by rw[List.getLast_eq_getElem];simp only[List.getElem_take,Cv];congr 1;omega
     have cs:=fm eq2 (l[k+j]'hj) (l.take (k+j)) ne;rw[<-tk,gl] at cs;have hc:=h (l[k+j]'hj) (H1 _) (l[k+j - 1]'(by omega)) (H1 _);generalize l[k+j]'hj=x at*;generalize l[k+j - 1]'(by omega)=y at*;have hjj:(j:Int)<(s.length:Int) - (k:Int):=by omega
     have i1:Lg 16 (B8 s) (.i .i64 ((k:Int)+(j:Int)))=some x.pv:=by rw[Qr _ _ _ (by omega),show ((k:Int)+(j:Int)).toNat=k+j by omega,c1,g1];rfl
     have i0:Lg 16 (B8 s) (.i .i64 ((k:Int)+((j:Int) - 1)))=some y.pv:=by rw[Qr _ _ _ (by omega),show ((k:Int)+((j:Int) - 1)).toNat=k+j - 1 by omega,c0,g0];rfl
     have ls:Kt 16 (B8 s) (.i .i64 (k:Int)) (.i .i64 (s.length:Int))=some (B8 (s.drop k)):=by rw[Ox _ _ _ _ _ (by omega) (by omega) (by omega)];simp
     have e1:(s.drop k)[j]? =some x:=by rw[Cr,c1,g1]
     have e0:(s.drop k)[j - 1]? =some y:=by rw[Cr,show k+(j - 1)=k+j - 1 by omega,c0,g0]
     have si:∃w,s[i]? =some w:=⟨_,B3 (by omega)⟩;obtain⟨w,si⟩:=si;have ej:((j:Int) - 1).toNat=j - 1:=by omega
     by_cases hxy:eq2 x y=true
     .refine⟨(i,j+1,s),?_,⟨by simp,by simp only;omega,by simp only;omega,a4,?_,?_,?_⟩,by simp only;omega⟩
      .simp(disch:=omega)only[P4,hjj,i1,i0,ls,e1,e0,ej,hc,hxy,EVT,Aw,simprocAttr]
      .simp only;rw[cs,a5];simp[hxy]
      .simp only;rw[cs,Bp,a6];simp[hxy]
      .simp only;rw[show k+(j+1) - 1=(k+j - 1)+1 by omega,<-Fy,<-Fy,a7]
     .refine⟨(i+1,j+1,s.set i x),?_,⟨by simp,by simp only;omega,by simp only;omega,by simpa using a4,?_,?_,?_⟩,by simp only;omega⟩
      .simp(disch:=omega)only[P4,hjj,i1,i0,ls,e1,e0,ej,si,hc,hxy,EVT,Aw,simprocAttr]
      .simp only;rw[cs,E3,List.getElem?_set_self (by omega),List.take_set_of_le (by omega),a5];simp[hxy]
      .simp only;rw[cs,Bp,a6];simp[hxy]
      .simp only;rw[show k+(j+1) - 1=(k+j - 1)+1 by omega,List.drop_set_of_lt (by omega),<-Fy,<-Fy,a7]
    .right;have ek:k+j=l.length:=by omega
     rw[ek,D6] at a5 a6;have hjj:¬(j:Int)<(s.length:Int) - (k:Int):=by omega
     refine⟨.yld 2 [.i .i64 (i:Int),B8 s],?_,rfl,s,a4,by rw[a6];exact a5,by rw[a6]⟩;simp(disch:=omega)only[P4,hjj,EVT,Aw,simprocAttr]
  have key:Dk9.ev S (l.length+2) [B8 l,.f g caps]=some (if cpt eq2 l=l then .yld 0 [B8 l] else .ret [B8 (cpt eq2 l)]):=by
   have:=Jp (fn:=S) (N:=l.length+2) (J:=[B8 l,.f g caps]) (id:=1) (init:=[(.c (.i .i64 (1))),(.v 0)]) (body:=yn) (D:=Nat)
    (fun k=>[.i .i64 (k:Int),B8 l]) (fun o=>o=if cpt eq2 l=l then .yld 0 [B8 l] else .ret [B8 (cpt eq2 l)])
    (fun k=>1<=k∧k<=l.length∧cpt eq2 (l.take k)=l.take k) (fun k=>l.length - k) 1 (by simp(disch:=omega)only[EVT,Aw,simprocAttr])
    ⟨B7 1,by omega,by cases l with
     |nil=>simp at h2
     |cons x r=>rfl⟩ (by omega) ?_
   .obtain⟨o,h3,h4⟩:=this;rw[<-h4];exact h3
   .rintro k ⟨k1,k2,k3⟩;by_cases hk:k<l.length
    .have g1:l[k]? =some l[k]:=B3 hk;have g0:l[k - 1]? =some (l[k - 1]'(by omega)):=B3 (by omega);have tk:l.take (k+1)=l.take k++[l[k]]:=by rw[E3,g1];rfl
     have ne:l.take k≠[]:=by intro h;have:=congrArg List.length h;rw[Cv,Cs] at this;omega
     have gl:(l.take k).getLast ne=l[k - 1]'(by omega):=by rw[List.getLast_eq_getElem];simp only[List.getElem_take,Cv];congr 1;omega
     have cs:=fm eq2 l[k] (l.take k) ne;rw[<-tk,gl,k3] at cs;have hkk:(k:Int)<(l.length:Int):=by omega
     have i1:Lg 16 (B8 l) (.i .i64 (k:Int))=some (l[k]).pv:=by rw[Qr _ _ _ (by omega),show ((k:Int)).toNat=k by omega,g1];rfl
     have i0:Lg 16 (B8 l) (.i .i64 ((k:Int) - 1))=some (l[k - 1]'(by omega)).pv:=by rw[Qr _ _ _ (by omega),show ((k:Int) - 1).toNat=k - 1 by omega,g0];rfl
     have hc:=h l[k] (H1 _) (l[k - 1]'(by omega)) (H1 _);by_cases hxy:eq2 l[k] (l[k - 1]'(by omega))=true
     .right;have cs':cpt eq2 (l.take (k+1))=l.take k:=by rw[cs];simp[hxy]
      obtain⟨s,s1,s2,s3⟩:=inner k k1 hk cs';have hlt:cpt eq2 l≠l:=by
       intro h;have q:(cpt eq2 l).length<=(cpt eq2 (l.take (k+1))).length+(l.drop (k+1)).length:=by
        have:∀(b a:List Rec),a≠[]->(cpt eq2 (a++b)).length<=(cpt eq2 a).length+b.length:=by
         intro b
         induction b with
         |nil=>intro a _;simp
         |cons x r ih=>
          intro a ha;have h1:=ih (a++[x]) (by simp);rw[fm _ _ _ ha] at h1;rw[show a++x::r=a++[x]++r by simp];refine Ep h1 ?_;rw[Bp];split<;>simp<;>omega
        have h3:=this (l.drop (k+1)) (l.take (k+1)) (by intro h;have:=congrArg List.length h;rw[Cv,Cs] at this;omega);rwa[C8] at h3
       rw[h,cs',Cv,Cn] at q;omega
      have hlen:=Gw7 eq2 l;refine⟨.ret [B8 (cpt eq2 l)],?_,rfl,by rw[if_neg hlt]⟩;generalize cpt eq2 l=fl at*;have ls:Kt 16 (B8 l) (.i .i64 (k:Int)) (.i .i64 (l.length:Int))=some (B8 (l.drop k)):=by rw[Ox _ _ _ _ _ (by omega) (by omega) (by omega)];simp
      have hsl1:Kt 16 (B8 s) (.i .i64 ((fl.length:Nat):Int)) (.i .i64 (s.length:Int))=some (B8 (s.drop fl.length)):=by rw[Ox _ _ _ _ _ (by omega) (by omega) (by omega)];simp
      have hsl2:Kt 16 (B8 s) (.i .i64 0) (.i .i64 ((fl.length:Nat):Int))=some (B8 fl):=by rw[Ox _ _ _ _ _ (by omega) (by omega) (by omega)];simp[s2]
      have hrep:M6 16 (.i .i64 ((s.length:Int) - (fl.length:Int))) Bb3=some (B8 (List.replicate (s.length - fl.length) zr)):=by rw[Ds5 _ (by omega) (by omega)];congr 3;omega
      have happ:Jm 16 (B8 fl) (B8 (List.replicate (s.length - fl.length) zr))=some (B8 (fl++List.replicate (s.length - fl.length) zr)):=Uh _ _ (by simp;omega);have hsl3:Kt 16 (B8 (fl++List.replicate (s.length - fl.length) zr)) (.i .i64 0) (.i .i64 ((fl.length:Nat):Int))=some (B8 fl):=by rw[Ox _ _ _ _ _ (by omega) (by omega) (by simp;omega)];simp
      simp(disch:=omega)only[P4,hkk,i1,i0,hc,hxy,ls,s3,hsl1,hsl2,hrep,happ,hsl3,EVT,Aw,simprocAttr]
     .left;refine⟨k+1,?_,⟨by omega,by omega,?_⟩,by omega⟩
      .simp(disch:=omega)only[P4,hkk,i1,i0,hc,hxy,EVT,Aw,simprocAttr]
      .rw[cs,tk];simp[hxy]
    .right;have e:k=l.length:=by omega
     subst e;rw[D6] at k3;refine⟨_,?_,?_,rfl⟩
     .rw[if_pos k3];simp(disch:=omega)only[P4,EVT,Aw,simprocAttr]
     .rw[if_pos k3];rfl
  by_cases hh:cpt eq2 l=l
  .rw[if_pos hh] at key;rw[hh];simp(disch:=omega)only[P4,h2,key,EVT,Aw,simprocAttr]
  .rw[if_neg hh] at key;simp(disch:=omega)only[P4,h2,key,EVT,Aw,simprocAttr]
def Dg6 (r:Rec) (h:r.wf):S Eq7 1 [r.pv]=some [.b (g7 r)]:=by
 refine Iy7 (N:=1) rfl ?_;have g:r.name.length<=9223372036854775807:=h.name;have h1:=C6 r.name g;have h2:=Ey r.typ;have h3:=R9 r.typ r.data h.data;unfold g7;by_cases k0:0<=r.ttl<;>by_cases k1:r.ttl<=2147483647
 all_goals rcases ch3 (vld r.name) (knw r.typ) (Es r.typ r.data) with e0|⟨e0,e1⟩|⟨e0,e1,e2⟩|⟨e0,e1,e2⟩
 all_goals simp only[*] at h1 h2 h3
 all_goals simp(disch:=omega)only[Ik4,ep,Gt,h1,h2,h3,EVC,xe,EVP,EV,simprocAttr, *]
 all_goals simp
def Fw9 (x:Int):S lr 1 [.i .i64 x]=some [.b false]:=by refine Gt7 (N:=1) rfl ?_;simp(disch:=omega)only[Gd9,Ax,simprocAttr]
def Dh9 (a b:Int):S mq 2 [.i .i64 a,.i .i64 b]=some [.i .i64 (xh a b)]:=by
 refine Hk7 (N:=1) rfl ?_;have h1:=Fw9 a;have h2:=Fw9 b;unfold xh;by_cases k1:a<b
 .simp(disch:=omega)only[Bc3,h1,h2,k1,Ax,simprocAttr]
 .by_cases k2:b<a
  .simp(disch:=omega)only[Bc3,h1,h2,k1,k2,Ax,simprocAttr]
  .simp(disch:=omega)only[Bc3,h1,h2,k1,k2,Ax,simprocAttr]
def Aq3 (a b:Rec) (ha:a.wf) (hb:b.wf):S ms 2 [a.pv,b.pv]=some [.i .i64 (T5 a b)]:=by
 refine Hy3 (N:=1) rfl ?_;have g1:a.name.length<=9223372036854775807:=ha.name;have g2:b.name.length<=9223372036854775807:=hb.name;have h1:=Kp a.name b.name g1 g2;have h2:=Dh9 a.typ b.typ;have h3:=zc a.typ a.data b.data ha.data hb.data;unfold T5;by_cases k1:Od a.name b.name=0
 .by_cases k2:xh a.typ b.typ=0
  .rw[k1] at h1;rw[k2] at h2;simp(disch:=omega)only[Bd5,ep,Gt,h1,h2,h3,Ax,simprocAttr];simp[k1,k2]
  .rw[k1] at h1;simp(disch:=omega)only[Bd5,h1,h2,k2,Ax,simprocAttr];simp[k1,k2]
 .simp(disch:=omega)only[Bd5,h1,k1,Ax,simprocAttr]
def zy (a b:Rec) (ha:a.wf) (hb:b.wf):S m8 2 [a.pv,b.pv]=some [.i .i64 (Gx0 a b)]:=by
 refine Hy6 (N:=1) rfl ?_;have h1:=Aq3 a b ha hb;have h2:=Dh9 a.ttl b.ttl;unfold Gx0;by_cases k1:T5 a b=0
 .rw[k1] at h1;simp(disch:=omega)only[El8,h1,h2,Ax,simprocAttr];simp[k1]
 .simp(disch:=omega)only[El8,h1,k1,Ax,simprocAttr]
def In6:Cmp m8 [] Gx0 Rec.wf:=⟨fun x y hx hy=>zy x y hx hy⟩
def Hh6:leC Gx0=leR:=rfl
def Eg9 (a b:Rec) (ha:a.wf) (hb:b.wf):S m7 2 [a.pv,b.pv]=some [.b (eqF a b)]:=by refine Hy4 (N:=1) rfl ?_;have h1:=Aq3 a b ha hb;simp(disch:=omega)only[Gh1,h1,Ax,simprocAttr]
def Am2 (l:List Rec) (hw:∀r∈l,r.wf) (hl:l.length<=1000000):S Cm6 1 [B8 l]=some [B8 (sortR l)]:=by refine Iy8 (N:=1) rfl ?_;have h0:=Dl0 l hl;obtain⟨r,h1,h2,h3⟩:=gh In6 (by rw[Hh6];exact Iw0) l hw hl;rw[Hh6] at h1;have hm:=h1.mem Iw0;have h4:=zf r m7 [] eqF (fun x hx y hy=>Eg9 x y (hw x ((hm x).1 hx)) (hw y ((hm y).1 hy))) (by omega);rw[Dr3 h1] at h4;simp(disch:=omega)only[Ik5,h0,h3,h4,G7,Tc,EVT,Aw,simprocAttr]
end Go.X.G
/- Sets of records: what the program's and the reference's functions give. -/
namespace Go.X
open Go
structure SetR where
 name:List UInt8
 typ:Int
 ttl:Int
 data:List Dat
 deriving DecidableEq
def Dm (l:List Dat):PV:= .l 13 (l.map Dat.pv)
def SetR.pv (x:SetR):PV:= .a [.s x.name,.i .i64 x.typ,.i .i64 x.ttl,Dm x.data]
def Dh (l:List SetR):PV:= .l 4 (l.map SetR.pv)
def Ed5:PV.l 13 []=Dm []:=rfl
def Dr8:PV.l 4 []=Dh []:=rfl
def Cc4 (x:SetR):C3 0 x.pv=some (.s x.name):=rfl
def Cc3 (x:SetR):C3 1 x.pv=some (.i .i64 x.typ):=rfl
def Cc2 (x:SetR):C3 2 x.pv=some (.i .i64 x.ttl):=rfl
def Cc1 (x:SetR):C3 3 x.pv=some (Dm x.data):=rfl
def Gk3 (x:SetR):Sy 4 x.pv=some x.pv:=rfl
def Fm2 (x:SetR):Lw 0 4 x.pv=some x.pv:=rfl
def Dw5 (n:List UInt8) (t u:Int) (d:List Dat):PV.a [.s n,.i .i64 t,.i .i64 u,Dm d]=SetR.pv ⟨n,t,u,d⟩:=rfl
def Gq9 (x:SetR):(⟨x.name,x.typ,x.ttl,x.data⟩:SetR)=x:=rfl
def Ft3 (x:SetR):Lf 4 [x.pv]=some (Dh [x]):=rfl
def Ft6 (x:Dat):Lf 13 [x.pv]=some (Dm [x]):=rfl
def Ab8 (l:List SetR):H7 (Dh l)=some (.i .i64 (l.length:Int)):=by simp[Dh,H7]
def Ey4 (l:List Dat):H7 (Dm l)=some (.i .i64 (l.length:Int)):=by simp[Dm,H7]
def Cw5 (l:List SetR):Jf (Dh l)=some (Dh l):=rfl
def Cw7 (l:List Dat):Jf (Dm l)=some (Dm l):=rfl
def Ac7 (l:List SetR) (k:IntKind) (z:Int) (h:0<=z):Lg 4 (Dh l) (.i k z)=(l[z.toNat]?).map SetR.pv:=by simp[Dh,vl _ _ _ _ h]
def Eb2 (l:List Dat) (k:IntKind) (z:Int) (h:0<=z):Lg 13 (Dm l) (.i k z)=(l[z.toNat]?).map Dat.pv:=by simp[Dm,vl _ _ _ _ h]
def Dg0 (l:List SetR) (x:SetR) (h:l.length+1<=1073741824):Jm 4 (Dh l) (Dh [x])=some (Dh (l++[x])):=by have:=T6 4 (l.map SetR.pv) [x.pv] (by simpa using h);simpa [Dh] using this
def Dg2 (l:List Dat) (x:Dat) (h:l.length+1<=1073741824):Jm 13 (Dm l) (Dm [x])=some (Dm (l++[x])):=by have:=T6 13 (l.map Dat.pv) [x.pv] (by simpa using h);simpa [Dm] using this
def c6 {l:List SetR} {k:IntKind} {z:Int} {x y:SetR} {off:Nat} {vs:List PV} (h0:0<=z) (h3:l[z.toNat]? =some x) (h:R4 x.pv off vs=some y.pv):Pw 4 off vs (Dh l) (.i k z)=some (Dh (l.set z.toNat y)):=by
 have h4:(l.map SetR.pv)[z.toNat]? =some x.pv:=by rw[Dk,h3];rfl
 simp only[Pw,Dh,h0,h4,and_self,if_true,B0,h,Cc];simp[List.map_set]
set_option linter.defProp false in
def Dj:=(And.intro @Ed5 (And.intro @Dr8 (And.intro @Cc4 (And.intro @Cc3 (And.intro @Cc2 (And.intro @Cc1 (And.intro @Gk3 (And.intro @Fm2 (And.intro @Dw5 (And.intro @Gq9 (And.intro @Ft3 (And.intro @Ft6 (And.intro @Ab8 (And.intro @Ey4 (And.intro @Cw5 (And.intro @Cw7 (And.intro @Ac7 (And.intro @Eb2 (And.intro @Dg0 @Dg2)))))))))))))))))))
end Go.X
namespace Go.X.G
open Go Go.X
def addS (g:List SetR) (r:Rec):List SetR:=
 match g.getLast? with
 |some x=>if x.name=r.name∧x.typ=r.typ then g.dropLast++[⟨x.name,x.typ,if r.ttl<x.ttl then r.ttl else x.ttl,x.data++[r.data]⟩] else g++[⟨r.name,r.typ,r.ttl,[r.data]⟩]
 |none=>[⟨r.name,r.typ,r.ttl,[r.data]⟩]
def Cv8 (l:List Rec):List SetR:=l.foldl addS []
def setsR (l:List Rec):List SetR:=Cv8 (sortR l)
def Jh (g:List SetR):List Dat:=((g.getLast?).map SetR.data).getD []
def ky {g:List SetR} {x:SetR} (h:g.getLast? =some x) (y:SetR):g.set (g.length - 1) y=g.dropLast++[y]:=by obtain⟨a,rfl⟩:=List.getLast?_eq_some_iff.1 h;simp
def Al7 (g:List SetR) (r:Rec):(addS g r).length<=g.length+1:=by
 unfold addS;split
 .split
  .simp
  .simp
 .simp
def Cv5 (x:SetR) (g:List SetR) (c:Rec) (s:List Rec) (i:Nat) (p0 p2 p3:PV) (d:List Dat) (N:Nat) (hc:s[i]? =some c) (hg:g.getLast? =some x) (hl:g.length<=1000000) (hd:d.length<=1000000) (hi:i<=1000000) (hxd:x.data=d):
  Db2.ev S N [p0,B8 s,p2,p3,.i .i64 (i:Int),Dh g,Dm d,.i .i64 (g.length:Int)]=some (.yld 1 [Dh (g.dropLast++[⟨x.name,x.typ,if c.ttl<x.ttl then c.ttl else x.ttl,d++[c.data]⟩]),Dm (d++[c.data]),.i .i64 ((i+1:Nat):Int)]):=by
 have hpos:0<g.length:=by cases g<;>simp at hg ⊢
 have e1:((g.length:Int) - 1).toNat=g.length - 1:=by omega
 have hx:g[((g.length:Int) - 1).toNat]? =some x:=by rw[e1,<-Jx];exact hg
 have hw:IntKind.i64.wrap ((g.length:Int) - 1)=(g.length:Int) - 1:=w64 (by omega) (by omega);let y:SetR:=⟨x.name,x.typ,if c.ttl<x.ttl then c.ttl else x.ttl,x.data⟩;let z:SetR:=⟨x.name,x.typ,if c.ttl<x.ttl then c.ttl else x.ttl,d++[c.data]⟩;have s1:Pw 4 2 [.i .i64 (if c.ttl<x.ttl then c.ttl else x.ttl)] (Dh g) (.i .i64 ((g.length:Int) - 1))=some (Dh (g.set (g.length - 1) y)):=by rw[<-e1];exact c6 (by omega) hx rfl
 have hl2:(g.set (g.length - 1) y).length=g.length:=by simp
 have hx2:(g.set (g.length - 1) y)[((g.length:Int) - 1).toNat]? =some y:=by rw[e1,List.getElem?_set_self (by omega)]
 have s2:Pw 4 3 [Dm (d++[c.data])] (Dh (g.set (g.length - 1) y)) (.i .i64 ((g.length:Int) - 1))=some (Dh (g.dropLast++[z])):=by rw[c6 (x:=y) (y:=z) (by omega) hx2 rfl,e1,List.set_set,ky hg]
 have hmn:Ex6 (.i .i64 x.ttl) (.i .i64 c.ttl)=some (.i .i64 (if c.ttl<x.ttl then c.ttl else x.ttl)):=by simp[Ex6]
 have hy3:C3 3 y.pv=some (Dm x.data):=rfl;have i1:Lg 4 (Dh (g.set (g.length - 1) y)) (.i .i64 ((g.length:Int) - 1))=some y.pv:=by rw[Ac7 _ _ _ (by omega),hx2];rfl
 have n1:H7 (Dh (g.set (g.length - 1) y))=some (.i .i64 (g.length:Int)):=by rw[Ab8,hl2]
 generalize hG:Dh (g.set (g.length - 1) y)=G at*;generalize hY:y.pv=Y at*;simp(disch:=omega)only[rz,hc,hx,hw,hmn,s1,s2,i1,n1,hy3,Dj,Ay,simprocAttr]
 try rfl
structure SetsIn (g:List SetR) (i:Nat):Prop where
 len:g.length<=i
 each:∀x∈g,x.data.length<=i
def Dg5 {g:List SetR} {i:Nat} (h:SetsIn g i) (c:Rec):SetsIn (addS g c) (i+1):=by
 refine⟨Ep (Al7 g c) (by have:=h.len;omega),fun x hx=> ?_⟩;unfold addS at hx;split at hx
 .rename_i y hy;have hym:y∈g:=P0 hy;split at hx
  .rcases Dw.1 hx with hx|hx
   .have:=h.each x (Bb0 _ hx);omega
   .rw[Cl.1 hx];have:=h.each y hym;simp;omega
  .rcases Dw.1 hx with hx|hx
   .have:=h.each x hx;omega
   .rw[Cl.1 hx];simp
 .rw[Cl.1 hx];simp
def Oz (g:List SetR) (c:Rec):Jh (addS g c)=match g.getLast? with
  |some x=>if x.name=c.name∧x.typ=c.typ then x.data++[c.data] else [c.data]
  |none=>[c.data]:=by
 unfold addS Jh;split
 .split<;>simp
 .simp
def Ak4:∀(l acc:List Rec),(l.foldl (fun a x=>eq x a) acc).length<=acc.length+l.length
 |[],acc=>by simp
 |x::l,acc=>by have h1:=Ak4 l (eq x acc);have h2:=d9 x acc;simp only[il,Cq];omega
def K7 (l:List Rec):(sortR l).length<=l.length:=by simpa [sortR] using Ak4 l []
def Eh0 (l:List Rec) (hw:∀r∈l,r.wf) (hl:l.length<=100000):S Ev8 1 [B8 l]=some [Dh (setsR l)]:=by
 have hs:=Am2 l hw (by omega);have hsl:(sortR l).length<=1000000:=by have:=K7 l;omega
 generalize hsd:sortR l=s at*;obtain⟨N,hN⟩:∃N,N=s.length+1:=⟨_,rfl⟩;refine Id2 (N:=N) rfl ?_;have key:Fj0.ev S N [B8 l,B8 s]=some (.yld 0 [Dh (s.foldl addS []),Dm (Jh (s.foldl addS []))]):=by
  refine Fl s (fun i (g:List SetR)=>[Dh g,Dm (Jh g),.i .i64 (i:Int)]) (fun i g r=> .yld 0 [Dh (r.foldl addS g),Dm (Jh (r.foldl addS g))]) (fun i g=>SetsIn g i) [] rfl ⟨B7 _,fun x hx=>by cases hx⟩ (by omega) (fun i g c r hd hi hc hI=> ?_) (fun g hI=> ?_)
  .left;refine⟨addS g c,?_,Dg5 hI c,rfl⟩;have hgl:=hI.len;have hilt:(i:Int)<(s.length:Int):=by omega
   cases hg:g.getLast? with
   |none=>
    have hg0:g=[]:=List.getLast?_eq_none_iff.1 hg;subst hg0;have k:=Cv5 ⟨c.name,c.typ,c.ttl,[]⟩ [⟨c.name,c.typ,c.ttl,[]⟩] c s i (B8 l) (Dh []) (Dm (Jh [])) [] N hc rfl (by simp) (by simp) (by omega) rfl;have e1:(([⟨c.name,c.typ,c.ttl,[]⟩]:List SetR).length:Int)=1:=rfl;have e2:([⟨c.name,c.typ,c.ttl,[]⟩]:List SetR).dropLast++[⟨c.name,c.typ,if c.ttl<c.ttl then c.ttl else c.ttl,[]++[c.data]⟩]=addS [] c:=by simp[addS]
    have e3:([]++[c.data]:List Dat)=Jh (addS [] c):=by simp[addS,Jh]
    rw[e1,e2,e3] at k;generalize addS [] c=G at*;simp(disch:=omega)only[rz,hc,hilt,k,Dj,Ay,simprocAttr]
   |some x=>
    have hpos:0<g.length:=by cases g<;>simp at hg ⊢
    have hx:g[((g.length:Int) - 1).toNat]? =some x:=by rw[show ((g.length:Int) - 1).toNat=g.length - 1 by omega,<-Jx];exact hg
    have hxm:x∈g:=P0 hg;have hxd:=hI.each x hxm;have hn0:¬(g.length:Int)=0:=by omega
    have hld:Jh g=x.data:=by simp[Jh,hg]
    by_cases hk:x.name=c.name∧x.typ=c.typ
    .have k:=Cv5 x g c s i (B8 l) (Dh g) (Dm (Jh g)) x.data N hc hg (by omega) (by omega) (by omega) rfl;have e2:g.dropLast++[⟨x.name,x.typ,if c.ttl<x.ttl then c.ttl else x.ttl,x.data++[c.data]⟩]=addS g c:=by simp[addS,hg,hk]
     have e3:x.data++[c.data]=Jh (addS g c):=by rw[Oz,hg];simp[hk]
     rw[e2,e3,hld] at k;rw[hld];generalize addS g c=G at*;simp(disch:=omega)only[rz,hc,hilt,hx,hn0,hk.1,hk.2,k,Dj,Ay,simprocAttr]
    .have k:=Cv5 ⟨c.name,c.typ,c.ttl,[]⟩ (g++[⟨c.name,c.typ,c.ttl,[]⟩]) c s i (B8 l) (Dh g) (Dm (Jh g)) [] N hc (by simp) (by simp;omega) (by simp) (by omega) rfl;have e1:((g++[⟨c.name,c.typ,c.ttl,[]⟩]:List SetR).length:Int)=(g.length:Int)+1:=by simp
     have e2:(g++[⟨c.name,c.typ,c.ttl,[]⟩]:List SetR).dropLast++[⟨c.name,c.typ,if c.ttl<c.ttl then c.ttl else c.ttl,[]++[c.data]⟩]=addS g c:=by simp[addS,hg,hk]
     have e3:([]++[c.data]:List Dat)=Jh (addS g c):=by rw[Oz,hg];simp[hk]
     rw[e1,e2,e3,hld] at k;rw[hld];generalize addS g c=G at*;by_cases h1:x.name=c.name
     .have h2:¬x.typ=c.typ:=fun h=>hk ⟨h1,h⟩;simp(disch:=omega)only[rz,hc,hilt,hx,hn0,h1,h2,k,Dj,Ay,simprocAttr]
     .simp(disch:=omega)only[rz,hc,hilt,hx,hn0,h1,k,Dj,Ay,simprocAttr]
  .simp(disch:=omega)only[rz,Dj,Ay,simprocAttr];simp[Out.goes]
 simp(disch:=omega)only[rz,hs,key,Dj,Ay,simprocAttr];simp[setsR,Cv8,hsd]
end Go.X.G
namespace Go.X.G
open Go Go.X
def c3 (s:List UInt8):List UInt8:=s.take 300
def Y3 {a b:List UInt8} (h1:under a b=true) (h2:(lbl a).length<=(lbl b).length):a=b:=by obtain⟨va,vb,s⟩:=Ky.1 h1;exact Wh va vb (s.eq_of_length_le h2).symm
def unsetR (x:SetR):List Rec:=x.data.map fun d=>⟨x.name,x.typ,x.ttl,d⟩
def Pp (x:SetR) (hl:x.data.length<=1000000):S um 1 [x.pv]=some [B8 (unsetR x)]:=by
 refine Ig9 (N:=x.data.length+1) rfl ?_;have key:Fq2.ev S (x.data.length+1) [x.pv]=some (.yld 0 [B8 ([]++unsetR x)]):=by
  refine Fl (N:=x.data.length+1) x.data (fun i (g:List Rec)=>[B8 g,.i .i64 (i:Int)]) (fun i g r=> .yld 0 [B8 (g++r.map fun d=>(⟨x.name,x.typ,x.ttl,d⟩:Rec))]) (fun i g=>g.length<=i) [] rfl (Dz _) (Nat.lt_succ_self _) (fun i g c r hd hi hc hI=> ?_) (fun g hI=> ?_)
  .left;refine⟨g++[⟨x.name,x.typ,x.ttl,c⟩],?_,by simp;omega,by simp⟩;have hil:(i:Int)<(x.data.length:Int):=by omega
   simp(disch:=omega)only[Fy1,hc,hil,Dj,Ay,simprocAttr]
  .simp(disch:=omega)only[Fy1,C2,Dj,Ay,simprocAttr];simp[Out.goes]
 simp(disch:=omega)only[Fy1,key,Dj,Ay,simprocAttr]
 try simp
def Pr (x:SetR) (hl:x.data.length<=1000000):S Bj9 1 [x.pv]=some [B8 (unsetR x)]:=by
 refine Ib4 (N:=x.data.length+1) rfl ?_;have key:Et4.ev S (x.data.length+1) [x.pv]=some (.yld 0 [B8 ([]++unsetR x)]):=by
  refine Fl (N:=x.data.length+1) x.data (fun i (g:List Rec)=>[B8 g,.i .i64 (i:Int)]) (fun i g r=> .yld 0 [B8 (g++r.map fun d=>(⟨x.name,x.typ,x.ttl,d⟩:Rec))]) (fun i g=>g.length<=i) [] rfl (Dz _) (Nat.lt_succ_self _) (fun i g c r hd hi hc hI=> ?_) (fun g hI=> ?_)
  .left;refine⟨g++[⟨x.name,x.typ,x.ttl,c⟩],?_,by simp;omega,by simp⟩;have hil:(i:Int)<(x.data.length:Int):=by omega
   simp(disch:=omega)only[Fx5,hc,hil,Dj,Ay,simprocAttr]
  .simp(disch:=omega)only[Fx5,C2,Dj,Ay,simprocAttr];simp[Out.goes]
 simp(disch:=omega)only[Fx5,key,Dj,Ay,simprocAttr]
 try simp
def tz (x:SetR) (g:List SetR) (c:Rec) (s:List Rec) (i:Nat) (p0 p2 p3:PV) (d:List Dat) (N:Nat) (hc:s[i]? =some c) (hg:g.getLast? =some x) (hl:g.length<=1000000) (hd:d.length<=1000000) (hi:i<=1000000) (hxd:x.data=d):
  al.ev S N [p0,B8 s,p2,p3,.i .i64 (i:Int),Dh g,Dm d,.i .i64 (g.length:Int)]=some (.yld 1 [Dh (g.dropLast++[⟨x.name,x.typ,if c.ttl<x.ttl then c.ttl else x.ttl,d++[c.data]⟩]),Dm (d++[c.data]),.i .i64 ((i+1:Nat):Int)]):=by
 have hpos:0<g.length:=by cases g<;>simp at hg ⊢
 have e1:((g.length:Int) - 1).toNat=g.length - 1:=by omega
 have hx:g[((g.length:Int) - 1).toNat]? =some x:=by rw[e1,<-Jx];exact hg
 have hw:IntKind.i64.wrap ((g.length:Int) - 1)=(g.length:Int) - 1:=w64 (by omega) (by omega);have s2:∀u:Int,Pw 4 0 [.s x.name,.i .i64 x.typ,.i .i64 u,Dm (d++[c.data])] (Dh g) (.i .i64 ((g.length:Int) - 1))=some (Dh (g.dropLast++[⟨x.name,x.typ,u,d++[c.data]⟩])):=fun u=>by rw[c6 (x:=x) (y:=⟨x.name,x.typ,u,d++[c.data]⟩) (by omega) hx rfl,e1,ky hg]
 by_cases ht:c.ttl<x.ttl
 .rw[if_pos ht];simp(disch:=omega)only[i7,hc,hx,hw,ht,s2,Dj,Ay,simprocAttr]
  try rfl
 .rw[if_neg ht];simp(disch:=omega)only[i7,hc,hx,hw,ht,s2,Dj,Ay,simprocAttr]
  try rfl
def gm (l:List Rec) (hw:∀r∈l,r.wf) (hl:l.length<=100000):S Bk8 1 [B8 l]=some [Dh (setsR l)]:=by
 have hs:=Am3 l hw (by omega);have hsl:(sortR l).length<=1000000:=by have:=K7 l;omega
 generalize hsd:sortR l=s at*;obtain⟨N,hN⟩:∃N,N=s.length+1:=⟨_,rfl⟩;refine If6 (N:=N) rfl ?_;have key:Fk1.ev S N [B8 l,B8 s]=some (.yld 0 [Dh (s.foldl addS []),Dm (Jh (s.foldl addS []))]):=by
  refine Fl s (fun i (g:List SetR)=>[Dh g,Dm (Jh g),.i .i64 (i:Int)]) (fun i g r=> .yld 0 [Dh (r.foldl addS g),Dm (Jh (r.foldl addS g))]) (fun i g=>SetsIn g i) [] rfl ⟨B7 _,fun x hx=>by cases hx⟩ (by omega) (fun i g c r hd hi hc hI=> ?_) (fun g hI=> ?_)
  .left;refine⟨addS g c,?_,Dg5 hI c,rfl⟩;have hgl:=hI.len;have hilt:(i:Int)<(s.length:Int):=by omega
   cases hg:g.getLast? with
   |none=>
    have hg0:g=[]:=List.getLast?_eq_none_iff.1 hg;subst hg0;have k:=tz ⟨c.name,c.typ,c.ttl,[]⟩ [⟨c.name,c.typ,c.ttl,[]⟩] c s i (B8 l) (Dh []) (Dm (Jh [])) [] N hc rfl (by simp) (by simp) (by omega) rfl;have e1:(([⟨c.name,c.typ,c.ttl,[]⟩]:List SetR).length:Int)=1:=rfl;have e2:([⟨c.name,c.typ,c.ttl,[]⟩]:List SetR).dropLast++[⟨c.name,c.typ,if c.ttl<c.ttl then c.ttl else c.ttl,[]++[c.data]⟩]=addS [] c:=by simp[addS]
    have e3:([]++[c.data]:List Dat)=Jh (addS [] c):=by simp[addS,Jh]
    rw[e1,e2,e3] at k;generalize addS [] c=G at*;generalize hC7:al=C7 at*;simp(disch:=omega)only[i7,hC7,hc,hilt,k,Dj,Ay,simprocAttr]
   |some x=>
    have hpos:0<g.length:=by cases g<;>simp at hg ⊢
    have hx:g[((g.length:Int) - 1).toNat]? =some x:=by rw[show ((g.length:Int) - 1).toNat=g.length - 1 by omega,<-Jx];exact hg
    have hxm:x∈g:=P0 hg;have hxd:=hI.each x hxm;have hn0:¬(g.length:Int)=0:=by omega
    have hld:Jh g=x.data:=by simp[Jh,hg]
    by_cases hk:x.name=c.name∧x.typ=c.typ
    .have k:=tz x g c s i (B8 l) (Dh g) (Dm (Jh g)) x.data N hc hg (by omega) (by omega) (by omega) rfl;have e2:g.dropLast++[⟨x.name,x.typ,if c.ttl<x.ttl then c.ttl else x.ttl,x.data++[c.data]⟩]=addS g c:=by simp[addS,hg,hk]
     have e3:x.data++[c.data]=Jh (addS g c):=by rw[Oz,hg];simp[hk]
     rw[e2,e3,hld] at k;rw[hld];generalize addS g c=G at*;generalize hC7:al=C7 at*;simp(disch:=omega)only[i7,hC7,hc,hilt,hx,hn0,hk.1,hk.2,k,Dj,Ay,simprocAttr]
    .have k:=tz ⟨c.name,c.typ,c.ttl,[]⟩ (g++[⟨c.name,c.typ,c.ttl,[]⟩]) c s i (B8 l) (Dh g) (Dm (Jh g)) [] N hc (by simp) (by simp;omega) (by simp) (by omega) rfl;have e1:((g++[⟨c.name,c.typ,c.ttl,[]⟩]:List SetR).length:Int)=(g.length:Int)+1:=by simp
     have e2:(g++[⟨c.name,c.typ,c.ttl,[]⟩]:List SetR).dropLast++[⟨c.name,c.typ,if c.ttl<c.ttl then c.ttl else c.ttl,[]++[c.data]⟩]=addS g c:=by simp[addS,hg,hk]
     have e3:([]++[c.data]:List Dat)=Jh (addS g c):=by rw[Oz,hg];simp[hk]
     rw[e1,e2,e3,hld] at k;rw[hld];generalize addS g c=G at*;generalize hC7:al=C7 at*;by_cases h1:x.name=c.name
     .have h2:¬x.typ=c.typ:=fun h=>hk ⟨h1,h⟩;simp(disch:=omega)only[i7,hC7,hc,hilt,hx,hn0,h1,h2,k,Dj,Ay,simprocAttr]
     .simp(disch:=omega)only[i7,hC7,hc,hilt,hx,hn0,h1,k,Dj,Ay,simprocAttr]
  .simp(disch:=omega)only[i7,C2,Dj,Ay,simprocAttr];simp[Out.goes]
 simp(disch:=omega)only[i7,hs,key,Dj,Ay,simprocAttr]
 try simp[setsR,Cv8,hsd]
end Go.X.G
namespace Go.X
structure Begin where
 q:Ques
 zone:List UInt8
 hosts:List (List UInt8)
 addrs:List Adr
structure Actn where
 kind:Int
 n:Int
 odd:Bool
 m:Msg
 host:List UInt8
 addrs:List Adr
def u8r (x:Int):Prop:=0<=x∧x<=255
structure Begin.wf (b:Begin):Prop where
 q:b.q.wf
 zone:Td b.zone
 hosts:b.hosts.length<=9223372036854775807∧∀h∈b.hosts,Td h
 addrs:b.addrs.length<=9223372036854775807
structure Actn.wf (a:Actn):Prop where
 kind:u8r a.kind
 n:u8r a.n
 m:a.m.wf
 host:Td a.host
 addrs:a.addrs.length<=9223372036854775807
def Begin.cells (b:Begin):List PV:=[.s b.q.name,.i .i64 b.q.typ,.s b.zone,Dq b.hosts,Gz b.addrs]
def Begin.pv (b:Begin):PV:= .a b.cells
def Actn.cells (a:Actn):List PV:=[.i .u8 a.kind,.i .u8 a.n,.b a.odd,.i .i64 a.m.id,.i .i64 a.m.op,.i .i64 a.m.code,.b a.m.resp,.b a.m.aa,.b a.m.tc,.b a.m.rd,.b a.m.ra,.b a.m.ad,.b a.m.cd,.b a.m.dok,.i .i64 a.m.size,.s a.m.q.name,.i .i64 a.m.q.typ,B8 a.m.ans,B8 a.m.auth,B8 a.m.ext,.s a.host,Gz a.addrs]
def Actn.pv (a:Actn):PV:= .a a.cells
def Fr4 {e:Sh} {D:Type} (W:D->Prop) (pv:D->PV) (hag:e.agg=true) (h1:∀ds,e.okC ds->∃x,W x∧PV.a ds=pv x) {cs:List PV} (h:(Sh.l e).okC cs):∃l:List D,l.length<=9223372036854775807∧(∀x∈l,W x)∧cs=[.l e.size (l.map pv)]:=by
 simp only[Sh.okC,hag,if_true] at h;obtain⟨xs,rfl,hl,hx⟩:=h;have go:∀xs:List PV,(∀x,x∈xs->∃ds,x= .a ds∧e.okC ds)->∃l:List D,(∀r∈l,W r)∧xs=l.map pv:=by
  intro xs
  induction xs with
  |nil=>exact fun _=>⟨[],fun r h=>(by cases h),rfl⟩
  |cons x xs ih=>
   intro hx;obtain⟨l,g1,rfl⟩:=ih (fun y hy=>hx y (Kw _ hy));obtain⟨ds,rfl,hd⟩:=hx x (Gm ..);obtain⟨r,hr,hpv⟩:=h1 ds hd;refine⟨r::l,fun y hy=> ?_,by rw[hpv];rfl⟩;rcases Ch.1 hy with rfl|hy
   .exact hr
   .exact g1 y hy
 obtain⟨l,g1,rfl⟩:=go xs hx;exact⟨l,by simpa [maxLen] using hl,g1,rfl⟩
open Go
structure Ask where
 zone:List UInt8
 keys:List Dat
 now:Int
 deriving DecidableEq
def Ask.cells (x:Ask):List PV:=[.s x.zone,Dm x.keys,.i .i64 x.now]
def Ask.pv (x:Ask):PV:= .a x.cells
structure Ask.wf (x:Ask):Prop where
 zone:Td x.zone
 keys:∀d∈x.keys,d.wf
 now:g9 x.now
structure SetW (s:SetR):Prop where
 name:Td s.name
 typ:g9 s.typ
 ttl:g9 s.ttl
 data:∀d∈s.data,d.wf
def Ch5 (x:Ask):C3 0 x.pv=some (.s x.zone):=rfl
def Ch4 (x:Ask):C3 1 x.pv=some (Dm x.keys):=rfl
def Ch3 (x:Ask):C3 2 x.pv=some (.i .i64 x.now):=rfl
def Gk7 (x:Ask):Sy 3 x.pv=some x.pv:=rfl
def Fm6 (x:Ask):Lw 0 3 x.pv=some x.pv:=rfl
set_option linter.defProp false in
def Ij9:=(And.intro @Ch5 (And.intro @Ch4 (And.intro @Ch3 (And.intro @Gk7 @Fm6))))
def Dr7:Sh:= .st [.s,.l Dr6,.i .i64]
def Fr5 {cs:List PV} (h:(Sh.l Dr6).okC cs):∃l:List Dat,(∀d∈l,d.wf)∧cs=[Dm l]:=by obtain⟨l,_,h2,rfl⟩:=Fr4 (fun d:Dat=>d.wf) Dat.pv rfl (fun ds h=>by obtain⟨d,hd,rfl⟩:=En7 h;exact⟨d,hd,rfl⟩) h;exact⟨l,h2,rfl⟩
def Fr7 {p:PV} (h:Dr7.ok p):∃x:Ask,x.wf∧p=x.pv:=by obtain⟨ds,rfl,h⟩:∃ds,p= .a ds∧Dr7.okC ds:=h;obtain⟨a0,r0,rfl,h0,h⟩:=Dc (Zd h);obtain⟨a1,r1,rfl,h1,h⟩:=Dc h;obtain⟨a2,r2,rfl,h2,h⟩:=Dc h;obtain rfl:=Oq h;obtain⟨x0,rfl,k0⟩:=Bj4 h0;obtain⟨x1,k1,rfl⟩:=Fr5 h1;obtain⟨x2,rfl,k2⟩:=It h2;exact⟨⟨x0,x1,x2⟩,⟨k0,k1,k2⟩,rfl⟩
end Go.X
namespace Go.X.G
open Go Go.X
def labK (n:List UInt8):List (List UInt8):=if(lbl n)[0]? =some [42] then(lbl n).drop 1 else lbl n
def Uz (n:List UInt8):(labK n).length<=254:=by
 have:=Fg n;unfold labK;split
 .rw[Cn];omega
 .exact this
def Cs0 (n:List UInt8) (b:Nat) (hb:b<=(labK n).length):(labK n).drop ((labK n).length - b)=(lbl n).drop ((lbl n).length - b):=by
 unfold labK at hb ⊢;split at hb
 .rename_i h;rw[if_pos h];rw[Cn] at hb ⊢;rw[Fy];have h1:=(Br.1 h).1;congr 1;omega
 .rename_i h;rw[if_neg h]
def Ez1 (n:List UInt8):∀x∈labK n,Iw x=true:=fun x hx=>by
 unfold labK at hx;split at hx
 .exact H9 n x (Fx hx)
 .exact H9 n x hx
def Z3 (n:List UInt8) (hn:n.length<=9223372036854775807):S Bk3 1 [.s n]=some [Dq (labK n)]:=by
 refine Id0 (N:=1) rfl ?_;have k1:=Jv n hn;have hl:=Fg n;unfold labK;generalize lbl n=l at*;cases l with
 |nil=>simp(disch:=omega)only[Fx8,k1,Ax,simprocAttr];try simp
 |cons c r=>
  have hc:(c::r)[0]? =some c:=rfl;have hp:(0:Int)<((c::r).length:Int):=by rw[Cq];omega
  have hl1:(1:Int)<=((c::r).length:Int):=by rw[Cq];omega
  have ht:(c::r).take (c::r).length=c::r:=D6;have hd:(c::r).drop 1=r:=rfl;by_cases h:c=[42]
  .rw[if_pos (by rw[hc,h])];have ls:Kt 1 (Dq (c::r)) (.i .i64 1) (.i .i64 ((c::r).length:Int))=some (Dq r):=by have e:=Ux (c::r) .i64 .i64 1 ((c::r).length:Int) (by omega) hl1 (Yh _);rw[e,Eg,ht];rfl
   rw[hd];generalize hg:c::r=l at*;simp(disch:=omega)only[Fx8,k1,hc,hp,h,ls,Ax,simprocAttr]
  .rw[if_neg (by rw[hc];simpa using h)];generalize hg:c::r=l at*;simp(disch:=omega)only[Fx8,k1,hc,hp,h,Ax,simprocAttr]
def Bx2 (n:List UInt8) (hn:n.length<=9223372036854775807):S mb 1 [.s n]=some [.i .i64 ((labK n).length:Int)]:=by
 refine Hv9 (N:=1) rfl ?_;have k1:=Jw n hn;have hl:=Fg n;unfold labK;generalize lbl n=l at*;cases l with
 |nil=>simp(disch:=omega)only[Bc9,k1,Ax,simprocAttr];try simp
 |cons c r=>
  have hc:(c::r)[0]? =some c:=rfl;have hp:(0:Int)<((c::r).length:Int):=by rw[Cq];omega
  have hd:(((c::r).drop 1).length:Int)=((c::r).length:Int) - 1:=by rw[Cn,Cq];omega
  by_cases h:c=[42]
  .rw[if_pos (by rw[hc,h]),hd];generalize hg:c::r=l at*;simp(disch:=omega)only[Bc9,k1,hc,hp,h,Ax,simprocAttr]
  .rw[if_neg (by rw[hc];simpa using h)];generalize hg:c::r=l at*;simp(disch:=omega)only[Bc9,k1,hc,hp,h,Ax,simprocAttr]
def joinL (l:List (List UInt8)):List UInt8×Int:=if l=[] then([46],0) else if vld (flat l)=true then(flat l,0) else([],2)
def Q0:∀(l:List (List UInt8)),(∀x∈l,Iw x=true)->(flat l).length<=64*l.length
 |[],_=>by simp[flat]
 |x::l,h=>by have h1:=I0 (h x (.head _));have h2:=Q0 l fun y hy=>h y (.tail _ hy);simp only[flat,Er,Bp,Cq,Cs] at h2 ⊢;omega
def Ad0 {l:List (List UInt8)} (h:l≠[]):0<(flat l).length:=by
 cases l with
 |nil=>exact absurd rfl h
 |cons x r=>simp only[flat,Er,Bp,Hw];omega
def Ez4 (l:List (List UInt8)) (hl:l.length<=255) (hw:∀x∈l,Iw x=true) (N:Nat) (hN:l.length<N):
  Et6.ev S N [Dq l]=some (.yld 0 [.l 1 (bytesPV (flat l))]):=by
 refine Df l (fun i=>[.i .i64 (i:Int),.l 1 (bytesPV (flat (l.take i)))]) (fun i r=> .yld 0 [.l 1 (bytesPV (flat l))]) rfl hN (fun i c r hd hi hc=> ?_) ?_
 .left;refine⟨?_,rfl⟩;have hlab:=hw c (B6 hc);have hc63:=I0 hlab;have hfl:=Q0 (l.take i) fun x hx=>hw x (Fw hx);have htl:(l.take i).length<=255:=by rw[Cv];omega
  have e1:flat (l.take (i+1))=flat (l.take i)++c++[46]:=by rw[E3,hc];simp[flat]
  have g1:(bytesPV (flat (l.take i))).length<=64*255:=by rw[G0];omega
  have g2:(bytesPV c).length<=63:=by rw[G0];omega
  have g3:(bytesPV (flat (l.take i))++bytesPV c).length<=20000:=by rw[Bp];omega
  have hord:=Kc c (by omega);have e2:bytesPV (flat (l.take i))++bytesPV c++[.i .u8 46]=bytesPV (flat (l.take (i+1))):=by rw[e1];simp[bytesPV]
  have hb:Yf (.l 1 [.i .u8 46])=some (.s [46]):=H8 [46];rw[ox] at hlab;by_cases h42:c=[42]
  .subst h42;have hos:ord [42]=false:=by decide
   rw[hos] at hord;simp(disch:=omega)only[Am7,hc,hord,hb,e2,Ax,simprocAttr]
  .have h1:ord c=true:=by simpa [h42] using hlab
   rw[h1] at hord;simp(disch:=omega)only[Am7,hc,hord,hb,e2,Ax,simprocAttr]
 .have e:l.take l.length=l:=D6;simp(disch:=omega)only[Am7,e,Ax,simprocAttr]
  try simp[Out.goes]
def Am5 (l:List (List UInt8)) (hl:l.length<=255) (hw:∀x∈l,Iw x=true):S Cn7 1 [Dq l]=some [.s (joinL l).1,.i .i64 (joinL l).2]:=by
 refine Ic1 (N:=300) rfl ?_;unfold joinL;by_cases h:l=[]
 .subst h;simp(disch:=omega)only[Am7,Ax,simprocAttr]
  try simp
 .have hp:=Ct.2 h;have key:=Ez4 l hl hw 300 (by omega);have hfl:=Q0 l hw;have hval:=C6 (flat l) (by omega);obtain⟨c,hc⟩:∃c,(flat l)[0]? =some c:=⟨_,B3 (Ad0 h)⟩;have e0:¬((l.length:Int)=0):=by omega
  have e1:¬(255<(l.length:Int)):=by omega
  rw[if_neg h];rcases Bm (vld (flat l)) with hv|hv
  .rw[hv] at hval;simp only[hv,if_true];simp(disch:=omega)only[Am7,key,hval,hc,e0,e1,Ax,simprocAttr]
  .rw[hv] at hval;simp only[hv,B5,if_false];simp(disch:=omega)only[Am7,key,hval,hc,e0,e1,Ax,simprocAttr]
def Am4 (l:List (List UInt8)) (hl:l.length<=255) (hne:l≠[]) (hw:∀x∈l,Iw x=true):S Cn2 1 [Dq l]=some [.s (joinL l).1,.i .i64 (joinL l).2]:=by
 refine Iz8 (N:=300) rfl ?_;have key:Et1.ev S 300 [Dq l]=some (.yld 0 []):=by
  refine Df l (fun i=>[.i .i64 (i:Int)]) (fun _ _=> .yld 0 []) rfl (by omega) (fun i c r hd hi hc=> ?_) ?_
  .left;refine⟨?_,rfl⟩;have hlab:=hw c (B6 hc);have hc63:=I0 hlab;have k:=Z4 c (by omega);rw[hlab] at k;simp(disch:=omega)only[Dm5,hc,k,Ax,simprocAttr]
  .simp(disch:=omega)only[Dm5,Ax,simprocAttr]
   try simp[Out.goes]
 have k1:=uy l (by omega) (fun x hx=>by have:=I0 (hw x hx);omega);have hfl:=Q0 l hw;have hj:jn l=flat l:=by unfold jn;rw[if_neg hne]
 rw[hj] at k1;have hval:=I3 (flat l) (by omega);have e1:¬(255<(l.length:Int)):=by omega
 unfold joinL;rw[if_neg hne];rcases Bm (vld (flat l)) with hv|hv
 .rw[hv] at hval;simp only[hv,if_true];simp(disch:=omega)only[Dm5,key,k1,hval,e1,Ax,simprocAttr]
 .rw[hv] at hval;simp only[hv,B5,if_false];simp(disch:=omega)only[Dm5,key,k1,hval,e1,Ax,simprocAttr]
def starK (n:List UInt8) (b:Nat):List (List UInt8):=[42]::(labK n).drop ((labK n).length - b)
def Vz (n:List UInt8) (b:Nat):∀x∈starK n b,Iw x=true:=fun x hx=>by
 unfold starK at hx;rcases Ch.1 hx with rfl|hx
 .decide
 .exact Ez1 n x (Fx hx)
def Vy (n:List UInt8) (b:Nat):(starK n b).length<=255:=by have:=Uz n;unfold starK;rw[Cq,Cn];omega
def ownK (n:List UInt8) (b:Int):List UInt8:=if b=((labK n).length:Int) then n else(joinL (starK n b.toNat)).1
def Aq2 (n:List UInt8) (b:Int) (hn:n.length<=9223372036854775807):(ownK n b).length<=9223372036854775807:=by
 unfold ownK;split
 .exact hn
 .have h1:=Q0 (starK n b.toNat) (Vz n _);have h2:=Vy n b.toNat;unfold joinL;split
  .simp
  .split
   .simp only;omega
   .simp
def xy (l:List (List UInt8)) (b:Nat) (hb:b<=l.length) (hl:l.length<=1000):Kt 1 (Dq l) (.i .i64 ((l.length:Int) - (b:Int))) (.i .i64 (l.length:Int))=some (Dq (l.drop (l.length - b))):=by have e:=Ux l .i64 .i64 ((l.length:Int) - (b:Int)) (l.length:Int) (by omega) (by omega) (Yh _);rw[e,Eg,D6,show ((l.length:Int) - (b:Int)).toNat=l.length - b by omega]
def gx (l:List (List UInt8)) (hl:l.length<=1000):Jm 1 (.l 1 [.s [42]]) (Dq l)=some (Dq ([42]::l)):=by have:=T6 1 [.s [42]] (l.map .s) (by simp;omega);simpa [Dq] using this
def Ek3 (n:List UInt8) (b:Int) (hn:n.length<=9223372036854775807) (h0:0<=b) (h1:b<=((labK n).length:Int)):S Ab0 2 [.s n,.i .i64 b]=some [.s (ownK n b)]:=by
 refine Hc9 (N:=1) rfl ?_;have k1:=Z3 n hn;have hl:=Uz n;unfold ownK;by_cases h:b=((labK n).length:Int)
 .rw[if_pos h];simp(disch:=omega)only[Em4,k1,h,Ax,simprocAttr]
 .rw[if_neg h];obtain⟨m,rfl⟩:∃m:Nat,b=(m:Int):=⟨b.toNat,by omega⟩;rw[Eg];have ls:=xy (labK n) m (by omega) (by omega);have hdl:((labK n).drop ((labK n).length - m)).length<=1000:=by rw[Cn];omega
  have ap:=gx _ hdl;have k2:=Am5 (starK n m) (Vy n m) (Vz n m);have e:starK n m=[42]::(labK n).drop ((labK n).length - m):=rfl;rw[<-e] at ap;have hlt:Lf 1 [.s [42]]=some (.l 1 [.s [42]]):=rfl;generalize joinL (starK n m)=j at*;generalize starK n m=st at*;generalize (labK n).drop ((labK n).length - m)=dr at*;generalize labK n=lk at*;simp(disch:=omega)only[Em4,k1,k2,h,ls,ap,hlt,Ax,simprocAttr]
def Lp {s:SetR} (h:SetW s):∀r∈unsetR s,r.wf:=fun r hr=>by unfold unsetR at hr;obtain⟨d,hd,rfl⟩:=Dm0.1 hr;exact⟨h.name,h.typ,h.ttl,h.data d hd⟩
def tw (s:SetR):Bool:=decide (1<=s.data.length) && decide (s.data.length<=64) && decide (s.typ≠46) && (unsetR s).all g7
def tv (s:SetR) (h:SetW s) (hd:s.data.length<=1000000):S Cp1 1 [s.pv]=some [.b (tw s)]:=by
 have k1:=Pp s hd;have hul:(unsetR s).length=s.data.length:=by unfold unsetR;rw[Fq]
 refine Id1 (N:=s.data.length+1) rfl ?_;have key:Et9.ev S (s.data.length+1) [s.pv,B8 (unsetR s)]=some (if(unsetR s).all g7=true then .yld 0 [] else .ret [.b false]):=by
  refine Df (unsetR s) (fun i=>[.i .i64 (i:Int)]) (fun i r=>if r.all g7=true then .yld 0 [] else .ret [.b false]) rfl (by omega) (fun i c r hd hi hc=> ?_) ?_
  .have k:=Dg6 c (Lp h c (B6 hc));have hil:(i:Int)<((unsetR s).length:Int):=by omega
   rcases Bm (g7 c) with hv|hv
   .left;rw[hv] at k;refine⟨?_,by rw[Mb,hv,F0]⟩;simp(disch:=omega)only[ry,hc,hil,k,Dj,Ax,simprocAttr]
   .right;rw[hv] at k;rw[Mb,hv,Bool.false_and];simp(disch:=omega)only[ry,hc,hil,k,Dj,Ax,simprocAttr];simp[Out.goes]
  .simp(disch:=omega)only[ry,C2,Dj,Ax,simprocAttr];simp[Out.goes]
 unfold tw;by_cases h1:1<=s.data.length
 .have h1':¬(s.data.length:Int)<1:=by omega
  by_cases h2:s.data.length<=64
  .have h2':¬(64:Int)<(s.data.length:Int):=by omega
   by_cases h3:s.typ=46
   .simp(disch:=omega)only[ry,h1',h2',h3,Dj,Ax,simprocAttr]
    try simp
   .rcases Bm ((unsetR s).all g7) with hv|hv<;>rw[hv] at key ⊢<;>simp(disch:=omega)only[ry,k1,key,h1',h2',h3,Dj,Ax,simprocAttr]<;>simp[h1,h2]
  .have h2':(64:Int)<(s.data.length:Int):=by omega
   simp(disch:=omega)only[ry,h1',h2',Dj,Ax,simprocAttr]
   try simp[h2]
 .have h1':(s.data.length:Int)<1:=by omega
  simp(disch:=omega)only[ry,h1',Dj,Ax,simprocAttr]
  try simp[h1]
def c5 (s:SetR) (h:SetW s) (hd:s.data.length<=1000000):S Ax8 1 [s.pv]=some [.b (tw s)]:=by
 have k1:=Pr s hd;have hul:(unsetR s).length=s.data.length:=by unfold unsetR;rw[Fq]
 refine Hw0 (N:=s.data.length+1) rfl ?_;have key:Dk1.ev S (s.data.length+1) [s.pv,B8 (unsetR s)]=some (if(unsetR s).all g7=true then .yld 0 [] else .ret [.b false]):=by
  refine Df (unsetR s) (fun i=>[.i .i64 (i:Int)]) (fun i r=>if r.all g7=true then .yld 0 [] else .ret [.b false]) rfl (by omega) (fun i c r hd hi hc=> ?_) ?_
  .have k:=Dg8 c (Lp h c (B6 hc));have hil:(i:Int)<((unsetR s).length:Int):=by omega
   rcases Bm (g7 c) with hv|hv
   .left;rw[hv] at k;refine⟨?_,by rw[Mb,hv,F0]⟩;simp(disch:=omega)only[U3,hc,hil,k,Dj,Ax,simprocAttr]
   .right;rw[hv] at k;rw[Mb,hv,Bool.false_and];simp(disch:=omega)only[U3,hc,hil,k,Dj,Ax,simprocAttr];simp[Out.goes]
  .simp(disch:=omega)only[U3,C2,Dj,Ax,simprocAttr];simp[Out.goes]
 unfold tw;by_cases h1:1<=s.data.length
 .have h1':¬(s.data.length:Int)<1:=by omega
  by_cases h2:s.data.length<=64
  .have h2':¬(64:Int)<(s.data.length:Int):=by omega
   by_cases h3:s.typ=46
   .simp(disch:=omega)only[U3,h1',h2',h3,Dj,Ax,simprocAttr]
    try simp
   .rcases Bm ((unsetR s).all g7) with hv|hv<;>rw[hv] at key ⊢<;>simp(disch:=omega)only[U3,k1,key,h1',h2',h3,Dj,Ax,simprocAttr]<;>simp[h1,h2]
  .have h2':(64:Int)<(s.data.length:Int):=by omega
   simp(disch:=omega)only[U3,h1',h2',Dj,Ax,simprocAttr]
   try simp[h2]
 .have h1':(s.data.length:Int)<1:=by omega
  simp(disch:=omega)only[U3,h1',Dj,Ax,simprocAttr]
  try simp[h1]
def Jz {t:Int} {d:Dat} (h:Es t d=true):(wireD t d).length<=50000:=by
 have hn:=Px h;have h1:=Ip d.host;have h2:=Ip d.mail;have h3:=Ug d.bits;have h4:=hn.text;have h5:(Ot d).length<=16:=by unfold Ot;split<;>simp[Ew]
 unfold wireD
 repeat' split
 all_goals try simp only[Bp,Ew,Cs]
 all_goals omega
def jd (d:Dat):∃x,wireD 46 d=x++d.text∧0<x.length:=by refine⟨be d.a 2++be 253 1++be d.b 1++be d.c 4++be d.d 4++be d.e 4++be d.f 2++wireN d.host,rfl,?_⟩;simp only[Bp,Ew];omega
def Tn (s:SetR) (g:Dat):List UInt8:=wireN (ownK s.name g.b)++be s.typ 2++be 1 2++be g.c 4
def Tg (h:List UInt8) (r:Rec):List UInt8:=h++be ((wireD r.typ r.data).length:Int) 2++wireD r.typ r.data
def preK (g:Dat):List UInt8:=(wireD 46 g).take ((wireD 46 g).length - g.text.length)
def bodyK (s:SetR) (g:Dat):List UInt8:=preK g++(sortR (unsetR s)).flatMap (Tg (Tn s g))
def signedM (s:SetR) (g:Dat):List UInt8×Int:=
 if Es 46 g=false∨tw s=false then([],5)
 else if g.a≠s.typ∨((labK s.name).length:Int)<g.b then([],1)
 else(bodyK s g,0)
def Ej2 (g:Dat):0<(preK g).length:=by obtain⟨x,hx,hp⟩:=jd g;unfold preK;rw[hx,Bp,bg,Um];exact hp
def Wn (s:SetR) (g:Dat):(Tn s g).length<=20008:=by have:=Ip (ownK s.name g.b);unfold Tn;simp only[Bp,Ew];omega
def Vg {h:List UInt8} {r:Rec} (hh:h.length<=20008) (hv:Es r.typ r.data=true):(Tg h r).length<=70010:=by have:=Jz hv;unfold Tg;simp only[Bp,Ew];omega
def Rs {s:SetR} (h:tw s=true):1<=s.data.length∧s.data.length<=64∧∀r∈unsetR s,g7 r=true:=by unfold tw at h;simp only[Bt,decide_eq_true_eq,Ds] at h;exact⟨h.1.1.1,h.1.1.2,h.2⟩
def Bf6 {r:Rec} (h:g7 r=true):Es r.typ r.data=true:=by unfold g7 at h;simp only[Bt] at h;exact h.2
def Hh8 {t:Int} (h:knw t=true):0<=t:=by unfold knw at h;simp only[Cz,decide_eq_true_eq] at h;omega
def Cv9 {s:SetR} (h:tw s=true):0<=s.typ:=by
 obtain⟨h1,_,h3⟩:=Rs h;cases hd:s.data with
 |nil=>rw[hd] at h1;simp at h1
 |cons d r=>
  have:=h3 ⟨s.name,s.typ,s.ttl,d⟩ (by unfold unsetR;rw[hd];exact .head _);unfold g7 at this;simp only[Bt] at this;exact Hh8 this.1.1.1.2
def P7 {w t:List UInt8} (h:t.length<=w.length):s7 (.s w) (.i .i64 0) (.i .i64 ((w.length:Int) - (t.length:Int)))=some (.s (w.take (w.length - t.length))):=by rw[Fm8 w .i64 .i64 0 _ (by omega) (by omega) (by omega),show ((w.length:Int) - (t.length:Int)).toNat=w.length - t.length by omega];rfl
def Rw (a b:List UInt8) (h:a.length+b.length<=1073741824):Jm 1 (.l 1 (bytesPV a)) (.l 1 (bytesPV b))=some (.l 1 (bytesPV (a++b))):=by have:=T6 1 (bytesPV a) (bytesPV b) (by rw[G0,G0];exact h);rw[this];simp[bytesPV]
def bq (b:List UInt8) (h:b.length<=1073741824):Jm 1 (Dq []) (.l 1 (bytesPV b))=some (.l 1 (bytesPV b)):=by have:=Rw [] b (by simpa using h);simpa [bytesPV,Dq] using this
def s8 {s:SetR} {r:Rec} (h:r∈sortR (unsetR s)):r∈unsetR s:=(((Rr (unsetR s)).2 r).1 h).mem
def Cv3 (s:SetR) (g:Dat) (hw:SetW s) (hg:Es 46 g=true) (hs:tw s=true) (p4 p5 p6 p11:PV) (w1 w2 w3 w4:List UInt8) (hh:Tn s g=w1++w2++w3++w4) (h1:w1.length<=20000) (h2:w2.length=2) (h3:w3.length=2) (h4:w4.length=4) (N:Nat) (hN:70<N):
  Et8.ev S N [s.pv,g.pv,.s (wireD 46 g),.i .i64 0,p4,p5,p6,.s w1,.s w2,.s w3,.s w4,p11,B8 (sortR (unsetR s))]=some (.yld 0 [.l 1 (bytesPV (bodyK s g))]):=by
 obtain⟨_,hsl,hall⟩:=Rs hs;have hul:(unsetR s).length=s.data.length:=by unfold unsetR;rw[Fq]
 have hrl:=K7 (unsetR s);have hwl:=Jz hg;have htl:g.text.length<=(wireD 46 g).length:=by obtain⟨x,hx,_⟩:=jd g;rw[hx,Bp];omega
 have hpl:(preK g).length<=50000:=by unfold preK;rw[Cv];omega
 have ht:=P7 htl;have hp0:=bq (preK g) (by omega);have e0:(wireD 46 g).take ((wireD 46 g).length - g.text.length)=preK g:=rfl;rw[e0] at ht;unfold bodyK;have hmem:∀r∈sortR (unsetR s),r∈unsetR s:=fun r hr=>s8 hr;generalize sortR (unsetR s)=L at*;refine Fl L (fun i (b:List UInt8)=>[.i .i64 (i:Int),.l 1 (bytesPV b)]) (fun _ b r=> .yld 0 [.l 1 (bytesPV (b++r.flatMap (Tg (Tn s g))))]) (fun i b=>b.length<=70010*(i+1)) (preK g) ?_ (by omega) (by omega) (fun i b c r hd hi hc hI=> ?_) (fun b _=> ?_)
 .generalize preK g=pk at*;generalize wireD 46 g=wd at*;simp(disch:=omega)only[ht,hp0,Dj,Ax,simprocAttr]
  try simp
 .left;have hil:(i:Int)<(L.length:Int):=by omega
  have hcm:=hmem c (B6 hc);have hcw:=Lp hw c hcm;have hcv:=Bf6 (hall c hcm);have k1:=Rx c.typ c.data hcw.data;rw[if_pos hcv] at k1;have hdl:=Jz hcv;have k2:=dt ((wireD c.typ c.data).length:Int) 2 (by omega) (by omega) (by omega);have h22:((2:Nat):Int)=2:=rfl;rw[h22] at k2;have hbl:=Ew ((wireD c.typ c.data).length:Int) 2;refine⟨b++Tg (Tn s g) c,?_,?_,by simp⟩
  .have e:b++Tg (Tn s g) c=b++(w1++w2++w3++w4)++be ((wireD c.typ c.data).length:Int) 2++wireD c.typ c.data:=by unfold Tg;rw[hh];simp
   rw[e];have a1:=Rw b (w1++w2++w3++w4) (by simp only[Bp];omega);have a2:=Rw (b++(w1++w2++w3++w4)) (be ((wireD c.typ c.data).length:Int) 2) (by simp only[Bp];omega);have a3:=Rw (b++(w1++w2++w3++w4)++be ((wireD c.typ c.data).length:Int) 2) (wireD c.typ c.data) (by simp only[Bp];omega);have l1:(w1++w2).length<=20002:=by rw[Bp];omega
   have l2:(w1++w2++w3).length<=20004:=by rw[Bp];omega
   have l3:(w1++w2++w3++w4).length<=20008:=by rw[Bp];omega
   generalize be ((wireD c.typ c.data).length:Int) 2=nb at*;generalize wireD c.typ c.data=wd at*;simp(disch:=omega)only[rx,hc,hil,k1,k2,a1,a2,a3,Dj,Ax,simprocAttr]
  .have:=Vg (Wn s g) hcv;rw[Bp];omega
 .simp(disch:=omega)only[rx,C2,Dj,Ax,simprocAttr];simp[Out.goes]
def Dn4 {g:Dat} (h:Es 46 g=true):0<=g.b∧0<=g.c∧g.text.length<=255:=⟨(Px h).b,(Px h).c,(Px h).text⟩
def Ah7 {s:SetR} {g:Dat} (hg:Es 46 g=true) (hs:tw s=true):(bodyK s g).length<=10000000∧0<(bodyK s g).length:=by
 obtain⟨_,hsl,hall⟩:=Rs hs;have hul:(unsetR s).length=s.data.length:=by unfold unsetR;rw[Fq]
 have hrl:=K7 (unsetR s);have hwl:=Jz hg;have hpl:(preK g).length<=50000:=by unfold preK;rw[Cv];omega
 have hpp:=Ej2 g;have hf:∀l:List Rec,(∀r∈l,Es r.typ r.data=true)->(l.flatMap (Tg (Tn s g))).length<=70010*l.length:=by
  intro l
  induction l with
  |nil=>intro _;simp
  |cons r l ih=>
   intro h;have h1:=Vg (Wn s g) (h r (.head _));have h2:=ih fun x hx=>h x (.tail _ hx);rw[Er,Bp,Cq];omega
 have:=hf (sortR (unsetR s)) fun r hr=>Bf6 (hall r (s8 hr));unfold bodyK;rw[Bp];omega
def By3 (s:SetR) (g:Dat) (hw:SetW s) (hgw:g.wf) (hd:s.data.length<=1000000):S Cn9 2 [s.pv,g.pv]=some [.s (signedM s g).1,.i .i64 (signedM s g).2]:=by
 have k1:=Rx 46 g hgw;have k2:=tv s hw hd;have k3:=Z3 s.name hw.name;have hlk:=Uz s.name;unfold signedM;refine Ic8 (N:=100) rfl ?_;rcases Bm (Es 46 g) with hg|hg
 .rw[if_pos hg] at k1;rcases Bm (tw s) with hs|hs
  .rw[hs] at k2;rw[if_neg (by simp[hg,hs])];by_cases ha:g.a=s.typ
   .by_cases hb:((labK s.name).length:Int)<g.b
    .rw[if_pos (.inr hb)];generalize wireD 46 g=wd at*;generalize labK s.name=lk at*;simp(disch:=omega)only[rx,k1,k2,k3,ha,hb,Dj,Ax,simprocAttr]
    .rw[if_neg (fun q=>q.elim (fun q=>q ha) hb)];obtain⟨hb0,hc0,_⟩:=Dn4 hg;obtain⟨_,hsl,hall⟩:=Rs hs;have hul:(unsetR s).length=s.data.length:=by unfold unsetR;rw[Fq]
     have k4:=Ek3 s.name g.b hw.name hb0 (by omega);have k5:=Dn2 (ownK s.name g.b) (Aq2 s.name g.b hw.name);have k6:=dt s.typ 2 (by omega) (Cv9 hs) hw.typ.2;have k7:=dt 1 2 (by omega) (by omega) (by omega);have k8:=dt g.c 4 (by omega) hc0 hgw.c.2;have k9:=Pp s hd;have k10:=Am2 (unsetR s) (Lp hw) (by omega);have c2:((2:Nat):Int)=2:=rfl;have c4:((4:Nat):Int)=4:=rfl;rw[c2] at k6 k7;rw[c4] at k8;have n1:=Ip (ownK s.name g.b);have n2:=Ew s.typ 2;have n3:=Ew 1 2;have n4:=Ew g.c 4;have key:=fun p4 p5 p6 p11=>Cv3 s g hw hg hs p4 p5 p6 p11 _ _ _ _ rfl n1 n2 n3 n4 100 (by omega);have l1:(wireN (ownK s.name g.b)++be s.typ 2).length<=20002:=by rw[Bp];omega
     have l2:(wireN (ownK s.name g.b)++be s.typ 2++be 1 2).length<=20004:=by rw[Bp];omega
     obtain⟨hbl,hbp⟩:=Ah7 hg hs;have hwl:=Jz hg;have htl:g.text.length<=(wireD 46 g).length:=by obtain⟨x,hx,_⟩:=jd g;rw[hx,Bp];omega
     have ht:=P7 htl;have hp0:=bq ((wireD 46 g).take ((wireD 46 g).length - g.text.length)) (by rw[Cv];omega);have htk:((wireD 46 g).take ((wireD 46 g).length - g.text.length)).length<=50000:=by rw[Cv];omega
     obtain⟨c0,hc00⟩:∃c0,(bodyK s g)[0]? =some c0:=⟨_,B3 hbp⟩;generalize bodyK s g=bd at*;generalize (wireD 46 g).take ((wireD 46 g).length - g.text.length)=tk at*;generalize wireD 46 g=wd at*;generalize sortR (unsetR s)=sr at*;generalize unsetR s=us at*;generalize be s.typ 2=b2 at*;generalize be 1 2=b3 at*;generalize be g.c 4=b4 at*;generalize wireN (ownK s.name g.b)=b1 at*;generalize ownK s.name g.b=ow at*;generalize labK s.name=lk at*;simp(disch:=omega)only[rx,k1,k2,k3,k4,k5,k6,k7,k8,k9,k10,key,ha,hb,ht,hp0,hc00,Dj,Ax,simprocAttr]
   .rw[if_pos (.inl ha)];generalize wireD 46 g=wd at*;simp(disch:=omega)only[rx,k1,k2,ha,Dj,Ax,simprocAttr]
  .rw[hs] at k2;rw[if_pos (.inr hs)];generalize wireD 46 g=wd at*;simp(disch:=omega)only[rx,k1,k2,Dj,Ax,simprocAttr]
 .rw[if_pos (.inl hg)];rw[if_neg (by simp[hg]),if_pos (by decide)] at k1;simp(disch:=omega)only[rx,k1,Dj,Ax,simprocAttr]
def tq (s:SetR) (g:Dat) (hw:SetW s) (hgw:g.wf) (hg:Es 46 g=true) (hs:tw s=true) (p2 p3 p4 p5 p8 p9:PV) (hown:(ownK s.name g.b).length<=9223372036854775807) (N:Nat) (hN:70<N):
  Dq3.ev S N [s.pv,g.pv,p2,p3,p4,p5,.s (ownK s.name g.b),.s (wireD 46 g),p8,p9,B8 (sortR (unsetR s))]=some (.yld 0 [.s (bodyK s g)]):=by
 obtain⟨_,hsl,hall⟩:=Rs hs;obtain⟨hb0,hc0,_⟩:=Dn4 hg;have hul:(unsetR s).length=s.data.length:=by unfold unsetR;rw[Fq]
 have hrl:=K7 (unsetR s);have hwl:=Jz hg;have htl:g.text.length<=(wireD 46 g).length:=by obtain⟨x,hx,_⟩:=jd g;rw[hx,Bp];omega
 have hpl:(preK g).length<=50000:=by unfold preK;rw[Cv];omega
 have ht:=P7 htl;have e0:(wireD 46 g).take ((wireD 46 g).length - g.text.length)=preK g:=rfl;rw[e0] at ht;have k3:=Bf1 (ownK s.name g.b) hown;have k6:=Og s.typ 2 (by omega) (Cv9 hs) hw.typ.2;have k7:=Og 1 2 (by omega) (by omega) (by omega);have k8:=Og g.c 4 (by omega) hc0 hgw.c.2;have c2:((2:Nat):Int)=2:=rfl;have c4:((4:Nat):Int)=4:=rfl;rw[c2] at k6 k7;rw[c4] at k8;have n1:=Ip (ownK s.name g.b);have n2:=Ew s.typ 2;have n3:=Ew 1 2;have n4:=Ew g.c 4;unfold bodyK;have hmem:∀r∈sortR (unsetR s),r∈unsetR s:=fun r hr=>s8 hr;generalize sortR (unsetR s)=L at*;refine Fl L (fun i (b:List UInt8)=>[.s b,.i .i64 (i:Int)]) (fun _ b r=> .yld 0 [.s (b++r.flatMap (Tg (Tn s g)))]) (fun i b=>b.length<=70010*(i+1)) (preK g) ?_ (by omega) (by omega) (fun i b c r hd hi hc hI=> ?_) (fun b _=> ?_)
 .generalize preK g=pk at*;generalize wireD 46 g=wd at*;simp(disch:=omega)only[ht,Dj,Ax,simprocAttr]
  try simp
 .left;have hil:(i:Int)<(L.length:Int):=by omega
  have hcm:=hmem c (B6 hc);have hcw:=Lp hw c hcm;have hcv:=Bf6 (hall c hcm);have k1:=Mw c.typ c.data hcw.data;rw[if_pos hcv] at k1;have hdl:=Jz hcv;have k2:=Og ((wireD c.typ c.data).length:Int) 2 (by omega) (by omega) (by omega);rw[c2] at k2;have hbl:=Ew ((wireD c.typ c.data).length:Int) 2;refine⟨b++Tg (Tn s g) c,?_,?_,by simp⟩
  .have e:b++Tg (Tn s g) c=b++wireN (ownK s.name g.b)++be s.typ 2++be 1 2++be g.c 4++be ((wireD c.typ c.data).length:Int) 2++wireD c.typ c.data:=by unfold Tg Tn;simp
   rw[e];generalize be ((wireD c.typ c.data).length:Int) 2=nb at*;generalize wireD c.typ c.data=wd at*;generalize be s.typ 2=b2 at*;generalize be 1 2=b3 at*;generalize be g.c 4=b4 at*;generalize wireN (ownK s.name g.b)=b1 at*;have l1:(b++b1).length<=5000000:=by rw[Bp];omega
   have l2:(b++b1++b2).length<=5000002:=by rw[Bp];omega
   have l3:(b++b1++b2++b3).length<=5000004:=by rw[Bp];omega
   have l4:(b++b1++b2++b3++b4).length<=5000008:=by rw[Bp];omega
   have l5:(b++b1++b2++b3++b4++nb).length<=5000010:=by rw[Bp];omega
   simp(disch:=omega)only[S1,hc,hil,k1,k2,k3,k6,k7,k8,Dj,Ax,simprocAttr]
  .have:=Vg (Wn s g) hcv;rw[Bp];omega
 .simp(disch:=omega)only[S1,C2,Dj,Ax,simprocAttr];simp[Out.goes]
def zq (s:SetR) (g:Dat) (hw:SetW s) (hgw:g.wf) (hd:s.data.length<=1000000):S Az7 2 [s.pv,g.pv]=some [.s (signedM s g).1,.i .i64 (signedM s g).2]:=by
 have k1:=Fb 46 g hgw;have k1w:=Mw 46 g hgw;have k2:=c5 s hw hd;have k3:=Bx2 s.name hw.name;have hlk:=Uz s.name;unfold signedM;refine Hc3 (N:=100) rfl ?_;rcases Bm (Es 46 g) with hg|hg
 .rw[hg] at k1;rw[if_pos hg] at k1w;rcases Bm (tw s) with hs|hs
  .rw[hs] at k2;rw[if_neg (by simp[hg,hs])];by_cases ha:g.a=s.typ
   .by_cases hb:((labK s.name).length:Int)<g.b
    .rw[if_pos (.inr hb)];generalize wireD 46 g=wd at*;generalize (labK s.name).length=lk at*;simp(disch:=omega)only[S1,k1,k2,k3,ha,hb,Dj,Ax,simprocAttr]
    .rw[if_neg (fun q=>q.elim (fun q=>q ha) hb)];obtain⟨hb0,hc0,_⟩:=Dn4 hg;obtain⟨_,hsl,hall⟩:=Rs hs;have hul:(unsetR s).length=s.data.length:=by unfold unsetR;rw[Fq]
     have hown:=Aq2 s.name g.b hw.name;have k9:=Pr s hd;have k10:=Am3 (unsetR s) (Lp hw) (by omega);have key:=fun p2 p3 p4 p5 p8 p9=>tq s g hw hgw hg hs p2 p3 p4 p5 p8 p9 hown 100 (by omega);have hwl:=Jz hg;have htl:g.text.length<=(wireD 46 g).length:=by obtain⟨x,hx,_⟩:=jd g;rw[hx,Bp];omega
     have ht:=P7 htl;by_cases hbl:g.b=((labK s.name).length:Int)
     .have ho:ownK s.name g.b=s.name:=by unfold ownK;rw[if_pos hbl]
      rw[ho] at key;have hbl':((labK s.name).length:Int)=g.b:=hbl.symm;rw[hbl'] at k3;generalize (wireD 46 g).take ((wireD 46 g).length - g.text.length)=tk at*;generalize bodyK s g=bd at*;generalize wireD 46 g=wd at*;generalize sortR (unsetR s)=sr at*;generalize unsetR s=us at*;simp(disch:=omega)only[S1,k1,k1w,k2,k3,k9,k10,key,ha,ht,C2,Dj,Ax,simprocAttr]
     .have k4:=Jw s.name hw.name;have hll:=Fg s.name;obtain⟨m,hm⟩:∃m:Nat,g.b=(m:Int):=⟨g.b.toNat,by omega⟩;have hlab:(labK s.name).length<=(lbl s.name).length:=by
       unfold labK;split
       .rw[Cn];omega
       .exact B7 _
      have ls:=xy (lbl s.name) m (by omega) (by omega);rw[<-Cs0 s.name m (by omega),<-hm] at ls;have hdl:((labK s.name).drop ((labK s.name).length - m)).length<=1000:=by rw[Cn];omega
      have ap:=gx _ hdl;have k5:=Am4 (starK s.name m) (Vy s.name m) (by unfold starK;simp) (Vz s.name m);have e:starK s.name m=[42]::(labK s.name).drop ((labK s.name).length - m):=rfl;rw[<-e] at ap;have ho:ownK s.name g.b=(joinL (starK s.name m)).1:=by unfold ownK;rw[if_neg hbl,hm,Eg]
      rw[ho] at key;have hlt:Lf 1 [.s [42]]=some (.l 1 [.s [42]]):=rfl;have hbl':¬((labK s.name).length:Int)=g.b:=fun q=>hbl q.symm;generalize joinL (starK s.name m)=j at*;generalize starK s.name m=st at*;generalize (labK s.name).drop ((labK s.name).length - m)=dr at*;generalize lbl s.name=lb at*;generalize (labK s.name).length=lk at*;generalize (wireD 46 g).take ((wireD 46 g).length - g.text.length)=tk at*;generalize bodyK s g=bd at*;generalize wireD 46 g=wd at*;generalize sortR (unsetR s)=sr at*;generalize unsetR s=us at*;simp(disch:=omega)only[S1,k1,k1w,k2,k3,k4,k5,k9,k10,key,ha,hb,hbl',ht,ls,ap,hlt,Dj,Ax,simprocAttr]
   .rw[if_pos (.inl ha)];simp(disch:=omega)only[S1,k1,k2,ha,Dj,Ax,simprocAttr]
  .rw[hs] at k2;rw[if_pos (.inr hs)];simp(disch:=omega)only[S1,k1,k2,Dj,Ax,simprocAttr]
 .rw[hg] at k1;rw[if_pos (.inl hg)];simp(disch:=omega)only[S1,k1,Dj,Ax,simprocAttr]
def tagK (d:Dat):Int:=if Es 48 d=true then Gn1 (wireD 48 d) else 0
def Gb8 (d:Dat) (h:d.wf):S Cp0 1 [d.pv]=some [.i .i64 (tagK d)]:=by
 have k1:=Rx 48 d h;unfold tagK;refine Ic9 (N:=1) rfl ?_;rcases Bm (Es 48 d) with hv|hv
 .have hl:=Jz hv;have k2:=Gb7 (wireD 48 d) (by omega);rw[if_pos hv] at k1 ⊢;generalize wireD 48 d=w at*;simp(disch:=omega)only[Gd5,k1,k2,Ax,simprocAttr]
 .rw[if_neg (by simp[hv]),if_pos (by decide)] at k1;rw[if_neg (by simp[hv])];simp(disch:=omega)only[Gd5,k1,Ax,simprocAttr]
def Eg5 (d:Dat) (h:d.wf):S Az8 1 [d.pv]=some [.i .i64 (tagK d)]:=by
 have k0:=Fb 48 d h;have k1:=Mw 48 d h;unfold tagK;refine Hc5 (N:=1) rfl ?_;rcases Bm (Es 48 d) with hv|hv
 .have hl:=Jz hv;have k2:=Eg6 (wireD 48 d) (by omega);rw[hv] at k0;rw[if_pos hv] at k1 ⊢;generalize wireD 48 d=w at*;simp(disch:=omega)only[Em3,k0,k1,k2,Ax,simprocAttr]
 .rw[hv] at k0;rw[if_neg (by simp[hv])];simp(disch:=omega)only[Em3,k0,Ax,simprocAttr]
def Dl2 (zone:List UInt8) (key:Dat) (s:SetR) (g:Dat) (now:Int):Int:=
 if g.host≠zone∨under s.name zone=false∨g.f≠tagK key then 18
 else if Es 48 key=false then 5
 else if(signedM s g).2≠0 then(signedM s g).2
 else if now<g.e∨g.d<now then 20
 else if g.text≠macM key.text (signedM s g).1 then 19
 else 0
def Zv (s:SetR) (g:Dat):(signedM s g).1.length<=10000000:=by
 unfold signedM;split
 .simp
 .rename_i h;split
  .simp
  .have hg:Es 46 g=true:=by
    rcases Bm (Es 46 g) with q|q
    .exact q
    .exact absurd (.inl q) h
   have hs:tw s=true:=by
    rcases Bm (tw s) with q|q
    .exact q
    .exact absurd (.inr q) h
   exact(Ah7 hg hs).1
def By2 (zone:List UInt8) (key:Dat) (s:SetR) (g:Dat) (now:Int) (hz:zone.length<=9223372036854775807) (hk:key.wf) (hw:SetW s) (hgw:g.wf) (hd:s.data.length<=1000000):
  S Ev7 5 [.s zone,key.pv,s.pv,g.pv,.i .i64 now]=some [.i .i64 (Dl2 zone key s g now)]:=by
 have k1:=Gk s.name zone hw.name hz;have k2:=Gb8 key hk;have k3:=R9 48 key hk;have k4:=By3 s g hw hgw hd;have hsl:=Zv s g;unfold Dl2;refine Ic6 (N:=1) rfl ?_;generalize tagK key=tk at*;by_cases h1:g.host=zone
 .rcases Bm (under s.name zone) with h2|h2
  .rw[h2] at k1;by_cases h3:g.f=tk
   .rw[if_neg (by simp[h1,h2,h3])];rcases Bm (Es 48 key) with h4|h4
    .have h4t:key.text.length<=255:=(Px h4).text;have k5:=Gc2 key.text (signedM s g).1 (by omega) (by omega);rw[h4] at k3;rw[if_neg (by simp[h4])];generalize macM key.text (signedM s g).1=mm at*;generalize signedM s g=sm at*;by_cases h5:sm.2=0
     .rw[if_neg (by simp[h5])];by_cases h6:now<g.e
      .rw[if_pos (.inl h6)];simp(disch:=omega)only[cj,k1,k2,k3,k4,h1,h3,h5,h6,Dj,Ax,simprocAttr]
      .by_cases h7:g.d<now
       .rw[if_pos (.inr h7)];simp(disch:=omega)only[cj,k1,k2,k3,k4,h1,h3,h5,h6,h7,Dj,Ax,simprocAttr]
       .rw[if_neg (fun q=>q.elim h6 h7)];by_cases h8:g.text=mm
        .rw[if_neg (by simp[h8])];simp(disch:=omega)only[cj,k1,k2,k3,k4,k5,h1,h3,h5,h6,h7,h8,Dj,Ax,simprocAttr]
        .rw[if_pos h8];simp(disch:=omega)only[cj,k1,k2,k3,k4,k5,h1,h3,h5,h6,h7,h8,Dj,Ax,simprocAttr]
     .rw[if_pos h5];simp(disch:=omega)only[cj,k1,k2,k3,k4,h1,h3,h5,Dj,Ax,simprocAttr]
    .rw[h4] at k3;rw[if_pos h4];simp(disch:=omega)only[cj,k1,k2,k3,h1,h3,Dj,Ax,simprocAttr]
   .rw[if_pos (.inr (.inr h3))];simp(disch:=omega)only[cj,k1,k2,h1,h3,Dj,Ax,simprocAttr]
  .rw[h2] at k1;rw[if_pos (.inr (.inl h2))];simp(disch:=omega)only[cj,k1,h1,Dj,Ax,simprocAttr]
 .rw[if_pos (.inl h1)];simp(disch:=omega)only[cj,h1,Dj,Ax,simprocAttr]
def zk (zone:List UInt8) (key:Dat) (s:SetR) (g:Dat) (now:Int) (hz:zone.length<=9223372036854775807) (hk:key.wf) (hw:SetW s) (hgw:g.wf) (hd:s.data.length<=1000000):
  S Ev6 5 [.s zone,key.pv,s.pv,g.pv,.i .i64 now]=some [.i .i64 (Dl2 zone key s g now)]:=by
 have k1:=F5 s.name zone hw.name hz;have k2:=Eg5 key hk;have k3:=Fb 48 key hk;have k4:=zq s g hw hgw hd;have hsl:=Zv s g;unfold Dl2;refine Ic5 (N:=1) rfl ?_;generalize tagK key=tk at*;by_cases h1:g.host=zone
 .rcases Bm (under s.name zone) with h2|h2
  .rw[h2] at k1;by_cases h3:g.f=tk
   .rw[if_neg (by simp[h1,h2,h3])];rcases Bm (Es 48 key) with h4|h4
    .have h4t:key.text.length<=255:=(Px h4).text;have k5:=Eh1 key.text (signedM s g).1 (by omega) (by omega);rw[h4] at k3;rw[if_neg (by simp[h4])];generalize macM key.text (signedM s g).1=mm at*;generalize signedM s g=sm at*;by_cases h5:sm.2=0
     .rw[if_neg (by simp[h5])];by_cases h6:now<g.e
      .rw[if_pos (.inl h6)];simp(disch:=omega)only[b9,k1,k2,k3,k4,h1,h3,h5,h6,Dj,Ax,simprocAttr]
      .by_cases h7:g.d<now
       .rw[if_pos (.inr h7)];simp(disch:=omega)only[b9,k1,k2,k3,k4,h1,h3,h5,h6,h7,Dj,Ax,simprocAttr]
       .rw[if_neg (fun q=>q.elim h6 h7)];by_cases h8:g.text=mm
        .rw[if_neg (by simp[h8])];simp(disch:=omega)only[b9,k1,k2,k3,k4,k5,h1,h3,h5,h6,h7,h8,Dj,Ax,simprocAttr]
        .rw[if_pos h8];simp(disch:=omega)only[b9,k1,k2,k3,k4,k5,h1,h3,h5,h6,h7,h8,Dj,Ax,simprocAttr]
     .rw[if_pos h5];simp(disch:=omega)only[b9,k1,k2,k3,k4,h1,h3,h5,Dj,Ax,simprocAttr]
    .rw[h4] at k3;rw[if_pos h4];simp(disch:=omega)only[b9,k1,k2,k3,h1,h3,Dj,Ax,simprocAttr]
   .rw[if_pos (.inr (.inr h3))];simp(disch:=omega)only[b9,k1,k2,h1,h3,Dj,Ax,simprocAttr]
  .rw[h2] at k1;rw[if_pos (.inr (.inl h2))];simp(disch:=omega)only[b9,k1,h1,Dj,Ax,simprocAttr]
 .rw[if_pos (.inl h1)];simp(disch:=omega)only[b9,h1,Dj,Ax,simprocAttr]
set_option maxRecDepth 100000 in
def Bx8:S Ex4 0 []=some [.b true]:=(Vl ext_mono).2 ⟨400,by kernel_rfl⟩
def sgnB (s:SetR) (r:Rec):Bool:=decide (r.typ=46) && decide (r.name=s.name) && decide (r.data.a=s.typ)
def verB (zone:List UInt8) (keys:List Dat) (s:SetR) (g:Dat) (now:Int):Bool:=keys.any fun k=>decide (Dl2 zone k s g now=0)
def verR (zone:List UInt8) (keys:List Dat) (now:Int) (s:SetR) (r:Rec):Bool:=sgnB s r && verB zone keys s r.data now
structure AskOk (zone:List UInt8) (keys:List Dat):Prop where
 zoneL:zone.length<=9223372036854775807
 keysW:∀d∈keys,d.wf
 few:keys.length<=1000
def U6 (zone:List UInt8) (keys:List Dat) (s:SetR) (r:Rec) (now:Int) (ha:AskOk zone keys) (hs:SetW s) (hd:s.data.length<=1000000) (hr:r.wf):
  S Bk9 5 [.s zone,Dm keys,s.pv,r.pv,.i .i64 now]=some [.b (verR zone keys now s r)]:=by
 have hf:=ha.few;have key:Fq1.ev S (keys.length+1) [.s zone,Dm keys,s.pv,r.pv,.i .i64 now]=some (if verB zone keys s r.data now=true then .ret [.b true] else .yld 0 []):=by
  unfold verB;refine Df keys (fun i=>[.i .i64 (i:Int)]) (fun _ l=>if(l.any fun k=>decide (Dl2 zone k s r.data now=0))=true then .ret [.b true] else .yld 0 []) rfl (by omega) (fun i c l hd2 hi hc=> ?_) ?_
  .have k:=By2 zone c s r.data now ha.zoneL (ha.keysW c (B6 hc)) hs hr.data hd;have hil:(i:Int)<(keys.length:Int):=by omega
   by_cases h:Dl2 zone c s r.data now=0
   .right;simp(disch:=omega)only[rn,hc,hil,k,h,Dj,Ax,simprocAttr];simp[h,Out.goes]
   .left;refine⟨?_,by simp[h]⟩;simp(disch:=omega)only[rn,hc,hil,k,h,Dj,Ax,simprocAttr]
  .simp(disch:=omega)only[rn,C2,Dj,Ax,simprocAttr];simp[Out.goes]
 refine Ig8 (N:=keys.length+1) rfl ?_;unfold verR sgnB;by_cases h1:r.typ=46
 .by_cases h2:r.name=s.name
  .by_cases h3:r.data.a=s.typ
   .rcases Bm (verB zone keys s r.data now) with hv|hv<;>rw[hv] at key ⊢<;>simp(disch:=omega)only[rn,key,h1,h2,h3,Dj,Ax,simprocAttr]<;>simp
   .simp(disch:=omega)only[rn,h1,h2,h3,Dj,Ax,simprocAttr]
    try simp[h3]
  .simp(disch:=omega)only[rn,h1,h2,Dj,Ax,simprocAttr]
   try simp[h2]
 .simp(disch:=omega)only[rn,h1,Dj,Ax,simprocAttr]
  try simp[h1]
def Zq (s:SetR) (r:Rec):S Cp4 2 [r.pv,s.pv]=some [.b (sgnB s r)]:=by
 refine Ig7 (N:=1) rfl ?_;unfold sgnB;by_cases h1:r.typ=46
 .by_cases h2:r.name=s.name
  .simp(disch:=omega)only[Fy0,h1,h2,Dj,Ax,simprocAttr]
   try simp
  .simp(disch:=omega)only[Fy0,h1,h2,Dj,Ax,simprocAttr]
   try simp[h2]
 .simp(disch:=omega)only[Fy0,h1,Dj,Ax,simprocAttr]
  try simp[h1]
def P5 (zone:List UInt8) (keys:List Dat) (s:SetR) (g:Dat) (now:Int) (ha:AskOk zone keys) (hs:SetW s) (hd:s.data.length<=1000000) (hr:g.wf):
  S Cp3 5 [.s zone,Dm keys,s.pv,g.pv,.i .i64 now]=some [.b (verB zone keys s g now)]:=by
 have hf:=ha.few;have key:Fq0.ev S (keys.length+1) [.s zone,Dm keys,s.pv,g.pv,.i .i64 now]=some (if verB zone keys s g now=true then .ret [.b true] else .yld 0 []):=by
  unfold verB;refine Df keys (fun i=>[.i .i64 (i:Int)]) (fun _ l=>if(l.any fun k=>decide (Dl2 zone k s g now=0))=true then .ret [.b true] else .yld 0 []) rfl (by omega) (fun i c l hd2 hi hc=> ?_) ?_
  .have k:=zk zone c s g now ha.zoneL (ha.keysW c (B6 hc)) hs hr hd;have hil:(i:Int)<(keys.length:Int):=by omega
   by_cases h:Dl2 zone c s g now=0
   .right;simp(disch:=omega)only[Dn0,hc,hil,k,h,Dj,Ax,simprocAttr];simp[h,Out.goes]
   .left;refine⟨?_,by simp[h]⟩;simp(disch:=omega)only[Dn0,hc,hil,k,h,Dj,Ax,simprocAttr]
  .simp(disch:=omega)only[Dn0,C2,Dj,Ax,simprocAttr];simp[Out.goes]
 refine Ig6 (N:=keys.length+1) rfl ?_;rcases Bm (verB zone keys s g now) with hv|hv<;>rw[hv] at key ⊢<;>simp(disch:=omega)only[Dn0,key,Dj,Ax,simprocAttr]<;>simp
def Ec5 (x:Ask):S Ht7 1 [x.pv]=some [.b (decide ((x.keys.length:Int)<=8))]:=by refine Ir4 (N:=1) rfl ?_;simp(disch:=omega)only[Ir1,Ij9,Dj,Ax,simprocAttr]
def zS:SetR:=⟨[],0,0,[]⟩
def isS (n:List UInt8) (t:Int) (x:SetR):Bool:=decide (x.name=n) && decide (x.typ=t)
def setF (l:List SetR) (n:List UInt8) (t:Int):Option SetR:=l.find? (isS n t)
def Fn4:Option SetR->List PV
 |some x=>[x.pv,.b true]
 |none=>[zS.pv,.b false]
def W1 (l:List SetR) (n:List UInt8) (t:Int) (hl:l.length<=1000000):S Bk4 3 [Dh l,.s n,.i .i64 t]=some (Fn4 (setF l n t)):=by
 have key:Fj1.ev S (l.length+1) [Dh l,.s n,.i .i64 t]=some (match setF l n t with|some x=> .ret [x.pv,.b true]|none=> .yld 0 [.s [],.i .i64 0,.i .i64 0,Dm []]):=by
  unfold setF;refine Df l (fun i=>[.i .i64 (i:Int),.s [],.i .i64 0,.i .i64 0,Dm []]) (fun _ l=>match l.find? (isS n t) with|some x=> .ret [x.pv,.b true]|none=> .yld 0 [.s [],.i .i64 0,.i .i64 0,Dm []]) (by simp(disch:=omega)only[Dj,Ax,simprocAttr]) (by omega) (fun i c r hd2 hi hc=> ?_) ?_
  .have hil:(i:Int)<(l.length:Int):=by omega
   by_cases h1:c.name=n
   .by_cases h2:c.typ=t
    .right;have e:(c::r).find? (isS n t)=some c:=Il (by simp[isS,h1,h2]);rw[e];simp(disch:=omega)only[Am8,hc,hil,h1,h2,Dj,Ax,simprocAttr];simp[Out.goes]
    .left;have e:(c::r).find? (isS n t)=r.find? (isS n t):=D4 (by simp[isS,h2]);refine⟨?_,by rw[e]⟩;simp(disch:=omega)only[Am8,hc,hil,h1,h2,Dj,Ax,simprocAttr]
   .left;have e:(c::r).find? (isS n t)=r.find? (isS n t):=D4 (by simp[isS,h1]);refine⟨?_,by rw[e]⟩;simp(disch:=omega)only[Am8,hc,hil,h1,Dj,Ax,simprocAttr]
  .simp(disch:=omega)only[Am8,C2,Dj,Ax,simprocAttr];simp[Out.goes]
 refine Id3 (N:=l.length+1) rfl ?_;cases h:setF l n t with
 |some x=>
  rw[h] at key;simp only at key;simp(disch:=omega)only[Am8,key,Fn4,Dj,Ax,simprocAttr]
 |none=>
  rw[h] at key;simp only at key;simp(disch:=omega)only[Am8,key,Fn4,Dj,Ax,simprocAttr]
  try rfl
def Qq (l:List Rec):(setsR l).length<=l.length:=by
 have h:∀(l:List Rec) (g:List SetR),(l.foldl addS g).length<=g.length+l.length:=by
  intro l
  induction l with
  |nil=>intro g;exact B7 _
  |cons r l ih=>
   intro g;have h1:=ih (addS g r);have h2:=Al7 g r;rw[il,Cq];omega
 have h1:=h (sortR l) [];have h2:=K7 l;unfold setsR Cv8;rw[Cs] at h1;omega
def dl (l:List Rec) (n:List UInt8) (t:Int) (hw:∀r∈l,r.wf) (hl:l.length<=100000):S Bk7 3 [B8 l,.s n,.i .i64 t]=some (Fn4 (setF (setsR l) n t)):=by
 have k1:=gm l hw hl;have hsl:=Qq l;generalize setsR l=ss at*;have key:Fj4.ev S (ss.length+1) [B8 l,.s n,.i .i64 t,Dh ss]=some (match setF ss n t with|some x=> .ret [x.pv,.b true]|none=> .yld 0 [.s [],.i .i64 0,.i .i64 0,Dm []]):=by
  unfold setF;refine Df ss (fun i=>[.i .i64 (i:Int),.s [],.i .i64 0,.i .i64 0,Dm []]) (fun _ l=>match l.find? (isS n t) with|some x=> .ret [x.pv,.b true]|none=> .yld 0 [.s [],.i .i64 0,.i .i64 0,Dm []]) (by simp(disch:=omega)only[Dj,Ax,simprocAttr]) (by omega) (fun i c r hd2 hi hc=> ?_) ?_
  .have hil:(i:Int)<(ss.length:Int):=by omega
   by_cases h1:c.name=n
   .by_cases h2:c.typ=t
    .right;have e:(c::r).find? (isS n t)=some c:=Il (by simp[isS,h1,h2]);rw[e];simp(disch:=omega)only[Am9,hc,hil,h1,h2,Dj,Ax,simprocAttr];simp[Out.goes]
    .left;have e:(c::r).find? (isS n t)=r.find? (isS n t):=D4 (by simp[isS,h2]);refine⟨?_,by rw[e]⟩;simp(disch:=omega)only[Am9,hc,hil,h1,h2,Dj,Ax,simprocAttr]
   .left;have e:(c::r).find? (isS n t)=r.find? (isS n t):=D4 (by simp[isS,h1]);refine⟨?_,by rw[e]⟩;simp(disch:=omega)only[Am9,hc,hil,h1,Dj,Ax,simprocAttr]
  .simp(disch:=omega)only[Am9,C2,Dj,Ax,simprocAttr];simp[Out.goes]
 refine Id7 (N:=ss.length+1) rfl ?_;cases h:setF ss n t with
 |some x=>
  rw[h] at key;simp only at key;simp(disch:=omega)only[Am9,k1,key,Fn4,Dj,Ax,simprocAttr]
 |none=>
  rw[h] at key;simp only at key;simp(disch:=omega)only[Am9,k1,key,Fn4,Dj,Ax,simprocAttr]
  try rfl
def Hs8 {g:List SetR} {r:Rec} (hg:∀x∈g,SetW x) (hr:r.wf):∀x∈addS g r,SetW x:=by
 have h1:SetW ⟨r.name,r.typ,r.ttl,[r.data]⟩:=⟨hr.name,hr.typ,hr.ttl,fun d hd=>by rw[Cl.1 hd];exact hr.data⟩;intro x hx;unfold addS at hx;split at hx
 .rename_i y hy;have hym:=hg y (P0 hy);split at hx
  .rcases Dw.1 hx with hx|hx
   .exact hg x (Bb0 _ hx)
   .rw[Cl.1 hx];refine⟨hym.name,hym.typ,?_,fun d hd=> ?_⟩
    .show g9 (if r.ttl<y.ttl then r.ttl else y.ttl);split
     .exact hr.ttl
     .exact hym.ttl
    .rcases Dw.1 hd with hd|hd
     .exact hym.data d hd
     .rw[Cl.1 hd];exact hr.data
  .rcases Dw.1 hx with hx|hx
   .exact hg x hx
   .rw[Cl.1 hx];exact h1
 .rw[Cl.1 hx];exact h1
def Gb5 {g:List SetR} {r:Rec} {n:Nat} (hg:∀x∈g,x.data.length<=n):∀x∈addS g r,x.data.length<=n+1:=by
 intro x hx;unfold addS at hx;split at hx
 .rename_i y hy;have hym:=hg y (P0 hy);split at hx
  .rcases Dw.1 hx with hx|hx
   .have:=hg x (Bb0 _ hx);omega
   .rw[Cl.1 hx];show (y.data++[r.data]).length<=n+1;rw[Bp,Hw];omega
  .rcases Dw.1 hx with hx|hx
   .have:=hg x hx;omega
   .rw[Cl.1 hx];simp
 .rw[Cl.1 hx];simp
def Cv7:∀(l:List Rec) (g:List SetR) (n:Nat),(∀x∈g,SetW x)->(∀x∈g,x.data.length<=n)->(∀r∈l,r.wf)->∀x∈l.foldl addS g,SetW x∧x.data.length<=n+l.length
 |[],g,n,h1,h2,_=>fun x hx=>⟨h1 x hx,by have:=h2 x hx;simpa using this⟩
 |r::l,g,n,h1,h2,h3=>fun x hx=>by obtain⟨i1,i2⟩:=Cv7 l (addS g r) (n+1) (Hs8 h1 (h3 r (.head _))) (Gb5 h2) (fun y hy=>h3 y (.tail _ hy)) x hx;exact⟨i1,by rw[Cq];omega⟩
def Pv (l:List Rec) (hw:∀r∈l,r.wf):∀x∈setsR l,SetW x∧x.data.length<=l.length:=fun x hx=>by obtain⟨h1,h2⟩:=Cv7 (sortR l) [] 0 (by simp) (by simp) (fun r hr=>hw r (((Rr l).2 r).1 hr).mem) x hx;have:=K7 l;exact⟨h1,by omega⟩
def Ir0:SetW zS:=⟨Dz _,⟨by decide,by decide⟩,⟨by decide,by decide⟩,by simp[zS]⟩
def Cw2 {l:List Rec} {n:List UInt8} {t:Int} (hw:∀r∈l,r.wf):SetW ((setF (setsR l) n t).getD zS)∧((setF (setsR l) n t).getD zS).data.length<=l.length:=by
 cases h:setF (setsR l) n t with
 |some x=>exact Pv l hw x (List.mem_of_find?_eq_some h)
 |none=>exact⟨Ir0,by simp[zS]⟩
def Rt (o:Option SetR):Fn4 o=[(o.getD zS).pv,.b o.isSome]:=by cases o<;>rfl
end Go.X.G
/- validate: what a checker knows, by the program. -/
namespace Go.X
open Go
structure Ck where
 zone:List UInt8
 keys:List Dat
 m:Msg
 now:Int
 ans:List SetR
 auth:List SetR
 proofs:List Rec
def Ck.cells (c:Ck):List PV:= .s c.zone::Dm c.keys::(c.m.cells++[.i .i64 c.now,Dh c.ans,Dh c.auth,B8 c.proofs])
def Ck.av (c:Ck):PV:= .a c.cells
def Ck.pt (c:Ck):PV:= .pt c.cells
def Hr2 (c:Ck):xz c.pt=some c.av:=rfl
def Fn6 (c:Ck):Jf c.pt=some c.pt:=rfl
def Ej1 (c:Ck):C3 0 c.av=some (.s c.zone):=rfl
def Ej0 (c:Ck):C3 1 c.av=some (Dm c.keys):=rfl
def Dt9 (c:Ck):C3 4 c.av=some (.i .i64 c.m.code):=rfl
def Ch2 (c:Ck):C3 15 c.av=some (.i .i64 c.m.q.typ):=rfl
def Ch1 (c:Ck):C3 16 c.av=some (B8 c.m.ans):=rfl
def Ch0 (c:Ck):C3 17 c.av=some (B8 c.m.auth):=rfl
def Cg9 (c:Ck):C3 19 c.av=some (.i .i64 c.now):=rfl
def Cg8 (c:Ck):C3 20 c.av=some (Dh c.ans):=rfl
def Cg7 (c:Ck):C3 21 c.av=some (Dh c.auth):=rfl
def Cg6 (c:Ck):C3 22 c.av=some (B8 c.proofs):=rfl
def Dp3 (c:Ck):Lw 14 2 c.av=some c.m.q.pv:=rfl
def Hh5 (z:List UInt8) (k:List Dat) (id op code size qt now:Int) (b1 b2 b3 b4 b5 b6 b7 b8:Bool) (qn:List UInt8) (an au ex p:List Rec) (a b:List SetR):
  u6 0 (.a [.s z,Dm k,.i .i64 id,.i .i64 op,.i .i64 code,.b b1,.b b2,.b b3,.b b4,.b b5,.b b6,.b b7,.b b8,.i .i64 size,.s qn,.i .i64 qt,B8 an,B8 au,B8 ex,.i .i64 now,Dh a,Dh b,B8 p])=
   some (Ck.pt ⟨z,k,⟨id,op,code,b1,b2,b3,b4,b5,b6,b7,b8,size,⟨qn,qt⟩,an,au,ex⟩,now,a,b,p⟩):=rfl
set_option linter.defProp false in
def Eb:=(And.intro @I8 (And.intro @I7 (And.intro @Hr2 (And.intro @Fn6 (And.intro @Ej1 (And.intro @Ej0 (And.intro @Dt9 (And.intro @Ch2 (And.intro @Ch1 (And.intro @Ch0 (And.intro @Cg9 (And.intro @Cg8 (And.intro @Cg7 (And.intro @Cg6 (And.intro @Dp3 @Hh5)))))))))))))))
end Go.X
namespace Go.X.G
open Go Go.X
def xb (n:List UInt8) (hn:n.length<=9223372036854775807):S Ev5 1 [.s n]=some [.i .i64 ((labK n).length:Int)]:=by
 refine Ic3 (N:=1) rfl ?_;have k1:=Jv n hn;have hl:=Fg n;unfold labK;generalize lbl n=l at*;cases l with
 |nil=>simp(disch:=omega)only[Fx7,k1,Ax,simprocAttr];try simp
 |cons c r=>
  have hc:(c::r)[0]? =some c:=rfl;have hp:(0:Int)<((c::r).length:Int):=by rw[Cq];omega
  have hd:(((c::r).drop 1).length:Int)=((c::r).length:Int) - 1:=by rw[Cn,Cq];omega
  by_cases h:c=[42]
  .rw[if_pos (by rw[hc,h]),hd];generalize hg:c::r=l at*;simp(disch:=omega)only[Fx7,k1,hc,hp,h,Ax,simprocAttr]
  .rw[if_neg (by rw[hc];simpa using h)];generalize hg:c::r=l at*;simp(disch:=omega)only[Fx7,k1,hc,hp,h,Ax,simprocAttr]
def Bx1 (n:List UInt8) (hn:n.length<=9223372036854775807):S Ev2 1 [.s n]=some [.i .i64 ((labK n).length:Int)]:=by
 refine Ib0 (N:=1) rfl ?_;have k1:=Jw n hn;have hl:=Fg n;unfold labK;generalize lbl n=l at*;cases l with
 |nil=>simp(disch:=omega)only[Fx4,k1,Ax,simprocAttr];try simp
 |cons c r=>
  have hc:(c::r)[0]? =some c:=rfl;have hp:(0:Int)<((c::r).length:Int):=by rw[Cq];omega
  have hd:(((c::r).drop 1).length:Int)=((c::r).length:Int) - 1:=by rw[Cn,Cq];omega
  by_cases h:c=[42]
  .rw[if_pos (by rw[hc,h]),hd];generalize hg:c::r=l at*;simp(disch:=omega)only[Fx4,k1,hc,hp,h,Ax,simprocAttr]
  .rw[if_neg (by rw[hc];simpa using h)];generalize hg:c::r=l at*;simp(disch:=omega)only[Fx4,k1,hc,hp,h,Ax,simprocAttr]
def setsN (l:List Rec):List SetR:=(setsR l).filter fun s=> !decide (s.typ=46)
def kx (l:List Rec) (hw:∀r∈l,r.wf) (hl:l.length<=100000):S Cn8 1 [B8 l]=some [Dh (setsN l)]:=by
 have k1:=Eh0 l hw hl;have hsl:=Qq l;unfold setsN;generalize setsR l=ss at*;refine Ic4 (N:=ss.length+1) rfl ?_;have key:Et7.ev S (ss.length+1) [B8 l,Dh ss]=some (.yld 0 [Dh ([]++ss.filter fun s=> !decide (s.typ=46))]):=by
  refine Fl ss (fun i (g:List SetR)=>[Dh g,.i .i64 (i:Int)]) (fun _ g r=> .yld 0 [Dh (g++r.filter fun s=> !decide (s.typ=46))]) (fun i g=>g.length<=i) [] (by simp(disch:=omega)only[Dj,Ax,simprocAttr]) (Dz _) (by omega) (fun i g c r hd hi hc hI=> ?_) (fun g hI=> ?_)
  .left;have hil:(i:Int)<(ss.length:Int):=by omega
   by_cases h:c.typ=46
   .refine⟨g,?_,by omega,by rw[D8 (by simp[h])]⟩;simp(disch:=omega)only[Dm7,hc,hil,h,Dj,Ax,simprocAttr]
   .refine⟨g++[c],?_,by rw[Bp,Hw];omega,by rw[C9 (by simp[h]),Cy];rfl⟩;simp(disch:=omega)only[Dm7,hc,hil,h,Dj,Ax,simprocAttr]
  .simp(disch:=omega)only[Dm7,C2,Dj,Ax,simprocAttr];simp[Out.goes]
 rw[D3] at key;generalize ss.filter (fun s=> !decide (s.typ=46))=sf at*;simp(disch:=omega)only[Dm7,k1,key,Dj,Ax,simprocAttr]
def Bz4 (zone:List UInt8) (keys:List Dat) (now:Int) (s:SetR) (r:Rec):Bool:=decide (r.data.b=((labK s.name).length:Int)) && verR zone keys now s r
def provB (zone:List UInt8) (keys:List Dat) (now:Int) (s:SetR) (sec:List Rec):Bool:=sec.any (Bz4 zone keys now s)
def Qy (c:Ck) (s:SetR) (sec:List Rec) (ha:AskOk c.zone c.keys) (hs:SetW s) (hd:s.data.length<=1000000) (hw:∀r∈sec,r.wf) (hl:sec.length<=1000000):
  S ul 3 [c.pt,s.pv,B8 sec]=some [.b (provB c.zone c.keys c.now s sec)]:=by
 have k1:=xb s.name hs.name;have key:Fk8.ev S (sec.length+1) [c.pt,s.pv,B8 sec]=some (if provB c.zone c.keys c.now s sec=true then .ret [.b true] else .yld 0 []):=by
  unfold provB;refine Df sec (fun i=>[.i .i64 (i:Int)]) (fun _ l=>if l.any (Bz4 c.zone c.keys c.now s)=true then .ret [.b true] else .yld 0 []) rfl (by omega) (fun i x l hd2 hi hx=> ?_) ?_
  .have k2:=U6 c.zone c.keys s x c.now ha hs hd (hw x (B6 hx));have hil:(i:Int)<(sec.length:Int):=by omega
   have e:Bz4 c.zone c.keys c.now s x=(decide (x.data.b=((labK s.name).length:Int)) && verR c.zone c.keys c.now s x):=rfl;generalize verR c.zone c.keys c.now s x=v at*;generalize ((labK s.name).length:Int)=n at*;by_cases h:x.data.b=n
   .cases v with
    |true=>
     right;have e1:Bz4 c.zone c.keys c.now s x=true:=by rw[e];simp[h]
     simp(disch:=omega)only[Bb8,hx,hil,k1,k2,h,Eb,Dj,Ax,simprocAttr];simp[e1,Out.goes]
    |false=>
     left;have e1:Bz4 c.zone c.keys c.now s x=false:=by rw[e];simp
     refine⟨?_,by simp[e1]⟩;simp(disch:=omega)only[Bb8,hx,hil,k1,k2,h,Eb,Dj,Ax,simprocAttr]
   .left;have e1:Bz4 c.zone c.keys c.now s x=false:=by rw[e];simp[h]
    refine⟨?_,by simp[e1]⟩;simp(disch:=omega)only[Bb8,hx,hil,k1,h,Eb,Dj,Ax,simprocAttr]
  .simp(disch:=omega)only[Bb8,C2,Eb,Dj,Ax,simprocAttr];simp[Out.goes]
 refine Ig4 (N:=sec.length+1) rfl ?_;rcases Bm (provB c.zone c.keys c.now s sec) with hv|hv<;>rw[hv] at key ⊢<;>simp(disch:=omega)only[Bb8,key,Eb,Dj,Ax,simprocAttr]<;>simp
structure MsgOk (m:Msg):Prop where
 ans:m.ans.length<=1000
 auth:m.auth.length<=1000
 answ:∀r∈m.ans,r.wf
 authw:∀r∈m.auth,r.wf
 qn:m.q.name.length<=9223372036854775807
def d8 (zone:List UInt8) (keys:List Dat) (now:Int) (sec:List Rec) (s:SetR):Bool:=decide (s.typ=47) && under s.name zone && provB zone keys now s sec
def Zy (zone:List UInt8) (keys:List Dat) (now:Int) (sec:List Rec) (s:SetR):List Rec:=if d8 zone keys now sec s=true then unsetR s else []
def proofsN (zone:List UInt8) (keys:List Dat) (m:Msg) (now:Int):List Rec:=(setsR m.auth).flatMap (Zy zone keys now m.auth)
def Wr {D K:Type} (p:D->Bool) (f:D->List K):∀l:List D,(∀x∈l,p x=false->f x=[])->(l.filter p).flatMap f=l.flatMap f
 |[],_=>rfl
 |x::l,h=>by
  have ih:=Wr p f l fun y hy=>h y (.tail _ hy);rcases Bm (p x) with hp|hp
  .rw[C9 hp,Er,Er,ih]
  .rw[D8 (by simp[hp]),Er,h x (.head _) hp,ih,D3]
def As0 (zone:List UInt8) (keys:List Dat) (m:Msg) (now:Int):(setsN m.auth).flatMap (Zy zone keys now m.auth)=proofsN zone keys m now:=by refine Wr _ _ _ fun s _ hs=> ?_;simp only[Bool.not_eq_false',decide_eq_true_eq] at hs;unfold Zy d8;simp[hs]
def iy (l:List SetR):Nat:=(l.map fun s=>s.data.length).sum
def fh (a b:List SetR):iy (a++b)=iy a+iy b:=by simp[iy]
def Eg4 (g:List SetR) (r:Rec):iy (addS g r)<=iy g+1:=by
 unfold addS;split
 .rename_i y hy;split
  .have hne:g≠[]:=fun e=>by rw[e] at hy;cases hy
   have hgl:=List.getLast?_eq_some_getLast hne;rw[hy] at hgl;injection hgl with hgl;have e:iy g=iy (g.dropLast++[y]):=by rw[hgl,Lq]
   rw[e,fh,fh];simp[iy];omega
  .rw[fh];simp[iy]
 .simp[iy]
def Cv6 (l:List Rec):iy (setsR l)<=l.length:=by
 have h:∀(l:List Rec) (g:List SetR),iy (l.foldl addS g)<=iy g+l.length:=by
  intro l
  induction l with
  |nil=>intro g;exact B7 _
  |cons r l ih=>
   intro g;have h1:=ih (addS g r);have h2:=Eg4 g r;rw[il,Cq];omega
 have h1:=h (sortR l) [];have h2:=K7 l;have h3:iy ([]:List SetR)=0:=rfl;unfold setsR Cv8;omega
def Aq1 (zone:List UInt8) (keys:List Dat) (now:Int) (sec:List Rec):∀l:List SetR,(l.flatMap (Zy zone keys now sec)).length<=iy l
 |[]=>by simp[iy]
 |s::l=>by
  have ih:=Aq1 zone keys now sec l;have h:(Zy zone keys now sec s).length<=s.data.length:=by
   unfold Zy;split
   .unfold unsetR;rw[Fq];exact B7 _
   .simp
  rw[Er,Bp];simp only[iy,G2,List.sum_cons] at ih ⊢;omega
def Kb (zone:List UInt8) (keys:List Dat) (m:Msg) (now:Int):(proofsN zone keys m now).length<=m.auth.length:=
 Ep (Aq1 _ _ _ _ _) (Cv6 _)
def Oj (zone:List UInt8) (keys:List Dat) (m:Msg) (now:Int) (hw:∀r∈m.auth,r.wf):∀r∈proofsN zone keys m now,r.wf:=fun r hr=>by
 obtain⟨s,hs,hr⟩:=List.mem_flatMap.1 hr;unfold Zy at hr;split at hr
 .exact Lp (Pv m.auth hw s hs).1 r hr
 .cases hr
def ckM (zone:List UInt8) (keys:List Dat) (m:Msg) (now:Int):Ck:=⟨zone,keys,m,now,setsN m.ans,setsN m.auth,proofsN zone keys m now⟩
def tx (l:List Rec) (hw:∀r∈l,r.wf):∀x∈setsN l,SetW x∧x.data.length<=l.length:=fun x hx=>Pv l hw x (Fp.1 hx).1
def Uv (l:List Rec):(setsN l).length<=l.length:=Ep (List.length_filter_le _ _) (Qq l)
def Ft0 (zone:List UInt8) (keys:List Dat) (m:Msg) (now:Int) (ha:AskOk zone keys) (hm:MsgOk m):S Ex0 4 [.s zone,Dm keys,m.pv,.i .i64 now]=some [(ckM zone keys m now).pt]:=by
 have hm1:=hm.ans;have hm2:=hm.auth;have k1:=kx m.ans hm.answ (by omega);have k2:=kx m.auth hm.authw (by omega);have hnl:=Uv m.auth;have hnw:=tx m.auth hm.authw;have hsm:∀l:List SetR,(∀x∈l,x∈setsN m.auth)->True:=fun _ _=>trivial;have key:∀p4,Fk9.ev S ((setsN m.auth).length+1) [.s zone,Dm keys,m.pv,.i .i64 now,Dh p4,Dh (setsN m.auth)]=some (.yld 0 [B8 ([]++(setsN m.auth).flatMap (Zy zone keys now m.auth))]):=by
  intro p4;refine Fl (setsN m.auth) (fun i (g:List Rec)=>[.i .i64 (i:Int),B8 g]) (fun _ g r=> .yld 0 [B8 (g++r.flatMap (Zy zone keys now m.auth))]) (fun i g=>g.length<=1000*i) [] (by simp(disch:=omega)only[Dj,Ax,simprocAttr]) (Dz _) (by omega) (fun i g s r hd hi hs hI=> ?_) (fun g hI=> ?_)
  .left;have hil:(i:Int)<((setsN m.auth).length:Int):=by omega
   obtain⟨hsw,hsd⟩:=hnw s (B6 hs);have k3:=Gk s.name zone hsw.name ha.zoneL;have k4:=Qy ⟨zone,keys,m,now,p4,setsN m.auth,g⟩ s m.auth ha hsw (by omega) hm.authw (by omega);have k5:=Pp s (by omega);have hul:(unsetR s).length=s.data.length:=by unfold unsetR;rw[Fq]
   simp only at k4;have a1:=Uh g (unsetR s) (by omega);refine⟨g++Zy zone keys now m.auth s,?_,?_,by rw[Er,Cy]⟩
   .unfold Zy d8;generalize setsN m.auth=sn at*;by_cases h1:s.typ=47
    .rcases Bm (under s.name zone) with h2|h2
     .rw[h2] at k3;rcases Bm (provB zone keys now s m.auth) with h3|h3
      .rw[h3] at k4;rw[if_pos (by simp[h1,h2,h3])];simp(disch:=omega)only[An4,hs,hil,k3,k4,k5,a1,h1,Eb,EVT,EVM,Dj,Ax,simprocAttr]
      .rw[h3] at k4;rw[if_neg (by simp[h3]),Ek];simp(disch:=omega)only[An4,hs,hil,k3,k4,h1,Eb,EVT,EVM,Dj,Ax,simprocAttr]
     .rw[h2] at k3;rw[if_neg (by simp[h2]),Ek];simp(disch:=omega)only[An4,hs,hil,k3,h1,Eb,EVT,EVM,Dj,Ax,simprocAttr]
    .rw[if_neg (by simp[h1]),Ek];simp(disch:=omega)only[An4,hs,hil,h1,Eb,EVT,EVM,Dj,Ax,simprocAttr]
   .rw[Bp];have:(Zy zone keys now m.auth s).length<=1000:=by
     unfold Zy;split
     .omega
     .simp
    omega
  .simp(disch:=omega)only[An4,C2,Eb,EVT,EVM,Dj,Ax,simprocAttr];simp[Out.goes]
 rw[D3,As0] at key;refine Ig5 (N:=(setsN m.auth).length+1) rfl ?_;unfold ckM;generalize proofsN zone keys m now=pf at*;generalize setsN m.auth=sn at*;generalize setsN m.ans=sa at*;simp(disch:=omega)only[An4,k1,k2,key,Eb,EVT,EVM,Dj,Ax,simprocAttr]
end Go.X.G
namespace Go.X.G
open Go Go.X
def ux (n t:Nat):n &&& 2 ^ t=(n.testBit t).toNat*2 ^ t:=by
 apply Nat.eq_of_testBit_eq;intro i;rw[Nat.testBit_and,Nat.testBit_two_pow];by_cases h:t=i
 .subst h;cases h2:n.testBit t<;>simp
 .cases h2:n.testBit t<;>simp[h,Nat.testBit_two_pow]
def Gz9 (x:Int) (t:Nat) (ht:t<64):IntKind.u64.wrap ((BitVec.ofInt IntKind.u64.bits x &&& BitVec.ofInt IntKind.u64.bits (2 ^ t)).toNat:Int)=if bit x t=1 then 2 ^ t else 0:=by
 have hp:(2 ^ t:Nat)<2 ^ 64:=Nat.pow_lt_pow_right (by decide) ht;have h1:(BitVec.ofInt 64 ((2:Int) ^ t)).toNat=2 ^ t:=by
  rw[Ik1];have e:((2:Int) ^ t)=((2 ^ t:Nat):Int):=by simp
  rw[e,<-Int.natCast_emod,Eg];exact Fj hp
 have h2:(BitVec.ofInt 64 x &&& BitVec.ofInt 64 ((2:Int) ^ t)).toNat=((BitVec.ofInt 64 x).toNat.testBit t).toNat*2 ^ t:=by rw[BitVec.toNat_and,h1,ux]
 show IntKind.u64.wrap (((BitVec.ofInt 64 x &&& BitVec.ofInt 64 ((2:Int) ^ t)).toNat:Nat):Int)=_;have h3:(BitVec.ofInt 64 x).toNat.testBit t=decide (bit x t=1):=by
  rw[Ik1,Nat.testBit_eq_decide_div_mod_eq,decide_eq_decide];unfold bit;have hpos:(0:Int)<2 ^ t:=Int.pow_pos (by decide);have hb:0<=x % ((2 ^ 64:Nat):Int):=Int.emod_nonneg _ (by decide);have e1:(((x % ((2 ^ 64:Nat):Int)).toNat / 2 ^ t % 2:Nat):Int)=x % ((2 ^ 64:Nat):Int) / 2 ^ t % 2:=by rw[Int.natCast_emod,Int.natCast_ediv,Int.toNat_of_nonneg hb];simp
  have e2:x % ((2 ^ 64:Nat):Int) / 2 ^ t % 2=x / 2 ^ t % 2:=by
   have hs:((2 ^ 64:Nat):Int)=2 ^ t*(2*2 ^ (63 - t)):=by
    have:(2:Int) ^ 64=2 ^ t*(2*2 ^ (63 - t)):=by rw[<-Int.mul_assoc,<-Int.pow_succ,<-Int.pow_add];congr 1;omega
    simpa using this
   have hx:x=((2 ^ 64:Nat):Int)*(x / ((2 ^ 64:Nat):Int))+x % ((2 ^ 64:Nat):Int):=(Int.mul_ediv_add_emod x _).symm;have hd:x / 2 ^ t=(2*2 ^ (63 - t))*(x / ((2 ^ 64:Nat):Int))+x % ((2 ^ 64:Nat):Int) / 2 ^ t:=by
    have:x=2 ^ t*((2*2 ^ (63 - t))*(x / ((2 ^ 64:Nat):Int)))+x % ((2 ^ 64:Nat):Int):=by rw[<-Int.mul_assoc,<-hs];exact hx
    calc x / 2 ^ t=(2 ^ t*((2*2 ^ (63 - t))*(x / ((2 ^ 64:Nat):Int)))+x % ((2 ^ 64:Nat):Int)) / 2 ^ t:=by rw[<-this]
     _=_:=by rw[Int.mul_add_ediv_left _ _ (Int.ne_of_gt hpos)]
   rw[hd,Int.mul_assoc];omega
  rw[<-e2,<-e1];generalize (x % ((2 ^ 64:Nat):Int)).toNat / 2 ^ t % 2=q;omega
 rw[h2,h3];have hq:((2 ^ t:Nat):Int)<=9223372036854775808:=by have:(2 ^ t:Nat)<=2 ^ 63:=Nat.pow_le_pow_right (by decide) (by omega);omega
 by_cases hb:bit x t=1
 .simp only[hb,decide_true,Bool.toNat_true,Gh,if_true];rw[Fy4 (by omega) (by omega)];simp
 .simp only[hb,decide_false,Bool.toNat_false,Nat.zero_mul,if_false];rw[Fy4 (by omega) (by omega)];simp
def Pf (r:Rec) (t:Int):Bool:=decide (0<=t) && decide (t<=63) && decide (bit r.data.bits t.toNat=1)
def Ld (r:Rec) (t:Int):S Nj 2 [r.pv,.i .i64 t]=some [.b (Pf r t)]:=by
 refine Hq6 (N:=1) rfl ?_;unfold Pf;by_cases h1:0<=t
 .by_cases h2:t<=63
  .obtain⟨n,rfl⟩:∃n:Nat,t=(n:Int):=⟨t.toNat,by omega⟩;have hb:IntKind.u64.bits=64:=rfl;have h3:X.bin .shr (.i .u64 r.data.bits) (.i .i64 (n:Int))=some (.i .u64 (r.data.bits / 2 ^ n)):=Tf _ _ _ _ (by rw[hb];omega);have h4:r.data.bits / 2 ^ n % 2=bit r.data.bits n:=rfl;simp(disch:=omega)only[Bc5,Mq,Gb0,h3,h4,Ay,simprocAttr]
   try simp
   try omega
  .simp(disch:=omega)only[Bc5,Ay,simprocAttr]
   try simp[h2]
 .simp(disch:=omega)only[Bc5,Ay,simprocAttr]
  try simp[h1]
def Ef6 (n:Nat) (h:n<64):S Av7 1 [.i .i64 (n:Int)]=some [.i .u64 (2 ^ n)]:=by
 refine Hj1 (N:=1) rfl ?_;have hb:IntKind.u64.bits=64:=rfl;have h1:min n 64=n:=by omega
 have hp:(2:Int) ^ n<=18446744073709551615:=by
  have h2:(2 ^ n:Nat)<=2 ^ 63:=Nat.pow_le_pow_right (by decide) (by omega);have h3:((2:Int) ^ n)=((2 ^ n:Nat):Int):=by simp
  rw[h3];omega
 have hp0:(0:Int)<=2 ^ n:=Int.le_of_lt (Int.pow_pos (by decide));have h4:¬((n:Int)<0):=by omega
 simp(disch:=omega)only[Gf0,Df0,hb,h1,h4,Int.one_mul,Ay,simprocAttr]
def Ob (r:Rec) (t:Int):S M9 2 [r.pv,.i .i64 t]=some [.b (Pf r t)]:=by
 refine Hq2 (N:=1) rfl ?_;unfold Pf;by_cases h1:0<=t
 .by_cases h2:t<=63
  .obtain⟨n,rfl⟩:∃n:Nat,t=(n:Int):=⟨t.toNat,by omega⟩;have h3:=Gz9 r.data.bits n (by omega);have hp0:(0:Int)<2 ^ n:=Int.pow_pos (by decide);simp(disch:=omega)only[Bc4,Ef6,Mq,h3,Ay,simprocAttr];by_cases h4:bit r.data.bits n=1
   .simp[h4];omega
   .simp[h4]
  .simp(disch:=omega)only[Bc4,Ay,simprocAttr]
   try simp[h2]
 .simp(disch:=omega)only[Bc4,Ay,simprocAttr]
  try simp[h1]
def I1 (n top:List UInt8):Bool:=decide (n≠top) && under n top
def Iy (n top:List UInt8) (hn:n.length<=9223372036854775807) (ht:top.length<=9223372036854775807):S Zt 2 [.s n,.s top]=some [.b (I1 n top)]:=by
 refine Hb2 (N:=1) rfl ?_;unfold I1;by_cases h:n=top
 .simp(disch:=omega)only[Em1,h,Ay,simprocAttr]
  try simp
 .simp(disch:=omega)only[Em1,Gk,h,Ay,simprocAttr]
  try simp
def Kq (n top:List UInt8) (hn:n.length<=9223372036854775807) (ht:top.length<=9223372036854775807):S Zr 2 [.s n,.s top]=some [.b (I1 n top)]:=by
 refine Hz5 (N:=1) rfl ?_;unfold I1;by_cases h:n=top
 .simp(disch:=omega)only[Em0,h,Ay,simprocAttr]
  try simp
 .simp(disch:=omega)only[Em0,F5,h,Ay,simprocAttr]
  try simp
def af (r:Rec):Bool:=Pf r 39||(Pf r 2 && !Pf r 6)
def Af4 (r:Rec):S Aw9 1 [r.pv]=some [.b (af r)]:=by refine Hq7 (N:=1) rfl ?_;unfold af;rcases Bm (Pf r 39) with h1|h1<;>rcases Bm (Pf r 2) with h2|h2<;>rcases Bm (Pf r 6) with h3|h3<;>simp(disch:=omega)only[Gg0,Ld,h1,h2,h3,Ay,simprocAttr]<;>rfl
def Hj (r:Rec) (zone name:List UInt8):Bool:=
 decide (r.typ=47) && under name zone && decide (0<Od name r.name) && !(decide (r.data.host≠zone) && decide (0<=Od name r.data.host)) && (!I1 name r.name|| !af r)
def Xr (r:Rec) (zone name:List UInt8) (hr:r.wf) (hz:zone.length<=9223372036854775807) (hn:name.length<=9223372036854775807):S Z0 3 [r.pv,.s zone,.s name]=some [.b (Hj r zone name)]:=by
 refine Hb4 (N:=1) rfl ?_;have g1:=hr.name;have g2:=hr.data.host;unfold Td at g1 g2;unfold Hj;by_cases h1:r.typ=47
 .rcases Bm (under name zone) with h2|h2
  .by_cases h3:0<Od name r.name
   .by_cases h4:r.data.host=zone
    .rcases Bm (I1 name r.name) with h6|h6<;>rcases Bm (af r) with h7|h7<;>simp(disch:=omega)only[Ys,Gk,Kp,Iy,Af4,h1,h2,h4,h6,h7,Ay,simprocAttr]<;>simp[h3]
    .by_cases h5:0<=Od name r.data.host
     .simp(disch:=omega)only[Ys,Gk,Kp,h1,h2,h4,Ay,simprocAttr]
      try simp[h4,h5]
     .rcases Bm (I1 name r.name) with h6|h6<;>rcases Bm (af r) with h7|h7<;>simp(disch:=omega)only[Ys,Gk,Kp,Iy,Af4,h1,h2,h4,h6,h7,Ay,simprocAttr]<;>simp[h3,h5]
   .simp(disch:=omega)only[Ys,Gk,Kp,h1,h2,Ay,simprocAttr]
    try simp[h3]
  .simp(disch:=omega)only[Ys,Gk,h1,h2,Ay,simprocAttr]
   try simp
 .simp(disch:=omega)only[Ys,h1,Ay,simprocAttr]
  try simp
def Dy7 (a:List UInt8):Od a a=0:=by
 rcases Bm (vld a) with h|h
 .rw[Xb h h];unfold xg;have:∀l:List (List UInt8),Uf l l=none:=by
   intro l;induction l with
   |nil=>rfl
   |cons x xs ih=>simp[Uf,ih]
  rw[this];simp
 .unfold Od;simp[h,Kl]
def My (r:Rec) (zone name:List UInt8) (hr:r.wf) (hz:zone.length<=9223372036854775807) (hn:name.length<=9223372036854775807):S Ww 3 [r.pv,.s zone,.s name]=some [.b (Hj r zone name)]:=by
 refine Hz6 (N:=1) rfl ?_;have g1:=hr.name;have g2:=hr.data.host;unfold Td at g1 g2;unfold Hj;by_cases h1:r.typ=47
 .rcases Bm (under name zone) with h2|h2
  .by_cases h3:0<Od name r.name
   .have hne:name≠r.name:=fun e=>by rw[<-e,Dy7] at h3;omega
    have hbel:I1 name r.name=under name r.name:=by simp[I1,hne]
    rw[hbel];unfold af;by_cases h4:r.data.host=zone
    .rcases Bm (under name r.name) with h6|h6<;>rcases Bm (Pf r 39) with h7|h7<;>rcases Bm (Pf r 6) with h8|h8<;>rcases Bm (Pf r 2) with h9|h9<;>simp(disch:=omega)only[Yp,F5,Kr,Ob,h1,h2,h4,h6,h7,h8,h9,Ay,simprocAttr]<;>simp[h3]
    .by_cases h5:0<=Od name r.data.host
     .simp(disch:=omega)only[Yp,F5,Kr,h1,h2,h4,Ay,simprocAttr]
      try simp[h4,h5]
     .rcases Bm (under name r.name) with h6|h6<;>rcases Bm (Pf r 39) with h7|h7<;>rcases Bm (Pf r 6) with h8|h8<;>rcases Bm (Pf r 2) with h9|h9<;>simp(disch:=omega)only[Yp,F5,Kr,Ob,h1,h2,h4,h6,h7,h8,h9,Ay,simprocAttr]<;>simp[h3,h5]
   .simp(disch:=omega)only[Yp,F5,Kr,h1,h2,Ay,simprocAttr]
    try simp[h3]
  .simp(disch:=omega)only[Yp,F5,h1,h2,Ay,simprocAttr]
   try simp
 .simp(disch:=omega)only[Yp,h1,Ay,simprocAttr]
  try simp
def Mj (r:Rec) (name:List UInt8):List UInt8:=if Ey6 (E2 name r.name)<Ey6 (E2 name r.data.host) then E2 name r.data.host else E2 name r.name
def Jq (a b:List UInt8):(E2 a b).length<=254:=by
 unfold E2;split
 .rename_i h;exact Fq6 h.1 _
 .simp
def V8 (r:Rec) (name:List UInt8) (hr:r.wf) (hn:name.length<=9223372036854775807):S Ax3 2 [r.pv,.s name]=some [.s (Mj r name)]:=by refine Hv2 (N:=1) rfl ?_;have g1:=hr.name;have g2:=hr.data.host;unfold Td at g1 g2;have h1:=Jq name r.name;have h2:=Jq name r.data.host;unfold Mj;by_cases h:Ey6 (E2 name r.name)<Ey6 (E2 name r.data.host)<;>simp(disch:=omega)only[Gg2,By7,Dh3,h,Ay,simprocAttr]
def d5 {n:List UInt8} (h:vld n=true) (k:Nat):Ey6 (jn ((lbl n).drop k))=((flat ((lbl n).drop k)).length:Int)+1:=by
 obtain⟨h1,h2⟩:=Ln h k;unfold Ey6;by_cases h3:(lbl n).drop k=[]
 .rw[h3];rfl
 .have h4:jn ((lbl n).drop k)=flat ((lbl n).drop k):=by unfold jn;rw[if_neg h3]
  have h5:jn ((lbl n).drop k)≠[46]:=fun e=>h3 (by rw[<-h2];exact(Wg h1).2 e);rw[if_neg h5,if_pos h1,h4]
def Tj (l:List (List UInt8)) (i j:Nat) (h:i<j) (hj:j<=l.length):(flat (l.drop j)).length<(flat (l.drop i)).length:=by
 have e:l.drop i=(l.drop i).take (j - i)++l.drop j:=by
  have:j=i+(j - i):=by omega
  conv=>rhs;rhs;rw[this,<-Fy]
  rw[C8]
 rw[e,Oc,Bp];have hne:(l.drop i).take (j - i)≠[]:=by intro e2;have:=congrArg List.length e2;simp at this;omega
 obtain⟨m,hm⟩:=Kg _ hne;rw[hm];simp only[Bp,Cq,Cs];omega
def commonN_cases (a b:List UInt8) (ha:vld a=true):(vld b=true∧∃k,k<=(lbl a).length∧E2 a b=jn ((lbl a).drop k))∨(vld b=false∧E2 a b=[]):=by
 rcases Bm (vld b) with h|h
 .exact .inl ⟨h,(lbl a).length - Hc (lbl a) (lbl b),by omega,by unfold E2;rw[if_pos ⟨ha,h⟩]⟩
 .exact .inr ⟨h,by unfold E2;rw[if_neg (by simp[h])]⟩
def Cr5:lbl []=[]:=rfl
def Z2:Ey6 []=0:=rfl
def Bv1 (r:Rec) (name:List UInt8):(if(lbl (E2 name r.name)).length<(lbl (E2 name r.data.host)).length∨E2 name r.name=[] then E2 name r.data.host else E2 name r.name)=Mj r name:=by
 unfold Mj;rcases Bm (vld name) with hv|hv
 .rcases commonN_cases name r.name hv with⟨_,i,hi,ea⟩|⟨_,ea⟩
  .have hni:jn ((lbl name).drop i)≠[]:=fun e=>by have:=N4 (Ln hv i).1;rw[e] at this;simp at this
   rcases commonN_cases name r.data.host hv with⟨_,j,hj,eb⟩|⟨_,eb⟩
   .rw[ea,eb,(Ln hv i).2,(Ln hv j).2,d5 hv,d5 hv];have key:((lbl name).drop i).length<((lbl name).drop j).length↔((flat ((lbl name).drop i)).length:Int)+1<((flat ((lbl name).drop j)).length:Int)+1:=by
     simp only[Cn];rcases Nat.lt_trichotomy i j with h|h|h
     .have:=Tj (lbl name) i j h hj;omega
     .subst h;omega
     .have:=Tj (lbl name) j i h hi;omega
    by_cases h:((lbl name).drop i).length<((lbl name).drop j).length
    .rw[if_pos (.inl h),if_pos (key.1 h)]
    .rw[if_neg (fun h2=>h2.elim h hni),if_neg (fun h2=>h (key.2 h2))]
   .rw[ea,eb,(Ln hv i).2,Cr5,d5 hv,Z2,if_neg (fun h2=>h2.elim (fun h3=>by simp at h3) hni),if_neg (by omega)]
  .rw[ea,if_pos (.inr rfl)];rcases commonN_cases name r.data.host hv with⟨_,j,hj,eb⟩|⟨_,eb⟩
   .rw[eb,d5 hv,Z2,if_pos (by omega)]
   .rw[eb];simp
 .have ea:E2 name r.name=[]:=by unfold E2;rw[if_neg (by simp[hv])]
  have eb:E2 name r.data.host=[]:=by unfold E2;rw[if_neg (by simp[hv])]
  rw[ea,eb];simp
def Rc (r:Rec) (name:List UInt8) (hr:r.wf) (hn:name.length<=9223372036854775807):S nk 2 [r.pv,.s name]=some [.s (Mj r name)]:=by refine Hz3 (N:=1) rfl ?_;have g1:=hr.name;have g2:=hr.data.host;unfold Td at g1 g2;have h1:=Jq name r.name;have h2:=Jq name r.data.host;rw[<-Bv1];by_cases h:(lbl (E2 name r.name)).length<(lbl (E2 name r.data.host)).length<;>by_cases h3:E2 name r.name=[]<;>simp(disch:=omega)only[Gh4,By8,Jw,Ay,simprocAttr]<;>simp[h,h3]
def W4 (r:Rec) (name:List UInt8):(Mj r name).length<=254:=by
 unfold Mj;split
 .exact Jq _ _
 .exact Jq _ _
def K6 (zone name:List UInt8) (r:Rec):Option (List UInt8):=
 if Hj r zone name && !I1 r.data.host name && J0 (Mj r name) then some (M2 (Mj r name)) else none
def starsN (l:List Rec) (zone name:List UInt8):List (List UInt8):=l.filterMap (K6 zone name)
def Ak2 (l:List Rec) (zone name:List UInt8) (hw:∀r∈l,r.wf) (hl:l.length<=1000000) (hz:zone.length<=9223372036854775807) (hn:name.length<=9223372036854775807):
  S nd 3 [B8 l,.s zone,.s name]=some [Dq (starsN l zone name)]:=by
 refine Hc0 (N:=l.length+1) rfl ?_;have key:Dq2.ev S (l.length+1) [B8 l,.s zone,.s name]=some (.yld 0 [Dq ([]++starsN l zone name)]):=by
  refine Fl l (fun i (g:List (List UInt8))=>[Dq g,.i .i64 (i:Int)]) (fun i g r=> .yld 0 [Dq (g++starsN r zone name)]) (fun i g=>g.length<=i) [] rfl (B7 _) (by omega) (fun i g c r hd hi hc hI=> ?_) (fun g hI=> ?_)
  .left;have hcw:=hw c (B6 hc);have g2:=hcw.data.host;unfold Td at g2;have h1:=Xr c zone name hcw hz hn;have h2:=V8 c name hcw hn;have h3:=W4 c name;cases h:K6 zone name c with
   |some s=>
    refine⟨g++[s],?_,by simp;omega,by simp[starsN,h]⟩;unfold K6 at h;split at h
    .rename_i hc2;injection h with h;subst h;simp only[Bt,Dp] at hc2;obtain⟨⟨k1,k2⟩,k3⟩:=hc2;simp(disch:=omega)only[Yt,hc,h1,h2,Iy,Am1,k1,k2,k3,Ay,simprocAttr]
    .cases h
   |none=>
    refine⟨g,?_,by omega,by simp[starsN,h]⟩;unfold K6 at h;split at h
    .cases h
    .rename_i hc2;rcases ch3 (Hj c zone name) (!I1 c.data.host name) (J0 (Mj c name)) with e0|⟨e0,e1⟩|⟨e0,e1,e2⟩|⟨e0,e1,e2⟩
     .simp(disch:=omega)only[Yt,hc,h1,e0,Ay,simprocAttr]
     .simp only[Bool.not_eq_false'] at e1;simp(disch:=omega)only[Yt,hc,h1,Iy,e0,e1,Ay,simprocAttr]
     .simp only[Dp] at e1;simp(disch:=omega)only[Yt,hc,h1,h2,Iy,Am1,e0,e1,e2,Ay,simprocAttr]
     .exact absurd (by simp[e0,e1,e2]) hc2
  .simp(disch:=omega)only[Yt,Ay,simprocAttr]
   try simp[starsN,Out.goes]
 simp(disch:=omega)only[Yt,key,Ay,simprocAttr]
def Lh (v:List UInt8):List (List UInt8)->Nat->Int
 |[],_=> -1
 |x::r,i=>if v=x then(i:Int) else Lh v r (i+1)
def ob (v:List UInt8):∀(l:List (List UInt8)) (i:Nat),decide (0<=Lh v l i)=decide (v∈l)
 |[],i=>by simp[Lh]
 |x::r,i=>by
  simp only[Lh];by_cases h:v=x
  .simp[h]
  .simp only[if_neg h,ob v r (i+1)];simp[h]
def Cw9 (l:List (List UInt8)) (v:List UInt8) (hl:l.length<=1000000):S Ax5 2 [Dq l,.s v]=some [.i .i64 (Lh v l 0)]:=by
 refine Hv4 (N:=l.length+1) rfl ?_;have key:Dj6.ev S (l.length+1) [Dq l,.s v]=some (if Lh v l 0= -1 then .yld 0 [] else .ret [.i .i64 (Lh v l 0)]):=by
  refine Df l (fun i=>[.i .i64 (i:Int)]) (fun i r=>if Lh v r i= -1 then .yld 0 [] else .ret [.i .i64 (Lh v r i)]) rfl (by omega) (fun i c r hd hi hc=> ?_) ?_
  .by_cases h:v=c
   .right;simp(disch:=omega)only[jx,hc,h,Ay,simprocAttr];have:¬((i:Int)= -1):=by omega
    simp[Lh,this,Out.goes]
   .left;simp(disch:=omega)only[jx,hc,h,Ay,simprocAttr]
    try simp[Lh,h]
  .simp(disch:=omega)only[jx,Ay,simprocAttr]
   try simp[Lh,Out.goes]
 by_cases h:Lh v l 0= -1
 .rw[if_pos h] at key;simp(disch:=omega)only[jx,key,h,Ay,simprocAttr]
 .rw[if_neg h] at key;simp(disch:=omega)only[jx,key,Ay,simprocAttr]
def kc (l:List (List UInt8)) (v:List UInt8) (hl:l.length<=1000000):S Az5 2 [Dq l,.s v]=some [.b (decide (v∈l))]:=by refine Hc1 (N:=1) rfl ?_;rw[<-ob v l 0];simp(disch:=omega)only[Gl2,Cw9,Ay,simprocAttr]
def expandedN (l:List Rec) (zone name star:List UInt8):Bool:=decide (star∈starsN l zone name)
def Y8 (l:List Rec) (zone name:List UInt8):(starsN l zone name).length<=l.length:=List.length_filterMap_le _ _
def Xp (l:List Rec) (zone name star:List UInt8) (hw:∀r∈l,r.wf) (hl:l.length<=1000000) (hz:zone.length<=9223372036854775807) (hn:name.length<=9223372036854775807):
  S Cn6 4 [B8 l,.s zone,.s name,.s star]=some [.b (expandedN l zone name star)]:=by
 refine Ic0 (N:=1) rfl ?_;have h1:=Y8 l zone name;simp(disch:=omega)only[Iq2,Ak2 l zone name hw hl hz hn,kc,expandedN,Ay,simprocAttr]
def Rb (l:List Rec) (zone name star:List UInt8) (hw:∀r∈l,r.wf) (hl:l.length<=1000000) (hz:zone.length<=9223372036854775807) (hn:name.length<=9223372036854775807):
  S Cn1 4 [B8 l,.s zone,.s name,.s star]=some [.b (expandedN l zone name star)]:=by
 refine Iz7 (N:=l.length+1) rfl ?_;have key:Et0.ev S (l.length+1) [B8 l,.s zone,.s name,.s star]=some (if expandedN l zone name star=true then .ret [.b true] else .yld 0 []):=by
  refine Df l (fun i=>[.i .i64 (i:Int)]) (fun i r=>if expandedN r zone name star=true then .ret [.b true] else .yld 0 []) rfl (by omega) (fun i c r hd hi hc=> ?_) ?_
  .have hcw:=hw c (B6 hc);have g2:=hcw.data.host;unfold Td at g2;have h1:=My c zone name hcw hz hn;have h2:=Rc c name hcw hn;have h3:=W4 c name;have hcons:expandedN (c::r) zone name star=(decide (K6 zone name c=some star)||expandedN r zone name star):=by
    unfold expandedN starsN;cases h:K6 zone name c with
    |none=>simp only[List.filterMap_cons,h];simp
    |some s=>
     simp only[List.filterMap_cons,h,Ch,Bn];by_cases h2:star=s
     .simp[h2]
     .have h3:¬s=star:=fun e=>h2 e.symm;simp[h2,h3]
   have key2:Df6.ev S (l.length+1) ([B8 l,.s zone,.s name,.s star]++[.i .i64 (i:Int)])=some (if K6 zone name c=some star then .ret [.b true] else .yld 1 [.i .i64 ((i:Int)+1)]):=by
    unfold K6;rcases Bm (Hj c zone name) with k1|k1
    .rcases Bm (I1 c.data.host name) with k2|k2
     .simp(disch:=omega)only[rv,hc,h1,Kq,k1,k2,Ay,simprocAttr]
      try simp
     .rcases Bm (J0 (Mj c name)) with k3|k3
      .by_cases k4:M2 (Mj c name)=star
       .simp(disch:=omega)only[rv,hc,h1,h2,Kq,Ul,k1,k2,k3,k4,Ay,simprocAttr]
        try simp
       .simp(disch:=omega)only[rv,hc,h1,h2,Kq,Ul,k1,k2,k3,k4,Ay,simprocAttr]
        try simp[k4]
      .simp(disch:=omega)only[rv,hc,h1,h2,Kq,Ul,k1,k2,k3,Ay,simprocAttr]
       try simp
    .simp(disch:=omega)only[rv,hc,h1,k1,Ay,simprocAttr]
     try simp
   rw[key2,hcons];by_cases h:K6 zone name c=some star<;>simp[h,Out.goes]
  .simp(disch:=omega)only[rv,Ay,simprocAttr]
   try simp[expandedN,starsN,Out.goes]
 rcases Bm (expandedN l zone name star) with h|h<;>simp(disch:=omega)only[rv,key,h,Ay,simprocAttr]
def W0 {D:Type} (p q:D->Bool) (h:∀x,q x=true->p x=true):∀l:List D,(l.filter p).find? q=l.find? q
 |[]=>rfl
 |x::l=>by
  have ih:=W0 p q h l;rcases Bm (q x) with hq|hq
  .rw[C9 (h x hq),Il hq,Il hq]
  .rcases Bm (p x) with hp|hp
   .rw[C9 hp,D4 (by simp[hq]),D4 (by simp[hq]),ih]
   .rw[D8 (by simp[hp]),D4 (by simp[hq]),ih]
def Ak5 (l:List Rec) (n:List UInt8) (t:Int) (ht:t≠46):setF (setsN l) n t=setF (setsR l) n t:=by refine W0 _ _ (fun x hx=> ?_) _;simp only[isS,Bt,decide_eq_true_eq] at hx;simp[hx.2,ht]
def Cw1 {l:List Rec} {n:List UInt8} {t:Int} (ht:t≠46) (hw:∀r∈l,r.wf):SetW ((setF (setsN l) n t).getD zS)∧((setF (setsN l) n t).getD zS).data.length<=l.length:=by rw[Ak5 l n t ht];exact Cw2 hw
def bitB (r:Rec) (t:Nat):Bool:=decide (bit r.data.bits t=1)
def ed (r:Rec) (t:Int) (n:Nat) (h:t=(n:Int)) (hn:n<64):S Bk0 1 [.i .i64 t,r.pv]=some [.b (bitB r n)]:=by
 subst h;refine Ib5 (N:=1) rfl ?_;unfold bitB;have hb:IntKind.u64.bits=64:=rfl;have h0:IntKind.u64.wrap (n:Int)=(n:Int):=Fy4 (by omega) (by omega);have h3:X.bin .shr (.i .u64 r.data.bits) (.i .u64 (n:Int))=some (.i .u64 (r.data.bits / 2 ^ n)):=Tf _ _ _ _ (by rw[hb];omega);have h4:r.data.bits / 2 ^ n % 2=bit r.data.bits n:=rfl;simp(disch:=omega)only[Ik9,Mq,Gb0,h0,h3,h4,Dj,Ax,simprocAttr]
 try simp
def qg (zone:List UInt8) (r:Rec):Bool:=decide (r.typ=2) && !decide (r.name=zone) && under r.name zone
def kidR (zone:List UInt8) (l:List Rec):Option (List UInt8):=(l.find? (qg zone)).map Rec.name
def L1 (child:List UInt8) (r:Rec):Bool:=decide (r.name=child) && bitB r 2 && !bitB r 43 && !bitB r 6
def Hh9 {zone c:List UInt8} {l:List Rec} (h:kidR zone l=some c):c≠[]∧under c zone=true∧c≠zone:=by
 unfold kidR at h;cases hf:l.find? (qg zone) with
 |none=>rw[hf] at h;cases h
 |some r=>
  rw[hf] at h;injection h with h;have hk:=List.find?_some hf;simp only[qg,Bt,Dp,decide_eq_false_iff_not] at hk;subst h;refine⟨fun e=> ?_,hk.2,hk.1.2⟩;have hv:=(Ky.1 hk.2).1;rw[e] at hv;exact absurd hv (by decide)
def Fp1 (zone:List UInt8) (keys:List Dat) (m:Msg) (now:Int) (c:List UInt8):List Dat×Int:=
 if((setF (setsR m.auth) c 43).isSome && provB zone keys now ((setF (setsR m.auth) c 43).getD zS) m.auth)=true then(((setF (setsR m.auth) c 43).getD zS).data,1)
 else if(proofsN zone keys m now).any (L1 c)=true then([],2) else([],3)
def refM (zone:List UInt8) (keys:List Dat) (m:Msg) (now:Int):List UInt8×List Dat×Int:=
 match kidR zone m.auth with
 |some c=>(c,Fp1 zone keys m now c)
 |none=>([],[],3)
def tt (zone:List UInt8) (keys:List Dat) (m:Msg) (now:Int) (ha:AskOk zone keys) (hm:MsgOk m):
  S Ew4 1 [(ckM zone keys m now).pt]=some [.s (refM zone keys m now).1,Dm (refM zone keys m now).2.1,.i .i64 (refM zone keys m now).2.2]:=by
 have hm2:=hm.auth;have hpl:=Kb zone keys m now;have key:Fk3.ev S (m.auth.length+(proofsN zone keys m now).length+1) [(ckM zone keys m now).pt]=some (.yld 0 [.s ((kidR zone m.auth).getD [])]):=by
  unfold kidR ckM;refine Df m.auth (fun i=>[.s [],.i .i64 (i:Int)]) (fun _ l=> .yld 0 [.s (((l.find? (qg zone)).map Rec.name).getD [])]) (by simp(disch:=omega)only[Dj,Ax,simprocAttr]) (by omega) (fun i x l hd2 hi hx=> ?_) ?_
  .have hil:(i:Int)<(m.auth.length:Int):=by omega
   have hxw:=hm.authw x (B6 hx);have k1:=Gk x.name zone hxw.name ha.zoneL;have e:qg zone x=(decide (x.typ=2) && !decide (x.name=zone) && under x.name zone):=rfl;generalize under x.name zone=u at*;generalize proofsN zone keys m now=pf at*;generalize setsN m.auth=sn at*;generalize setsN m.ans=sa at*;by_cases h1:x.typ=2
   .by_cases h2:x.name=zone
    .left;have e1:qg zone x=false:=by rw[e];simp[h2]
     refine⟨?_,by rw[D4 (by simp[e1])]⟩;simp(disch:=omega)only[Pj,hx,hil,h1,h2,Eb,EVT,EVM,Dj,Ax,simprocAttr]
    .cases u with
     |true=>
      right;have e1:qg zone x=true:=by rw[e];simp[h1,h2]
      simp(disch:=omega)only[Pj,hx,hil,h1,h2,k1,Eb,EVT,EVM,Dj,Ax,simprocAttr];simp[Il e1,Out.goes]
     |false=>
      left;have e1:qg zone x=false:=by rw[e];simp
      refine⟨?_,by rw[D4 (by simp[e1])]⟩;simp(disch:=omega)only[Pj,hx,hil,h1,h2,k1,Eb,EVT,EVM,Dj,Ax,simprocAttr]
   .left;have e1:qg zone x=false:=by rw[e];simp[h1]
    refine⟨?_,by rw[D4 (by simp[e1])]⟩;simp(disch:=omega)only[Pj,hx,hil,h1,Eb,EVT,EVM,Dj,Ax,simprocAttr]
  .generalize proofsN zone keys m now=pf at*;generalize setsN m.auth=sn at*;generalize setsN m.ans=sa at*;simp(disch:=omega)only[Pj,C2,Eb,EVT,EVM,Dj,Ax,simprocAttr];simp[Out.goes]
 have key2:∀c p2 p3 p4,Cs6.ev S (m.auth.length+(proofsN zone keys m now).length+1) [(ckM zone keys m now).pt,.s c,p2,p3,p4]=some (if(proofsN zone keys m now).any (L1 c)=true then .ret [.s c,Dm [],.i .i64 2] else .yld 0 []):=by
  intro c p2 p3 p4;unfold ckM;generalize proofsN zone keys m now=pf at*;generalize setsN m.auth=sn at*;generalize setsN m.ans=sa at*;refine Df pf (fun i=>[.i .i64 (i:Int)]) (fun _ l=>if l.any (L1 c)=true then .ret [.s c,Dm [],.i .i64 2] else .yld 0 []) rfl (by omega) (fun i x l hd2 hi hx=> ?_) ?_
  .have hil:(i:Int)<(pf.length:Int):=by omega
   have k1:=ed x 2 2 rfl (by decide);have k2:=ed x 43 43 rfl (by decide);have k3:=ed x 6 6 rfl (by decide);have e:L1 c x=(decide (x.name=c) && bitB x 2 && !bitB x 43 && !bitB x 6):=rfl;generalize bitB x 2=b1 at*;generalize bitB x 43=b2 at*;generalize bitB x 6=b3 at*;by_cases h1:x.name=c
   .subst h1;cases b1 with
    |false=>
     left;have e1:L1 x.name x=false:=by rw[e];simp
     refine⟨?_,by simp[e1]⟩;simp(disch:=omega)only[Pj,hx,hil,k1,Hh,Xc,Xd,Eb,EVT,EVM,Dj,Ax,simprocAttr]
    |true=>
     cases b2 with
     |true=>
      left;have e1:L1 x.name x=false:=by rw[e];simp
      refine⟨?_,by simp[e1]⟩;simp(disch:=omega)only[Pj,hx,hil,k1,k2,Hh,Xc,Xd,Eb,EVT,EVM,Dj,Ax,simprocAttr]
     |false=>
      cases b3 with
      |true=>
       left;have e1:L1 x.name x=false:=by rw[e];simp
       refine⟨?_,by simp[e1]⟩;simp(disch:=omega)only[Pj,hx,hil,k1,k2,k3,Hh,Xc,Xd,Eb,EVT,EVM,Dj,Ax,simprocAttr]
      |false=>
       right;have e1:L1 x.name x=true:=by rw[e];simp
       simp(disch:=omega)only[Pj,hx,hil,k1,k2,k3,Hh,Xc,Xd,Eb,EVT,EVM,Dj,Ax,simprocAttr];simp[e1,Out.goes]
   .left;have e1:L1 c x=false:=by rw[e];simp[h1]
    refine⟨?_,by simp[e1]⟩;simp(disch:=omega)only[Pj,hx,hil,h1,Hh,Xc,Xd,Eb,EVT,EVM,Dj,Ax,simprocAttr]
  .simp(disch:=omega)only[Pj,C2,Eb,EVT,EVM,Dj,Ax,simprocAttr];simp[Out.goes]
 refine If8 (N:=m.auth.length+(proofsN zone keys m now).length+1) rfl ?_;have hsn:=Uv m.auth;cases hk:kidR zone m.auth with
 |none=>
  have er:refM zone keys m now=([],[],3):=by unfold refM;rw[hk]
  rw[er];rw[hk] at key;have h0:(none:Option (List UInt8)).getD []=[]:=rfl;rw[h0] at key;clear key2;unfold ckM at*;generalize proofsN zone keys m now=pf at*;generalize setsN m.auth=sn at*;generalize setsN m.ans=sa at*;simp(disch:=omega)only[Pj,key,Eb,EVT,EVM,Dj,Ax,simprocAttr]
  try rfl
 |some c=>
  rw[hk] at key;have h0:(some c).getD []=c:=rfl;rw[h0] at key;have hne:=(Hh9 hk).1;have k2:=W1 (setsN m.auth) c 43 (by omega);rw[Rt] at k2;obtain⟨hs,hsd⟩:=Cw1 (n:=c) (t:=43) (by decide) hm.authw;have k3:=Qy (ckM zone keys m now) ((setF (setsN m.auth) c 43).getD zS) m.auth ha hs (by omega) hm.authw (by omega);have e3:(ckM zone keys m now).zone=zone:=rfl;have e4:(ckM zone keys m now).keys=keys:=rfl;have e5:(ckM zone keys m now).now=now:=rfl;rw[e3,e4,e5] at k3;have er:refM zone keys m now=(c,Fp1 zone keys m now c):=by unfold refM;rw[hk]
  rw[er];unfold Fp1;rw[<-Ak5 m.auth c 43 (by decide)];have key3:=key2 c ((setF (setsN m.auth) c 43).getD zS).pv (.b (setF (setsN m.auth) c 43).isSome);generalize (setF (setsN m.auth) c 43).isSome=ok at*;generalize (setF (setsN m.auth) c 43).getD zS=s at*;have hx:(ckM zone keys m now).auth=setsN m.auth:=rfl;generalize provB zone keys now s m.auth=pb at*;have fin:∀{p4},Cs6.ev S (m.auth.length+(proofsN zone keys m now).length+1) [(ckM zone keys m now).pt,.s c,s.pv,.b ok,p4]=_:=fun {p4}=>key3 p4;generalize hpp:(proofsN zone keys m now).any (L1 c)=pp at*;clear key2 key3;unfold ckM at*;generalize hq:proofsN zone keys m now=pf at*;generalize setsN m.auth=sn at*;generalize setsN m.ans=sa at*;cases ok with
  |true=>
   cases pb with
   |true=>
    simp(disch:=omega)only[Pj,key,k2,k3,hne,Eb,EVT,EVM,Dj,Ax,simprocAttr]
    try simp
   |false=>
    cases pp<;>simp(disch:=omega)only[Pj,key,fin,k2,k3,hne,Eb,EVT,EVM,Dj,Ax,simprocAttr]<;>try simp
  |false=>
   cases pp<;>simp(disch:=omega)only[Pj,key,fin,k2,hne,Eb,EVT,EVM,Dj,Ax,simprocAttr]<;>try simp
def km (zone:List UInt8) (keys:List Dat) (m:Msg) (now:Int):List Dat×Int:=
 if keys=[] then([],2) else match kidR zone m.auth with
 |some c=>Fp1 zone keys m now c
 |none=>([],3)
def Ir7 (x:Int) (h:0<=x) (h1:x<=18446744073709551615):X.bin .quo (.i .u64 x) (.i .u64 2)=some (.i .u64 (x / 2)):=by have e:x.tdiv 2=x / 2:=Int.tdiv_eq_ediv_of_nonneg h;have e2:IntKind.u64.wrap (x / 2)=x / 2:=Fy4 (by omega) (by omega);simp[X.bin,Gd,e,e2]
def Ir6 (x:Int) (h:0<=x):X.bin .rem (.i .u64 x) (.i .u64 2)=some (.i .u64 (x % 2)):=by simp[X.bin,Gd,Int.tmod_eq_emod_of_nonneg h]
def f8 (r:Rec) (t:Int) (n:Nat) (h:t=(n:Int)) (hn:n<64) (hr:r.wf):S Bk6 2 [.i .u64 r.data.bits,.i .i64 t]=some [.b (bitB r n)]:=by
 subst h;obtain⟨h0,h1⟩:=hr.data.bits;have hp:∀i:Nat,0<=r.data.bits / 2 ^ i∧r.data.bits / 2 ^ i<=18446744073709551615:=fun i=>
  ⟨Int.ediv_nonneg h0 (Int.pow_nonneg (by decide)),Int.le_trans (Int.ediv_le_self _ h0) h1⟩
 have key:Fj3.ev S 65 [.i .u64 r.data.bits,.i .i64 (n:Int)]=some (.yld 0 [.i .u64 (r.data.bits / 2 ^ n)]):=by
  refine F6 n (fun i=>[.i .u64 (r.data.bits / 2 ^ i),.i .i64 (i:Int)]) (fun _=> .yld 0 [.i .u64 (r.data.bits / 2 ^ n)]) ?_ (by omega) (fun i hi=> ?_) ?_
  .rw[Int.pow_zero,Int.ediv_one];simp(disch:=omega)only[Dj,Ax,simprocAttr];try rfl
  .left;refine⟨?_,rfl⟩;have hil:(i:Int)<(n:Int):=by omega
   have e:r.data.bits / 2 ^ (i+1)=r.data.bits / 2 ^ i / 2:=by rw[Int.pow_succ,Int.ediv_ediv_of_nonneg (Int.pow_nonneg (by decide))]
   have q:=Ir7 _ (hp i).1 (hp i).2;rw[e];generalize r.data.bits / 2 ^ i=g at*;simp(disch:=omega)only[Fx9,hil,q,Dj,Ax,simprocAttr]
  .refine⟨?_,rfl⟩;generalize r.data.bits / 2 ^ n=g at*;simp(disch:=omega)only[Fx9,C2,Dj,Ax,simprocAttr]
 refine Id6 (N:=65) rfl ?_;have q:=Ir6 _ (hp n).1;have e:bitB r n=decide (r.data.bits / 2 ^ n % 2=1):=rfl;rw[e];generalize r.data.bits / 2 ^ n=g at*;simp(disch:=omega)only[Fx9,key,q,Dj,Ax,simprocAttr]
def Mx (zone:List UInt8) (keys:List Dat) (s:SetR) (sec:List Rec) (now:Int) (ha:AskOk zone keys) (hs:SetW s) (hd:s.data.length<=1000000) (hw:∀r∈sec,r.wf) (hl:sec.length<=1000000):
  S uh 5 [.s zone,Dm keys,s.pv,B8 sec,.i .i64 now]=some [.b (provB zone keys now s sec)]:=by
 have k1:=Bx1 s.name hs.name;have key:Fk0.ev S (sec.length+1) [.s zone,Dm keys,s.pv,B8 sec,.i .i64 now]=some (if provB zone keys now s sec=true then .ret [.b true] else .yld 0 []):=by
  unfold provB;refine Df sec (fun i=>[.i .i64 (i:Int)]) (fun _ l=>if l.any (Bz4 zone keys now s)=true then .ret [.b true] else .yld 0 []) rfl (by omega) (fun i x l hd2 hi hx=> ?_) ?_
  .have hxw:=hw x (B6 hx);have k2:=P5 zone keys s x.data now ha hs hd hxw.data;have k3:=Zq s x;have hil:(i:Int)<(sec.length:Int):=by omega
   have e:Bz4 zone keys now s x=(decide (x.data.b=((labK s.name).length:Int)) && (sgnB s x && verB zone keys s x.data now)):=rfl;generalize verB zone keys s x.data now=v at*;generalize sgnB s x=g at*;generalize ((labK s.name).length:Int)=n at*;cases g with
   |false=>
    left;have e1:Bz4 zone keys now s x=false:=by rw[e];simp
    refine⟨?_,by simp[e1]⟩;simp(disch:=omega)only[An1,hx,hil,k3,Dj,Ax,simprocAttr]
   |true=>
    by_cases h:x.data.b=n
    .cases v with
     |true=>
      right;have e1:Bz4 zone keys now s x=true:=by rw[e];simp[h]
      simp(disch:=omega)only[An1,hx,hil,k1,k2,k3,h,Dj,Ax,simprocAttr];simp[e1,Out.goes]
     |false=>
      left;have e1:Bz4 zone keys now s x=false:=by rw[e];simp
      refine⟨?_,by simp[e1]⟩;simp(disch:=omega)only[An1,hx,hil,k1,k2,k3,h,Dj,Ax,simprocAttr]
    .left;have e1:Bz4 zone keys now s x=false:=by rw[e];simp[h]
     refine⟨?_,by simp[e1]⟩;simp(disch:=omega)only[An1,hx,hil,k1,k3,h,Dj,Ax,simprocAttr]
  .simp(disch:=omega)only[An1,C2,Dj,Ax,simprocAttr];simp[Out.goes]
 refine If4 (N:=sec.length+1) rfl ?_;rcases Bm (provB zone keys now s sec) with hv|hv<;>rw[hv] at key ⊢<;>simp(disch:=omega)only[An1,key,Dj,Ax,simprocAttr]<;>simp
def t8 (p0 p1 p2 p3 p4 p6 p7 p8:PV) (g rs:List Rec) (N:Nat) (hN:rs.length<N) (hg:g.length<=1000000) (hr:rs.length<=1000000):
  Es0.ev S N [p0,p1,p2,p3,p4,B8 g,p6,p7,p8,B8 rs]=some (.yld 2 [B8 (g++rs)]):=by
 refine Fl rs (fun i (a:List Rec)=>[B8 a,.i .i64 (i:Int)]) (fun _ a r=> .yld 2 [B8 (a++r)]) (fun i a=>a.length<=1000000+i) g rfl (by omega) hN (fun i a c r hd hi hc hI=> ?_) (fun a hI=> ?_)
 .left;have hil:(i:Int)<(rs.length:Int):=by omega
  refine⟨a++[c],?_,by rw[Bp,Hw];omega,by rw[Cy];rfl⟩;simp(disch:=omega)only[i8,hc,hil,Dj,Ax,simprocAttr]
 .simp(disch:=omega)only[i8,C2,Dj,Ax,simprocAttr];simp[Out.goes]
def Xl (zone:List UInt8) (keys:List Dat) (m:Msg) (now:Int) (ha:AskOk zone keys) (hm:MsgOk m):S Cp2 4 [.s zone,Dm keys,m.pv,.i .i64 now]=some [B8 (proofsN zone keys m now)]:=by
 have hm2:=hm.auth;have k1:=gm m.auth hm.authw (by omega);have hsl:=Qq m.auth;have hnw:=Pv m.auth hm.authw;have key:Fk2.ev S (2000) [.s zone,Dm keys,m.pv,.i .i64 now,Dh (setsR m.auth)]=some (.yld 0 [B8 ([]++(setsR m.auth).flatMap (Zy zone keys now m.auth))]):=by
  refine Fl (setsR m.auth) (fun i (g:List Rec)=>[B8 g,.i .i64 (i:Int)]) (fun _ g r=> .yld 0 [B8 (g++r.flatMap (Zy zone keys now m.auth))]) (fun i g=>g.length<=1000*i) [] (by simp(disch:=omega)only[Dj,Ax,simprocAttr]) (Dz _) (by omega) (fun i g s r hd hi hs hI=> ?_) (fun g hI=> ?_)
  .left;have hil:(i:Int)<((setsR m.auth).length:Int):=by omega
   obtain⟨hsw,hsd⟩:=hnw s (B6 hs);have k3:=F5 s.name zone hsw.name ha.zoneL;have k4:=Mx zone keys s m.auth now ha hsw (by omega) hm.authw (by omega);have k5:=Pr s (by omega);have hul:(unsetR s).length=s.data.length:=by unfold unsetR;rw[Fq]
   have a1:=fun p4 p7 p8=>t8 (.s zone) (Dm keys) m.pv (.i .i64 now) p4 (.i .i64 (i:Int)) p7 p8 g (unsetR s) 2000 (by omega) (by omega) (by omega);refine⟨g++Zy zone keys now m.auth s,?_,?_,by rw[Er,Cy]⟩
   .unfold Zy d8;generalize setsR m.auth=sn at*;by_cases h1:s.typ=47
    .rcases Bm (under s.name zone) with h2|h2
     .rw[h2] at k3;rcases Bm (provB zone keys now s m.auth) with h3|h3
      .rw[h3] at k4;rw[if_pos (by simp[h1,h2,h3])];simp(disch:=omega)only[i8,hs,hil,k3,k4,k5,a1,h1,Eb,EVT,EVM,Dj,Ax,simprocAttr]
      .rw[h3] at k4;rw[if_neg (by simp[h3]),Ek];simp(disch:=omega)only[i8,hs,hil,k3,k4,h1,Eb,EVT,EVM,Dj,Ax,simprocAttr]
     .rw[h2] at k3;rw[if_neg (by simp[h2]),Ek];simp(disch:=omega)only[i8,hs,hil,k3,h1,Eb,EVT,EVM,Dj,Ax,simprocAttr]
    .rw[if_neg (by simp[h1]),Ek];simp(disch:=omega)only[i8,hs,hil,h1,Eb,EVT,EVM,Dj,Ax,simprocAttr]
   .rw[Bp];have:(Zy zone keys now m.auth s).length<=1000:=by
     unfold Zy;split
     .omega
     .simp
    omega
  .simp(disch:=omega)only[i8,C2,Eb,EVT,EVM,Dj,Ax,simprocAttr];simp[Out.goes]
 rw[D3] at key;refine If7 (N:=2000) rfl ?_;unfold proofsN;generalize (setsR m.auth).flatMap (Zy zone keys now m.auth)=pf at*;generalize setsR m.auth=sn at*;simp(disch:=omega)only[i8,k1,key,Eb,EVT,EVM,Dj,Ax,simprocAttr]
def bc (zone:List UInt8) (m:Msg) (hz:zone.length<=9223372036854775807) (hm:MsgOk m):
  S ug 2 [.s zone,m.pv]=some [.s ((kidR zone m.auth).getD []),.b (kidR zone m.auth).isSome]:=by
 have hm2:=hm.auth;have key:Fj5.ev S (m.auth.length+1) [.s zone,m.pv]=some (match kidR zone m.auth with|some c=> .ret [.s c,.b true]|none=> .yld 0 []):=by
  unfold kidR;refine Df m.auth (fun i=>[.i .i64 (i:Int)]) (fun _ l=>match (l.find? (qg zone)).map Rec.name with|some c=> .ret [.s c,.b true]|none=> .yld 0 []) rfl (by omega) (fun i x l hd2 hi hx=> ?_) ?_
  .have hil:(i:Int)<(m.auth.length:Int):=by omega
   have hxw:=hm.authw x (B6 hx);have k1:=F5 x.name zone hxw.name hz;have e:qg zone x=(decide (x.typ=2) && !decide (x.name=zone) && under x.name zone):=rfl;generalize under x.name zone=u at*;by_cases h1:x.typ=2
   .by_cases h2:x.name=zone
    .left;have e1:qg zone x=false:=by rw[e];simp[h2]
     refine⟨?_,by rw[D4 (by simp[e1])]⟩;simp(disch:=omega)only[rc,hx,hil,h1,h2,Eb,EVT,EVM,Dj,Ax,simprocAttr]
    .cases u with
     |true=>
      right;have e1:qg zone x=true:=by rw[e];simp[h1,h2]
      simp(disch:=omega)only[rc,hx,hil,h1,h2,k1,Eb,EVT,EVM,Dj,Ax,simprocAttr];simp[Il e1,Out.goes]
     |false=>
      left;have e1:qg zone x=false:=by rw[e];simp
      refine⟨?_,by rw[D4 (by simp[e1])]⟩;simp(disch:=omega)only[rc,hx,hil,h1,h2,k1,Eb,EVT,EVM,Dj,Ax,simprocAttr]
   .left;have e1:qg zone x=false:=by rw[e];simp[h1]
    refine⟨?_,by rw[D4 (by simp[e1])]⟩;simp(disch:=omega)only[rc,hx,hil,h1,Eb,EVT,EVM,Dj,Ax,simprocAttr]
  .simp(disch:=omega)only[rc,C2,Eb,EVT,EVM,Dj,Ax,simprocAttr];simp[Out.goes]
 refine Id8 (N:=m.auth.length+1) rfl ?_;cases hk:kidR zone m.auth with
 |none=>
  rw[hk] at key;simp(disch:=omega)only[rc,key,Eb,EVT,EVM,Dj,Ax,simprocAttr]
  try rfl
 |some c=>
  rw[hk] at key;simp(disch:=omega)only[rc,key,Eb,EVT,EVM,Dj,Ax,simprocAttr]
  try rfl
def Ds6 (c:List UInt8) (pf:List Rec) (p0 p1 p2 p3 p5 p6 p7 p8:PV) (N:Nat) (hN:pf.length<N) (hpl:pf.length<=1000000) (hw:∀r∈pf,r.wf):
  Fq3.ev S N [p0,p1,p2,p3,.s c,p5,p6,p7,p8,B8 pf]=some (if pf.any (L1 c)=true then .ret [Dm [],.i .i64 2] else .yld 0 []):=by
 refine Df pf (fun i=>[.i .i64 (i:Int)]) (fun _ l=>if l.any (L1 c)=true then .ret [Dm [],.i .i64 2] else .yld 0 []) rfl hN (fun i x l hd2 hi hx=> ?_) ?_
 .have hil:(i:Int)<(pf.length:Int):=by omega
  have hxw:=hw x (B6 hx);have k1:=f8 x 2 2 rfl (by decide) hxw;have k2:=f8 x 43 43 rfl (by decide) hxw;have k3:=f8 x 6 6 rfl (by decide) hxw;have e:L1 c x=(decide (x.name=c) && bitB x 2 && !bitB x 43 && !bitB x 6):=rfl;generalize bitB x 2=b1 at*;generalize bitB x 43=b2 at*;generalize bitB x 6=b3 at*;by_cases h1:x.name=c
  .cases b1 with
   |false=>
    left;have e1:L1 c x=false:=by rw[e];simp
    refine⟨?_,by simp[e1]⟩;simp(disch:=omega)only[U1,hx,hil,h1,k1,Eb,EVT,EVM,Dj,Ax,simprocAttr]
   |true=>
    cases b2 with
    |true=>
     left;have e1:L1 c x=false:=by rw[e];simp
     refine⟨?_,by simp[e1]⟩;simp(disch:=omega)only[U1,hx,hil,h1,k1,k2,Eb,EVT,EVM,Dj,Ax,simprocAttr]
    |false=>
     cases b3 with
     |true=>
      left;have e1:L1 c x=false:=by rw[e];simp
      refine⟨?_,by simp[e1]⟩;simp(disch:=omega)only[U1,hx,hil,h1,k1,k2,k3,Eb,EVT,EVM,Dj,Ax,simprocAttr]
     |false=>
      right;have e1:L1 c x=true:=by rw[e];simp[h1]
      simp(disch:=omega)only[U1,hx,hil,h1,k1,k2,k3,Eb,EVT,EVM,Dj,Ax,simprocAttr];simp[e1,Out.goes]
  .left;have e1:L1 c x=false:=by rw[e];simp[h1]
   refine⟨?_,by simp[e1]⟩;simp(disch:=omega)only[U1,hx,hil,h1,Eb,EVT,EVM,Dj,Ax,simprocAttr]
 .simp(disch:=omega)only[U1,C2,Eb,EVT,EVM,Dj,Ax,simprocAttr];simp[Out.goes]
def gp (zone:List UInt8) (keys:List Dat) (m:Msg) (now:Int) (ha:AskOk zone keys) (hm:MsgOk m):
  S Ex1 4 [.s zone,Dm keys,m.pv,.i .i64 now]=some [Dm (km zone keys m now).1,.i .i64 (km zone keys m now).2]:=by
 have hm2:=hm.auth;have hpl:=Kb zone keys m now;have hpw:=Oj zone keys m now hm.authw;refine Ih1 (N:=2000) rfl ?_;unfold km;by_cases h:keys=[]
 .subst h;rw[if_pos rfl];simp(disch:=omega)only[U1,Eb,EVT,EVM,Dj,Ax,simprocAttr]
  try simp
 .have h':¬(keys.length:Int)=0:=by have:=Ct.2 h;omega
  rw[if_neg h];have k1:=bc zone m ha.zoneL hm;have k4:=Xl zone keys m now ha hm;cases hk:kidR zone m.auth with
  |none=>
   rw[hk] at k1;have k1':S ug 2 [.s zone,m.pv]=some [.s [],.b false]:=k1;simp(disch:=omega)only[U1,h',k1',Eb,EVT,EVM,Dj,Ax,simprocAttr]
   try rfl
  |some c=>
   rw[hk] at k1;have k1':S ug 2 [.s zone,m.pv]=some [.s c,.b true]:=k1;have k2:=dl m.auth c 43 hm.authw (by omega);rw[Rt] at k2;obtain⟨hs,hsd⟩:=Cw2 (n:=c) (t:=43) hm.authw;have k3:=Mx zone keys ((setF (setsR m.auth) c 43).getD zS) m.auth now ha hs (by omega) hm.authw (by omega);have key:=fun p0 p1 p2 p3 p5 p6 p7 p8=>Ds6 c (proofsN zone keys m now) p0 p1 p2 p3 p5 p6 p7 p8 2000 (by omega) (by omega) hpw;show _=some (Out.ret [Dm (Fp1 zone keys m now c).1,.i .i64 (Fp1 zone keys m now c).2]);unfold Fp1;generalize (setF (setsR m.auth) c 43).isSome=ok at*;generalize (setF (setsR m.auth) c 43).getD zS=s at*;generalize provB zone keys now s m.auth=pb at*;generalize hpp:(proofsN zone keys m now).any (L1 c)=pp at*;generalize proofsN zone keys m now=pf at*;cases ok with
   |true=>
    cases pb with
    |true=>
     simp(disch:=omega)only[U1,h',k1',k2,k3,Eb,EVT,EVM,Dj,Ax,simprocAttr]
     try simp
    |false=>
     cases pp<;>simp(disch:=omega)only[U1,h',k1',k2,k3,k4,key,Eb,EVT,EVM,Dj,Ax,simprocAttr]<;>try simp
   |false=>
    cases pp<;>simp(disch:=omega)only[U1,h',k1',k2,k4,key,Eb,EVT,EVM,Dj,Ax,simprocAttr]<;>try simp
def Ap0 (m:Msg) (hm:m.wf):∃b,S Ex3 1 [m.pv]=some [.b b]∧(b=true->MsgOk m∧m.ans.length<=60∧m.auth.length<=60):=by
 have h0:=hm.ans.1;by_cases h1:(m.ans.length:Int)<=60
 .by_cases h2:(m.auth.length:Int)<=60
  .refine⟨true,Fn8 (N:=1) rfl ?_,fun _=>⟨⟨by omega,by omega,hm.ans.2,hm.auth.2,hm.q.name⟩,by omega,by omega⟩⟩;simp(disch:=omega)only[Fy3,h1,h2,EVT,EVM,Dj,Ax,simprocAttr]
  .refine⟨false,Fn8 (N:=1) rfl ?_,fun h=>by cases h⟩;simp(disch:=omega)only[Fy3,h1,h2,EVT,EVM,Dj,Ax,simprocAttr]
 .refine⟨false,Fn8 (N:=1) rfl ?_,fun h=>by cases h⟩;simp(disch:=omega)only[Fy3,h1,EVT,EVM,Dj,Ax,simprocAttr]
def Qm (r:Rec) (t:Int):Bool:=
 if r.typ≠47∨t=255∨Pf r t=true∨Pf r 5=true then false else if t=43 then !Pf r 6 else Pf r 6|| !Pf r 2
def Cr8 (r:Rec) (t:Int):S Az2 2 [r.pv,.i .i64 t]=some [.b (Qm r t)]:=by
 refine Hb1 (N:=1) rfl ?_;have a1:=Ld r t;have a2:=Ld r 5;have a3:=Ld r 6;have a4:=Ld r 2;unfold Qm;by_cases h1:r.typ=47
 .by_cases h2:t=255
  .simp(disch:=omega)only[Yr,h1,h2,Ax,simprocAttr]
   try simp
  .rcases Bm (Pf r t) with e0|e0
   .simp(disch:=omega)only[Yr,a1,e0,h1,h2,Ax,simprocAttr]
    try simp
   .rcases Bm (Pf r 5) with e1|e1
    .simp(disch:=omega)only[Yr,a1,a2,e0,e1,h1,h2,Ax,simprocAttr]
     try simp
    .by_cases h3:t=43
     .rw[h3] at a1 e0 h2 ⊢;rcases Bm (Pf r 6) with e2|e2<;>simp(disch:=omega)only[Yr,a1,a2,a3,e0,e1,e2,h1,Ax,simprocAttr]<;>simp[h1]
     .rcases Bm (Pf r 6) with e2|e2<;>rcases Bm (Pf r 2) with e3|e3<;>simp(disch:=omega)only[Yr,a1,a2,a3,a4,e0,e1,e2,e3,h1,h2,h3,Ax,simprocAttr]<;>simp[h1,h2,h3]
 .simp(disch:=omega)only[Yr,h1,Ax,simprocAttr]
  try simp[h1]
def Bq1 (r:Rec) (t:Int):S nj 2 [r.pv,.i .i64 t]=some [.b (Qm r t)]:=by
 refine Hz1 (N:=1) rfl ?_;have a1:=Ob r t;have a2:=Ob r 5;have a3:=Ob r 6;have a4:=Ob r 2;unfold Qm;by_cases h1:r.typ=47
 .by_cases h2:t=255
  .simp(disch:=omega)only[Yn,h1,h2,Ax,simprocAttr]
   try simp
  .rcases Bm (Pf r t) with e0|e0
   .simp(disch:=omega)only[Yn,a1,e0,h1,h2,Ax,simprocAttr]
    try simp
   .rcases Bm (Pf r 5) with e1|e1
    .simp(disch:=omega)only[Yn,a1,a2,e0,e1,h1,h2,Ax,simprocAttr]
     try simp
    .by_cases h3:t=43
     .rw[h3] at a1 e0 h2 ⊢;rcases Bm (Pf r 6) with e2|e2<;>simp(disch:=omega)only[Yn,a1,a2,a3,e0,e1,e2,h1,Ax,simprocAttr]<;>simp[h1]
     .rcases Bm (Pf r 6) with e2|e2<;>rcases Bm (Pf r 2) with e3|e3<;>simp(disch:=omega)only[Yn,a1,a2,a3,a4,e0,e1,e2,e3,h1,h2,h3,Ax,simprocAttr]<;>simp[h1,h2,h3]
 .simp(disch:=omega)only[Yn,h1,Ax,simprocAttr]
  try simp[h1]
def Ad8 (l:List Rec) (zone s:List UInt8):Bool:=l.any fun r=>Hj r zone s
def absentN (l:List Rec) (zone name:List UInt8):Bool:=(starsN l zone name).any fun s=>Ad8 l zone s
def An9 {l:List Rec} {zone name s:List UInt8} (h:s∈starsN l zone name):s.length<=254:=by
 unfold starsN at h;rw[List.mem_filterMap] at h;obtain⟨r,_,hr⟩:=h;unfold K6 at hr;split at hr
 .rename_i hc;simp only[Bt] at hc;injection hr with hr;unfold M2 at hr;rw[if_pos hc.2] at hr;rw[<-hr];have:=hc.2;unfold J0 at this;simp only[Bt] at this;exact I9 this.2
 .cases hr
def zl (r:Rec) (zone s:List UInt8) (hr:r.wf) (hz:zone.length<=9223372036854775807) (hn:s.length<=9223372036854775807):S ny 1 [r.pv,.s zone,.s s]=some [.b (Hj r zone s)]:=by refine Hb5 (N:=1) rfl ?_;simp(disch:=omega)only[Gh7,Xr r zone s hr hz hn,Ax,simprocAttr]
def Bz1 (l:List Rec) (zone s:List UInt8) (hw:∀r∈l,r.wf) (hl:l.length<=1000000) (hz:zone.length<=9223372036854775807) (hn:s.length<=9223372036854775807):S nc 1 [.s s,B8 l,.s zone]=some [.b (Ad8 l zone s)]:=by refine Hb7 (N:=1) rfl ?_;have k:=Ml l ny [.s zone,.s s] (fun r=>Hj r zone s) hl (fun r hr=>zl r zone s (hw r hr) hz hn);unfold Ad8;simp(disch:=omega)only[Gh9,k,Ax,simprocAttr]
def Bz0 (l:List Rec) (zone name:List UInt8) (hw:∀r∈l,r.wf) (hl:l.length<=1000000) (hz:zone.length<=9223372036854775807) (hn:name.length<=9223372036854775807):S Ev4 3 [B8 l,.s zone,.s name]=some [.b (absentN l zone name)]:=by refine Ib7 (N:=1) rfl ?_;have k1:=Ak2 l zone name hw hl hz hn;have hsl:=Y8 l zone name;have k:=T7 (starsN l zone name) nc [B8 l,.s zone] (fun s=>Ad8 l zone s) (by omega) (fun s hs=>Bz1 l zone s hw hl hz (by have:=An9 hs;omega));unfold absentN;generalize starsN l zone name=st at*;simp(disch:=omega)only[Iq1,k1,k,Ax,simprocAttr]
def pj (l:List Rec) (zone s:List UInt8) (hw:∀r∈l,r.wf) (hl:l.length<=1000000) (hz:zone.length<=9223372036854775807) (hn:s.length<=9223372036854775807):S Az1 3 [B8 l,.s zone,.s s]=some [.b (Ad8 l zone s)]:=by
 refine Hz2 (N:=l.length+1) rfl ?_;have key:Dq0.ev S (l.length+1) [B8 l,.s zone,.s s]=some (if Ad8 l zone s=true then .ret [.b true] else .yld 0 []):=by
  refine Df l (fun i=>[.i .i64 (i:Int)]) (fun i r=>if Ad8 r zone s=true then .ret [.b true] else .yld 0 []) rfl (by omega) (fun i c r hd hi hc=> ?_) ?_
  .have h1:=My c zone s (hw c (B6 hc)) hz hn;rcases Bm (Hj c zone s) with h|h
   .right;simp(disch:=omega)only[Aj1,hc,h1,h,Ax,simprocAttr];simp[Ad8,h,Out.goes]
   .left;simp(disch:=omega)only[Aj1,hc,h1,h,Ax,simprocAttr];simp[Ad8,h]
  .simp(disch:=omega)only[Aj1,Ax,simprocAttr];simp[Ad8,Out.goes]
 rcases Bm (Ad8 l zone s) with h|h<;>rw[h] at key ⊢<;>simp(disch:=omega)only[Aj1,key,Ax,simprocAttr]<;>simp
def Gb6 (l:List Rec) (zone name:List UInt8) (r:Rec):Bool:=match K6 zone name r with
 |some s=>Ad8 l zone s
 |none=>false
def y9 (l:List Rec) (zone name:List UInt8):absentN l zone name=l.any (Gb6 l zone name):=by unfold absentN starsN;rw[List.any_filterMap];congr 1;funext r;unfold Gb6;cases K6 zone name r<;>rfl
def zh (l:List Rec) (zone name:List UInt8) (hw:∀r∈l,r.wf) (hl:l.length<=1000000) (hz:zone.length<=9223372036854775807) (hn:name.length<=9223372036854775807):S Eq9 3 [B8 l,.s zone,.s name]=some [.b (absentN l zone name)]:=by
 refine Iz3 (N:=l.length+1) rfl ?_;rw[y9];have key:Es7.ev S (l.length+1) [B8 l,.s zone,.s name]=some (if l.any (Gb6 l zone name)=true then .ret [.b true] else .yld 0 []):=by
  refine Df l (fun i=>[.i .i64 (i:Int)]) (fun i r=>if r.any (Gb6 l zone name)=true then .ret [.b true] else .yld 0 []) rfl (by omega) (fun i c r hd hi hc=> ?_) ?_
  .have hcw:=hw c (B6 hc);have g2:=hcw.data.host;unfold Td at g2;have h1:=My c zone name hcw hz hn;have h2:=Rc c name hcw hn;have h3:=W4 c name;have h4:=Kq c.data.host name g2 hn;have h5:=Ul (Mj c name) (by omega);rw[J2];have hp:Gb6 l zone name c=(Hj c zone name && !I1 c.data.host name && J0 (Mj c name) && Ad8 l zone (M2 (Mj c name))):=by
    unfold Gb6 K6;split
    .rename_i s e;split at e
     .rename_i hq;injection e with e;rw[hq,e,F0]
     .cases e
    .rename_i e;split at e
     .cases e
     .rename_i hq;rw[Bool.not_eq_true] at hq;rw[hq,Bool.false_and]
   rw[hp];rcases Bm (Hj c zone name) with e0|e0
   .rcases Bm (I1 c.data.host name) with e1|e1
    .left;simp(disch:=omega)only[rq,hc,h1,h2,h4,e0,e1,Ax,simprocAttr];simp
    .rcases Bm (J0 (Mj c name)) with e2|e2
     .have hs:(M2 (Mj c name)).length<=254:=by have:=e2;unfold J0 at this;simp only[Bt] at this;unfold M2;rw[if_pos e2];exact I9 this.2
      have h6:=pj l zone (M2 (Mj c name)) hw hl hz (by omega);rcases Bm (Ad8 l zone (M2 (Mj c name))) with e3|e3
      .right;simp(disch:=omega)only[rq,hc,h1,h2,h4,h5,h6,e0,e1,e2,e3,Ax,simprocAttr];simp[Out.goes]
      .left;simp(disch:=omega)only[rq,hc,h1,h2,h4,h5,h6,e0,e1,e2,e3,Ax,simprocAttr];simp
     .left;simp(disch:=omega)only[rq,hc,h1,h2,h4,h5,e0,e1,e2,Ax,simprocAttr];simp
   .left;simp(disch:=omega)only[rq,hc,h1,h2,h4,e0,Ax,simprocAttr];simp
  .simp(disch:=omega)only[rq,Ax,simprocAttr];simp[Out.goes]
 rcases Bm (l.any (Gb6 l zone name)) with h|h<;>rw[h] at key ⊢<;>simp(disch:=omega)only[rq,key,Ax,simprocAttr]<;>simp
def Dl4 (l:List Rec) (zone:List UInt8) (q:Ques) (r:Rec):Bool:=
 (Hj r zone q.name && I1 r.data.host q.name)||(Qm r q.typ && (decide (r.name=q.name)||expandedN l zone q.name r.name))
def emptyN (l:List Rec) (zone:List UInt8) (q:Ques):Bool:=under q.name zone && l.any (Dl4 l zone q)
def Dh6 (l:List Rec) (zone:List UInt8) (q:Ques) (r:Rec) (hr:r.wf) (hw:∀r∈l,r.wf) (hl:l.length<=1000000) (hz:zone.length<=9223372036854775807) (hn:q.name.length<=9223372036854775807):
  S nx 1 [r.pv,.s zone,q.pv,B8 l]=some [.b (Dl4 l zone q r)]:=by
 refine Hb3 (N:=1) rfl ?_;have g2:=hr.data.host;unfold Td at g2;have h1:=Xr r zone q.name hr hz hn;have h2:=Iy r.data.host q.name g2 hn;have h3:=Cr8 r q.typ;have h4:=Xp l zone q.name r.name hw hl hz hn;unfold Dl4;by_cases e4:r.name=q.name
 .rcases Bm (Hj r zone q.name) with e0|e0<;>rcases Bm (I1 r.data.host q.name) with e1|e1<;>rcases Bm (Qm r q.typ) with e2|e2<;>rcases Bm (expandedN l zone q.name r.name) with e3|e3
  all_goals simp(disch:=omega)only[Em2,h1,h2,h3,h4,e0,e1,e2,e3,e4,Aw,simprocAttr]
  all_goals simp
 .rcases Bm (Hj r zone q.name) with e0|e0<;>rcases Bm (I1 r.data.host q.name) with e1|e1<;>rcases Bm (Qm r q.typ) with e2|e2<;>rcases Bm (expandedN l zone q.name r.name) with e3|e3
  all_goals simp(disch:=omega)only[Em2,h1,h2,h3,h4,e0,e1,e2,e3,e4,Aw,simprocAttr]
  all_goals simp
def Dh5 (l:List Rec) (zone:List UInt8) (q:Ques) (hw:∀r∈l,r.wf) (hl:l.length<=1000000) (hz:zone.length<=9223372036854775807) (hn:q.name.length<=9223372036854775807):S Ev3 3 [B8 l,.s zone,q.pv]=some [.b (emptyN l zone q)]:=by refine Ib6 (N:=1) rfl ?_;have k:=Ml l nx [.s zone,q.pv,B8 l] (Dl4 l zone q) hl (fun r hr=>Dh6 l zone q r (hw r hr) hw hl hz hn);have hu:=Gk q.name zone hn hz;unfold emptyN;rcases Bm (under q.name zone) with h|h<;>simp(disch:=omega)only[Iq0,hu,h,k,Aw,simprocAttr]<;>simp
def By6 (l:List Rec) (zone:List UInt8) (q:Ques) (hw:∀r∈l,r.wf) (hl:l.length<=1000000) (hz:zone.length<=9223372036854775807) (hn:q.name.length<=9223372036854775807):S Eq8 3 [B8 l,.s zone,q.pv]=some [.b (emptyN l zone q)]:=by
 refine Iz2 (N:=l.length+1) rfl ?_;have hu:=F5 q.name zone hn hz;unfold emptyN;have key:Es6.ev S (l.length+1) [B8 l,.s zone,q.pv,.b true]=some (if l.any (Dl4 l zone q)=true then .ret [.b true] else .yld 0 []):=by
  refine Df l (fun i=>[.i .i64 (i:Int)]) (fun i r=>if r.any (Dl4 l zone q)=true then .ret [.b true] else .yld 0 []) rfl (by omega) (fun i c r hd hi hc=> ?_) ?_
  .have hcw:=hw c (B6 hc);have g2:=hcw.data.host;unfold Td at g2;have h1:=My c zone q.name hcw hz hn;have h2:=Kq c.data.host q.name g2 hn;have h3:=Bq1 c q.typ;have h4:=Rb l zone q.name c.name hw hl hz hn;rw[J2];have body:Df5.ev S (l.length+1) ([B8 l,.s zone,q.pv,.b true]++[.i .i64 (i:Int)])=some (if Dl4 l zone q c=true then .ret [.b true] else .yld 1 [.i .i64 ((i:Int)+1)]):=by
    unfold Dl4;by_cases e4:c.name=q.name
    .rcases Bm (Hj c zone q.name) with e0|e0<;>rcases Bm (I1 c.data.host q.name) with e1|e1<;>rcases Bm (Qm c q.typ) with e2|e2<;>rcases Bm (expandedN l zone q.name c.name) with e3|e3
     all_goals simp(disch:=omega)only[Bb6,hc,h1,h2,h3,h4,e0,e1,e2,e3,e4,Aw,simprocAttr]
     all_goals simp
    .rcases Bm (Hj c zone q.name) with e0|e0<;>rcases Bm (I1 c.data.host q.name) with e1|e1<;>rcases Bm (Qm c q.typ) with e2|e2<;>rcases Bm (expandedN l zone q.name c.name) with e3|e3
     all_goals simp(disch:=omega)only[Bb6,hc,h1,h2,h3,h4,e0,e1,e2,e3,e4,Aw,simprocAttr]
     all_goals simp
   rcases Bm (Dl4 l zone q c) with h|h
   .right;rw[body,h];simp[Out.goes]
   .left;rw[body,h];simp
  .simp(disch:=omega)only[Bb6,Ax,simprocAttr];simp[Out.goes]
 rcases Bm (under q.name zone) with h|h
 .rw[h] at hu ⊢;rcases Bm (l.any (Dl4 l zone q)) with h2|h2<;>rw[h2] at key ⊢<;>simp(disch:=omega)only[Bb6,hu,key,Aw,simprocAttr]<;>simp
 .rw[h] at hu ⊢;simp(disch:=omega)only[Bb6,hu,Aw,simprocAttr]
  try simp
end Go.X.G
/- Names with another end; redirections; what records of a name say. -/
namespace Go.X
structure Res where
 kind:Int
 owner:List UInt8
 wild:Bool
 target:List UInt8
 recs:List Rec
 deriving DecidableEq
def Res.cells (x:Res):List PV:=[.i .i64 x.kind,.s x.owner,.b x.wild,.s x.target,B8 x.recs]
def Res.pv (x:Res):PV:= .a x.cells
end Go.X
namespace Go.X.G
open Go Go.X
def replL (n top to:List UInt8):List (List UInt8):=(lbl n).take ((lbl n).length - (lbl top).length)++lbl to
def replN (n top to:List UInt8):List UInt8×Int:=
 if vld n=true∧vld top=true∧vld to=true∧(lbl to)[0]? ≠some [42] then
  if under n top=true∧n≠top then
   if(flat (replL n top to)).length<=254 then(flat (replL n top to),0) else([],9)
  else([],1)
 else([],2)
def oc {l:List (List UInt8)} (h:G9 true l=true) (h2:l[0]? ≠some [42]):G9 false l=true:=by
 cases l with
 |nil=>rfl
 |cons p r=>
  simp only[G9,Bt] at h ⊢;refine⟨⟨h.1.1,?_⟩,h.2⟩;have:p≠[42]:=fun e=>h2 (by rw[e];rfl);simp[this]
def R6 {n top to:List UInt8} (hu:under n top=true) (hne:n≠top) (ht:vld to=true) (hs:(lbl to)[0]? ≠some [42]):G9 true (replL n top to)=true∧replL n top to≠[]∧(lbl n).take ((lbl n).length - (lbl top).length)≠[]:=by
 obtain⟨vn,vt,sf⟩:=Ky.1 hu;have hlt:(lbl top).length<(lbl n).length:=by
  have:=sf.length_le;rcases Dl8 (lbl top).length (lbl n).length with h|h
  .exact h
  .exact absurd (Y3 hu h) hne
 have h1:(lbl n).take ((lbl n).length - (lbl top).length)≠[]:=by intro e;have:=congrArg List.length e;rw[Cv,Cs] at this;omega
 have h2:G9 true ((lbl n).take ((lbl n).length - (lbl top).length))=true:=by have:=Uj vn;rw[<-C8 ((lbl n).length - (lbl top).length) (lbl n),Qs,Bt] at this;exact this.1
 refine⟨?_,by unfold replL;simp[h1],h1⟩;unfold replL;rw[Qs,h2,List.isEmpty_eq_false_iff.2 h1];simp[oc (Uj ht) hs]
def Dw1 {l:List (List UInt8)} (h:G9 true l=true):∀x∈l,x.length<=1000:=fun x hx=>by have:=Sx (Hf h hx);omega
def V1 (n top to:List UInt8) (hn:n.length<=9223372036854775807) (ht:top.length<=9223372036854775807) (hto:to.length<=9223372036854775807):S Cn0 3 [.s n,.s top,.s to]=some [.s (replN n top to).1,.i .i64 (replN n top to).2]:=by
 refine Iz5 (N:=1) rfl ?_;have k1:=split_ok n hn;have k2:=split_ok top ht;have k3:=split_ok to hto;have k4:=F5 n top hn ht;have l1:=Fg n;have l2:=Fg top;have l3:=Fg to;unfold replN;rcases Bm (vld n) with v1|v1
 .rcases Bm (vld top) with v2|v2
  .rcases Bm (vld to) with v3|v3
   .rw[v1] at k1;rw[v2] at k2;rw[v3] at k3;have tail:(lbl to)[0]? ≠some [42]->T.ev S 1 Dz5 [.s n,.s top,.s to,Dq (lbl n),.b true,Dq (lbl top),.b true,Dq (lbl to),.b true]=some (.ret (if under n top=true∧n≠top then(if(flat (replL n top to)).length<=254 then [.s (flat (replL n top to)),.i .i64 0] else [.s [],.i .i64 9]) else [.s [],.i .i64 1])):=by
     intro hs;rcases Bm (under n top) with hu|hu
     .rw[hu] at k4;have hle:=(Ky.1 hu).2.2.length_le;by_cases he:n=top
      .have h5:((lbl n).length:Int)=((lbl top).length:Int):=by rw[he]
       rw[if_neg (by simp[he])];simp(disch:=omega)only[X0,k4,h5,Aw,simprocAttr]
      .rw[if_pos ⟨hu,he⟩];obtain⟨q1,q2,q3⟩:=R6 hu he v3 hs;have h5:¬((lbl n).length:Int)=((lbl top).length:Int):=by intro h;exact he (Y3 hu (by omega))
       have h6:Kt 1 (Dq (lbl n)) (.i .i64 0) (.i .i64 (((lbl n).length:Int) - ((lbl top).length:Int)))=some (Dq ((lbl n).take ((lbl n).length - (lbl top).length))):=by
        rw[Ux _ _ _ _ _ (by omega) (by omega) (by omega)];have:(((lbl n).length:Int) - ((lbl top).length:Int)).toNat=(lbl n).length - (lbl top).length:=by omega
        rw[this];simp
       have h7:Jm 1 (Dq []) (Dq ((lbl n).take ((lbl n).length - (lbl top).length)))=some (Dq ((lbl n).take ((lbl n).length - (lbl top).length))):=by have:=gw [] ((lbl n).take ((lbl n).length - (lbl top).length)) (by rw[Cv];simp;omega);simpa using this
       have h8:Jm 1 (Dq ((lbl n).take ((lbl n).length - (lbl top).length))) (Dq (lbl to))=some (Dq (replL n top to)):=gw _ _ (by rw[Cv];omega);have hrl:(replL n top to).length<=1000:=by unfold replL;rw[Bp,Cv];omega
       have h9:=uy (replL n top to) hrl (Dw1 q1);have hj:jn (replL n top to)=flat (replL n top to):=by unfold jn;rw[if_neg q2]
       rw[hj] at h9;have hfl:(flat (replL n top to)).length<=1000000:=by
        have:∀l:List (List UInt8),(∀x∈l,x.length<=999)->(flat l).length<=1000*l.length:=by
         intro l
         induction l with
         |nil=>intro _;simp[flat]
         |cons x r ih=>
          intro h;have a1:=ih fun y hy=>h y (.tail _ hy);have a2:=h x (.head _);rw[Nc,Bp,Cq,Cq];omega
        have:=this (replL n top to) (fun x hx=>by have:=Sx (Hf q1 hx);omega);omega
       have h10:=I3 (flat (replL n top to)) (by omega);generalize (lbl n).take ((lbl n).length - (lbl top).length)=th at*;by_cases hlen:(flat (replL n top to)).length<=254
       .rw[if_pos hlen];have hv:=(Em5 q1 hlen).1;rw[hj] at hv;rw[hv] at h10;generalize replL n top to=rl at*;simp(disch:=omega)only[X0,k4,h5,h6,h7,h8,h9,h10,Aw,simprocAttr]
       .rw[if_neg hlen];have hv:vld (flat (replL n top to))=false:=by
         rcases Bm (vld (flat (replL n top to))) with h|h
         .exact absurd (I9 h) hlen
         .exact h
        rw[hv] at h10;generalize replL n top to=rl at*;simp(disch:=omega)only[X0,k4,h5,h6,h7,h8,h9,h10,Aw,simprocAttr]
     .rw[hu] at k4;rw[if_neg (by simp[hu])];simp(disch:=omega)only[X0,k4,Aw,simprocAttr]
    cases hq:lbl to with
    |nil=>
     rw[hq] at k3 tail;have ht:=tail (by simp);rw[if_pos ⟨v1,v2,v3,by simp⟩];simp(disch:=first|omega|(simp;omega))only[↓ht,X0,k1,k2,k3,Aw,simprocAttr];split<;>(try split)<;>rfl
    |cons p r=>
     rw[hq] at k3 tail;have h6:0<((p::r).length:Int):=by simp only[Cq];omega
     by_cases h7:p=[42]
     .subst h7;rw[if_neg (by simp)];simp(disch:=first|omega|(simp only[Cq];omega))only[X0,k1,k2,k3,Aw,simprocAttr]
     .have ht:=tail (by simpa using h7);rw[if_pos ⟨v1,v2,v3,by simpa using h7⟩];simp(disch:=first|omega|(simp only[Cq];omega))only[↓ht,X0,k1,k2,k3,h7,Aw,simprocAttr];split<;>(try split)<;>rfl
   .rw[if_neg (by simp[v3])];rw[v1] at k1;rw[v2] at k2;rw[v3] at k3;simp(disch:=omega)only[X0,k1,k2,k3,Aw,simprocAttr]
  .rw[if_neg (by simp[v2])];rw[v1] at k1;rw[v2] at k2;simp(disch:=omega)only[X0,k1,k2,k3,Aw,simprocAttr]
 .rw[if_neg (by simp[v1])];rw[v1] at k1;simp(disch:=omega)only[X0,k1,k2,k3,Aw,simprocAttr]
def gz (s t:List UInt8) (hs:s.length<=9223372036854775807) (h:t.isSuffixOf s=true):S Az4 2 [.s s,.s t]=some [.s (s.take (s.length - t.length))]:=by
 have hle:t.length<=s.length:=(Gn.1 h).length_le;have k1:=Rz s t hs;rw[h] at k1;have k2:S Ax2 2 [.s s,.s t]=some [.s (s.take (s.length - t.length))]:=by
  refine Hv1 (N:=1) rfl ?_;have h6:s7 (.s s) (.i .i64 0) (.i .i64 ((s.length:Int) - (t.length:Int)))=some (.s (s.take (s.length - t.length))):=by
   rw[Fm8 _ _ _ _ _ (by omega) (by omega) (by omega)];have:((s.length:Int) - (t.length:Int)).toNat=s.length - t.length:=by omega
   rw[this];simp
  simp(disch:=omega)only[Gg1,k1,h6,Aw,simprocAttr]
 refine Hb9 (N:=1) rfl ?_;simp(disch:=omega)only[Gl1,k2,Aw,simprocAttr]
def Up (n top to:List UInt8) (hn:n.length<=9223372036854775807) (ht:top.length<=9223372036854775807) (hto:to.length<=9223372036854775807):S Cn4 3 [.s n,.s top,.s to]=some [.s (replN n top to).1,.i .i64 (replN n top to).2]:=by
 refine Ib8 (N:=1) rfl ?_;have k1:=C6 n hn;have k2:=C6 top ht;have k3:=C6 to hto;unfold replN;rcases Bm (vld n) with v1|v1
 .rcases Bm (vld top) with v2|v2
  .rcases Bm (vld to) with v3|v3
   .rw[v1] at k1;rw[v2] at k2;rw[v3] at k3;have hp:=N4 v3;have hsf:=Y9 v3;obtain⟨c,hc⟩:∃c,to[0]? =some c:=⟨_,B3 hp⟩;rw[hc] at hsf;by_cases hs:c=42
    .rw[if_neg (by rw[hs] at hsf;simp[hsf.1 rfl])];subst hs;simp(disch:=omega)only[Ut,k1,k2,k3,hc,Aw,simprocAttr]
     try simp
    .have hs':(lbl to)[0]? ≠some [42]:=fun e=>hs (by have:=hsf.2 e;simpa using this);have hcc:¬(c.toNat:Int)=42:=fun e=>hs (by apply UInt8.toNat.inj;have:(42:UInt8).toNat=42:=rfl;omega)
     rw[if_pos ⟨v1,v2,v3,hs'⟩];have tl:=I9 v2;have k4:=fq n top hn (by omega);rw[Y4 v1 v2] at k4;by_cases he:n=top
     .rw[if_neg (by simp[he])];simp(disch:=omega)only[Ut,k1,k2,k3,hc,hcc,he,Aw,simprocAttr]
     .rcases Bm (under n top) with hu|hu
      .rw[hu] at k4;rw[if_pos ⟨hu,he⟩];obtain⟨q1,q2,q3⟩:=R6 hu he v3 hs';have nl:=I9 v1;have tol:=I9 v3;have hnr:n≠[46]:=by rintro rfl;have:=(Ky.1 hu).2.2.length_le;rw[J3] at this;exact he (Wh v1 v2 (by rw[J3];exact(List.length_eq_zero_iff.1 (by simpa using this)).symm))
       have hnf:n=flat (lbl n):=by have:=Y2 v1;unfold jn at this;rwa[if_neg (fun h=>hnr ((Wg v1).1 h))] at this
       have hsp:lbl n=(lbl n).take ((lbl n).length - (lbl top).length)++lbl top:=by
        have:=(Ky.1 hu).2.2;rw[List.suffix_iff_eq_drop] at this
        conv=>lhs;rw[<-C8 ((lbl n).length - (lbl top).length) (lbl n)]
        rw[<-this]
       have hhead:∃hd,hd=flat ((lbl n).take ((lbl n).length - (lbl top).length))∧hd.length<=254∧∀p3 p4 p5 p6,Db1.ev S 1 [.s n,.s top,.s to,p3,p4,p5,p6]=some (.yld 0 [.s hd]):=by
        refine⟨_,rfl,?_,fun p3 p4 p5 p6=> ?_⟩
        .have:(flat (lbl n)).length<=254:=by rw[<-hnf];exact nl
         rw[hsp,Oc,Bp] at this;omega
        .by_cases hr:top=[46]
         .subst hr;rw[J3,Ek] at hsp;rw[J3,<-hsp,<-hnf];simp(disch:=omega)only[Ut,Aw,simprocAttr]
         .have htf:top=flat (lbl top):=by have:=Y2 v2;unfold jn at this;rwa[if_neg (fun h=>hr ((Wg v2).1 h))] at this
          have hna:n=flat ((lbl n).take ((lbl n).length - (lbl top).length))++top:=by
           conv=>lhs;rw[hnf,hsp,Oc]
           rw[<-htf]
          have hsuf:top.isSuffixOf n=true:=Gn.2 ⟨_,hna.symm⟩;have k5:=gz n top hn hsuf;have htk:n.take (n.length - top.length)=flat ((lbl n).take ((lbl n).length - (lbl top).length)):=by
           conv=>lhs;rw[hna]
           rw[Bp,bg,Um]
          rw[htk] at k5;generalize flat ((lbl n).take ((lbl n).length - (lbl top).length))=hd at*;simp(disch:=omega)only[Ut,k5,hr,Aw,simprocAttr]
       obtain⟨hd,hd1,hd2,hd3⟩:=hhead;have hfin:flat (replL n top to)=if to=[46] then hd else hd++to:=by
        unfold replL;rw[Oc,<-hd1];by_cases hr:to=[46]
        .rw[if_pos hr,hr,J3];simp[flat]
        .rw[if_neg hr];have:=Y2 v3;unfold jn at this;rw[if_neg (fun h=>hr ((Wg v3).1 h))] at this;rw[<-this]
       rw[hfin];by_cases hr:to=[46]
       .rw[if_pos hr];subst hr;have h1:¬(255:Int)<=(hd.length:Int):=by omega
        rw[if_pos hd2];simp(disch:=omega)only[Ut,k1,k2,k3,k4,hc,hcc,he,hd3,h1,Aw,simprocAttr]
       .rw[if_neg hr];by_cases hlen:(hd++to).length<=254
        .rw[if_pos hlen];have h1:¬(255:Int)<=((hd++to).length:Int):=by omega
         simp(disch:=first|omega|(rw[Bp] at*;omega))only[Ut,k1,k2,k3,k4,hc,hcc,he,hd3,hr,h1,Aw,simprocAttr]
        .rw[if_neg hlen];have h1:(255:Int)<=((hd++to).length:Int):=by omega
         simp(disch:=first|omega|(rw[Bp] at*;omega))only[Ut,k1,k2,k3,k4,hc,hcc,he,hd3,hr,h1,Aw,simprocAttr]
      .rw[hu] at k4;rw[if_neg (by simp[hu])];simp(disch:=omega)only[Ut,k1,k2,k3,k4,hc,hcc,he,Aw,simprocAttr]
   .rw[if_neg (by simp[v3])];rw[v1] at k1;rw[v2] at k2;rw[v3] at k3;simp(disch:=omega)only[Ut,k1,k2,k3,Aw,simprocAttr]
  .rw[if_neg (by simp[v2])];rw[v1] at k1;rw[v2] at k2;simp(disch:=omega)only[Ut,k1,k2,Aw,simprocAttr]
 .rw[if_neg (by simp[v1])];rw[v1] at k1;simp(disch:=omega)only[Ut,k1,Aw,simprocAttr]
end Go.X.G
namespace Go.X.G
open Go Go.X
structure CkOk (c:Ck):Prop where
 ask:AskOk c.zone c.keys
 msg:MsgOk c.m
 pl:c.proofs.length<=1000
 pw:∀r∈c.proofs,r.wf
 ansl:c.ans.length<=1000
 authl:c.auth.length<=1000
 ansW:∀s∈c.ans,SetW s∧s.data.length<=1000∧s.data≠[]
 authW:∀s∈c.auth,SetW s∧s.data.length<=1000
def Gb4 {g:List SetR} {r:Rec} (h:∀s∈g,s.data≠[]):∀s∈addS g r,s.data≠[]:=by
 intro s hs;unfold addS at hs;split at hs
 .split at hs
  .rcases Dw.1 hs with hs|hs
   .exact h s (Bb0 _ hs)
   .rw[Cl.1 hs];simp
  .rcases Dw.1 hs with hs|hs
   .exact h s hs
   .rw[Cl.1 hs];simp
 .rw[Cl.1 hs];simp
def Uq (l:List Rec):∀s∈setsR l,s.data≠[]:=by
 have h:∀(l:List Rec) (g:List SetR),(∀s∈g,s.data≠[])->∀s∈l.foldl addS g,s.data≠[]:=by
  intro l
  induction l with
  |nil=>intro g hg;exact hg
  |cons r l ih=>intro g hg;rw[il];exact ih _ (Gb4 hg)
 exact h (sortR l) [] (by simp)
def Fv4 (zone:List UInt8) (keys:List Dat) (m:Msg) (now:Int) (ha:AskOk zone keys) (hm:MsgOk m):CkOk (ckM zone keys m now):=by
 have h1:=Kb zone keys m now;have h2:=Uv m.ans;have h3:=Uv m.auth;have h4:=hm.ans;have h5:=hm.auth;refine⟨ha,hm,?_,Oj zone keys m now hm.authw,?_,?_,fun s hs=> ?_,fun s hs=> ?_⟩
 .show (proofsN zone keys m now).length<=1000;omega
 .show (setsN m.ans).length<=1000;omega
 .show (setsN m.auth).length<=1000;omega
 .obtain⟨a,b⟩:=tx m.ans hm.answ s hs;exact⟨a,by omega,Uq _ s (Fp.1 hs).1⟩
 .obtain⟨a,b⟩:=tx m.auth hm.authw s hs;exact⟨a,by omega⟩
def Aj6 {zone:List UInt8} {keys:List Dat} {now:Int} {s:SetR} {r:Rec} (h:verR zone keys now s r=true):0<=r.data.b∧r.data.b<=((labK s.name).length:Int):=by
 simp only[verR,Bt] at h;obtain⟨k,hk,h2⟩:=List.any_eq_true.1 h.2;simp only[decide_eq_true_eq] at h2;unfold Dl2 at h2;split at h2
 .exact absurd h2 (by decide)
 .split at h2
  .exact absurd h2 (by decide)
  .split at h2
   .rename_i h3;exact absurd h2 h3
   .rename_i h3;have h4:(signedM s r.data).2=0:=by simpa using h3
    unfold signedM at h4;split at h4
    .exact absurd h4 (by simp)
    .rename_i h5;split at h4
     .exact absurd h4 (by simp)
     .rename_i h6;have hv:Es 46 r.data=true:=by
       rcases Bm (Es 46 r.data) with q|q
       .exact q
       .exact absurd (.inl q) h5
      exact⟨(Dn4 hv).1,by rcases Int.lt_or_le ((labK s.name).length:Int) r.data.b with q|q
                          .exact absurd (.inr q) h6
                          .exact q⟩
def Cr9 (n:List UInt8):(labK n).length<=(lbl n).length:=by
 unfold labK;split
 .rw[Cn];omega
 .exact B7 _
def starL (n:List UInt8) (b:Nat):List (List UInt8):=[42]::(lbl n).drop ((lbl n).length - b)
def j9 (n:List UInt8) (b:Nat):∀x∈starL n b,Iw x=true:=fun x hx=>by
 unfold starL at hx;rcases Ch.1 hx with rfl|hx
 .decide
 .exact H9 n x (Fx hx)
def j8 (n:List UInt8) (b:Nat):(starL n b).length<=255:=by have:=Fg n;unfold starL;rw[Cq,Cn];omega
def joinS (n:List UInt8) (b:Int):List UInt8×Int:=joinL (starL n b.toNat)
def ij (zone:List UInt8) (keys:List Dat) (now:Int) (pf:List Rec) (s:SetR) (r:Rec):Bool:=
 verR zone keys now s r && decide ((joinS s.name r.data.b).2=0) && expandedN pf zone s.name (joinS s.name r.data.b).1
def expL (c:Ck) (s:SetR):Bool:=c.m.ans.any (ij c.zone c.keys c.now c.proofs s)
def fj (c:Ck) (s:SetR) (h:CkOk c) (hs:SetW s) (hd:s.data.length<=1000):S Ew9 2 [c.pt,s.pv]=some [.b (expL c s)]:=by
 have hml:=h.msg.ans;have hpl:=h.pl;have k1:=Jv s.name hs.name;have hll:=Fg s.name;have key:Fk7.ev S (c.m.ans.length+1) [c.pt,s.pv]=some (if expL c s=true then .ret [.b true] else .yld 0 []):=by
  unfold expL;refine Df c.m.ans (fun i=>[.i .i64 (i:Int)]) (fun _ l=>if l.any (ij c.zone c.keys c.now c.proofs s)=true then .ret [.b true] else .yld 0 []) rfl (by omega) (fun i x l hd2 hi hx=> ?_) ?_
  .have hil:(i:Int)<(c.m.ans.length:Int):=by omega
   have k2:=U6 c.zone c.keys s x c.now h.ask hs (by omega) (h.msg.answ x (B6 hx));rcases Bm (verR c.zone c.keys c.now s x) with hv|hv
   .obtain⟨b0,b1⟩:=Aj6 hv;have b2:=Cr9 s.name;rw[hv] at k2;have e:ij c.zone c.keys c.now c.proofs s x=(decide ((joinS s.name x.data.b).2=0) && expandedN c.proofs c.zone s.name (joinS s.name x.data.b).1):=by unfold ij;rw[hv,F0]
    obtain⟨b,hb⟩:∃b:Nat,x.data.b=(b:Int):=⟨x.data.b.toNat,by omega⟩;have hjs:joinS s.name (b:Int)=joinL (starL s.name b):=by unfold joinS;rw[Eg]
    have k3:=Am5 (starL s.name b) (j8 _ _) (j9 _ _);rw[<-hjs] at k3;have k4:=Xp c.proofs c.zone s.name (joinS s.name (b:Int)).1 h.pw (by omega) h.ask.zoneL hs.name;rw[hb] at e;have hnb:¬((lbl s.name).length:Int)<(b:Int):=by omega
    have ls:=xy (lbl s.name) b (by omega) (by omega);have hdl:((lbl s.name).drop ((lbl s.name).length - b)).length<=1000:=by rw[Cn];omega
    have ap:=gx _ hdl;have e5:starL s.name b=[42]::(lbl s.name).drop ((lbl s.name).length - b):=rfl;rw[<-e5] at ap;have hlt:Lf 1 [.s [42]]=some (.l 1 [.s [42]]):=rfl;generalize expandedN c.proofs c.zone s.name (joinS s.name (b:Int)).1=ex at*;generalize joinS s.name (b:Int)=j at*;generalize starL s.name b=st at*;generalize (lbl s.name).drop ((lbl s.name).length - b)=dr at*;generalize lbl s.name=lk at*;by_cases hj:j.2=0
    .cases ex with
     |true=>
      right;have e1:ij c.zone c.keys c.now c.proofs s x=true:=by rw[e];simp[hj]
      simp(disch:=omega)only[An3,hx,hil,hb,hnb,k1,k2,k3,k4,hj,ls,ap,hlt,Eb,EVT,EVM,Dj,Ax,simprocAttr];simp[e1,Out.goes]
     |false=>
      left;have e1:ij c.zone c.keys c.now c.proofs s x=false:=by rw[e];simp
      refine⟨?_,by simp[e1]⟩;simp(disch:=omega)only[An3,hx,hil,hb,hnb,k1,k2,k3,k4,hj,ls,ap,hlt,Eb,EVT,EVM,Dj,Ax,simprocAttr]
    .left;have e1:ij c.zone c.keys c.now c.proofs s x=false:=by rw[e];simp[hj]
     refine⟨?_,by simp[e1]⟩;simp(disch:=omega)only[An3,hx,hil,hb,hnb,k1,k2,k3,hj,ls,ap,hlt,Eb,EVT,EVM,Dj,Ax,simprocAttr]
   .left;rw[hv] at k2;have e1:ij c.zone c.keys c.now c.proofs s x=false:=by unfold ij;rw[hv];simp
    refine⟨?_,by simp[e1]⟩;simp(disch:=omega)only[An3,hx,hil,k2,Eb,EVT,EVM,Dj,Ax,simprocAttr]
  .simp(disch:=omega)only[An3,C2,Eb,EVT,EVM,Dj,Ax,simprocAttr];simp[Out.goes]
 refine Ig3 (N:=c.m.ans.length+1) rfl ?_;rcases Bm (expL c s) with hv|hv<;>rw[hv] at key ⊢<;>simp(disch:=omega)only[An3,key,Eb,EVT,EVM,Dj,Ax,simprocAttr]<;>simp
def Iq (zone n:List UInt8) (s:SetR):Bool:=decide (s.typ=39) && decide (s.data.length=1) && under s.name zone && !decide (s.name=n) && under n s.name
def M7 (c:Ck) (n:List UInt8) (h:CkOk c) (hn:n.length<=9223372036854775807):S Cn5 2 [c.pt,.s n]=some [Dh (c.ans.filter (Iq c.zone n))]:=by
 have hal:=h.ansl;have key:Et5.ev S (c.ans.length+1) [c.pt,.s n]=some (.yld 0 [Dh ([]++c.ans.filter (Iq c.zone n))]):=by
  refine Fl c.ans (fun i (g:List SetR)=>[Dh g,.i .i64 (i:Int)]) (fun _ g r=> .yld 0 [Dh (g++r.filter (Iq c.zone n))]) (fun i g=>g.length<=i) [] (by simp(disch:=omega)only[Dj,Ax,simprocAttr]) (Dz _) (by omega) (fun i g s r hd hi hs hI=> ?_) (fun g hI=> ?_)
  .left;have hil:(i:Int)<(c.ans.length:Int):=by omega
   obtain⟨hsw,hsd,hne⟩:=h.ansW s (B6 hs);have k1:=Gk s.name c.zone hsw.name h.ask.zoneL;have k2:=Gk n s.name hn hsw.name;have e:Iq c.zone n s=(decide (s.typ=39) && decide (s.data.length=1) && under s.name c.zone && !decide (s.name=n) && under n s.name):=rfl;have no:Iq c.zone n s=false->∀o,o=some (Out.yld 1 [Dh g,.i .i64 ((i:Int)+1)])->∃g',o=some (Out.yld 1 [Dh g',.i .i64 ((i+1:Nat):Int)])∧g'.length<=i+1∧Out.yld 0 [Dh (g'++r.filter (Iq c.zone n))]=Out.yld 0 [Dh (g++(s::r).filter (Iq c.zone n))]:=fun hf o ho=>⟨g,ho,by omega,by rw[D8 (by simp[hf])]⟩;generalize under s.name c.zone=u1 at*;generalize under n s.name=u2 at*;by_cases h1:s.typ=39
   .by_cases h2:(s.data.length:Int)=1
    .cases u1 with
     |false=>
      refine no (by rw[e];simp) _ ?_;simp(disch:=omega)only[i5,hs,hil,h1,h2,k1,Eb,EVT,EVM,Dj,Ax,simprocAttr]
     |true=>
      by_cases h3:s.name=n
      .refine no (by rw[e];simp[h3]) _ ?_;rw[h3] at k1;simp(disch:=omega)only[i5,hs,hil,h1,h2,k1,h3,Eb,EVT,EVM,Dj,Ax,simprocAttr]
      .cases u2 with
       |false=>
        refine no (by rw[e];simp) _ ?_;simp(disch:=omega)only[i5,hs,hil,h1,h2,k1,k2,h3,Eb,EVT,EVM,Dj,Ax,simprocAttr]
       |true=>
        refine⟨g++[s],?_,by rw[Bp,Hw];omega,?_⟩
        .simp(disch:=omega)only[i5,hs,hil,h1,h2,k1,k2,h3,Eb,EVT,EVM,Dj,Ax,simprocAttr]
        .rw[C9 (by rw[e];simp[h1,h3];omega),Cy];rfl
    .refine no (by rw[e];simp;omega) _ ?_;simp(disch:=omega)only[i5,hs,hil,h1,h2,Eb,EVT,EVM,Dj,Ax,simprocAttr]
   .refine no (by rw[e];simp[h1]) _ ?_;simp(disch:=omega)only[i5,hs,hil,h1,Eb,EVT,EVM,Dj,Ax,simprocAttr]
  .simp(disch:=omega)only[i5,C2,Eb,EVT,EVM,Dj,Ax,simprocAttr];simp[Out.goes]
 rw[D3] at key;refine Ib9 (N:=c.ans.length+1) rfl ?_;generalize c.ans.filter (Iq c.zone n)=f at*;simp(disch:=omega)only[i5,key,Eb,EVT,EVM,Dj,Ax,simprocAttr]
def X6 (s:SetR):List UInt8:=(s.data[0]?.map Dat.host).getD []
def L8 {s:SetR} (h:s.data≠[]):∃d,s.data[0]? =some d∧X6 s=d.host∧d∈s.data:=by
 unfold X6;cases hs:s.data with
 |nil=>exact absurd hs h
 |cons d r=>exact⟨d,rfl,rfl,.head _⟩
def X7 (s x:SetR):Bool:=decide ((replN s.name x.name (X6 x)).2=0) && decide ((replN s.name x.name (X6 x)).1=X6 s)
def impL (c:Ck) (s:SetR):Bool:=decide (s.typ=5) && decide (s.data.length=1) && (c.ans.filter (Iq c.zone s.name)).any (X7 s)
def Cx7 {c:Ck} (h:CkOk c) {n:List UInt8} {x:SetR} (hx:x∈c.ans.filter (Iq c.zone n)):SetW x∧x.data≠[]:=by obtain⟨a,_,b⟩:=h.ansW x (Fp.1 hx).1;exact⟨a,b⟩
def Bq5 (c:Ck) (s:SetR) (h:CkOk c) (hs:SetW s) (hne:s.data≠[]):S Ew8 2 [c.pt,s.pv]=some [.b (impL c s)]:=by
 have hal:=h.ansl;have hfl:=List.length_filter_le (Iq c.zone s.name) c.ans;have k1:=M7 c s.name h hs.name;have hm:=fun x=>Cx7 h (n:=s.name) (x:=x);obtain⟨ds,i0,hh,_⟩:=L8 hne;unfold impL;generalize c.ans.filter (Iq c.zone s.name)=rd at*;have key:Fk6.ev S (rd.length+1) [c.pt,s.pv,Dh rd]=some (if rd.any (X7 s)=true then .ret [.b true] else .yld 0 []):=by
  refine Df rd (fun i=>[.i .i64 (i:Int)]) (fun _ l=>if l.any (X7 s)=true then .ret [.b true] else .yld 0 []) rfl (by omega) (fun i x l hd2 hi hx=> ?_) ?_
  .have hil:(i:Int)<(rd.length:Int):=by omega
   obtain⟨hxw,hxn⟩:=hm x (B6 hx);obtain⟨dx,j0,hj,hjm⟩:=L8 hxn;have k2:=Up s.name x.name dx.host hs.name hxw.name (hxw.data dx hjm).host;have e:X7 s x=(decide ((replN s.name x.name dx.host).2=0) && decide ((replN s.name x.name dx.host).1=ds.host)):=by unfold X7;rw[hj,hh]
   generalize replN s.name x.name dx.host=rp at*;by_cases h1:rp.2=0
   .by_cases h2:rp.1=ds.host
    .right;have e1:X7 s x=true:=by rw[e];simp[h1,h2]
     simp(disch:=omega)only[rm,hx,hil,i0,j0,k2,h1,h2,Eb,EVT,EVM,Dj,Ax,simprocAttr];simp[e1,Out.goes]
    .left;have e1:X7 s x=false:=by rw[e];simp[h2]
     refine⟨?_,by simp[e1]⟩;simp(disch:=omega)only[rm,hx,hil,i0,j0,k2,h1,h2,Eb,EVT,EVM,Dj,Ax,simprocAttr]
   .left;have e1:X7 s x=false:=by rw[e];simp[h1]
    refine⟨?_,by simp[e1]⟩;simp(disch:=omega)only[rm,hx,hil,i0,j0,k2,h1,Eb,EVT,EVM,Dj,Ax,simprocAttr]
  .simp(disch:=omega)only[rm,C2,Eb,EVT,EVM,Dj,Ax,simprocAttr];simp[Out.goes]
 refine Ig2 (N:=rd.length+1) rfl ?_;by_cases h1:s.typ=5
 .by_cases h2:(s.data.length:Int)=1
  .have h2':s.data.length=1:=by omega
   rw[decide_eq_true h1,decide_eq_true h2',F0,F0];rcases Bm (rd.any (X7 s)) with hv|hv<;>rw[hv] at key ⊢<;>simp(disch:=omega)only[rm,k1,key,h1,h2,Eb,EVT,EVM,Dj,Ax,simprocAttr]<;>simp
  .have h2':¬s.data.length=1:=by omega
   rw[decide_eq_false h2'];simp(disch:=omega)only[rm,h1,h2,Eb,EVT,EVM,Dj,Ax,simprocAttr]
   try simp
 .rw[decide_eq_false h1];simp(disch:=omega)only[rm,h1,Eb,EVT,EVM,Dj,Ax,simprocAttr]
  try simp
def Al1 (n:List UInt8) (t:Int) (r:Rec):Bool:=decide (r.name=n) && (decide (r.typ=t)||decide (t=255))
def ansB (l:List Rec) (n:List UInt8) (t:Int):Bool:=l.any (Al1 n t)
def folM (l:List Rec) (t:Int):Nat->List UInt8->List UInt8×Bool
 |0,n=>(n,ansB l n t)
 |k+1,n=>if ansB l n t=true then(n,true) else if(setF (setsR l) n 5).isSome=true then folM l t k (X6 ((setF (setsR l) n 5).getD zS)) else(n,false)
def Dw4 (c:Ck) (n:List UInt8) (p2:PV) (h:CkOk c) (N:Nat) (hN:c.m.ans.length<N):
  Es1.ev S N [c.pt,.s n,p2]=some (if ansB c.m.ans n c.m.q.typ=true then .ret [.s n,.b true] else .yld 2 []):=by
 have hml:=h.msg.ans;unfold ansB;refine Df c.m.ans (fun i=>[.i .i64 (i:Int)]) (fun _ l=>if l.any (Al1 n c.m.q.typ)=true then .ret [.s n,.b true] else .yld 2 []) rfl hN (fun i x l hd2 hi hx=> ?_) ?_
 .have hil:(i:Int)<(c.m.ans.length:Int):=by omega
  have e:Al1 n c.m.q.typ x=(decide (x.name=n) && (decide (x.typ=c.m.q.typ)||decide (c.m.q.typ=255))):=rfl;by_cases h1:x.name=n
  .by_cases h2:x.typ=c.m.q.typ
   .right;have e1:Al1 n c.m.q.typ x=true:=by rw[e];simp[h1,h2]
    simp(disch:=omega)only[U0,hx,hil,h1,h2,Eb,EVT,EVM,Dj,Ax,simprocAttr];simp[e1,Out.goes]
   .by_cases h3:c.m.q.typ=255
    .right;have e1:Al1 n c.m.q.typ x=true:=by rw[e];simp[h1,h3]
     have h2':=h2;rw[h3] at h2';have e1':Al1 n 255 x=true:=by rw[<-h3];exact e1
     simp(disch:=omega)only[U0,hx,hil,h1,h2,h2',h3,Eb,EVT,EVM,Dj,Ax,simprocAttr];simp[e1,e1',Out.goes]
    .left;have e1:Al1 n c.m.q.typ x=false:=by rw[e];simp[h2,h3]
     refine⟨?_,by simp[e1]⟩;simp(disch:=omega)only[U0,hx,hil,h1,h2,h3,Eb,EVT,EVM,Dj,Ax,simprocAttr]
  .left;have e1:Al1 n c.m.q.typ x=false:=by rw[e];simp[h1]
   refine⟨?_,by simp[e1]⟩;simp(disch:=omega)only[U0,hx,hil,h1,Eb,EVT,EVM,Dj,Ax,simprocAttr]
 .simp(disch:=omega)only[U0,C2,Eb,EVT,EVM,Dj,Ax,simprocAttr];simp[Out.goes]
def R3 {l:List SetR} {n:List UInt8} {t:Int} (h:(setF l n t).isSome=true):(setF l n t).getD zS∈l:=by
 cases hf:setF l n t with
 |none=>rw[hf] at h;cases h
 |some x=>exact List.mem_of_find?_eq_some hf
def Dw3 (c:Ck) (h:CkOk c) (hc:c.ans=setsN c.m.ans) (hq:c.m.q.name.length<=9223372036854775807):
  S Ew7 1 [c.pt]=some [.s (folM c.m.ans c.m.q.typ 8 c.m.q.name).1,.b (folM c.m.ans c.m.q.typ 8 c.m.q.name).2]:=by
 have hal:=h.ansl;have hml:=h.msg.ans;have key:Fk5.ev S 2000 [c.pt]=some (.ret [.s (folM c.m.ans c.m.q.typ 8 c.m.q.name).1,.b (folM c.m.ans c.m.q.typ 8 c.m.q.name).2]):=by
  refine Gj (fun a:Nat×List UInt8=>[.s a.2,.i .i64 (a.1:Int)]) (fun a=> .ret [.s (folM c.m.ans c.m.q.typ (8 - a.1) a.2).1,.b (folM c.m.ans c.m.q.typ (8 - a.1) a.2).2]) (fun a=>a.1<=8∧a.2.length<=9223372036854775807) (fun a=>9 - a.1) (0,c.m.q.name) ?_ ⟨Dz _,hq⟩ (by show 9<2000;decide) (fun⟨i,n⟩ ⟨hi,hn⟩=> ?_)
  .simp(disch:=omega)only[Eb,EVT,EVM,Dj,Ax,simprocAttr]
   try rfl
  .simp only at hi hn ⊢;have k1:=fun p2=>Dw4 c n p2 h 2000 (by omega);have k2:=W1 c.ans n 5 (by omega);rw[Rt] at k2;have hsound:=R3 (l:=c.ans) (n:=n) (t:=5);have e5:setF c.ans n 5=setF (setsR c.m.ans) n 5:=by rw[hc];exact Ak5 _ _ _ (by decide)
   have ef:∀k,folM c.m.ans c.m.q.typ (k+1) n=if ansB c.m.ans n c.m.q.typ=true then(n,true) else if(setF c.ans n 5).isSome=true then folM c.m.ans c.m.q.typ k (X6 ((setF c.ans n 5).getD zS)) else(n,false):=fun k=>by rw[e5];rfl
   have e0:folM c.m.ans c.m.q.typ 0 n=(n,ansB c.m.ans n c.m.q.typ):=rfl;generalize ansB c.m.ans n c.m.q.typ=ab at*;generalize (setF c.ans n 5).isSome=ok at*;generalize (setF c.ans n 5).getD zS=s at*;rcases Dl8 i 8 with h8|h8
   .obtain⟨k,hk⟩:∃k,8 - i=k+1:=⟨7 - i,by omega⟩;have hk2:8 - (i+1)=k:=by omega
    have hi8:¬(8:Int)<=(i:Int):=by omega
    rw[hk,ef k];cases ab with
    |true=>
     right;simp(disch:=omega)only[U0,k1,Eb,EVT,EVM,Dj,Ax,simprocAttr];simp[Out.goes]
    |false=>
     cases ok with
     |false=>
      right;simp(disch:=omega)only[U0,k1,k2,Eb,EVT,EVM,Dj,Ax,simprocAttr];simp[Out.goes]
     |true=>
      left;obtain⟨hsw,_,hne⟩:=h.ansW s (hsound rfl);obtain⟨d,i0,hh,hdm⟩:=L8 hne;rw[hh];refine⟨(i+1,d.host),?_,⟨by simp only;omega,(hsw.data d hdm).host⟩,by simp only;omega,by simp only[hk2];rfl⟩;simp(disch:=omega)only[U0,k1,k2,hi8,i0,Eb,EVT,EVM,Dj,Ax,simprocAttr]
   .obtain rfl:i=8:=by omega
    rw[show 8 - 8=0 from rfl,e0];right;cases ab with
    |true=>
     simp(disch:=omega)only[U0,k1,Eb,EVT,EVM,Dj,Ax,simprocAttr];simp[Out.goes]
    |false=>
     cases ok<;>simp(disch:=omega)only[U0,k1,k2,Eb,EVT,EVM,Dj,Ax,simprocAttr]<;>simp[Out.goes]
 refine Ig1 (N:=2000) rfl ?_;simp(disch:=omega)only[U0,key,Eb,EVT,EVM,Dj,Ax,simprocAttr]
def wj (l:List Rec) (t:Int) (hw:∀r∈l,r.wf):∀(k:Nat) (n:List UInt8),n.length<=9223372036854775807->(folM l t k n).1.length<=9223372036854775807
 |0,n,hn=>hn
 |k+1,n,hn=>by
  unfold folM;split
  .exact hn
  .split
   .rename_i h;have hm:=R3 h;obtain⟨d,_,hh,hdm⟩:=L8 (Uq _ _ hm);rw[hh];exact wj l t hw k _ ((Pv l hw _ hm).1.data d hdm).host
   .exact hn
def nothB (zone:List UInt8) (keys:List Dat) (m:Msg) (now:Int) (n:List UInt8):Bool:=
 (setF (setsR m.auth) zone 6).isSome && provB zone keys now ((setF (setsR m.auth) zone 6).getD zS) m.auth && (if m.code=3 then absentN (proofsN zone keys m now) zone n else emptyN (proofsN zone keys m now) zone ⟨n,m.q.typ⟩)
def Bj6 (zone:List UInt8) (keys:List Dat) (m:Msg) (now:Int) (n:List UInt8) (ha:AskOk zone keys) (hm:MsgOk m) (hn:n.length<=9223372036854775807):
  S Ew6 2 [(ckM zone keys m now).pt,.s n]=some [.b (nothB zone keys m now n)]:=by
 have h:=Fv4 zone keys m now ha hm;have e1:(ckM zone keys m now).zone=zone:=rfl;have e2:(ckM zone keys m now).keys=keys:=rfl;have e3:(ckM zone keys m now).m=m:=rfl;have e4:(ckM zone keys m now).now=now:=rfl;have e5:(ckM zone keys m now).auth=setsN m.auth:=rfl;have e6:(ckM zone keys m now).proofs=proofsN zone keys m now:=rfl;unfold nothB;rw[<-Ak5 m.auth zone 6 (by decide),<-e6];obtain⟨hs,hsd⟩:=Cw1 (n:=zone) (t:=6) (by decide) hm.authw;have hml:=hm.auth;rw[<-e5] at hs hsd ⊢;generalize hck:ckM zone keys m now=c at*;subst e1 e2 e3 e4;have hpl:=h.pl;have hal:=h.authl;have k1:=W1 c.auth c.zone 6 (by omega);rw[Rt] at k1;generalize (setF c.auth c.zone 6).isSome=ok at*;generalize (setF c.auth c.zone 6).getD zS=s at*;have k2:=Qy c s c.m.auth h.ask hs (by omega) h.msg.authw (by omega);generalize provB c.zone c.keys c.now s c.m.auth=pb at*;have k3:=Bz0 c.proofs c.zone n h.pw (by omega) h.ask.zoneL hn;have k4:=Dh5 c.proofs c.zone ⟨n,c.m.q.typ⟩ h.pw (by omega) h.ask.zoneL hn;generalize absentN c.proofs c.zone n=ab at*;generalize emptyN c.proofs c.zone ⟨n,c.m.q.typ⟩=em at*;clear hck;refine Ig0 (N:=1) rfl ?_;cases ok with
 |false=>
  simp(disch:=omega)only[Dm9,k1,Eb,EVT,EVM,Dj,Ax,simprocAttr]
  try simp
 |true=>
  cases pb with
  |false=>
   simp(disch:=omega)only[Dm9,k1,k2,Eb,EVT,EVM,Dj,Ax,simprocAttr]
   try simp
  |true=>
   by_cases h3:c.m.code=3
   .rw[if_pos h3];simp(disch:=omega)only[Dm9,k1,k2,k3,h3,Eb,EVT,EVM,Dj,Ax,simprocAttr]
    try simp
   .rw[if_neg h3];simp(disch:=omega)only[Dm9,k1,k2,k4,h3,Eb,EVT,EVM,Dj,Ax,simprocAttr]
    try simp
def Xs (n:List UInt8) (x:SetR):Bool:=decide ((replN n x.name (X6 x)).2≠0)||decide ((replN n x.name (X6 x)).1[0]? =some 42)
def Ak9 {n t to:List UInt8} (h:(replN n t to).2=0):(replN n t to).1≠[]:=by
 unfold replN at h ⊢;split
 .rename_i h1;rw[if_pos h1] at h;split
  .rename_i h2;rw[if_pos h2] at h;split
   .have:=Ad0 (R6 h2.1 h2.2 h1.2.2.1 h1.2.2.2).2.1;intro e;have e':flat (replL n t to)=[]:=e;rw[e'] at this;exact absurd this (by decide)
   .rename_i h3;rw[if_neg h3] at h;exact absurd h (by decide)
  .rename_i h2;rw[if_neg h2] at h;exact absurd h (by decide)
 .rename_i h1;rw[if_neg h1] at h;exact absurd h (by decide)
def longB (c:Ck) (n:List UInt8):Bool:=decide (c.m.code=6) && (c.ans.filter (Iq c.zone n)).any (Xs n)
def Dn8 (b:UInt8):((b.toNat:Int)=42)↔b=42:=by
 constructor
 .intro h;have:b.toNat=42:=by omega
  exact UInt8.toNat_inj.1 this
 .rintro rfl;rfl
def An5 (c:Ck) (n:List UInt8) (h:CkOk c) (hn:n.length<=9223372036854775807):S Ew5 2 [c.pt,.s n]=some [.b (longB c n)]:=by
 have hal:=h.ansl;have hfl:=List.length_filter_le (Iq c.zone n) c.ans;have k1:=M7 c n h hn;have hm:=fun x=>Cx7 h (n:=n) (x:=x);unfold longB;generalize c.ans.filter (Iq c.zone n)=rd at*;have key:Fk4.ev S (rd.length+1) [c.pt,.s n,Dh rd]=some (if rd.any (Xs n)=true then .ret [.b true] else .yld 0 []):=by
  refine Df rd (fun i=>[.i .i64 (i:Int)]) (fun _ l=>if l.any (Xs n)=true then .ret [.b true] else .yld 0 []) rfl (by omega) (fun i x l hd2 hi hx=> ?_) ?_
  .have hil:(i:Int)<(rd.length:Int):=by omega
   obtain⟨hxw,hxn⟩:=hm x (B6 hx);obtain⟨dx,j0,hj,hjm⟩:=L8 hxn;have k2:=Up n x.name dx.host hn hxw.name (hxw.data dx hjm).host;have hp:=Ak9 (n:=n) (t:=x.name) (to:=dx.host);have e:Xs n x=(decide ((replN n x.name dx.host).2≠0)||decide ((replN n x.name dx.host).1[0]? =some 42)):=by unfold Xs;rw[hj]
   generalize replN n x.name dx.host=rp at*;obtain⟨nm,er⟩:=rp;simp only at*;by_cases h1:er=0
   .obtain⟨b,r,hbr⟩:∃b r,nm=b::r:=by
     cases nm with
     |nil=>exact absurd rfl (hp h1)
     |cons b r=>exact⟨b,r,rfl⟩
    have hg:nm[0]? =some b:=by rw[hbr];rfl
    rw[hg] at e;by_cases h2:b=42
    .right;have h2':=(Dn8 b).2 h2;have e1:Xs n x=true:=by rw[e];simp[h2]
     simp(disch:=omega)only[An2,hx,hil,j0,k2,h1,hg,h2',Eb,EVT,EVM,Dj,Ax,simprocAttr];simp[e1,Out.goes]
    .left;have h2':¬(b.toNat:Int)=42:=fun q=>h2 ((Dn8 b).1 q);have e1:Xs n x=false:=by rw[e];simp[h1,h2]
     refine⟨?_,by simp[e1]⟩;simp(disch:=omega)only[An2,hx,hil,j0,k2,h1,hg,h2',Eb,EVT,EVM,Dj,Ax,simprocAttr]
   .right;have e1:Xs n x=true:=by rw[e];simp[h1]
    simp(disch:=omega)only[An2,hx,hil,j0,k2,h1,Eb,EVT,EVM,Dj,Ax,simprocAttr];simp[e1,Out.goes]
  .simp(disch:=omega)only[An2,C2,Eb,EVT,EVM,Dj,Ax,simprocAttr];simp[Out.goes]
 refine If9 (N:=rd.length+1) rfl ?_;by_cases h1:c.m.code=6
 .rw[decide_eq_true h1,F0];rcases Bm (rd.any (Xs n)) with hv|hv<;>rw[hv] at key ⊢<;>simp(disch:=omega)only[An2,k1,key,h1,Eb,EVT,EVM,Dj,Ax,simprocAttr]<;>simp
 .rw[decide_eq_false h1];simp(disch:=omega)only[An2,h1,Eb,EVT,EVM,Dj,Ax,simprocAttr]
  try simp
def badS (c:Ck) (s:SetR):Bool:=under s.name c.zone && !provB c.zone c.keys c.now s c.m.ans && !expL c s && !impL c s
def ansM (zone:List UInt8) (keys:List Dat) (m:Msg) (now:Int):Int:=
 if keys=[] then 2
 else if(setsN m.ans).any (badS (ckM zone keys m now))=true then 3
 else
  let p:=folM m.ans m.q.typ 8 m.q.name
  if(p.2|| !under p.1 zone||nothB zone keys m now p.1||longB (ckM zone keys m now) p.1)=true then 1
  else if((decide ((refM zone keys m now).2.2=1)||decide ((refM zone keys m now).2.2=2)) && under p.1 (refM zone keys m now).1)=true then 1 else 3
def Aq0 (zone:List UInt8) (keys:List Dat) (m:Msg) (now:Int) (hm:MsgOk m):(refM zone keys m now).1.length<=9223372036854775807:=by
 unfold refM;cases hk:kidR zone m.auth with
 |none=>exact Dz _
 |some c=>
  unfold kidR at hk;cases hf:m.auth.find? (qg zone) with
  |none=>rw[hf] at hk;cases hk
  |some r=>
   rw[hf] at hk;injection hk with hk;rw[<-hk];exact(hm.authw r (List.mem_of_find?_eq_some hf)).name
def By9 (zone:List UInt8) (keys:List Dat) (m:Msg) (now:Int) (ha:AskOk zone keys) (hm:MsgOk m):
  S u4 4 [.s zone,Dm keys,m.pv,.i .i64 now]=some [.i .i64 (ansM zone keys m now)]:=by
 refine Ih3 (N:=2000) rfl ?_;unfold ansM;by_cases h:keys=[]
 .subst h;rw[if_pos rfl];simp(disch:=omega)only[Pk,Eb,EVT,EVM,Dj,Ax,simprocAttr]
  try simp
 .have h':¬(keys.length:Int)=0:=by have:=Ct.2 h;omega
  rw[if_neg h];have k1:=Ft0 zone keys m now ha hm;have hc:=Fv4 zone keys m now ha hm;have k2:=Dw3 (ckM zone keys m now) hc rfl hm.qn;have e3:(ckM zone keys m now).m=m:=rfl;rw[e3] at k2;have hfl:=wj m.ans m.q.typ hm.answ 8 m.q.name hm.qn;have k3:=Gk (folM m.ans m.q.typ 8 m.q.name).1 zone hfl ha.zoneL;have k4:=Bj6 zone keys m now (folM m.ans m.q.typ 8 m.q.name).1 ha hm hfl;have k5:=An5 (ckM zone keys m now) (folM m.ans m.q.typ 8 m.q.name).1 hc hfl;have k6:=tt zone keys m now ha hm;have k7:=Gk (folM m.ans m.q.typ 8 m.q.name).1 (refM zone keys m now).1 hfl (Aq0 zone keys m now hm);have ea:(ckM zone keys m now).ans=setsN m.ans:=rfl;have ez:(ckM zone keys m now).zone=zone:=rfl;have ek:(ckM zone keys m now).keys=keys:=rfl;have en:(ckM zone keys m now).now=now:=rfl;rw[<-ea];simp only[];generalize folM m.ans m.q.typ 8 m.q.name=p at*;generalize nothB zone keys m now p.1=nb at*;generalize refM zone keys m now=rf at*;generalize ckM zone keys m now=c at*;subst e3 ez ek en;generalize longB c p.1=lb at*;clear ea;have hal:=hc.ansl;have hml:=hm.ans;have key:Fq5.ev S 2000 [.s c.zone,Dm c.keys,c.m.pv,.i .i64 c.now,c.pt]=some (if c.ans.any (badS c)=true then .ret [.i .i64 3] else .yld 0 []):=by
   refine Df c.ans (fun i=>[.i .i64 (i:Int)]) (fun _ l=>if l.any (badS c)=true then .ret [.i .i64 3] else .yld 0 []) rfl (by omega) (fun i s l hd2 hi hx=> ?_) ?_
   .have hil:(i:Int)<(c.ans.length:Int):=by omega
    obtain⟨hsw,hsd,hsn⟩:=hc.ansW s (B6 hx);have g1:=Gk s.name c.zone hsw.name ha.zoneL;have g2:=Qy c s c.m.ans hc.ask hsw (by omega) hm.answ (by omega);have g3:=fj c s hc hsw hsd;have g4:=Bq5 c s hc hsw hsn;have e:badS c s=(under s.name c.zone && !provB c.zone c.keys c.now s c.m.ans && !expL c s && !impL c s):=rfl;generalize under s.name c.zone=b1 at*;generalize provB c.zone c.keys c.now s c.m.ans=b2 at*;generalize expL c s=b3 at*;generalize impL c s=b4 at*;have yes:badS c s=false->∀o:Option Out,o=some (.yld 1 [.i .i64 ((i:Int)+1)])->(o=some (.yld 1 [.i .i64 ((i+1:Nat):Int)])∧(if l.any (badS c)=true then Out.ret [.i .i64 3] else .yld 0 [])=(if(s::l).any (badS c)=true then Out.ret [.i .i64 3] else .yld 0 [])):=fun hf o ho=>⟨ho,by simp[hf]⟩;cases b1 with
    |false=>
     left;refine yes (by rw[e];rfl) _ ?_;simp(disch:=omega)only[Pk,hx,hil,g1,Eb,EVT,EVM,Dj,Ax,simprocAttr]
    |true=>
     cases b2 with
     |true=>
      left;refine yes (by rw[e];rfl) _ ?_;simp(disch:=omega)only[Pk,hx,hil,g1,g2,Eb,EVT,EVM,Dj,Ax,simprocAttr]
     |false=>
      cases b3 with
      |true=>
       left;refine yes (by rw[e];rfl) _ ?_;simp(disch:=omega)only[Pk,hx,hil,g1,g2,g3,Eb,EVT,EVM,Dj,Ax,simprocAttr]
      |false=>
       cases b4 with
       |true=>
        left;refine yes (by rw[e];rfl) _ ?_;simp(disch:=omega)only[Pk,hx,hil,g1,g2,g3,g4,Eb,EVT,EVM,Dj,Ax,simprocAttr]
       |false=>
        right;have e1:badS c s=true:=by rw[e];rfl
        simp(disch:=omega)only[Pk,hx,hil,g1,g2,g3,g4,Eb,EVT,EVM,Dj,Ax,simprocAttr];simp[e1,Out.goes]
   .simp(disch:=omega)only[Pk,C2,Eb,EVT,EVM,Dj,Ax,simprocAttr];simp[Out.goes]
  generalize c.ans.any (badS c)=bad at*;generalize under p.1 c.zone=u1 at*;generalize under p.1 rf.1=u2 at*;obtain⟨nm,fo⟩:=p;obtain⟨ch,dd,st⟩:=rf;simp only at*;cases bad with
  |true=>
   simp(disch:=omega)only[Pk,h',k1,key,Eb,EVT,EVM,Dj,Ax,simprocAttr]
  |false=>
   cases fo with
   |true=>
    simp(disch:=omega)only[Pk,h',k1,k2,key,Eb,EVT,EVM,Dj,Ax,simprocAttr]
    try simp
   |false=>
    cases u1 with
    |false=>
     simp(disch:=omega)only[Pk,h',k1,k2,k3,key,Eb,EVT,EVM,Dj,Ax,simprocAttr]
     try simp
    |true=>
     cases nb with
     |true=>
      simp(disch:=omega)only[Pk,h',k1,k2,k3,k4,key,Eb,EVT,EVM,Dj,Ax,simprocAttr]
      try simp
     |false=>
      cases lb with
      |true=>
       simp(disch:=omega)only[Pk,h',k1,k2,k3,k4,k5,key,Eb,EVT,EVM,Dj,Ax,simprocAttr]
       try simp
      |false=>
       by_cases s1:st=1
       .cases u2<;>simp(disch:=omega)only[Pk,h',k1,k2,k3,k4,k5,k6,k7,s1,key,Eb,EVT,EVM,Dj,Ax,simprocAttr]<;>try simp
       .by_cases s2:st=2
        .cases u2<;>simp(disch:=omega)only[Pk,h',k1,k2,k3,k4,k5,k6,k7,s2,key,Eb,EVT,EVM,Dj,Ax,simprocAttr]<;>try simp
        .simp(disch:=omega)only[Pk,h',k1,k2,k3,k4,k5,k6,s1,s2,key,Eb,EVT,EVM,Dj,Ax,simprocAttr]
         try simp[s1,s2]
def Dp9 {n:List UInt8} (h:J0 n=true):M2 n≠[]:=by unfold M2;rw[if_pos h];unfold Mm;split<;>simp
def Gq0 (l:List Rec) (zone name:List UInt8):expandedN l zone name []=false:=by
 unfold expandedN;rw[decide_eq_false_iff_not];intro h;obtain⟨r,_,hr⟩:=List.mem_filterMap.1 h;unfold K6 at hr;split at hr
 .rename_i h2;injection hr with hr;simp only[Bt] at h2;exact Dp9 h2.2 hr
 .cases hr
def Gq1 (zone:List UInt8) (keys:List Dat) (now:Int) (pf:List Rec) (s:SetR) (r:Rec):
  ij zone keys now pf s r=(verR zone keys now s r && expandedN pf zone s.name (joinS s.name r.data.b).1):=by
 unfold ij;by_cases h:(joinS s.name r.data.b).2=0
 .rw[decide_eq_true h,Mc]
 .have e:(joinS s.name r.data.b).1=[]:=by
   unfold joinS joinL at h ⊢;split
   .rename_i h1;rw[if_pos h1] at h;exact absurd rfl h
   .rename_i h1;rw[if_neg h1] at h;split
    .rename_i h2;rw[if_pos h2] at h;exact absurd rfl h
    .rfl
  rw[e,Gq0,decide_eq_false h];simp
def Bf3 (p0 p1 p2 p4 p5 p6 p7 p8:PV) (m:Msg) (i:Nat) (x:Rec) (L:List (List UInt8)) (b:Nat) (hx:m.ans[i]? =some x) (hb:x.data.b=(b:Int)) (hbl:b<=L.length) (hL:L.length<=1000) (N:Nat) (hN:b<N)
  (e6:p6= .i .i64 (i:Int)):
  Er9.ev S N [p0,p1,p2,m.pv,p4,p5,p6,p7,p8,Dq L]=some (.yld 2 [Dq ([42]::L.drop (L.length - b))]):=by
 subst e6;have hlt:Lf 1 [.s [42]]=some (Dq ([42]::(L.drop (L.length - b)).take 0)):=rfl;refine F6 b (fun j=>[Dq ([42]::(L.drop (L.length - b)).take j),.i .i64 ((L.length:Int) - (b:Int)+(j:Int))]) (fun _=> .yld 2 [Dq ([42]::L.drop (L.length - b))]) ?_ hN (fun j hj=> ?_) ?_
 .simp(disch:=omega)only[hlt,hx,hb,Eb,EVT,EVM,Dj,Ax,simprocAttr]
  try rfl
  try simp
 .left;refine⟨?_,rfl⟩;obtain⟨k,hk⟩:∃k:Nat,L.length - b=k:=⟨_,rfl⟩;have hkI:(L.length:Int) - (b:Int)+(j:Int)=((k+j:Nat):Int):=by omega
  have hkI2:(L.length:Int) - (b:Int)+((j+1:Nat):Int)=((k+j:Nat):Int)+1:=by omega
  rw[hk,hkI,hkI2];obtain⟨c,hc⟩:∃c,L[k+j]? =some c:=⟨L[k+j]'(by omega),B3 _⟩;have ht:(L.drop k).take (j+1)=(L.drop k).take j++[c]:=by rw[E3,Cr,hc];rfl
  have hlt:((k+j:Nat):Int)<(L.length:Int):=by omega
  have htl:((L.drop k).take j).length<=1000:=by rw[Cv,Cn];omega
  have he:[42]::((L.drop k).take j++[c])=([42]::(L.drop k).take j)++[c]:=rfl;rw[ht,he];have hgl:([42]::(L.drop k).take j:List (List UInt8)).length<=1001:=by rw[Cq];omega
  generalize ([42]::(L.drop k).take j:List (List UInt8))=g at*;generalize hz:k+j=z at*;simp(disch:=omega)only[i6,hc,hlt,Eb,EVT,EVM,Dj,Ax,simprocAttr]
 .refine⟨?_,rfl⟩;have e:(L.length:Int) - (b:Int)+(b:Int)=(L.length:Int):=by omega
  have ht:(L.drop (L.length - b)).take b=L.drop (L.length - b):=Fv (by rw[Cn];omega);rw[e,ht];simp(disch:=omega)only[i6,C2,Eb,EVT,EVM,Dj,Ax,simprocAttr]
def Bf2 (zone:List UInt8) (keys:List Dat) (s:SetR) (m:Msg) (pf:List Rec) (now:Int) (ha:AskOk zone keys) (hm:MsgOk m) (hs:SetW s) (hd:s.data.length<=1000) (hpl:pf.length<=1000) (hpw:∀r∈pf,r.wf):
  S Ew3 6 [.s zone,Dm keys,s.pv,m.pv,B8 pf,.i .i64 now]=some [.b (m.ans.any (ij zone keys now pf s))]:=by
 have hml:=hm.ans;have k1:=Jw s.name hs.name;have hll:=Fg s.name;have key:Fj9.ev S 2000 [.s zone,Dm keys,s.pv,m.pv,B8 pf,.i .i64 now]=some (if m.ans.any (ij zone keys now pf s)=true then .ret [.b true] else .yld 0 []):=by
  refine Df m.ans (fun i=>[.i .i64 (i:Int)]) (fun _ l=>if l.any (ij zone keys now pf s)=true then .ret [.b true] else .yld 0 []) rfl (by omega) (fun i x l hd2 hi hx=> ?_) ?_
  .have hil:(i:Int)<(m.ans.length:Int):=by omega
   have hxw:=hm.answ x (B6 hx);have k2:=P5 zone keys s x.data now ha hs (by omega) hxw.data;have k3:=Zq s x;have e:=Gq1 zone keys now pf s x;have ev:verR zone keys now s x=(sgnB s x && verB zone keys s x.data now):=rfl;rcases Bm (verR zone keys now s x) with hv|hv
   .obtain⟨b0,b1⟩:=Aj6 hv;have b2:=Cr9 s.name;rw[hv] at ev e;have g1:sgnB s x=true:=by rcases Bm (sgnB s x) with q|q;exact q;rw[q] at ev;cases ev
    have g2:verB zone keys s x.data now=true:=by rw[g1] at ev;exact ev.symm
    rw[g2] at k2;rw[g1] at k3;rw[F0] at e;obtain⟨b,hb⟩:∃b:Nat,x.data.b=(b:Int):=⟨x.data.b.toNat,by omega⟩;have hjs:joinS s.name (b:Int)=joinL (starL s.name b):=by unfold joinS;rw[Eg]
    have k4:=Am4 (starL s.name b) (j8 _ _) (by simp[starL]) (j9 _ _);rw[<-hjs] at k4;have k5:=Rb pf zone s.name (joinS s.name (b:Int)).1 hpw (by omega) ha.zoneL hs.name;rw[hb] at e;have k6:=fun p0 p1 p2 p4 p5 p7 p8=>Bf3 p0 p1 p2 p4 p5 (.i .i64 (i:Int)) p7 p8 m i x (lbl s.name) b hx hb (by omega) (by omega) 2000 (by omega) rfl;have e5:starL s.name b=[42]::(lbl s.name).drop ((lbl s.name).length - b):=rfl;rw[<-e5] at k6;generalize expandedN pf zone s.name (joinS s.name (b:Int)).1=ex at*;generalize joinS s.name (b:Int)=j at*;generalize starL s.name b=st at*;generalize lbl s.name=lk at*;cases ex with
    |true=>
     right;simp(disch:=omega)only[i6,hx,hil,k1,k2,k3,k4,k5,k6,Eb,EVT,EVM,Dj,Ax,simprocAttr];simp[e,Out.goes]
    |false=>
     left;refine⟨?_,by simp[e]⟩;simp(disch:=omega)only[i6,hx,hil,k1,k2,k3,k4,k5,k6,Eb,EVT,EVM,Dj,Ax,simprocAttr]
   .left;have e1:ij zone keys now pf s x=false:=by rw[e,hv];rfl
    refine⟨?_,by simp[e1]⟩;rw[hv] at ev;generalize verB zone keys s x.data now=v at*;generalize sgnB s x=g at*;cases g with
    |false=>
     simp(disch:=omega)only[i6,hx,hil,k3,Eb,EVT,EVM,Dj,Ax,simprocAttr]
    |true=>
     cases v with
     |true=>cases ev
     |false=>
      simp(disch:=omega)only[i6,hx,hil,k2,k3,Eb,EVT,EVM,Dj,Ax,simprocAttr]
  .simp(disch:=omega)only[i6,C2,Eb,EVT,EVM,Dj,Ax,simprocAttr];simp[Out.goes]
 refine If3 (N:=2000) rfl ?_;rcases Bm (m.ans.any (ij zone keys now pf s)) with hv|hv<;>rw[hv] at key ⊢<;>simp(disch:=omega)only[i6,key,Eb,EVT,EVM,Dj,Ax,simprocAttr]<;>simp
def abF (p:SetR->Bool):List SetR->Nat->Int
 |[],_=> -1
 |x::r,i=>if p x=true then(i:Int) else abF p r (i+1)
def abF_spec (p:SetR->Bool):∀(l:List SetR) (i:Nat),(abF p l i= -1∧l.filter p=[])∨∃j x,abF p l i=((i+j:Nat):Int)∧l[j]? =some x∧l.filter p=x::(l.drop (j+1)).filter p
 |[],i=> .inl ⟨rfl,rfl⟩
 |x::r,i=>by
  rcases Bm (p x) with h|h
  .right;exact⟨0,x,by simp[abF,h],rfl,by rw[C9 h];rfl⟩
  .rcases abF_spec p r (i+1) with⟨h1,h2⟩|⟨j,y,h1,h2,h3⟩
   .left;exact⟨by simp[abF,h,h1],by rw[D8 (by simp[h]),h2]⟩
   .right;refine⟨j+1,y,?_,h2,?_⟩
    .have:abF p (x::r) i=abF p r (i+1):=by simp[abF,h]
     rw[this,h1];congr 1;omega
    .rw[D8 (by simp[h]),h3];rfl
def Om (zone n:List UInt8) (ss:List SetR) (i:Nat) (hz:zone.length<=9223372036854775807) (hn:n.length<=9223372036854775807) (hl:ss.length<=1000) (hi:i<=ss.length) (hw:∀s∈ss,SetW s):
  S uz 4 [.s zone,.s n,Dh ss,.i .i64 (i:Int)]=some [.i .i64 (abF (Iq zone n) (ss.drop i) i)]:=by
 have key:Es9.ev S 2000 [.s zone,.s n,Dh ss,.i .i64 (i:Int)]=some (if abF (Iq zone n) (ss.drop i) i= -1 then .yld 0 [] else .ret [.i .i64 (abF (Iq zone n) (ss.drop i) i)]):=by
  refine Gj (fun a:Nat=>[.i .i64 (a:Int)]) (fun a=>if abF (Iq zone n) (ss.drop a) a= -1 then .yld 0 [] else .ret [.i .i64 (abF (Iq zone n) (ss.drop a) a)]) (fun a=>a<=ss.length) (fun a=>ss.length - a) i rfl hi (by omega) (fun a ha=> ?_);rcases Dl8 a ss.length with hal|hal
  .obtain⟨s,hs⟩:∃s,ss[a]? =some s:=⟨ss[a]'hal,B3 _⟩;have hd:ss.drop a=s::ss.drop (a+1):=by rw[Et hal];rw[B3 hal] at hs;injection hs with hs;rw[hs]
   have hsw:=hw s (B6 hs);have hil:(a:Int)<(ss.length:Int):=by omega
   have k1:=F5 s.name zone hsw.name hz;have k2:=F5 n s.name hn hsw.name;have e:Iq zone n s=(decide (s.typ=39) && decide (s.data.length=1) && under s.name zone && !decide (s.name=n) && under n s.name):=rfl;have no:Iq zone n s=false->abF (Iq zone n) (ss.drop (a+1)) (a+1)=abF (Iq zone n) (ss.drop a) a:=fun hf=>by rw[hd];simp[abF,hf]
   have yes:Iq zone n s=true->abF (Iq zone n) (ss.drop a) a=(a:Int):=fun hf=>by rw[hd];simp[abF,hf]
   generalize under s.name zone=u1 at*;generalize under n s.name=u2 at*;by_cases h1:s.typ=39
   .by_cases h2:(s.data.length:Int)=1
    .cases u1 with
     |false=>
      left;refine⟨a+1,?_,by omega,by omega,by simp only[no (by rw[e];simp)]⟩;simp(disch:=omega)only[bn,hs,hil,h1,h2,k1,Eb,EVT,EVM,Dj,Ax,simprocAttr]
     |true=>
      by_cases h3:n=s.name
      .left;refine⟨a+1,?_,by omega,by omega,by simp only[no (by rw[e];simp[h3])]⟩;simp(disch:=omega)only[bn,hs,hil,h1,h2,k1,h3,Eb,EVT,EVM,Dj,Ax,simprocAttr]
      .have h3':¬s.name=n:=fun q=>h3 q.symm;cases u2 with
       |false=>
        left;refine⟨a+1,?_,by omega,by omega,by simp only[no (by rw[e];simp)]⟩;simp(disch:=omega)only[bn,hs,hil,h1,h2,k1,k2,h3,Eb,EVT,EVM,Dj,Ax,simprocAttr]
       |true=>
        right;have hy:=yes (by rw[e];simp[h1,h3'];omega);have hn1:¬(a:Int)= -1:=by omega
        simp only[hy,if_neg hn1];simp(disch:=omega)only[bn,hs,hil,h1,h2,k1,k2,h3,Eb,EVT,EVM,Dj,Ax,simprocAttr];simp[Out.goes]
    .left;refine⟨a+1,?_,by omega,by omega,by simp only[no (by rw[e];simp;omega)]⟩;simp(disch:=omega)only[bn,hs,hil,h1,h2,Eb,EVT,EVM,Dj,Ax,simprocAttr]
   .left;refine⟨a+1,?_,by omega,by omega,by simp only[no (by rw[e];simp[h1])]⟩;simp(disch:=omega)only[bn,hs,hil,h1,Eb,EVT,EVM,Dj,Ax,simprocAttr]
  .right;obtain rfl:a=ss.length:=Nat.le_antisymm ha hal;have e:abF (Iq zone n) (ss.drop ss.length) ss.length= -1:=by rw[List.drop_length];rfl
   simp only[e,if_true];simp(disch:=omega)only[bn,C2,Eb,EVT,EVM,Dj,Ax,simprocAttr];simp[Out.goes]
 refine Iz6 (N:=2000) rfl ?_;generalize abF (Iq zone n) (ss.drop i) i=v at*;by_cases hv:v= -1
 .rw[if_pos hv] at key;simp(disch:=omega)only[bn,key,hv,Eb,EVT,EVM,Dj,Ax,simprocAttr]
 .rw[if_neg hv] at key;simp(disch:=omega)only[bn,key,Eb,EVT,EVM,Dj,Ax,simprocAttr]
def next24 {zone n:List UInt8} {ss:List SetR} (a:Nat) (ha:a<=ss.length):
  (abF (Iq zone n) (ss.drop a) a= -1∧(ss.drop a).filter (Iq zone n)=[])∨
  ∃k x,abF (Iq zone n) (ss.drop a) a=((k:Nat):Int)∧a<=k∧k<ss.length∧ss[k]? =some x∧(ss.drop a).filter (Iq zone n)=x::(ss.drop (k+1)).filter (Iq zone n):=by
 rcases abF_spec (Iq zone n) (ss.drop a) a with h|⟨j,x,h1,h2,h3⟩
 .exact .inl h
 .right;rw[Cr] at h2;refine⟨a+j,x,h1,by omega,(Br.1 h2).1,h2,?_⟩;rw[h3,Fy,G1]
def oz (zone:List UInt8) (s:SetR) (ss:List SetR) (hz:zone.length<=9223372036854775807) (hs:SetW s) (hne:s.data≠[]) (hl:ss.length<=1000) (hw:∀x∈ss,SetW x) (hn:∀x∈ss,x.data≠[]):
  S Ew2 3 [.s zone,s.pv,Dh ss]=some [.b (decide (s.typ=5) && decide (s.data.length=1) && (ss.filter (Iq zone s.name)).any (X7 s))]:=by
 obtain⟨ds,i0,hh,_⟩:=L8 hne;have k1:=Om zone s.name ss 0 hz hs.name hl (Dz _) hw;have key:Fj8.ev S 2000 [.s zone,s.pv,Dh ss,.i .i64 (abF (Iq zone s.name) (ss.drop 0) 0)]=some (if((ss.drop 0).filter (Iq zone s.name)).any (X7 s)=true then .ret [.b true] else .yld 0 []):=by
  refine Gj (fun a:Nat=>[.i .i64 (abF (Iq zone s.name) (ss.drop a) a)]) (fun a=>if((ss.drop a).filter (Iq zone s.name)).any (X7 s)=true then .ret [.b true] else .yld 0 []) (fun a=>a<=ss.length) (fun a=>ss.length - a) 0 rfl (Dz _) (by omega) (fun a ha=> ?_);rcases next24 (zone:=zone) (n:=s.name) a ha with⟨h1,h2⟩|⟨k,x,h1,h2,h3,h4,h5⟩
  .right;simp only[h1,h2];simp(disch:=omega)only[rh,Eb,EVT,EVM,Dj,Ax,simprocAttr];simp[Out.goes]
  .have hxw:=hw x (B6 h4);obtain⟨dx,j0,hj,hjm⟩:=L8 (hn x (B6 h4));have k2:=V1 s.name x.name dx.host hs.name hxw.name (hxw.data dx hjm).host;have k3:=Om zone s.name ss (k+1) hz hs.name hl h3 hw;have e:X7 s x=(decide ((replN s.name x.name dx.host).2=0) && decide ((replN s.name x.name dx.host).1=ds.host)):=by unfold X7;rw[hj,hh]
   generalize replN s.name x.name dx.host=rp at*;have hk3:((k+1:Nat):Int)=(k:Int)+1:=by omega
   rw[hk3] at k3;simp only[h1,h5];have no:X7 s x=false->(if((ss.drop (k+1)).filter (Iq zone s.name)).any (X7 s)=true then Out.ret [.b true] else .yld 0 [])=(if(x::(ss.drop (k+1)).filter (Iq zone s.name)).any (X7 s)=true then Out.ret [.b true] else .yld 0 []):=fun hf=>by rw[J2,hf,Hb]
   by_cases c1:rp.2=0
   .by_cases c2:rp.1=ds.host
    .right;have e1:X7 s x=true:=by rw[e];simp[c1,c2]
     simp(disch:=omega)only[rh,h4,i0,j0,k2,c1,c2,Eb,EVT,EVM,Dj,Ax,simprocAttr];simp[e1,Out.goes]
    .left;refine⟨k+1,?_,h3,by omega,no (by rw[e];simp[c2])⟩;simp(disch:=omega)only[rh,h4,i0,j0,k2,k3,c1,c2,Eb,EVT,EVM,Dj,Ax,simprocAttr]
   .left;refine⟨k+1,?_,h3,by omega,no (by rw[e];simp[c1])⟩;simp(disch:=omega)only[rh,h4,i0,j0,k2,k3,c1,Eb,EVT,EVM,Dj,Ax,simprocAttr]
 refine If2 (N:=2000) rfl ?_;rw[show ((0:Nat):Int)=0 from rfl] at k1;rw[show (ss.drop 0).filter (Iq zone s.name)=ss.filter (Iq zone s.name) from rfl] at key;by_cases h1:s.typ=5
 .by_cases h2:(s.data.length:Int)=1
  .have h2':s.data.length=1:=by omega
   rw[decide_eq_true h1,decide_eq_true h2',F0,F0];generalize abF (Iq zone s.name) (ss.drop 0) 0=v at*;rcases Bm ((ss.filter (Iq zone s.name)).any (X7 s)) with hv|hv<;>rw[hv] at key ⊢<;>simp(disch:=omega)only[rh,k1,key,h1,h2,Eb,EVT,EVM,Dj,Ax,simprocAttr]<;>simp
  .have h2':¬s.data.length=1:=by omega
   rw[decide_eq_false h2'];simp(disch:=omega)only[rh,h1,h2,Eb,EVT,EVM,Dj,Ax,simprocAttr]
   try simp
 .rw[decide_eq_false h1];simp(disch:=omega)only[rh,h1,Eb,EVT,EVM,Dj,Ax,simprocAttr]
  try simp
def jh (zone n:List UInt8) (ss:List SetR) (hz:zone.length<=9223372036854775807) (hnn:n.length<=9223372036854775807) (hl:ss.length<=1000) (hw:∀x∈ss,SetW x) (hn:∀x∈ss,x.data≠[]):
  S Ev9 3 [.s zone,.s n,Dh ss]=some [.b ((ss.filter (Iq zone n)).any (Xs n))]:=by
 have k1:=Om zone n ss 0 hz hnn hl (Dz _) hw;have key:Fj6.ev S 2000 [.s zone,.s n,Dh ss,.i .i64 (abF (Iq zone n) (ss.drop 0) 0)]=some (if((ss.drop 0).filter (Iq zone n)).any (Xs n)=true then .ret [.b true] else .yld 0 []):=by
  refine Gj (fun a:Nat=>[.i .i64 (abF (Iq zone n) (ss.drop a) a)]) (fun a=>if((ss.drop a).filter (Iq zone n)).any (Xs n)=true then .ret [.b true] else .yld 0 []) (fun a=>a<=ss.length) (fun a=>ss.length - a) 0 rfl (Dz _) (by omega) (fun a ha=> ?_);rcases next24 (zone:=zone) (n:=n) a ha with⟨h1,h2⟩|⟨k,x,h1,h2,h3,h4,h5⟩
  .right;simp only[h1,h2];simp(disch:=omega)only[Bb7,Eb,EVT,EVM,Dj,Ax,simprocAttr];simp[Out.goes]
  .have hxw:=hw x (B6 h4);obtain⟨dx,j0,hj,hjm⟩:=L8 (hn x (B6 h4));have k2:=V1 n x.name dx.host hnn hxw.name (hxw.data dx hjm).host;have k3:=Om zone n ss (k+1) hz hnn hl h3 hw;have hp:=Ak9 (n:=n) (t:=x.name) (to:=dx.host);have e:Xs n x=(decide ((replN n x.name dx.host).2≠0)||decide ((replN n x.name dx.host).1[0]? =some 42)):=by unfold Xs;rw[hj]
   generalize replN n x.name dx.host=rp at*;obtain⟨nm,er⟩:=rp;simp only at hp e k2;have hk3:((k+1:Nat):Int)=(k:Int)+1:=by omega
   rw[hk3] at k3;simp only[h1,h5];have no:Xs n x=false->(if((ss.drop (k+1)).filter (Iq zone n)).any (Xs n)=true then Out.ret [.b true] else .yld 0 [])=(if(x::(ss.drop (k+1)).filter (Iq zone n)).any (Xs n)=true then Out.ret [.b true] else .yld 0 []):=fun hf=>by rw[J2,hf,Hb]
   by_cases c1:er=0
   .obtain⟨b,r,hbr⟩:∃b r,nm=b::r:=by
     cases nm with
     |nil=>exact absurd rfl (hp c1)
     |cons b r=>exact⟨b,r,rfl⟩
    have hg:nm[0]? =some b:=by rw[hbr];rfl
    rw[hg] at e;by_cases c2:b=42
    .right;have c2':=(Dn8 b).2 c2;have e1:Xs n x=true:=by rw[e];simp[c2]
     simp(disch:=omega)only[Bb7,h4,j0,k2,c1,hg,c2',Eb,EVT,EVM,Dj,Ax,simprocAttr];simp[e1,Out.goes]
    .left;have c2':¬(b.toNat:Int)=42:=fun q=>c2 ((Dn8 b).1 q);refine⟨k+1,?_,h3,by omega,no (by rw[e];simp[c1,c2])⟩;simp(disch:=omega)only[Bb7,h4,j0,k2,k3,c1,hg,c2',Eb,EVT,EVM,Dj,Ax,simprocAttr]
   .right;have e1:Xs n x=true:=by rw[e];simp[c1]
    simp(disch:=omega)only[Bb7,h4,j0,k2,c1,Eb,EVT,EVM,Dj,Ax,simprocAttr];simp[e1,Out.goes]
 refine Id9 (N:=2000) rfl ?_;rw[show ((0:Nat):Int)=0 from rfl] at k1;rw[show (ss.drop 0).filter (Iq zone n)=ss.filter (Iq zone n) from rfl] at key;generalize abF (Iq zone n) (ss.drop 0) 0=v at*;rcases Bm ((ss.filter (Iq zone n)).any (Xs n)) with hv|hv<;>rw[hv] at key ⊢<;>simp(disch:=omega)only[Bb7,k1,key,Eb,EVT,EVM,Dj,Ax,simprocAttr]<;>simp
def gy (l:List Rec) (n:List UInt8) (t:Int) (hl:l.length<=1000):S Ev1 2 [B8 l,Ques.pv ⟨n,t⟩]=some [.b (ansB l n t)]:=by
 have key:Es8.ev S 2000 [B8 l,Ques.pv ⟨n,t⟩]=some (if ansB l n t=true then .ret [.b true] else .yld 0 []):=by
  unfold ansB;refine Df l (fun i=>[.i .i64 (i:Int)]) (fun _ l=>if l.any (Al1 n t)=true then .ret [.b true] else .yld 0 []) rfl (by omega) (fun i x l hd2 hi hx=> ?_) ?_
  .have hil:(i:Int)<(((‹List Rec› :List Rec)).length:Int)∨True:= .inr trivial;have e:Al1 n t x=(decide (x.name=n) && (decide (x.typ=t)||decide (t=255))):=rfl;by_cases h1:x.name=n
   .by_cases h2:x.typ=t
    .right;have e1:Al1 n t x=true:=by rw[e];simp[h1,h2]
     simp(disch:=omega)only[Am6,hx,h1,h2,Eb,EVT,EVM,Dj,Ax,simprocAttr];simp[e1,Out.goes]
    .by_cases h3:t=255
     .right;have e1:Al1 n t x=true:=by rw[e];simp[h1,h3]
      subst h3;simp(disch:=omega)only[Am6,hx,h1,h2,Eb,EVT,EVM,Dj,Ax,simprocAttr];simp[e1,Out.goes]
     .left;have e1:Al1 n t x=false:=by rw[e];simp[h2,h3]
      refine⟨?_,by simp[e1]⟩;simp(disch:=omega)only[Am6,hx,h1,h2,h3,Eb,EVT,EVM,Dj,Ax,simprocAttr]
   .left;have e1:Al1 n t x=false:=by rw[e];simp[h1]
    refine⟨?_,by simp[e1]⟩;simp(disch:=omega)only[Am6,hx,h1,Eb,EVT,EVM,Dj,Ax,simprocAttr]
  .simp(disch:=omega)only[Am6,C2,Eb,EVT,EVM,Dj,Ax,simprocAttr];simp[Out.goes]
 refine Iz4 (N:=2000) rfl ?_;rcases Bm (ansB l n t) with hv|hv<;>rw[hv] at key ⊢<;>simp(disch:=omega)only[Am6,key,Eb,EVT,EVM,Dj,Ax,simprocAttr]<;>simp
def Cr7 (m:Msg) (hm:MsgOk m):S Ew1 1 [m.pv]=some [Ques.pv ⟨(folM m.ans m.q.typ 8 m.q.name).1,m.q.typ⟩,.b (folM m.ans m.q.typ 8 m.q.name).2]:=by
 have hml:=hm.ans;have key:Fj7.ev S 2000 [m.pv]=some (.ret [Ques.pv ⟨(folM m.ans m.q.typ 8 m.q.name).1,m.q.typ⟩,.b (folM m.ans m.q.typ 8 m.q.name).2]):=by
  refine Gj (fun a:Nat×List UInt8=>[.i .i64 (a.1:Int),.s [],.i .i64 0,.s a.2]) (fun a=> .ret [Ques.pv ⟨(folM m.ans m.q.typ (8 - a.1) a.2).1,m.q.typ⟩,.b (folM m.ans m.q.typ (8 - a.1) a.2).2]) (fun a=>a.1<=8∧a.2.length<=9223372036854775807) (fun a=>9 - a.1) (0,m.q.name) ?_ ⟨Dz _,hm.qn⟩ (by show 9<2000;decide) (fun⟨i,n⟩ ⟨hi,hn⟩=> ?_)
  .simp(disch:=omega)only[Eb,EVT,EVM,Dj,Ax,simprocAttr]
   try rfl
  .simp only at hi hn ⊢;have k1:=gy m.ans n m.q.typ hml;have k2:=dl m.ans n 5 hm.answ (by omega);rw[Rt] at k2;have hsound:=R3 (l:=setsR m.ans) (n:=n) (t:=5);have ef:∀k,folM m.ans m.q.typ (k+1) n=if ansB m.ans n m.q.typ=true then(n,true) else if(setF (setsR m.ans) n 5).isSome=true then folM m.ans m.q.typ k (X6 ((setF (setsR m.ans) n 5).getD zS)) else(n,false):=fun k=>rfl
   have e0:folM m.ans m.q.typ 0 n=(n,ansB m.ans n m.q.typ):=rfl;generalize ansB m.ans n m.q.typ=ab at*;generalize (setF (setsR m.ans) n 5).isSome=ok at*;generalize (setF (setsR m.ans) n 5).getD zS=s at*;have hi9:(i:Int)<=8:=by omega
   rcases Dl8 i 8 with h8|h8
   .obtain⟨k,hk⟩:∃k,8 - i=k+1:=⟨7 - i,by omega⟩;have hk2:8 - (i+1)=k:=by omega
    have hi8:¬(i:Int)=8:=by omega
    rw[hk,ef k];cases ab with
    |true=>
     right;simp(disch:=omega)only[An0,k1,hi9,Eb,EVT,EVM,Dj,Ax,simprocAttr];simp[Out.goes]
    |false=>
     cases ok with
     |false=>
      right;simp(disch:=omega)only[An0,k1,k2,hi9,Eb,EVT,EVM,Dj,Ax,simprocAttr];simp[Out.goes]
     |true=>
      left;have hsm:=hsound rfl;obtain⟨hsw,_⟩:=Pv m.ans hm.answ s hsm;obtain⟨d,i0,hh,hdm⟩:=L8 (Uq _ s hsm);rw[hh];refine⟨(i+1,d.host),?_,⟨by simp only;omega,(hsw.data d hdm).host⟩,by simp only;omega,by simp only[hk2];rfl⟩;simp(disch:=omega)only[An0,k1,k2,hi8,hi9,i0,Eb,EVT,EVM,Dj,Ax,simprocAttr]
   .obtain rfl:i=8:=by omega
    rw[show 8 - 8=0 from rfl,e0];right;cases ab with
    |true=>
     simp(disch:=omega)only[An0,k1,hi9,Eb,EVT,EVM,Dj,Ax,simprocAttr];simp[Out.goes]
    |false=>
     cases ok<;>simp(disch:=omega)only[An0,k1,k2,hi9,Eb,EVT,EVM,Dj,Ax,simprocAttr]<;>simp[Out.goes]
 refine If1 (N:=2000) rfl ?_;simp(disch:=omega)only[An0,key,Eb,EVT,EVM,Dj,Ax,simprocAttr]
def lf (zone:List UInt8) (keys:List Dat) (m:Msg) (now:Int) (n:List UInt8) (ha:AskOk zone keys) (hm:MsgOk m) (hn:n.length<=9223372036854775807):
  S Ew0 6 [.s zone,Dm keys,m.pv,Ques.pv ⟨n,m.q.typ⟩,B8 (proofsN zone keys m now),.i .i64 now]=some [.b (nothB zone keys m now n)]:=by
 have hml:=hm.auth;have hpl:=Kb zone keys m now;have hpw:=Oj zone keys m now hm.authw;unfold nothB;obtain⟨hs,hsd⟩:=Cw2 (n:=zone) (t:=6) hm.authw;have k1:=dl m.auth zone 6 hm.authw (by omega);rw[Rt] at k1;generalize (setF (setsR m.auth) zone 6).isSome=ok at*;generalize (setF (setsR m.auth) zone 6).getD zS=s at*;have k2:=Mx zone keys s m.auth now ha hs (by omega) hm.authw (by omega);generalize provB zone keys now s m.auth=pb at*;generalize proofsN zone keys m now=pf at*;have k3:=zh pf zone n hpw (by omega) ha.zoneL hn;have k4:=By6 pf zone ⟨n,m.q.typ⟩ hpw (by omega) ha.zoneL hn;generalize absentN pf zone n=ab at*;generalize emptyN pf zone ⟨n,m.q.typ⟩=em at*;refine If0 (N:=1) rfl ?_;cases ok with
 |false=>
  simp(disch:=omega)only[Dm8,k1,Eb,EVT,EVM,Dj,Ax,simprocAttr]
  try simp
 |true=>
  cases pb with
  |false=>
   simp(disch:=omega)only[Dm8,k1,k2,Eb,EVT,EVM,Dj,Ax,simprocAttr]
   try simp
  |true=>
   by_cases h3:m.code=3
   .rw[if_pos h3];simp(disch:=omega)only[Dm8,k1,k2,k3,h3,Eb,EVT,EVM,Dj,Ax,simprocAttr]
    try simp
   .rw[if_neg h3];simp(disch:=omega)only[Dm8,k1,k2,k4,h3,Eb,EVT,EVM,Dj,Ax,simprocAttr]
    try simp
end Go.X.G
