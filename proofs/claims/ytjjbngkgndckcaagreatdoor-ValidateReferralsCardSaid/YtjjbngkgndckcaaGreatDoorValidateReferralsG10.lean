/- Merging in place: the library's function, the Rs. -/
import Derived.Test.YtjjbngkgndckcaaGreatDoorValidateReferralsG9
import Derived.Test.YtjjbngkgndckcaaGreatDoorValidateReferralsG6
import Derived.Test.YtjjbngkgndckcaaGreatDoorValidateReferralsG8
import Derived.Test.YtjjbngkgndckcaaGreatDoorValidateReferralsG7
open Bool renaming eq_false_or_eq_true->Bs,and_eq_true->B0,false_eq_true->B5,or_eq_true->Cz,not_eq_true'->D5,true_and->Es4
open Int renaming lt_irrefl->Dj,toNat_natCast->E9,le_refl->U9
open List renaming length_append->Bn,getElem?_eq_some_iff->Bp,getElem?_eq_getElem->B3,append_assoc->Cq,mem_of_getElem?->Cv,length_cons->Cw,length_take->Cy,getElem?_append_right->Cd,getElem?_append_left->Cg,mem_cons->Cl,length_nil->Cm,mem_singleton->Cn,getElem?_drop->Cp,eq_nil_of_length_eq_zero->Ct,length_pos_iff->C1,length_drop->C2,getElem?_map->C5,mem_append->C9,take_append_drop->Dy,all_eq_true->Dl,find?_cons_of_neg->Dr,mem_append_right->D1,nil_append->Ek,append_nil->Ev,filter_cons_of_pos->Ez,take_length->Ec,flatMap_cons->El,length_map->E6,take_add_one->E7,mem_of_mem_take->E8,mem_of_mem_drop->Gv,drop_drop->Gw,mem_filter->Gc,map_cons->Gd,drop_zero->G3,getElem_mem->Hw,find?_cons_of_pos->H4,length_set->Iy,getLast?_eq_getElem?->Ig,length_singleton->Ip,mem_cons_self->I5,mem_cons_of_mem->Jh,dropLast_concat_getLast->Kj,all_cons->K6,pairwise_append->Ns,mem_of_getLast?->Nt,filter_cons_of_neg->Rf,take_take->Ax3,take_left->Ax4,getElem?_set_ne->Ax5,mem_map->Cw8,foldl_cons->Gb2
open Nat renaming le_refl->B6,mul_le_mul_right->Cs,zero_le->Dc,le_trans->Eh,add_zero->Gl,min_eq_left->Zn,add_sub_cancel->Gd0
open Option renaming bind_some->Bt,map_some->Cb
set_option maxHeartbeats 1000000
set_option linter.defProp false
set_option linter.unusedVariables false
set_option linter.unusedSimpArgs false
namespace Go.X.G
open Go Go.X
def Ay:=And.intro xe<|And.intro EVP EV
def Ax:=And.intro EVC<|And.intro xe<|And.intro EVP EV
def Aw:=And.intro EVM<|And.intro EVC<|And.intro xe<|And.intro EVP EV
section
variable {g:Nat} {caps:List PV} {c:Rec->Rec->Int} {P:Rec->Prop}
def Gm3 (hC:Cmp g caps c P) (X A B Y:List Rec) (s:List Rec) (hsd:s=X++(A++(B++Y))) (a m b mid:Int) (h i0 j0:Nat) (ha:a=X.length) (hm:m=a+A.length) (hb:b=m+B.length) (hM:(a+b) / 2=mid) (hmid:mid=a+h)
  (h1:i0<=j0) (h2:j0<=A.length) (h3:j0<=h) (h4:h<=i0+B.length) (hs:s.length<=1000000) (hP:∀y∈s,P y) (N:Nat) (hN:A.length<N):
  ∃i:Nat,Bg1.ev S N [B9 s,.i .i64 a,.i .i64 m,.i .i64 b,.f g caps,.i .i64 (a+i0),.i .i64 (a+j0)]=some (.yld 0 [.i .i64 (a+i)])∧i0<=i∧i<=j0∧
   (∀x y,i≠i0->A[i - 1]? =some x->B[h - i]? =some y->¬c y x<0)∧∀x y,i≠j0->A[i]? =some x->B[h - 1 - i]? =some y->c y x<0:=by
 have hl:s.length=X.length+A.length+B.length+Y.length:=by rw[hsd];simp;omega
 have hA:∀k y,A[k]? =some y->s[X.length+k]? =some y:=fun k y hk=>by have:=(Bp.1 hk).1;rw[hsd,Cd (by omega),show X.length+k - X.length=k by omega,Cg this,hk]
 have hB:∀k y,B[k]? =some y->s[X.length+A.length+k]? =some y:=fun k y hk=>by have:=(Bp.1 hk).1;rw[hsd,Cd (by omega),Cd (by omega),show X.length+A.length+k - X.length - A.length=k by omega,Cg this,hk]
 have key:=I7 (fn:=S) (N:=N) (J:=[B9 s,.i .i64 a,.i .i64 m,.i .i64 b,.f g caps,.i .i64 (a+i0),.i .i64 (a+j0)]) (id:=1) (init:=[.v 5,.v 6]) (body:=md) (D:=Nat×Nat)
  (fun w=>[.i .i64 (a+w.1),.i .i64 (a+w.2)])
  (fun o=>∃i:Nat,o= .yld 0 [.i .i64 (a+i)]∧i0<=i∧i<=j0∧(∀x y,i≠i0->A[i - 1]? =some x->B[h - i]? =some y->¬c y x<0)∧∀x y,i≠j0->A[i]? =some x->B[h - 1 - i]? =some y->c y x<0)
  (fun w=>w.1<=w.2∧i0<=w.1∧w.2<=j0∧(∀x y,w.1≠i0->A[w.1 - 1]? =some x->B[h - w.1]? =some y->¬c y x<0)∧∀x y,w.2≠j0->A[w.2]? =some x->B[h - 1 - w.2]? =some y->c y x<0)
  (fun w=>w.2 - w.1) (i0,j0) ?_ ?_ (by simp only;omega) ?_
 .obtain⟨o,h1,p,rfl,h2⟩:=key;exact⟨p,h1,h2⟩
 .simp(disch:=omega)only[EVT,Aw,simprocAttr]
 .exact⟨h1,B6 _,B6 _,fun x y h0=>absurd rfl h0,fun x y h0=>absurd rfl h0⟩
 .rintro⟨p,q⟩ ⟨g1,g2,g3,g4,g5⟩;simp only at g1 g2 g3 g4 g5;by_cases hpq:p<q
  .left;have hk:(p+q) / 2<A.length:=by omega
   have hx:=B3 hk;have hk2:h - 1 - (p+q) / 2<B.length:=by omega
   have hy:=B3 hk2;generalize A[(p+q) / 2]=x at hx;generalize B[h - 1 - (p+q) / 2]=y at hy;have hsx:=hA _ x hx;have hsy:=hB _ y hy;have hPx:P x:=hP x (Cv hsx);have hPy:P y:=hP y (Cv hsy);have hc:=hC.ok y x hPy hPx;have hlt:a+(p:Int)<a+(q:Int):=by omega
   have e1:(a+(p:Int)+(a+(q:Int))) / 2=a+(((p+q) / 2:Nat):Int):=by omega
   have e2:(a+(((p+q) / 2:Nat):Int)).toNat=X.length+(p+q) / 2:=by omega
   have e3:(mid+m - 1 - (a+(((p+q) / 2:Nat):Int))).toNat=X.length+A.length+(h - 1 - (p+q) / 2):=by omega
   have hkh:(p+q) / 2<h:=by omega
   by_cases hcy:c y x<0
   .refine⟨(p,(p+q) / 2),?_,⟨by simp only;omega,g2,by simp only;omega,g4,fun u v _ hu hv=> ?_⟩,by simp only;omega⟩
    .simp only;generalize (p+q) / 2=k at*;simp(disch:=omega)only[Gx,hlt,F1,hM,e1,e2,e3,hsy,hsx,hc,hcy,EVT,Aw,simprocAttr]
    .simp only at hu hv;rw[hx] at hu;injection hu with hu;subst hu;rw[hy] at hv;injection hv with hv;subst hv;exact hcy
   .refine⟨((p+q) / 2+1,q),?_,⟨by simp only;omega,by simp only;omega,g3,fun u v _ hu hv=> ?_,g5⟩,by simp only;omega⟩
    .have e4:a+(((p+q) / 2+1:Nat):Int)=a+(((p+q) / 2:Nat):Int)+1:=by omega
     simp only[e4];generalize (p+q) / 2=k at*;simp(disch:=omega)only[Gx,hlt,F1,hM,e1,e2,e3,hsy,hsx,hc,hcy,EVT,Aw,simprocAttr]
    .simp only[Gd0] at hu hv;rw[show h - ((p+q) / 2+1)=h - 1 - (p+q) / 2 by omega] at hv;rw[hx] at hu;injection hu with hu;subst hu;rw[hy] at hv;injection hv with hv;subst hv;exact hcy
  .right;have e:p=q:=by omega
   subst e;have hlt:¬a+(p:Int)<a+(p:Int):=by omega
   refine⟨.yld 0 [.i .i64 (a+p)],?_,rfl,p,rfl,g2,g3,g4,g5⟩;simp(disch:=omega)only[Gx,hlt,EVT,Aw,simprocAttr]
def Ey3 {le:Rec->Rec->Bool} (ht:TP le) {B:List Rec} (hB:B.Pairwise fun x y=>le x y=true) (x:Rec) (p:Nat) (hp:p<=B.length) (h1:∀y,p≠0->B[p - 1]? =some y->le x y=false) (h2:∀y,B[p]? =some y->le x y=true):mrg le [x] B=B.take p++x::B.drop p:=by have e1:=Tq ht (A:=[x]) (B:=B) (by simp) hB 0 p (fun u v h=>absurd rfl h) (fun u v h0 hu hv=>by simp at hu;subst hu;exact h1 v h0 hv) (by simp) hp;have e2:=Tq ht (A:=[x]) (B:=B.drop p) (by simp) (hB.sublist (List.drop_sublist p B)) 1 0 (fun u v _ hu hv=>by simp at hu;subst hu;rw[Cp] at hv;exact h2 v hv) (fun u v h=>absurd rfl h) (by simp) (by simp);rw[e1];simp only[List.take_zero,G3,List.take_succ_cons,List.drop_succ_cons,Lp] at e2 ⊢;rw[e2];simp[mrg]
def Ey2 {le:Rec->Rec->Bool} (ht:TP le) {A:List Rec} (hA:A.Pairwise fun x y=>le x y=true) (x:Rec) (p:Nat) (hp:p<=A.length) (h1:∀y,p≠0->A[p - 1]? =some y->le y x=true) (h2:∀y,A[p]? =some y->le y x=false):mrg le A [x]=A.take p++x::A.drop p:=by have e1:=Tq ht (A:=A) (B:=[x]) hA (by simp) p 0 (fun u v h0 hu hv=>by simp at hv;subst hv;exact h1 u h0 hu) (fun u v h=>absurd rfl h) hp (by simp);have e2:=Tq ht (A:=A.drop p) (B:=[x]) (hA.sublist (List.drop_sublist p A)) (by simp) 0 1 (fun u v h=>absurd rfl h) (fun u v _ hu hv=>by simp at hv;subst hv;rw[Cp] at hu;exact h2 u hu) (by simp) (by simp);rw[e1];simp only[List.take_zero,G3,List.take_succ_cons,List.drop_succ_cons,Lp] at e2 ⊢;rw[e2];simp[mrg]
set_option maxHeartbeats 2000000 in
def Km (hC:Cmp g caps c P) (ht:TP (leC c)):∀(n:Nat) (X A B Y:List Rec) (a m b:Int),A.length+B.length<=n->A≠[]->B≠[]->(A.Pairwise fun x y=>leC c x y=true)->(B.Pairwise fun x y=>leC c x y=true)->
  a=X.length->m=a+A.length->b=m+B.length->(X++A++B++Y).length<=1000000->(∀y∈X++A++B++Y,P y)->
  S S5 1048581 [B9 (X++A++B++Y),.i .i64 a,.i .i64 m,.i .i64 b,.f g caps]=some [B9 (X++mrg (leC c) A B++Y)]
 |0,X,A,B,Y,a,m,b,hn,hA,_,_,_,_,_,_,_,_=>absurd (Ct (by omega)) hA
 |n+1,X,A,B,Y,a,m,b,hn,hA,hB,sA,sB,ha,hm,hb,hs,hP=>by
  have hA':0<A.length:=C1.2 hA;have hB':0<B.length:=C1.2 hB;have hs2:=hs;simp only[Bn] at hs2;obtain⟨N,hN⟩:∃N,N=A.length+B.length+1:=⟨_,rfl⟩;refine Fd1 (N:=N) rfl ?_;by_cases c1:A.length=1
  ·-- one ahead
   obtain⟨x,rfl⟩:=List.length_eq_one_iff.1 c1;have hsd:X++[x]++B++Y=X++x::(B++Y):=by simp
   obtain⟨p,k1,k2,k3,k4⟩:=Gm7 hC X B Y x (X++[x]++B++Y) hsd a m b ha (by simpa using hm) hb hs hP N (by omega);have k5:=Gm6 X B Y x (X++[x]++B++Y) hsd a m b .u p ha (by simpa using hm) k2 hs N (by omega) (.i .i64 m) (.i .i64 b) (.f g caps);have e:=Ey3 ht sB x p k2 (fun y h0 hy=>Cn1.2 (k3 y h0 hy)) (fun y hy=>Cn0.2 (k4 y hy));rw[e];have q1:m - a=1:=by simp at hm;omega
   generalize X++[x]++B++Y=s at*;generalize X++(List.take p B++x::List.drop p B)++Y=u at*;simp(disch:=omega)only[Gx,q1,k1,k5,EVT,Aw,simprocAttr]
  .by_cases c2:B.length=1
   .obtain⟨x,rfl⟩:=List.length_eq_one_iff.1 c2;have hsd:X++A++[x]++Y=X++(A++x::Y):=by simp
    obtain⟨p,k1,k2,k3,k4⟩:=Gm5 hC X A Y x (X++A++[x]++Y) hsd a m (.i .i64 b) ha hm hs hP N (by omega);have k5:=Gm4 X A Y x (X++A++[x]++Y) hsd a m p ha hm k2 hs N (by omega) (.i .i64 a) (.i .i64 b) (.f g caps);have e:=Ey2 ht sA x p k2 (fun y h0 hy=>Cn0.2 (k3 y h0 hy)) (fun y hy=>Cn1.2 (k4 y hy));rw[e];have q1:¬m - a=1:=by omega
    have q2:b - m=1:=by simp at hb;omega
    generalize X++A++[x]++Y=s at*;generalize X++(List.take p A++x::List.drop p A)++Y=u at*;simp(disch:=omega)only[Gx,q1,q2,k1,k5,EVT,Aw,simprocAttr]
   ·-- two parts of more
    have q1:¬m - a=1:=by omega
    have q2:¬b - m=1:=by omega
    obtain⟨h,hh⟩:∃h,h=(A.length+B.length) / 2:=⟨_,rfl⟩;obtain⟨mid,hM⟩:∃mid,(a+b) / 2=mid:=⟨_,rfl⟩;have hmid:mid=a+h:=by omega
    obtain⟨i0,j0,hc15,h1,h2,h3,h4,hi0,hj0⟩:∃i0 j0:Nat,Yr.ev S N [B9 (X++A++B++Y),.i .i64 a,.i .i64 m,.i .i64 b,.f g caps]=some (.yld 0 [.i .i64 (a+i0),.i .i64 (a+j0)])∧i0<=j0∧j0<=A.length∧j0<=h∧h<=i0+B.length∧(i0=0∨h - i0=B.length)∧(j0=h∨j0=A.length):=by
     by_cases hgt:h<A.length
     .refine⟨h - B.length,h,?_,by omega,by omega,by omega,by omega,by omega,.inl rfl⟩;have t1:mid<m:=by omega
      have t2:mid+m - b=a+((h - B.length:Nat):Int):=by omega
      rw[<-t2,<-hmid];generalize X++A++B++Y=s at*;simp(disch:=omega)only[Gx,F1,hM,t1,EVT,Aw,simprocAttr]
     .refine⟨0,A.length,?_,by omega,by omega,by omega,by omega,.inl rfl,.inr rfl⟩;have t1:¬mid<m:=by omega
      generalize X++A++B++Y=s at*;simp(disch:=omega)only[Gx,F1,hM,t1,hm,EVT,Aw,simprocAttr];simp
    have hsd:X++A++B++Y=X++(A++(B++Y)):=by simp
    obtain⟨i,k1,k2,k3,k4,k5⟩:=Gm3 hC X A B Y (X++A++B++Y) hsd a m b mid h i0 j0 ha hm hb hM hmid h1 h2 h3 h4 hs hP N (by omega);have cut:=Tq ht sA sB i (h - i) (fun x y h0 hx hy=>Cn0.2 (k4 x y (fun e=>by
      rcases hi0 with q|q
      .omega
      .have:=(Bp.1 hy).1;omega) hx hy)) (fun x y h0 hx hy=>Cn1.2 (k5 x y (fun e=>by
      rcases hj0 with q|q
      .omega
      .have:=(Bp.1 hx).1;omega) hx (by rw[show h - 1 - i=h - i - 1 by omega];exact hy))) (by omega) (by omega)
    have eA:A.take i++A.drop i=A:=Dy _ _;have eB:B.take (h - i)++B.drop (h - i)=B:=Dy _ _;have lA1:(A.take i).length=i:=by rw[Cy];omega
    have lA2:(A.drop i).length=A.length - i:=C2;have lB1:(B.take (h - i)).length=h - i:=by rw[Cy];omega
    have lB2:(B.drop (h - i)).length=B.length - (h - i):=C2;have sA1:=sA.sublist (List.take_sublist i A);have sA2:=sA.sublist (List.drop_sublist i A);have sB1:=sB.sublist (List.take_sublist (h - i) B);have sB2:=sB.sublist (List.drop_sublist (h - i) B);generalize A.take i=A1 at*;generalize A.drop i=A2 at*;generalize B.take (h - i)=B1 at*;generalize B.drop (h - i)=B2 at*;have e0:X++A++B++Y=X++A1++A2++B1++(B2++Y):=by rw[<-eA,<-eB];simp
    have mem1:∀y,y∈X++A1++B1++(A2++B2++Y)->P y:=fun y hy=>hP y (by rw[e0];simp only[C9] at hy ⊢;grind);have len1:(X++A1++B1++(A2++B2++Y)).length<=1000000:=by simp only[Bn] at hs2 ⊢;omega
    have lm1:=Tj (leC c) A1 B1;have mem2:∀y,y∈(X++mrg (leC c) A1 B1)++A2++B2++Y->P y:=fun y hy=>mem1 y (by simp only[C9,mrg_mem] at hy ⊢;grind)
    have len2:((X++mrg (leC c) A1 B1)++A2++B2++Y).length<=1000000:=by simp only[Bn,lm1] at hs2 ⊢;omega
    have s1:(T.blk 0 Yp O8).ev S N [B9 (X++A++B++Y),.i .i64 a,.i .i64 m,.i .i64 b,.f g caps,.i .i64 (a+i0),.i .i64 (a+j0),.i .i64 (a+i)]=
      O8.ev S N [B9 (X++A++B++Y),.i .i64 a,.i .i64 m,.i .i64 b,.f g caps,.i .i64 (a+i0),.i .i64 (a+j0),.i .i64 (a+i),B9 (X++A1++B1++(A2++B2++Y))]:=by
     by_cases t:A2=[]∨B1=[]
     .have t1:¬(a+(i:Int)<m∧m<mid+m - (a+i)):=by
       rcases t with t|t
       .rw[t] at lA2;simp at lA2;omega
       .rw[t] at lB1;simp at lB1;omega
      have e1:X++A++B++Y=X++A1++B1++(A2++B2++Y):=by rw[e0];rcases t with t|t<;>subst t<;>simp
      rw[<-e1];generalize X++A++B++Y=s at*;by_cases t2:a+(i:Int)<m
      .have t3:¬m<mid+m - (a+i):=fun q=>t1 ⟨t2,q⟩;simp(disch:=omega)only[Gx,F1,hM,t2,t3,EVT,Aw,simprocAttr]
      .simp(disch:=omega)only[Gx,F1,hM,t2,EVT,Aw,simprocAttr]
     .have t':A2≠[]∧B1≠[]:=by grind
      have p1:=C1.2 t'.1;have p2:=C1.2 t'.2;have hr:=As7 (X++A1) A2 B1 (B2++Y) (a+i) m (mid+m - (a+i)) g caps (by simp only[Bn];omega) (by simp only[Bn];omega) (by simp only[Bn];omega) t'.1 t'.2 (by rw[<-e0];exact hs);have t2:a+(i:Int)<m:=by omega
      have t3:m<mid+m - (a+i):=by omega
      rw[<-e0] at hr;have e1:X++A1++B1++A2++(B2++Y)=X++A1++B1++(A2++B2++Y):=by simp
      rw[e1] at hr;generalize X++A1++B1++(A2++B2++Y)=s1 at*;generalize X++A++B++Y=s at*;simp(disch:=omega)only[Gx,F1,hM,t2,t3,hr,Gm,Qr,EVT,Aw,simprocAttr]
    have s2:(T.blk 0 Yn O9).ev S N [B9 (X++A++B++Y),.i .i64 a,.i .i64 m,.i .i64 b,.f g caps,.i .i64 (a+i0),.i .i64 (a+j0),.i .i64 (a+i),B9 (X++A1++B1++(A2++B2++Y))]=
      O9.ev S N [B9 (X++A++B++Y),.i .i64 a,.i .i64 m,.i .i64 b,.f g caps,.i .i64 (a+i0),.i .i64 (a+j0),.i .i64 (a+i),B9 (X++A1++B1++(A2++B2++Y)),B9 ((X++mrg (leC c) A1 B1)++A2++B2++Y)]:=by
     by_cases t:A1=[]∨B1=[]
     .have t1:¬(a<a+(i:Int)∧a+(i:Int)<mid):=by
       rcases t with t|t
       .rw[t] at lA1;simp at lA1;omega
       .rw[t] at lB1;simp at lB1;omega
      have e1:X++A1++B1++(A2++B2++Y)=(X++mrg (leC c) A1 B1)++A2++B2++Y:=by rcases t with t|t<;>subst t<;>simp[mrg,Lp]
      rw[<-e1];generalize X++A1++B1++(A2++B2++Y)=s1 at*;generalize X++A++B++Y=s at*;by_cases t2:a<a+(i:Int)
      .have t3:¬a+(i:Int)<mid:=fun q=>t1 ⟨t2,q⟩;simp(disch:=omega)only[Gx,F1,hM,t2,t3,EVT,Aw,simprocAttr]
      .simp(disch:=omega)only[Gx,F1,hM,t2,EVT,Aw,simprocAttr]
     .have t':A1≠[]∧B1≠[]:=by grind
      have p1:=C1.2 t'.1;have p2:=C1.2 t'.2;have hr:=Km hC ht n X A1 B1 (A2++B2++Y) a (a+i) mid (by omega) t'.1 t'.2 sA1 sB1 ha (by omega) (by omega) len1 mem1;have t2:a<a+(i:Int):=by omega
      have t3:a+(i:Int)<mid:=by omega
      have e1:X++mrg (leC c) A1 B1++(A2++B2++Y)=(X++mrg (leC c) A1 B1)++A2++B2++Y:=by simp
      rw[e1] at hr;generalize (X++mrg (leC c) A1 B1)++A2++B2++Y=s2 at*;generalize X++A1++B1++(A2++B2++Y)=s1 at*;generalize X++A++B++Y=s at*;simp(disch:=omega)only[Gx,F1,hM,t2,t3,hr,Gm,Qr,EVT,Aw,simprocAttr]
    have s3:O9.ev S N [B9 (X++A++B++Y),.i .i64 a,.i .i64 m,.i .i64 b,.f g caps,.i .i64 (a+i0),.i .i64 (a+j0),.i .i64 (a+i),B9 (X++A1++B1++(A2++B2++Y)),B9 ((X++mrg (leC c) A1 B1)++A2++B2++Y)]=
      some (.ret [B9 (X++mrg (leC c) A B++Y)]):=by
     have e9:X++mrg (leC c) A B++Y=(X++mrg (leC c) A1 B1)++mrg (leC c) A2 B2++Y:=by rw[cut];simp
     rw[e9];by_cases t:A2=[]∨B2=[]
     .have t1:¬(mid<mid+m - (a+i)∧mid+m - (a+(i:Int))<b):=by
       rcases t with t|t
       .rw[t] at lA2;simp at lA2;omega
       .rw[t] at lB2;simp at lB2;omega
      have e1:(X++mrg (leC c) A1 B1)++A2++B2++Y=(X++mrg (leC c) A1 B1)++mrg (leC c) A2 B2++Y:=by rcases t with t|t<;>subst t<;>simp[mrg,Lp]
      rw[<-e1];generalize (X++mrg (leC c) A1 B1)++A2++B2++Y=s2 at*;generalize X++A1++B1++(A2++B2++Y)=s1 at*;generalize X++A++B++Y=s at*;by_cases t2:mid<mid+m - (a+(i:Int))
      .have t3:¬mid+m - (a+(i:Int))<b:=fun q=>t1 ⟨t2,q⟩;simp(disch:=omega)only[Gx,F1,hM,t2,t3,EVT,Aw,simprocAttr]
      .simp(disch:=omega)only[Gx,F1,hM,t2,EVT,Aw,simprocAttr]
     .have t':A2≠[]∧B2≠[]:=by grind
      have p1:=C1.2 t'.1;have p2:=C1.2 t'.2;have hr:=Km hC ht n (X++mrg (leC c) A1 B1) A2 B2 Y mid (mid+m - (a+i)) b (by omega) t'.1 t'.2 sA2 sB2 (by simp only[Bn,lm1];omega) (by omega) (by omega) len2 mem2;have t2:mid<mid+m - (a+(i:Int)):=by omega
      have t3:mid+m - (a+(i:Int))<b:=by omega
      generalize (X++mrg (leC c) A1 B1)++mrg (leC c) A2 B2++Y=s3 at*;generalize (X++mrg (leC c) A1 B1)++A2++B2++Y=s2 at*;generalize X++A1++B1++(A2++B2++Y)=s1 at*;generalize X++A++B++Y=s at*;simp(disch:=omega)only[Gx,F1,hM,t2,t3,hr,Gm,Qr,EVT,Aw,simprocAttr]
    have f2:O8.ev S N [B9 (X++A++B++Y),.i .i64 a,.i .i64 m,.i .i64 b,.f g caps,.i .i64 (a+i0),.i .i64 (a+j0),.i .i64 (a+i),B9 (X++A1++B1++(A2++B2++Y))]=some (.ret [B9 (X++mrg (leC c) A B++Y)]):=s2.trans s3;have f1:=s1.trans f2;clear s1 s2 s3 f2 mem1 mem2 cut k4 k5;generalize X++mrg (leC c) A B++Y=s3 at*;generalize X++A++B++Y=s at*;simp(disch:=omega)only[Gx,q1,q2,F1,hM,hc15,k1,f1,EVT,Aw,simprocAttr]
end
section
variable {g:Nat} {caps:List PV} {c:Rec->Rec->Int} {P:Rec->Prop}
def Hk5 (hC:Cmp g caps c P) (L L':List Rec) (i:Nat) (x y:Rec) (g0:L[i]? =some y) (g1:L[i+1]? =some x) (sw:(L.set (i+1) y).set i x=L') (k e:Int) (hk:k=i+1) (he:e<k) (he2:0<=e) (hx:P x) (hy:P y) (hlt:c x y<0) (hL:L.length<=1000000) (w0 w2 w4 w5:PV) (N:Nat):
  Mw.ev S N [w0,.i .i64 e,w2,.f g caps,w4,w5,.i .i64 k,B9 L]=some (.yld 3 [.i .i64 (k - 1),B9 L']):=by
 have hi:=(Bp.1 g1).1;have ti0:(k - 1).toNat=i:=by omega
 have ti1:k.toNat=i+1:=by omega
 have g2:(L.set (i+1) y)[i]? =some y:=by rw[Ax5 (by omega)];exact g0
 have hc:=hC.ok x y hx hy;simp(disch:=first|omega|(rw[Iy];omega))only[P8,G6,Mk,he,ti0,ti1,g0,g1,g2,sw,hc,hlt,EVT,Aw,simprocAttr]
def Bn5 (hC:Cmp g caps c P) (L:List Rec) (i:Nat) (x y:Rec) (g0:L[i]? =some y) (g1:L[i+1]? =some x) (k e:Int) (hk:k=i+1) (he:e<k) (hx:P x) (hy:P y) (hlt:¬c x y<0) (hL:L.length<=1000000) (w0 w2 w4 w5:PV) (N:Nat):
  Mw.ev S N [w0,.i .i64 e,w2,.f g caps,w4,w5,.i .i64 k,B9 L]=some (.yld 2 [B9 L]):=by
 have hi:=(Bp.1 g1).1;have ti0:(k - 1).toNat=i:=by omega
 have ti1:k.toNat=i+1:=by omega
 have hc:=hC.ok x y hx hy;simp(disch:=omega)only[P8,G6,Mk,he,ti0,ti1,g0,g1,hc,hlt,EVT,Aw,simprocAttr]
def Cp1 (L:List Rec) (k e:Int) (he:¬e<k) (w0 w2 w3 w4 w5:PV) (N:Nat):
  Mw.ev S N [w0,.i .i64 e,w2,w3,w4,w5,.i .i64 k,B9 L]=some (.yld 2 [B9 L]):=by
 simp(disch:=omega)only[P8,G6,Mk,he,EVT,Aw,simprocAttr]
def Hk4 (hC:Cmp g caps c P) (ht:TP (leC c)) (X R Y:List Rec) (x:Rec) (hR:R.Pairwise fun a b=>leC c a b=true) (hP:∀y∈X++R++x::Y,P y) (hs:(X++R++x::Y).length<=1000000) (a k:Int) (ha:a=X.length) (hk:k=a+R.length) (w0 w2:PV) (N:Nat) (hN:R.length<N):
  ∃R1 R2,R=R1++R2∧(∀y∈R1,leC c y x=true)∧(∀y∈R2,leC c y x=false)∧
   Bg9.ev S N [w0,.i .i64 a,w2,.f g caps,.i .i64 k,B9 (X++R++x::Y)]=some (.yld 2 [B9 (X++(R1++x::R2)++Y)]):=by
 have hx:P x:=hP x (by simp);have hs2:=hs;simp only[Bn,Cw] at hs2;have key:=I7 (fn:=S) (N:=N) (J:=[w0,.i .i64 a,w2,.f g caps,.i .i64 k,B9 (X++R++x::Y)]) (id:=3) (init:=[.v 4,.v 5]) (body:=Mw) (D:=List Rec×List Rec)
  (fun w=>[.i .i64 (a+w.1.length),B9 (X++w.1++x::(w.2++Y))])
  (fun o=>∃R1 R2,R=R1++R2∧(∀y∈R1,leC c y x=true)∧(∀y∈R2,leC c y x=false)∧o= .yld 2 [B9 (X++(R1++x::R2)++Y)])
  (fun w=>R=w.1++w.2∧∀y∈w.2,leC c y x=false) (fun w=>w.1.length) (R,[]) ?_ ⟨by simp,by simp⟩ hN ?_
 .obtain⟨o,h1,R1,R2,h2,h3,h4,rfl⟩:=key;exact⟨R1,R2,h2,h3,h4,h1⟩
 .subst hk;simp only[Ek];generalize X++R++x::Y=s at*;simp(disch:=omega)only[EVT,Aw,simprocAttr]
 .rintro⟨R1,R2⟩ ⟨h1,h2⟩;simp only at h1 h2;have hlen:=congrArg List.length h1;simp only[Bn] at hlen;rcases List.eq_nil_or_concat R1 with rfl|⟨R0,y,rfl⟩
  .right;refine⟨_,Cp1 _ _ a (by simp) _ _ _ _ _ N,rfl,[],R2,h1,by simp,h2,?_⟩;simp
  .rw[List.concat_eq_append] at*;simp only[Bn,Cw,Cm] at hlen;have hy:P y:=hP y (by rw[h1];simp);have lP:(X++R0).length=X.length+R0.length:=Bn;have g0:=d7 (X++R0) (x::(R2++Y)) y;have g1:=kz (X++R0) (R2++Y) y x;rw[lP] at g0 g1;have e0:X++(R0++[y])++x::(R2++Y)=X++R0++y::x::(R2++Y):=by simp
   have lL:(X++R0++y::x::(R2++Y)).length<=1000000:=by simp only[Bn,Cw];omega
   by_cases hlt:c x y<0
   .left;have sw0:((X++R0++y::x::(R2++Y)).set (X.length+R0.length+1) y).set (X.length+R0.length) x=X++R0++x::(y::R2++Y):=by rw[<-lP,List.set_comm _ _ (by omega)];exact Ek0 (X++R0) (R2++Y) y x
    refine⟨(R0,y::R2),?_,⟨by simp only;rw[h1];simp,fun w hw=> ?_⟩,by simp⟩
    .have:=Hk5 hC _ _ (X.length+R0.length) x y g0 g1 sw0 (a+((R0++[y]).length:Nat)) a (by simp;omega) (by simp;omega) (by omega) hx hy hlt lL w0 w2 (.i .i64 k) (B9 (X++R++x::Y)) N;have e1:a+((R0++[y]).length:Nat) - 1=a+(R0.length:Int):=by simp;omega
     rw[e1] at this;show Mw.ev S N [w0,.i .i64 a,w2,.f g caps,.i .i64 k,B9 (X++R++x::Y),.i .i64 (a+((R0++[y]).length:Nat)),B9 (X++(R0++[y])++x::(R2++Y))]=_;rw[e0];exact this
    .rcases Cl.1 hw with rfl|hw
     .exact Cn1.2 hlt
     .exact h2 w hw
   .right;have hle:leC c y x=true:=Cn0.2 hlt;refine⟨_,?_,rfl,R0++[y],R2,h1,il ht (by rw[h1] at hR;exact(Ns.1 hR).1) hle,h2,rfl⟩;have:=Bn5 hC _ (X.length+R0.length) x y g0 g1 (a+((R0++[y]).length:Nat)) a (by simp;omega) (by simp;omega) hx hy hlt lL w0 w2 (.i .i64 k) (B9 (X++R++x::Y)) N;show Mw.ev S N [w0,.i .i64 a,w2,.f g caps,.i .i64 k,B9 (X++R++x::Y),.i .i64 (a+((R0++[y]).length:Nat)),B9 (X++(R0++[y])++x::(R2++Y))]=_;rw[e0,this,<-e0];simp
def V8 (hC:Cmp g caps c P) (ht:TP (leC c)) (X A Y:List Rec) (a b:Int) (ha:a=X.length) (hb:b=a+A.length) (hP:∀y∈X++A++Y,P y) (hs:(X++A++Y).length<=1000000):
  ∃R,Stab (leC c) R A∧R.length=A.length∧S cr 1048580 [B9 (X++A++Y),.i .i64 a,.i .i64 b,.f g caps]=some [B9 (X++R++Y)]:=by
 have hs2:=hs;simp only[Bn] at hs2;cases A with
 |nil=>
  refine⟨[],Rj _,rfl,?_⟩;refine Dx1 (N:=2) rfl ?_;simp only[Cm] at hb;have h1:¬a+1<b:=by omega
  have key:j5.ev S 2 [B9 (X++[]++Y),.i .i64 a,.i .i64 b,.f g caps]=some (.yld 0 [B9 (X++[]++Y)]):=by
   generalize X++[]++Y=s at*;refine F0 0 (fun _=>[.i .i64 (a+1),B9 s]) (fun _=> .yld 0 [B9 s]) ?_ (by omega) (fun i hi=>absurd hi (by omega)) ⟨?_,rfl⟩
   .simp(disch:=omega)only[EVT,Aw,simprocAttr]
   .simp(disch:=omega)only[P8,G6,Mk,h1,EVT,Aw,simprocAttr]
  generalize X++[]++Y=s at*;simp(disch:=omega)only[P8,G6,Mk,key,EVT,Aw,simprocAttr]
 |cons x0 A=>
  obtain⟨N,hN⟩:∃N,N=A.length+3:=⟨_,rfl⟩;simp only[Cw] at hb hs2;have key:=I7 (fn:=S) (N:=N) (J:=[B9 (X++x0::A++Y),.i .i64 a,.i .i64 b,.f g caps]) (id:=1) (init:=[.bin .add (.v 1) (.c (.i .i64 1)),.v 0]) (body:=Y3) (D:=List Rec×List Rec×List Rec)
   (fun w=>[.i .i64 (a+w.1.length),B9 (X++w.1++(w.2.2++Y))])
   (fun o=>∃R,Stab (leC c) R (x0::A)∧R.length=(x0::A).length∧o= .yld 0 [B9 (X++R++Y)])
   (fun w=>x0::A=w.2.1++w.2.2∧Stab (leC c) w.1 w.2.1∧w.1.length=w.2.1.length) (fun w=>w.2.2.length) ([x0],[x0],A) ?_ ⟨rfl,ib _ _,rfl⟩ (by simp only;omega) ?_
  .obtain⟨o,h1,R,h2,h3,rfl⟩:=key;refine⟨R,h2,h3,?_⟩;refine Dx1 (N:=N) rfl ?_;have h4:j5.ev S N [B9 (X++x0::A++Y),.i .i64 a,.i .i64 b,.f g caps]=_:=h1;clear h1;generalize X++x0::A++Y=s at*;generalize X++R++Y=u at*;simp(disch:=omega)only[P8,G6,Mk,h4,EVT,Aw,simprocAttr]
  .simp only[Cw,Cm];have e:X++[x0]++(A++Y)=X++x0::A++Y:=by simp
   rw[e];have e1:a+((0+1:Nat):Int)=a+1:=by omega
   rw[e1];generalize X++x0::A++Y=s at*;simp(disch:=omega)only[EVT,Aw,simprocAttr]
  .rintro⟨R,Bf,Z⟩ ⟨h1,h2,h3⟩;simp only at h1 h2 h3;have hlen:=congrArg List.length h1;simp only[Bn,Cw] at hlen;cases Z with
   |nil=>
    right;rw[Ev] at h1;subst h1;refine⟨_,?_,rfl,R,h2,h3,rfl⟩;have hlt:¬a+(R.length:Int)<b:=by simp only[Cw] at h3;omega
    simp only[Ek];generalize X++x0::A++Y=s at*;have hu:(X++R++Y).length<=1000000:=by simp only[Bn];omega
    generalize X++R++Y=u at*;simp(disch:=omega)only[P8,G6,Mk,hlt,EVT,Aw,simprocAttr]
   |cons x Z=>
    left;simp only[Cw] at hlen;have hmem:∀y∈X++R++x::(Z++Y),P y:=fun y hy=>hP y (by
     rw[h1];have:=h2.mem ht y;simp only[C9,Cl] at hy ⊢
     grind)
    have hlen2:(X++R++x::(Z++Y)).length<=1000000:=by simp only[Bn,Cw];omega
    obtain⟨R1,R2,rfl,k1,k2,k3⟩:=Hk4 hC ht X R (Z++Y) x h2.sorted hmem hlen2 a (a+R.length) ha rfl (B9 (X++x0::A++Y)) (.i .i64 b) N (by omega);refine⟨(R1++x::R2,Bf++[x],Z),?_,⟨by simp only;rw[h1];simp,Cz3 ht h2 k1 k2,by simp at h3 ⊢;omega⟩,by simp⟩;have e1:a+((R1++x::R2).length:Nat)=a+((R1++R2).length:Nat)+1:=by simp;omega
    have hlt:a+((R1++R2).length:Nat)<b:=by omega
    show Y3.ev S N [B9 (X++x0::A++Y),.i .i64 a,.i .i64 b,.f g caps,.i .i64 (a+((R1++R2).length:Nat)),B9 (X++(R1++R2)++x::(Z++Y))]=some (.yld 1 [.i .i64 (a+((R1++x::R2).length:Nat)),B9 (X++(R1++x::R2)++(Z++Y))]);rw[e1];have hb2:(R1++R2).length<=1000000:=by simp only[Bn] at hlen2 ⊢;omega
    generalize (R1++R2).length=n at*;generalize X++(R1++R2)++x::(Z++Y)=s1 at*;generalize X++(R1++x::R2)++(Z++Y)=s2 at*;generalize X++x0::A++Y=s at*;simp(disch:=omega)only[P8,G6,Mk,hlt,k3,EVT,Aw,simprocAttr]
end
def fc {D:Type} {le:D->D->Bool} (ht:TP le) {bs:Nat} {Y LY:List D} (h:Blk le bs Y LY) (hl:Y.length<=2*bs) (hb:bs<Y.length):Stab le (mrg le (Y.take bs) (Y.drop bs)) LY:=by have h1:=h.head;have h2:=(h.tail).all (by rw[C2];omega);have:=Stab.mrg ht h1 h2;rwa[Dy] at this
def Blk.pre {D:Type} {le:D->D->Bool} {bs k:Nat} {Y LY:List D} (h:Blk le bs Y LY):Blk le bs (Y.take (k*bs)) (LY.take (k*bs)):=by
 refine⟨by simp[h.len],fun j=> ?_⟩;rw[List.drop_take,List.drop_take,Ax3,Ax3];by_cases hj:j<k
 .have e:(j+1)*bs<=k*bs:=Cs _ hj;rw[Nat.succ_mul] at e;rw[Zn (by omega)];exact h.st j
 .have e:k*bs<=j*bs:=Cs _ (by omega);rw[show k*bs - j*bs=0 by omega,Nat.min_eq_right (by omega),List.take_zero,List.take_zero];exact Rj le
section
variable {g:Nat} {caps:List PV} {c:Rec->Rec->Int} {P:Rec->Prop}
def Gm1 (hC:Cmp g caps c P) (ht:TP (leC c)) (l:List Rec) (hP:∀y∈l,P y) (hs:l.length<=1000000) (N:Nat) (hN:l.length+2<N):
  ∃(X LX Y:List Rec) (q:Nat),Bl3.ev S N [B9 l,.i .i64 l.length,.f g caps]=some (.yld 0 [.i .i64 X.length,B9 (X++Y)])∧l=LX++Y∧X.length=q*20∧Y.length<20∧Blk (leC c) 20 X LX∧∀y∈X++Y,P y:=by
 have key:=I7 (fn:=S) (N:=N) (J:=[B9 l,.i .i64 l.length,.f g caps]) (id:=1) (init:=[.c (.i .i64 0),.c (.i .i64 20),.v 0]) (body:=nq) (D:=List Rec×List Rec×List Rec×Nat)
  (fun w=>[.i .i64 (w.1.length:Int),.i .i64 ((w.1.length:Int)+20),B9 (w.1++w.2.2.1)])
  (fun o=>∃(X LX Y:List Rec) (q:Nat),o= .yld 0 [.i .i64 X.length,B9 (X++Y)]∧l=LX++Y∧X.length=q*20∧Y.length<20∧Blk (leC c) 20 X LX∧∀y∈X++Y,P y)
  (fun w=>l=w.2.1++w.2.2.1∧w.1.length=w.2.2.2*20∧Blk (leC c) 20 w.1 w.2.1∧∀y∈w.1++w.2.2.1,P y) (fun w=>w.2.2.1.length) ([],[],l,0) ?_ ⟨rfl,by simp,Blk.nil _ _,by simpa using hP⟩ (by simp only;omega) ?_
 .obtain⟨o,h1,X,LX,Y,q,rfl,h2⟩:=key;exact⟨X,LX,Y,q,h1,h2⟩
 .simp(disch:=omega)only[EVT,Aw,simprocAttr]
  try simp
 .rintro⟨X,LX,Y,q⟩ ⟨h1,h2,h3,h4⟩;simp only at h1 h2 h3 h4;have hlen:=congrArg List.length h1;simp only[Bn] at hlen;have hXL:=h3.len;by_cases hge:20<=Y.length
  .left;have eY:Y.take 20++Y.drop 20=Y:=Dy _ _;have l1:(Y.take 20).length=20:=by rw[Cy];omega
   have l2:(Y.drop 20).length=Y.length - 20:=C2;have eXY:X++Y.take 20++Y.drop 20=X++Y:=by rw[Cq,eY]
   obtain⟨R,k1,k2,k3⟩:=V8 hC ht X (Y.take 20) (Y.drop 20) (X.length:Int) ((X.length:Int)+20) rfl (by omega) (by rw[eXY];exact h4) (by rw[eXY,Bn];omega);rw[eXY] at k3;refine⟨(X++R,LX++Y.take 20,Y.drop 20,q+1),?_,⟨by simp only;rw[h1,Cq,eY],by simp only[Bn];omega,Blk.app h2 h3 (Blk.one k1 k2 (by omega)),fun y hy=>h4 y ?_⟩,by simp only;omega⟩
   .have e1:((X++R).length:Int)=(X.length:Int)+20:=by simp only[Bn];omega
    have hge':(X.length:Int)+20<=(l.length:Int):=by omega
    simp only;rw[e1];generalize X++R++Y.drop 20=s1 at*;generalize X++Y=s0 at*;simp(disch:=omega)only[P9,hge',k3,Gm,Qr,EVT,Aw,simprocAttr]
   .have:=k1.mem ht y;simp only[C9] at hy;rcases hy with(hy|hy)|hy
    .simp[hy]
    .exact D1 _ (E8 (this.1 hy))
    .exact D1 _ (Gv hy)
  .right;have hge':¬(X.length:Int)+20<=(l.length:Int):=by omega
   refine⟨.yld 0 [.i .i64 X.length,B9 (X++Y)],?_,rfl,X,LX,Y,q,rfl,h1,h2,by omega,h3,h4⟩;simp only;generalize X++Y=s0 at*;simp(disch:=omega)only[P9,hge',EVT,Aw,simprocAttr]
def Gm0 (hC:Cmp g caps c P) (ht:TP (leC c)) (l r:List Rec) (bs:Nat) (hbs:0<bs) (hbs2:bs<l.length) (hr:Blk (leC c) bs r l) (hP:∀y∈r,P y) (hs:l.length<=1000000) (w0:PV) (w3 w4 w5:PV) (N:Nat) (hN:l.length+2<N):
  ∃(X LX Y LY:List Rec) (q:Nat),Bg4.ev S N [w0,.i .i64 l.length,.f g caps,w3,w4,w5,.i .i64 bs,B9 r]=some (.yld 2 [.i .i64 X.length,B9 (X++Y)])∧l=LX++LY∧X.length=q*(2*bs)∧Y.length<2*bs∧Blk (leC c) (2*bs) X LX∧Blk (leC c) bs Y LY∧∀y∈X++Y,P y:=by
 have key:=I7 (fn:=S) (N:=N) (J:=[w0,.i .i64 l.length,.f g caps,w3,w4,w5,.i .i64 bs,B9 r]) (id:=3) (init:=[.c (.i .i64 0),.bin .mul (.c (.i .i64 2)) (.v 6),.v 7]) (body:=ml) (D:=(List Rec×List Rec)×(List Rec×List Rec)×Nat)
  (fun w=>[.i .i64 (w.1.1.length:Int),.i .i64 ((w.1.1.length:Int)+2*bs),B9 (w.1.1++w.2.1.1)])
  (fun o=>∃(X LX Y LY:List Rec) (q:Nat),o= .yld 2 [.i .i64 X.length,B9 (X++Y)]∧l=LX++LY∧X.length=q*(2*bs)∧Y.length<2*bs∧Blk (leC c) (2*bs) X LX∧Blk (leC c) bs Y LY∧∀y∈X++Y,P y)
  (fun w=>l=w.1.2++w.2.1.2∧w.1.1.length=w.2.2*(2*bs)∧Blk (leC c) (2*bs) w.1.1 w.1.2∧Blk (leC c) bs w.2.1.1 w.2.1.2∧∀y∈w.1.1++w.2.1.1,P y) (fun w=>w.2.1.1.length) (([],[]),(r,l),0) ?_ ⟨rfl,by simp,Blk.nil _ _,hr,by simpa using hP⟩ (by have:=hr.len;simp only;omega) ?_
 .obtain⟨o,h1,X,LX,Y,LY,q,rfl,h2⟩:=key;exact⟨X,LX,Y,LY,q,h1,h2⟩
 .simp(disch:=omega)only[EVT,Aw,simprocAttr];simp
 .rintro⟨⟨X,LX⟩,⟨Y,LY⟩,q⟩ ⟨h1,h2,h3,h4,h5⟩;simp only at h1 h2 h3 h4 h5;have hlen:=congrArg List.length h1;simp only[Bn] at hlen;have hXL:=h3.len;have hYL:=h4.len;by_cases hge:2*bs<=Y.length
  .left;have eY:Y.take (2*bs)++Y.drop (2*bs)=Y:=Dy _ _;have l1:(Y.take (2*bs)).length=2*bs:=by rw[Cy];omega
   have l2:(Y.drop (2*bs)).length=Y.length - 2*bs:=C2;have hp:=h4.pre (k:=2);have hz:Blk (leC c) bs (Y.drop (2*bs)) (LY.drop (2*bs)):=by have:=h4.tail.tail;rwa[Gw,Gw,show bs+bs=2*bs by omega] at this
   have hst:=fc ht hp (by omega) (by omega);have sA:((Y.take (2*bs)).take bs).Pairwise fun x y=>leC c x y=true:=hp.head.sorted;have sB:((Y.take (2*bs)).drop bs).Pairwise fun x y=>leC c x y=true:=(hp.tail.all (by rw[C2];omega)).sorted;have lA:((Y.take (2*bs)).take bs).length=bs:=by rw[Cy];omega
   have lB:((Y.take (2*bs)).drop bs).length=bs:=by rw[C2];omega
   have eAB:(Y.take (2*bs)).take bs++(Y.take (2*bs)).drop bs=Y.take (2*bs):=Dy _ _;generalize (Y.take (2*bs)).take bs=A at*;generalize (Y.take (2*bs)).drop bs=B at*;have eXY:X++A++B++Y.drop (2*bs)=X++Y:=by rw[Cq X,eAB,Cq,eY]
   have hm:=Km hC ht (A.length+B.length) X A B (Y.drop (2*bs)) (X.length:Int) ((X.length:Int)+bs) ((X.length:Int)+2*bs) (B6 _) (by intro e;rw[e] at lA;simp at lA;omega) (by intro e;rw[e] at lB;simp at lB;omega) sA sB rfl (by omega) (by omega) (by rw[eXY,Bn];omega) (by rw[eXY];exact h5);rw[eXY] at hm;have lM:=Tj (leC c) A B;have eL:LY.take (2*bs)++LY.drop (2*bs)=LY:=Dy _ _;refine⟨((X++mrg (leC c) A B,LX++LY.take (2*bs)),(Y.drop (2*bs),LY.drop (2*bs)),q+1),?_,⟨by simp only;rw[h1,Cq,eL],by simp only[Bn];rw[Nat.succ_mul];omega,Blk.app h2 h3 (Blk.one hst (by rw[lM,Cy];omega) (by omega)),hz,fun y hy=>h5 y ?_⟩,by simp only;omega⟩
   .have e1:((X++mrg (leC c) A B).length:Int)=(X.length:Int)+2*bs:=by simp only[Bn];omega
    have hge':(X.length:Int)+2*(bs:Int)<=(l.length:Int):=by omega
    simp only;rw[e1];generalize X++mrg (leC c) A B++Y.drop (2*bs)=s1 at*;generalize X++Y=s0 at*;simp(disch:=omega)only[P9,hge',hm,Gm,Qr,EVT,Aw,simprocAttr]
   .rw[<-eXY];simp only[C9,mrg_mem] at hy ⊢
    grind
  .right;have hge':¬(X.length:Int)+2*(bs:Int)<=(l.length:Int):=by omega
   refine⟨.yld 2 [.i .i64 X.length,B9 (X++Y)],?_,rfl,X,LX,Y,LY,q,rfl,h1,h2,by omega,h3,h4,h5⟩;simp only;generalize X++Y=s0 at*;simp(disch:=omega)only[P9,hge',EVT,Aw,simprocAttr]
def Gm2 (hC:Cmp g caps c P) (ht:TP (leC c)) (l r:List Rec) (bs:Nat) (hbs:0<bs) (hbs2:bs<l.length) (hr:Blk (leC c) bs r l) (hP:∀y∈r,P y) (hs:l.length<=1000000) (w0 w3 w4 w5:PV) (N:Nat) (hN:l.length+2<N):
  ∃r',Blk (leC c) (2*bs) r' l∧(∀y∈r',P y)∧Y2.ev S N [w0,.i .i64 l.length,.f g caps,w3,w4,w5,.i .i64 bs,B9 r]=some (.yld 1 [.i .i64 ((2*bs:Nat):Int),B9 r']):=by
 obtain⟨X,LX,Y,LY,q,k,h1,h2,h3,h4,h5,h6⟩:=Gm0 hC ht l r bs hbs hbs2 hr hP hs w0 w3 w4 w5 N hN;have hlen:=congrArg List.length h1;simp only[Bn] at hlen;have hXL:=h4.len;have hYL:=h5.len;have hlt:(bs:Int)<(l.length:Int):=by omega
 have e2:((2*bs:Nat):Int)=(bs:Int)*2:=by omega
 rw[e2];by_cases hge:bs<Y.length
 .have eY:Y.take bs++Y.drop bs=Y:=Dy _ _;have hst:=fc ht h5 (by omega) hge;have sA:=h5.head.sorted;have sB:=(h5.tail.all (by rw[C2];omega)).sorted;have lA:(Y.take bs).length=bs:=by rw[Cy];omega
  have lB:(Y.drop bs).length=Y.length - bs:=C2;generalize Y.take bs=A at*;generalize Y.drop bs=B at*;have eXY:X++A++B++[]=X++Y:=by rw[Ev,Cq,eY]
  have hm:=Km hC ht (A.length+B.length) X A B [] (X.length:Int) ((X.length:Int)+bs) (l.length:Int) (B6 _) (by intro e;rw[e] at lA;simp at lA;omega) (by intro e;rw[e] at lB;simp at lB;omega) sA sB rfl (by omega) (by omega) (by rw[eXY,Bn];omega) (by rw[eXY];exact h6);rw[eXY,Ev] at hm;have lM:=Tj (leC c) A B;refine⟨X++mrg (leC c) A B,by rw[h1];exact Blk.app h2 h4 (Blk.one hst (by omega) (by omega)),fun y hy=>h6 y (by
   rw[<-eXY];simp only[C9,mrg_mem] at hy ⊢
   grind),?_⟩
  have hge':(X.length:Int)+(bs:Int)<(l.length:Int):=by omega
  generalize X++mrg (leC c) A B=s1 at*;generalize X++Y=s0 at*;simp(disch:=omega)only[P9,hlt,hge',k,hm,Gm,Qr,EVT,Aw,simprocAttr]
 .refine⟨X++Y,by rw[h1];exact Blk.app h2 h4 (Blk.one (h5.all (by omega)) hYL (by omega)),h6,?_⟩;have hge':¬(X.length:Int)+(bs:Int)<(l.length:Int):=by omega
  generalize X++Y=s0 at*;simp(disch:=omega)only[P9,hlt,hge',k,EVT,Aw,simprocAttr]
def Ap5 (hC:Cmp g caps c P) (ht:TP (leC c)) (l:List Rec) (hP:∀y∈l,P y) (hs:l.length<=1000000):
  ∃r,Stab (leC c) r l∧r.length=l.length∧S rz 1048579 [B9 l,.i .i64 l.length,.f g caps]=some [B9 r]:=by
 obtain⟨N,hN⟩:∃N,N=l.length+3:=⟨_,rfl⟩;obtain⟨X,LX,Y,q,k0,h1,h2,h3,h4,h5⟩:=Gm1 hC ht l hP hs N (by omega);have hlen:=congrArg List.length h1;simp only[Bn] at hlen;have hXL:=h4.len;obtain⟨R,i1,i2,i3⟩:=V8 hC ht X Y [] (X.length:Int) (l.length:Int) rfl (by omega) (by simpa using h5) (by simp;omega);simp only[Ev] at i3;have hB:Blk (leC c) 20 (X++R) l:=by rw[h1];exact Blk.app h2 h4 (Blk.one i1 i2 (by omega))
 have hP':∀y∈X++R,P y:=fun y hy=>h5 y (by
  have:=i1.mem ht y;simp only[C9] at hy ⊢
  grind)
 have key:=I7 (fn:=S) (N:=N) (J:=[B9 l,.i .i64 l.length,.f g caps,.i .i64 X.length,B9 (X++Y),B9 (X++R)]) (id:=1) (init:=[.c (.i .i64 20),.v 5]) (body:=Y2) (D:=Nat×List Rec)
  (fun w=>[.i .i64 (w.1:Int),B9 w.2])
  (fun o=>∃r,Stab (leC c) r l∧r.length=l.length∧o= .yld 0 [B9 r])
  (fun w=>0<w.1∧Blk (leC c) w.1 w.2 l∧∀y∈w.2,P y) (fun w=>l.length - w.1) (20,X++R) ?_ ⟨by simp,hB,hP'⟩ (by simp only;omega) ?_
 .obtain⟨o,k1,r,k2,k3,rfl⟩:=key;refine⟨r,k2,k3,?_⟩;refine Ff8 (N:=N) rfl ?_;have k4:Bh2.ev S N [B9 l,.i .i64 l.length,.f g caps,.i .i64 X.length,B9 (X++Y),B9 (X++R)]=_:=k1;clear k1;generalize X++Y=s0 at*;generalize X++R=s1 at*;simp(disch:=omega)only[P9,k0,i3,k4,Gm,Qr,EVT,Aw,simprocAttr]
 .generalize X++Y=s0 at*;generalize X++R=s1 at*;simp(disch:=omega)only[EVT,Aw,simprocAttr]
 .rintro⟨bs,r⟩ ⟨g1,g2,g3⟩;simp only at g1 g2 g3;have hr:=g2.len;by_cases hlt:bs<l.length
  .left;obtain⟨r',k1,k2,k3⟩:=Gm2 hC ht l r bs g1 hlt g2 g3 hs (B9 l) (.i .i64 X.length) (B9 (X++Y)) (B9 (X++R)) N (by omega);exact⟨(2*bs,r'),k3,⟨by simp only;omega,k1,k2⟩,by simp only;omega⟩
  .right;have hlt':¬(bs:Int)<(l.length:Int):=by omega
   refine⟨.yld 0 [B9 r],?_,rfl,r,g2.all (by omega),hr,rfl⟩;generalize X++Y=s0 at*;generalize X++R=s1 at*;simp(disch:=omega)only[P9,hlt',EVT,Aw,simprocAttr]
def Y5 (hC:Cmp g caps c P) (ht:TP (leC c)) (l:List Rec) (hP:∀y∈l,P y) (hs:l.length<=1000000):
  ∃r,Stab (leC c) r l∧r.length=l.length∧S s7 1048578 [B9 l,.f g caps]=some [B9 r]:=by
 obtain⟨r,h1,h2,h3⟩:=Ap5 hC ht l hP hs;refine⟨r,h1,h2,?_⟩;refine Fm7 (N:=1) rfl ?_;simp(disch:=omega)only[Fk0,h3,Gm,Qr,EVT,Aw,simprocAttr]
end
def ob (l:List Rec) (g:Nat) (caps:List PV) (eq2:Rec->Rec->Bool) (h:∀x∈l,∀y∈l,S g 2 (x.pv::y.pv::caps)=some [.b (eq2 x y)]) (hl:l.length<=1000000):S s6 1048578 [B9 l,.f g caps]=some [B9 (cpt eq2 l)]:=by
 refine Fm5 (N:=l.length+2) rfl ?_;by_cases h2:(l.length:Int)<2
 .have e:cpt eq2 l=l:=by
   match l,h2 with
   |[],_=>rfl
   |[x],_=>rfl
   |_::_::_,h=>simp at h;omega
  rw[e];simp(disch:=omega)only[N3,h2,EVT,Aw,simprocAttr]
 ·-- the inner Hb, from a place where two neighbours are equal
  have inner:∀k:Nat,1<=k->k<l.length->cpt eq2 (l.take (k+1))=l.take k->∃s:List Rec,s.length=l.length∧s.take (cpt eq2 l).length=cpt eq2 l∧Bh4.ev S (l.length+2) [B9 l,.f g caps,.i .i64 (k:Int),B9 l,.b true]=some (.yld 2 [.i .i64 ((cpt eq2 l).length:Int),B9 s]):=by
   intro k hk1 hk hcp;have key:=I7 (fn:=S) (N:=l.length+2) (J:=[B9 l,.f g caps,.i .i64 (k:Int),B9 l,.b true]) (id:=3) (init:=[(.v 2),(.c (.i .i64 (1))),(.v 3)]) (body:=mr) (D:=Nat×Nat×List Rec)
    (fun a=>[.i .i64 (a.1:Int),.i .i64 (a.2.1:Int),B9 a.2.2])
    (fun o=>∃s:List Rec,s.length=l.length∧s.take (cpt eq2 l).length=cpt eq2 l∧o= .yld 2 [.i .i64 ((cpt eq2 l).length:Int),B9 s])
    (fun a=>1<=a.2.1∧k+a.2.1<=l.length∧a.1<k+a.2.1∧a.2.2.length=l.length∧a.2.2.take a.1=cpt eq2 (l.take (k+a.2.1))∧(cpt eq2 (l.take (k+a.2.1))).length=a.1∧a.2.2.drop (k+a.2.1 - 1)=l.drop (k+a.2.1 - 1))
    (fun a=>l.length - a.2.1) (k,1,l) (by simp(disch:=omega)only[EVT,Aw,simprocAttr])
    ⟨by simp,by simp;omega,by simp,rfl,by simp only;rw[hcp],by simp only;rw[hcp,Cy];omega,rfl⟩ (by simp only;omega) ?_
   .obtain⟨o,h3,s,h4,h5,rfl⟩:=key;exact⟨s,h4,h5,h3⟩
   .rintro⟨i,j,s⟩ ⟨a1,a2,a3,a4,a5,a6,a7⟩;simp only at a1 a2 a3 a4 a5 a6 a7;by_cases hj:k+j<l.length
    .left;have c1:s[k+j]? =l[k+j]? :=by have:=congrArg (fun q=>q[1]?) a7;simp only[Cp] at this;rwa[show k+j - 1+1=k+j by omega] at this
     have c0:s[k+j - 1]? =l[k+j - 1]? :=by have:=congrArg (fun q=>q[0]?) a7;simpa only[Cp,Gl] using this
     have g1:l[k+j]? =some (l[k+j]'hj):=B3 hj;have g0:l[k+j - 1]? =some (l[k+j - 1]'(by omega)):=B3 (by omega);have tk:l.take (k+(j+1))=l.take (k+j)++[l[k+j]'hj]:=by rw[show k+(j+1)=(k+j)+1 by omega,E7,g1];rfl
     have ne:l.take (k+j)≠[]:=by intro h;have:=congrArg List.length h;rw[Cy,Cm] at this;omega
     have gl:(l.take (k+j)).getLast ne=l[k+j - 1]'(by omega):=by rw[List.getLast_eq_getElem];simp only[List.getElem_take,Cy];congr 1;omega
     have cs:=Yf eq2 (l[k+j]'hj) (l.take (k+j)) ne;rw[<-tk,gl] at cs;have hc:=h (l[k+j]'hj) (Hw _) (l[k+j - 1]'(by omega)) (Hw _);generalize l[k+j]'hj=x at*;generalize l[k+j - 1]'(by omega)=y at*;have hjj:(j:Int)<(s.length:Int) - (k:Int):=by omega
     have i1:Ky 16 (B9 s) (.i .i64 ((k:Int)+(j:Int)))=some x.pv:=by rw[Oh _ _ _ (by omega),show ((k:Int)+(j:Int)).toNat=k+j by omega,c1,g1];rfl
     have i0:Ky 16 (B9 s) (.i .i64 ((k:Int)+((j:Int) - 1)))=some y.pv:=by rw[Oh _ _ _ (by omega),show ((k:Int)+((j:Int) - 1)).toNat=k+j - 1 by omega,c0,g0];rfl
     have ls:Kv 16 (B9 s) (.i .i64 (k:Int)) (.i .i64 (s.length:Int))=some (B9 (s.drop k)):=by rw[Mp _ _ _ _ _ (by omega) (by omega) (by omega)];simp
     have e1:(s.drop k)[j]? =some x:=by rw[Cp,c1,g1]
     have e0:(s.drop k)[j - 1]? =some y:=by rw[Cp,show k+(j - 1)=k+j - 1 by omega,c0,g0]
     have si:∃w,s[i]? =some w:=⟨_,B3 (by omega)⟩;obtain⟨w,si⟩:=si;have ej:((j:Int) - 1).toNat=j - 1:=by omega
     by_cases hxy:eq2 x y=true
     .refine⟨(i,j+1,s),?_,⟨by simp,by simp only;omega,by simp only;omega,a4,?_,?_,?_⟩,by simp only;omega⟩
      .simp(disch:=omega)only[N3,hjj,i1,i0,ls,e1,e0,ej,hc,hxy,EVT,Aw,simprocAttr]
      .simp only;rw[cs,a5];simp[hxy]
      .simp only;rw[cs,Bn,a6];simp[hxy]
      .simp only;rw[show k+(j+1) - 1=(k+j - 1)+1 by omega,<-Gw,<-Gw,a7]
     .refine⟨(i+1,j+1,s.set i x),?_,⟨by simp,by simp only;omega,by simp only;omega,by simpa using a4,?_,?_,?_⟩,by simp only;omega⟩
      .simp(disch:=omega)only[N3,hjj,i1,i0,ls,e1,e0,ej,si,hc,hxy,EVT,Aw,simprocAttr]
      .simp only;rw[cs,E7,List.getElem?_set_self (by omega),List.take_set_of_le (by omega),a5];simp[hxy]
      .simp only;rw[cs,Bn,a6];simp[hxy]
      .simp only;rw[show k+(j+1) - 1=(k+j - 1)+1 by omega,List.drop_set_of_lt (by omega),<-Gw,<-Gw,a7]
    .right;have ek:k+j=l.length:=by omega
     rw[ek,Ec] at a5 a6;have hjj:¬(j:Int)<(s.length:Int) - (k:Int):=by omega
     refine⟨.yld 2 [.i .i64 (i:Int),B9 s],?_,rfl,s,a4,by rw[a6];exact a5,by rw[a6]⟩;simp(disch:=omega)only[N3,hjj,EVT,Aw,simprocAttr]
  have key:Bm6.ev S (l.length+2) [B9 l,.f g caps]=some (if cpt eq2 l=l then .yld 0 [B9 l] else .ret [B9 (cpt eq2 l)]):=by
   have:=I7 (fn:=S) (N:=l.length+2) (J:=[B9 l,.f g caps]) (id:=1) (init:=[(.c (.i .i64 (1))),(.v 0)]) (body:=nw) (D:=Nat)
    (fun k=>[.i .i64 (k:Int),B9 l]) (fun o=>o=if cpt eq2 l=l then .yld 0 [B9 l] else .ret [B9 (cpt eq2 l)])
    (fun k=>1<=k∧k<=l.length∧cpt eq2 (l.take k)=l.take k) (fun k=>l.length - k) 1 (by simp(disch:=omega)only[EVT,Aw,simprocAttr])
    ⟨B6 1,by omega,by cases l with
     |nil=>simp at h2
     |cons x r=>rfl⟩ (by omega) ?_
   .obtain⟨o,h3,h4⟩:=this;rw[<-h4];exact h3
   .rintro k ⟨k1,k2,k3⟩;by_cases hk:k<l.length
    .have g1:l[k]? =some l[k]:=B3 hk;have g0:l[k - 1]? =some (l[k - 1]'(by omega)):=B3 (by omega);have tk:l.take (k+1)=l.take k++[l[k]]:=by rw[E7,g1];rfl
     have ne:l.take k≠[]:=by intro h;have:=congrArg List.length h;rw[Cy,Cm] at this;omega
     have gl:(l.take k).getLast ne=l[k - 1]'(by omega):=by rw[List.getLast_eq_getElem];simp only[List.getElem_take,Cy];congr 1;omega
     have cs:=Yf eq2 l[k] (l.take k) ne;rw[<-tk,gl,k3] at cs;have hkk:(k:Int)<(l.length:Int):=by omega
     have i1:Ky 16 (B9 l) (.i .i64 (k:Int))=some (l[k]).pv:=by rw[Oh _ _ _ (by omega),show ((k:Int)).toNat=k by omega,g1];rfl
     have i0:Ky 16 (B9 l) (.i .i64 ((k:Int) - 1))=some (l[k - 1]'(by omega)).pv:=by rw[Oh _ _ _ (by omega),show ((k:Int) - 1).toNat=k - 1 by omega,g0];rfl
     have hc:=h l[k] (Hw _) (l[k - 1]'(by omega)) (Hw _);by_cases hxy:eq2 l[k] (l[k - 1]'(by omega))=true
     .right;have cs':cpt eq2 (l.take (k+1))=l.take k:=by rw[cs];simp[hxy]
      obtain⟨s,s1,s2,s3⟩:=inner k k1 hk cs';have hlt:cpt eq2 l≠l:=by
       intro h;have q:(cpt eq2 l).length<=(cpt eq2 (l.take (k+1))).length+(l.drop (k+1)).length:=by
        have:∀(b a:List Rec),a≠[]->(cpt eq2 (a++b)).length<=(cpt eq2 a).length+b.length:=by
         intro b
         induction b with
         |nil=>intro a _;simp
         |cons x r ih=>
          intro a ha;have h1:=ih (a++[x]) (by simp);rw[Yf _ _ _ ha] at h1;rw[show a++x::r=a++[x]++r by simp];refine Eh h1 ?_;rw[Bn];split<;>simp<;>omega
        have h3:=this (l.drop (k+1)) (l.take (k+1)) (by intro h;have:=congrArg List.length h;rw[Cy,Cm] at this;omega);rwa[Dy] at h3
       rw[h,cs',Cy,C2] at q;omega
      have hlen:=Eg5 eq2 l;refine⟨.ret [B9 (cpt eq2 l)],?_,rfl,by rw[if_neg hlt]⟩;generalize cpt eq2 l=fl at*;have ls:Kv 16 (B9 l) (.i .i64 (k:Int)) (.i .i64 (l.length:Int))=some (B9 (l.drop k)):=by rw[Mp _ _ _ _ _ (by omega) (by omega) (by omega)];simp
      have hsl1:Kv 16 (B9 s) (.i .i64 ((fl.length:Nat):Int)) (.i .i64 (s.length:Int))=some (B9 (s.drop fl.length)):=by rw[Mp _ _ _ _ _ (by omega) (by omega) (by omega)];simp
      have hsl2:Kv 16 (B9 s) (.i .i64 0) (.i .i64 ((fl.length:Nat):Int))=some (B9 fl):=by rw[Mp _ _ _ _ _ (by omega) (by omega) (by omega)];simp[s2]
      have hrep:Ll 16 (.i .i64 ((s.length:Int) - (fl.length:Int))) Ax8=some (B9 (List.replicate (s.length - fl.length) zr)):=by rw[Cb9 _ (by omega) (by omega)];congr 3;omega
      have happ:I9 16 (B9 fl) (B9 (List.replicate (s.length - fl.length) zr))=some (B9 (fl++List.replicate (s.length - fl.length) zr)):=Rc _ _ (by simp;omega);have hsl3:Kv 16 (B9 (fl++List.replicate (s.length - fl.length) zr)) (.i .i64 0) (.i .i64 ((fl.length:Nat):Int))=some (B9 fl):=by rw[Mp _ _ _ _ _ (by omega) (by omega) (by simp;omega)];simp
      simp(disch:=omega)only[N3,hkk,i1,i0,hc,hxy,ls,s3,hsl1,hsl2,hrep,happ,hsl3,EVT,Aw,simprocAttr]
     .left;refine⟨k+1,?_,⟨by omega,by omega,?_⟩,by omega⟩
      .simp(disch:=omega)only[N3,hkk,i1,i0,hc,hxy,EVT,Aw,simprocAttr]
      .rw[cs,tk];simp[hxy]
    .right;have e:k=l.length:=by omega
     subst e;rw[Ec] at k3;refine⟨_,?_,?_,rfl⟩
     .rw[if_pos k3];simp(disch:=omega)only[N3,EVT,Aw,simprocAttr]
     .rw[if_pos k3];rfl
  by_cases hh:cpt eq2 l=l
  .rw[if_pos hh] at key;rw[hh];simp(disch:=omega)only[N3,h2,key,EVT,Aw,simprocAttr]
  .rw[if_neg hh] at key;simp(disch:=omega)only[N3,h2,key,EVT,Aw,simprocAttr]
def Cv1 (r:Rec) (h:r.wf):S Ch2 1 [r.pv]=some [.b (Zk r)]:=by
 refine Gn4 (N:=1) rfl ?_;have g:r.name.length<=9223372036854775807:=h.name;have h1:=Dq r.name g;have h2:=D8 r.typ;have h3:=Pm r.typ r.data h.data;unfold Zk;by_cases k0:0<=r.ttl<;>by_cases k1:r.ttl<=2147483647
 all_goals rcases ch3 (vld r.name) (knw r.typ) (En r.typ r.data) with e0|⟨e0,e1⟩|⟨e0,e1,e2⟩|⟨e0,e1,e2⟩
 all_goals simp only[*] at h1 h2 h3
 all_goals simp(disch:=omega)only[Gd3,Yj,Gz,h1,h2,h3,EVC,xe,EVP,EV,simprocAttr, *]
 all_goals simp
def Dh8 (x:Int):S cp 1 [.i .i64 x]=some [.b false]:=by refine Fd0 (N:=1) rfl ?_;simp(disch:=omega)only[Et0,Ax,simprocAttr]
def Cw0 (a b:Int):S c6 2 [.i .i64 a,.i .i64 b]=some [.i .i64 (mj a b)]:=by
 refine Ff7 (N:=1) rfl ?_;have h1:=Dh8 a;have h2:=Dh8 b;unfold mj;by_cases k1:a<b
 .simp(disch:=omega)only[Ay5,h1,h2,k1,Ax,simprocAttr]
 .by_cases k2:b<a
  .simp(disch:=omega)only[Ay5,h1,h2,k1,k2,Ax,simprocAttr]
  .simp(disch:=omega)only[Ay5,h1,h2,k1,k2,Ax,simprocAttr]
def qv (a b:Rec) (ha:a.wf) (hb:b.wf):S dx 2 [a.pv,b.pv]=some [.i .i64 (Q7 a b)]:=by
 refine Fm3 (N:=1) rfl ?_;have g1:a.name.length<=9223372036854775807:=ha.name;have g2:b.name.length<=9223372036854775807:=hb.name;have h1:=oj a.name b.name g1 g2;have h2:=Cw0 a.typ b.typ;have h3:=ox a.typ a.data b.data ha.data hb.data;unfold Q7;by_cases k1:Qh a.name b.name=0
 .by_cases k2:mj a.typ b.typ=0
  .rw[k1] at h1;rw[k2] at h2;simp(disch:=omega)only[Az5,Yj,Gz,h1,h2,h3,Ax,simprocAttr];simp[k1,k2]
  .rw[k1] at h1;simp(disch:=omega)only[Az5,h1,h2,k2,Ax,simprocAttr];simp[k1,k2]
 .simp(disch:=omega)only[Az5,h1,k1,Ax,simprocAttr]
def n0 (a b:Rec) (ha:a.wf) (hb:b.wf):S dz 2 [a.pv,b.pv]=some [.i .i64 (Eg8 a b)]:=by
 refine Fm6 (N:=1) rfl ?_;have h1:=qv a b ha hb;have h2:=Cw0 a.ttl b.ttl;unfold Eg8;by_cases k1:Q7 a b=0
 .rw[k1] at h1;simp(disch:=omega)only[Dw0,h1,h2,Ax,simprocAttr];simp[k1]
 .simp(disch:=omega)only[Dw0,h1,k1,Ax,simprocAttr]
def Hv2:Cmp dz [] Eg8 Rec.wf:=⟨fun x y hx hy=>n0 x y hx hy⟩
def Gj5:leC Eg8=leR:=rfl
def Dq0 (a b:Rec) (ha:a.wf) (hb:b.wf):S dy 2 [a.pv,b.pv]=some [.b (eqF a b)]:=by refine Fm4 (N:=1) rfl ?_;have h1:=qv a b ha hb;simp(disch:=omega)only[Fj9,h1,Ax,simprocAttr]
def xk (l:List Rec) (hw:∀r∈l,r.wf) (hl:l.length<=1000000):S Bc2 1 [B9 l]=some [B9 (sortR l)]:=by refine Gn5 (N:=1) rfl ?_;have h0:=Cw1 l hl;obtain⟨r,h1,h2,h3⟩:=Y5 Hv2 (by rw[Gj5];exact Gg6) l hw hl;rw[Gj5] at h1;have hm:=h1.mem Gg6;have h4:=ob r dy [] eqF (fun x hx y hy=>Dq0 x y (hw x ((hm x).1 hx)) (hw y ((hm y).1 hy))) (by omega);rw[Cz6 h1] at h4;simp(disch:=omega)only[Gd4,h0,h3,h4,Gm,Qr,EVT,Aw,simprocAttr]
end Go.X.G
/- Sets of records: what the program's and the reference's functions give. -/
namespace Go.X
open Go
structure SetR where
 name:List UInt8
 typ:Int
 ttl:Int
 data:List Dat
 deriving DecidableEq
def Dx (l:List Dat):PV:= .l 13 (l.map Dat.pv)
def SetR.pv (x:SetR):PV:= .a [.s x.name,.i .i64 x.typ,.i .i64 x.ttl,Dx x.data]
def D6 (l:List SetR):PV:= .l 4 (l.map SetR.pv)
def Ct5:PV.l 13 []=Dx []:=rfl
def Cb1:PV.l 4 []=D6 []:=rfl
def Bv0 (x:SetR):C0 0 x.pv=some (.s x.name):=rfl
def Bq9 (x:SetR):C0 1 x.pv=some (.i .i64 x.typ):=rfl
def Bq8 (x:SetR):C0 2 x.pv=some (.i .i64 x.ttl):=rfl
def Bq7 (x:SetR):C0 3 x.pv=some (Dx x.data):=rfl
def Ec2 (x:SetR):P1 4 x.pv=some x.pv:=rfl
def Ek2 (x:SetR):Kk 0 4 x.pv=some x.pv:=rfl
def Bp4 (n:List UInt8) (t u:Int) (d:List Dat):PV.a [.s n,.i .i64 t,.i .i64 u,Dx d]=SetR.pv ⟨n,t,u,d⟩:=rfl
def Ed6 (x:SetR):(⟨x.name,x.typ,x.ttl,x.data⟩:SetR)=x:=rfl
def Ey7 (x:SetR):Lk 4 [x.pv]=some (D6 [x]):=rfl
def Ez0 (x:Dat):Lk 13 [x.pv]=some (Dx [x]):=rfl
def t9 (l:List SetR):Hf (D6 l)=some (.i .i64 (l.length:Int)):=by simp[D6,Hf]
def Cm8 (l:List Dat):Hf (Dx l)=some (.i .i64 (l.length:Int)):=by simp[Dx,Hf]
def As1 (l:List SetR):It (D6 l)=some (D6 l):=rfl
def As3 (l:List Dat):It (Dx l)=some (Dx l):=rfl
def ug (l:List SetR) (k:IntKind) (z:Int) (h:0<=z):Ky 4 (D6 l) (.i k z)=(l[z.toNat]?).map SetR.pv:=by simp[D6,kw _ _ _ _ h]
def Cp7 (l:List Dat) (k:IntKind) (z:Int) (h:0<=z):Ky 13 (Dx l) (.i k z)=(l[z.toNat]?).map Dat.pv:=by simp[Dx,kw _ _ _ _ h]
def Cq5 (l:List SetR) (x:SetR) (h:l.length+1<=1073741824):I9 4 (D6 l) (D6 [x])=some (D6 (l++[x])):=by have:=P6 4 (l.map SetR.pv) [x.pv] (by simpa using h);simpa [D6] using this
def Cq7 (l:List Dat) (x:Dat) (h:l.length+1<=1073741824):I9 13 (Dx l) (Dx [x])=some (Dx (l++[x])):=by have:=P6 13 (l.map Dat.pv) [x.pv] (by simpa using h);simpa [Dx] using this
def Xw {l:List SetR} {k:IntKind} {z:Int} {x y:SetR} {off:Nat} {vs:List PV} (h0:0<=z) (h3:l[z.toNat]? =some x) (h:Pf x.pv off vs=some y.pv):Nx 4 off vs (D6 l) (.i k z)=some (D6 (l.set z.toNat y)):=by
 have h4:(l.map SetR.pv)[z.toNat]? =some x.pv:=by rw[C5,h3];rfl
 simp only[Nx,D6,h0,h4,and_self,if_true,Bt,h,Cb];simp[List.map_set]
set_option linter.defProp false in
def D4:=(And.intro @Ct5 (And.intro @Cb1 (And.intro @Bv0 (And.intro @Bq9 (And.intro @Bq8 (And.intro @Bq7 (And.intro @Ec2 (And.intro @Ek2 (And.intro @Bp4 (And.intro @Ed6 (And.intro @Ey7 (And.intro @Ez0 (And.intro @t9 (And.intro @Cm8 (And.intro @As1 (And.intro @As3 (And.intro @ug (And.intro @Cp7 (And.intro @Cq5 @Cq7)))))))))))))))))))
end Go.X
namespace Go.X.G
open Go Go.X
def addS (g:List SetR) (r:Rec):List SetR:=
 match g.getLast? with
 |some x=>if x.name=r.name∧x.typ=r.typ then g.dropLast++[⟨x.name,x.typ,if r.ttl<x.ttl then r.ttl else x.ttl,x.data++[r.data]⟩] else g++[⟨r.name,r.typ,r.ttl,[r.data]⟩]
 |none=>[⟨r.name,r.typ,r.ttl,[r.data]⟩]
def Ar4 (l:List Rec):List SetR:=l.foldl addS []
def setsR (l:List Rec):List SetR:=Ar4 (sortR l)
def I1 (g:List SetR):List Dat:=((g.getLast?).map SetR.data).getD []
def bv {g:List SetR} {x:SetR} (h:g.getLast? =some x) (y:SetR):g.set (g.length - 1) y=g.dropLast++[y]:=by obtain⟨a,rfl⟩:=List.getLast?_eq_some_iff.1 h;simp
def w6 (g:List SetR) (r:Rec):(addS g r).length<=g.length+1:=by
 unfold addS;split
 .split
  .simp
  .simp
 .simp
def Ar1 (x:SetR) (g:List SetR) (c:Rec) (s:List Rec) (i:Nat) (p0 p2 p3:PV) (d:List Dat) (N:Nat) (hc:s[i]? =some c) (hg:g.getLast? =some x) (hl:g.length<=1000000) (hd:d.length<=1000000) (hi:i<=1000000) (hxd:x.data=d):
  Bt8.ev S N [p0,B9 s,p2,p3,.i .i64 (i:Int),D6 g,Dx d,.i .i64 (g.length:Int)]=some (.yld 1 [D6 (g.dropLast++[⟨x.name,x.typ,if c.ttl<x.ttl then c.ttl else x.ttl,d++[c.data]⟩]),Dx (d++[c.data]),.i .i64 ((i+1:Nat):Int)]):=by
 have hpos:0<g.length:=by cases g<;>simp at hg ⊢
 have e1:((g.length:Int) - 1).toNat=g.length - 1:=by omega
 have hx:g[((g.length:Int) - 1).toNat]? =some x:=by rw[e1,<-Ig];exact hg
 have hw:IntKind.i64.wrap ((g.length:Int) - 1)=(g.length:Int) - 1:=w64 (by omega) (by omega);let y:SetR:=⟨x.name,x.typ,if c.ttl<x.ttl then c.ttl else x.ttl,x.data⟩;let z:SetR:=⟨x.name,x.typ,if c.ttl<x.ttl then c.ttl else x.ttl,d++[c.data]⟩;have s1:Nx 4 2 [.i .i64 (if c.ttl<x.ttl then c.ttl else x.ttl)] (D6 g) (.i .i64 ((g.length:Int) - 1))=some (D6 (g.set (g.length - 1) y)):=by rw[<-e1];exact Xw (by omega) hx rfl
 have hl2:(g.set (g.length - 1) y).length=g.length:=by simp
 have hx2:(g.set (g.length - 1) y)[((g.length:Int) - 1).toNat]? =some y:=by rw[e1,List.getElem?_set_self (by omega)]
 have s2:Nx 4 3 [Dx (d++[c.data])] (D6 (g.set (g.length - 1) y)) (.i .i64 ((g.length:Int) - 1))=some (D6 (g.dropLast++[z])):=by rw[Xw (x:=y) (y:=z) (by omega) hx2 rfl,e1,List.set_set,bv hg]
 have hmn:Cm0 (.i .i64 x.ttl) (.i .i64 c.ttl)=some (.i .i64 (if c.ttl<x.ttl then c.ttl else x.ttl)):=by simp[Cm0]
 have hy3:C0 3 y.pv=some (Dx x.data):=rfl;have i1:Ky 4 (D6 (g.set (g.length - 1) y)) (.i .i64 ((g.length:Int) - 1))=some y.pv:=by rw[ug _ _ _ (by omega),hx2];rfl
 have n1:Hf (D6 (g.set (g.length - 1) y))=some (.i .i64 (g.length:Int)):=by rw[t9,hl2]
 generalize hG:D6 (g.set (g.length - 1) y)=G at*;generalize hY:y.pv=Y at*;simp(disch:=omega)only[gp,hc,hx,hw,hmn,s1,s2,i1,n1,hy3,D4,Ay,simprocAttr]
 try rfl
structure SetsIn (g:List SetR) (i:Nat):Prop where
 len:g.length<=i
 each:∀x∈g,x.data.length<=i
def Cv0 {g:List SetR} {i:Nat} (h:SetsIn g i) (c:Rec):SetsIn (addS g c) (i+1):=by
 refine⟨Eh (w6 g c) (by have:=h.len;omega),fun x hx=> ?_⟩;unfold addS at hx;split at hx
 .rename_i y hy;have hym:y∈g:=Nt hy;split at hx
  .rcases C9.1 hx with hx|hx
   .have:=h.each x (List.dropLast_subset _ hx);omega
   .rw[Cn.1 hx];have:=h.each y hym;simp;omega
  .rcases C9.1 hx with hx|hx
   .have:=h.each x hx;omega
   .rw[Cn.1 hx];simp
 .rw[Cn.1 hx];simp
def Ms (g:List SetR) (c:Rec):I1 (addS g c)=match g.getLast? with
  |some x=>if x.name=c.name∧x.typ=c.typ then x.data++[c.data] else [c.data]
  |none=>[c.data]:=by
 unfold addS I1;split
 .split<;>simp
 .simp
def pw:∀(l acc:List Rec),(l.foldl (fun a x=>X6 x a) acc).length<=acc.length+l.length
 |[],acc=>by simp
 |x::l,acc=>by have h1:=pw l (X6 x acc);have h2:=X5 x acc;simp only[Gb2,Cw];omega
def J6 (l:List Rec):(sortR l).length<=l.length:=by simpa [sortR] using pw l []
def Dq1 (l:List Rec) (hw:∀r∈l,r.wf) (hl:l.length<=100000):S Ch8 1 [B9 l]=some [D6 (setsR l)]:=by
 have hs:=xk l hw (by omega);have hsl:(sortR l).length<=1000000:=by have:=J6 l;omega
 generalize hsd:sortR l=s at*;obtain⟨N,hN⟩:∃N,N=s.length+1:=⟨_,rfl⟩;refine Gr8 (N:=N) rfl ?_;have key:Dd8.ev S N [B9 l,B9 s]=some (.yld 0 [D6 (s.foldl addS []),Dx (I1 (s.foldl addS []))]):=by
  refine Fp s (fun i (g:List SetR)=>[D6 g,Dx (I1 g),.i .i64 (i:Int)]) (fun i g r=> .yld 0 [D6 (r.foldl addS g),Dx (I1 (r.foldl addS g))]) (fun i g=>SetsIn g i) [] rfl ⟨B6 _,fun x hx=>by cases hx⟩ (by omega) (fun i g c r hd hi hc hI=> ?_) (fun g hI=> ?_)
  .left;refine⟨addS g c,?_,Cv0 hI c,rfl⟩;have hgl:=hI.len;have hilt:(i:Int)<(s.length:Int):=by omega
   cases hg:g.getLast? with
   |none=>
    have hg0:g=[]:=List.getLast?_eq_none_iff.1 hg;subst hg0;have k:=Ar1 ⟨c.name,c.typ,c.ttl,[]⟩ [⟨c.name,c.typ,c.ttl,[]⟩] c s i (B9 l) (D6 []) (Dx (I1 [])) [] N hc rfl (by simp) (by simp) (by omega) rfl;have e1:(([⟨c.name,c.typ,c.ttl,[]⟩]:List SetR).length:Int)=1:=rfl;have e2:([⟨c.name,c.typ,c.ttl,[]⟩]:List SetR).dropLast++[⟨c.name,c.typ,if c.ttl<c.ttl then c.ttl else c.ttl,[]++[c.data]⟩]=addS [] c:=by simp[addS]
    have e3:([]++[c.data]:List Dat)=I1 (addS [] c):=by simp[addS,I1]
    rw[e1,e2,e3] at k;generalize addS [] c=G at*;simp(disch:=omega)only[gp,hc,hilt,k,D4,Ay,simprocAttr]
   |some x=>
    have hpos:0<g.length:=by cases g<;>simp at hg ⊢
    have hx:g[((g.length:Int) - 1).toNat]? =some x:=by rw[show ((g.length:Int) - 1).toNat=g.length - 1 by omega,<-Ig];exact hg
    have hxm:x∈g:=Nt hg;have hxd:=hI.each x hxm;have hn0:¬(g.length:Int)=0:=by omega
    have hld:I1 g=x.data:=by simp[I1,hg]
    by_cases hk:x.name=c.name∧x.typ=c.typ
    .have k:=Ar1 x g c s i (B9 l) (D6 g) (Dx (I1 g)) x.data N hc hg (by omega) (by omega) (by omega) rfl;have e2:g.dropLast++[⟨x.name,x.typ,if c.ttl<x.ttl then c.ttl else x.ttl,x.data++[c.data]⟩]=addS g c:=by simp[addS,hg,hk]
     have e3:x.data++[c.data]=I1 (addS g c):=by rw[Ms,hg];simp[hk]
     rw[e2,e3,hld] at k;rw[hld];generalize addS g c=G at*;simp(disch:=omega)only[gp,hc,hilt,hx,hn0,hk.1,hk.2,k,D4,Ay,simprocAttr]
    .have k:=Ar1 ⟨c.name,c.typ,c.ttl,[]⟩ (g++[⟨c.name,c.typ,c.ttl,[]⟩]) c s i (B9 l) (D6 g) (Dx (I1 g)) [] N hc (by simp) (by simp;omega) (by simp) (by omega) rfl;have e1:((g++[⟨c.name,c.typ,c.ttl,[]⟩]:List SetR).length:Int)=(g.length:Int)+1:=by simp
     have e2:(g++[⟨c.name,c.typ,c.ttl,[]⟩]:List SetR).dropLast++[⟨c.name,c.typ,if c.ttl<c.ttl then c.ttl else c.ttl,[]++[c.data]⟩]=addS g c:=by simp[addS,hg,hk]
     have e3:([]++[c.data]:List Dat)=I1 (addS g c):=by rw[Ms,hg];simp[hk]
     rw[e1,e2,e3,hld] at k;rw[hld];generalize addS g c=G at*;by_cases h1:x.name=c.name
     .have h2:¬x.typ=c.typ:=fun h=>hk ⟨h1,h⟩;simp(disch:=omega)only[gp,hc,hilt,hx,hn0,h1,h2,k,D4,Ay,simprocAttr]
     .simp(disch:=omega)only[gp,hc,hilt,hx,hn0,h1,k,D4,Ay,simprocAttr]
  .simp(disch:=omega)only[gp,D4,Ay,simprocAttr];simp[Out.goes]
 simp(disch:=omega)only[gp,hs,key,D4,Ay,simprocAttr];simp[setsR,Ar4,hsd]
end Go.X.G
namespace Go.X.G
open Go Go.X
def c3 (s:List UInt8):List UInt8:=s.take 300
def unsetR (x:SetR):List Rec:=x.data.map fun d=>⟨x.name,x.typ,x.ttl,d⟩
def Np (x:SetR) (hl:x.data.length<=1000000):S jg 1 [x.pv]=some [B9 (unsetR x)]:=by
 refine Gt5 (N:=x.data.length+1) rfl ?_;have key:Dg2.ev S (x.data.length+1) [x.pv]=some (.yld 0 [B9 ([]++unsetR x)]):=by
  refine Fp (N:=x.data.length+1) x.data (fun i (g:List Rec)=>[B9 g,.i .i64 (i:Int)]) (fun i g r=> .yld 0 [B9 (g++r.map fun d=>(⟨x.name,x.typ,x.ttl,d⟩:Rec))]) (fun i g=>g.length<=i) [] rfl (Dc _) (Nat.lt_succ_self _) (fun i g c r hd hi hc hI=> ?_) (fun g hI=> ?_)
  .left;refine⟨g++[⟨x.name,x.typ,x.ttl,c⟩],?_,by simp;omega,by simp⟩;have hil:(i:Int)<(x.data.length:Int):=by omega
   simp(disch:=omega)only[Dm0,hc,hil,D4,Ay,simprocAttr]
  .simp(disch:=omega)only[Dm0,Dj,D4,Ay,simprocAttr];simp[Out.goes]
 simp(disch:=omega)only[Dm0,key,D4,Ay,simprocAttr]
 try simp
def Nr (x:SetR) (hl:x.data.length<=1000000):S z5 1 [x.pv]=some [B9 (unsetR x)]:=by
 refine Gp5 (N:=x.data.length+1) rfl ?_;have key:Dd3.ev S (x.data.length+1) [x.pv]=some (.yld 0 [B9 ([]++unsetR x)]):=by
  refine Fp (N:=x.data.length+1) x.data (fun i (g:List Rec)=>[B9 g,.i .i64 (i:Int)]) (fun i g r=> .yld 0 [B9 (g++r.map fun d=>(⟨x.name,x.typ,x.ttl,d⟩:Rec))]) (fun i g=>g.length<=i) [] rfl (Dc _) (Nat.lt_succ_self _) (fun i g c r hd hi hc hI=> ?_) (fun g hI=> ?_)
  .left;refine⟨g++[⟨x.name,x.typ,x.ttl,c⟩],?_,by simp;omega,by simp⟩;have hil:(i:Int)<(x.data.length:Int):=by omega
   simp(disch:=omega)only[Dl4,hc,hil,D4,Ay,simprocAttr]
  .simp(disch:=omega)only[Dl4,Dj,D4,Ay,simprocAttr];simp[Out.goes]
 simp(disch:=omega)only[Dl4,key,D4,Ay,simprocAttr]
 try simp
def i5 (x:SetR) (g:List SetR) (c:Rec) (s:List Rec) (i:Nat) (p0 p2 p3:PV) (d:List Dat) (N:Nat) (hc:s[i]? =some c) (hg:g.getLast? =some x) (hl:g.length<=1000000) (hd:d.length<=1000000) (hi:i<=1000000) (hxd:x.data=d):
  Wc.ev S N [p0,B9 s,p2,p3,.i .i64 (i:Int),D6 g,Dx d,.i .i64 (g.length:Int)]=some (.yld 1 [D6 (g.dropLast++[⟨x.name,x.typ,if c.ttl<x.ttl then c.ttl else x.ttl,d++[c.data]⟩]),Dx (d++[c.data]),.i .i64 ((i+1:Nat):Int)]):=by
 have hpos:0<g.length:=by cases g<;>simp at hg ⊢
 have e1:((g.length:Int) - 1).toNat=g.length - 1:=by omega
 have hx:g[((g.length:Int) - 1).toNat]? =some x:=by rw[e1,<-Ig];exact hg
 have hw:IntKind.i64.wrap ((g.length:Int) - 1)=(g.length:Int) - 1:=w64 (by omega) (by omega);have s2:∀u:Int,Nx 4 0 [.s x.name,.i .i64 x.typ,.i .i64 u,Dx (d++[c.data])] (D6 g) (.i .i64 ((g.length:Int) - 1))=some (D6 (g.dropLast++[⟨x.name,x.typ,u,d++[c.data]⟩])):=fun u=>by rw[Xw (x:=x) (y:=⟨x.name,x.typ,u,d++[c.data]⟩) (by omega) hx rfl,e1,bv hg]
 by_cases ht:c.ttl<x.ttl
 .rw[if_pos ht];simp(disch:=omega)only[Zt,hc,hx,hw,ht,s2,D4,Ay,simprocAttr]
  try rfl
 .rw[if_neg ht];simp(disch:=omega)only[Zt,hc,hx,hw,ht,s2,D4,Ay,simprocAttr]
  try rfl
def xv (l:List Rec) (hw:∀r∈l,r.wf) (hl:l.length<=100000):S Bd4 1 [B9 l]=some [D6 (setsR l)]:=by
 have hs:=xq l hw (by omega);have hsl:(sortR l).length<=1000000:=by have:=J6 l;omega
 generalize hsd:sortR l=s at*;obtain⟨N,hN⟩:∃N,N=s.length+1:=⟨_,rfl⟩;refine Gs7 (N:=N) rfl ?_;have key:Df5.ev S N [B9 l,B9 s]=some (.yld 0 [D6 (s.foldl addS []),Dx (I1 (s.foldl addS []))]):=by
  refine Fp s (fun i (g:List SetR)=>[D6 g,Dx (I1 g),.i .i64 (i:Int)]) (fun i g r=> .yld 0 [D6 (r.foldl addS g),Dx (I1 (r.foldl addS g))]) (fun i g=>SetsIn g i) [] rfl ⟨B6 _,fun x hx=>by cases hx⟩ (by omega) (fun i g c r hd hi hc hI=> ?_) (fun g hI=> ?_)
  .left;refine⟨addS g c,?_,Cv0 hI c,rfl⟩;have hgl:=hI.len;have hilt:(i:Int)<(s.length:Int):=by omega
   cases hg:g.getLast? with
   |none=>
    have hg0:g=[]:=List.getLast?_eq_none_iff.1 hg;subst hg0;have k:=i5 ⟨c.name,c.typ,c.ttl,[]⟩ [⟨c.name,c.typ,c.ttl,[]⟩] c s i (B9 l) (D6 []) (Dx (I1 [])) [] N hc rfl (by simp) (by simp) (by omega) rfl;have e1:(([⟨c.name,c.typ,c.ttl,[]⟩]:List SetR).length:Int)=1:=rfl;have e2:([⟨c.name,c.typ,c.ttl,[]⟩]:List SetR).dropLast++[⟨c.name,c.typ,if c.ttl<c.ttl then c.ttl else c.ttl,[]++[c.data]⟩]=addS [] c:=by simp[addS]
    have e3:([]++[c.data]:List Dat)=I1 (addS [] c):=by simp[addS,I1]
    rw[e1,e2,e3] at k;generalize addS [] c=G at*;generalize hC7:Wc=C7 at*;simp(disch:=omega)only[Zt,hC7,hc,hilt,k,D4,Ay,simprocAttr]
   |some x=>
    have hpos:0<g.length:=by cases g<;>simp at hg ⊢
    have hx:g[((g.length:Int) - 1).toNat]? =some x:=by rw[show ((g.length:Int) - 1).toNat=g.length - 1 by omega,<-Ig];exact hg
    have hxm:x∈g:=Nt hg;have hxd:=hI.each x hxm;have hn0:¬(g.length:Int)=0:=by omega
    have hld:I1 g=x.data:=by simp[I1,hg]
    by_cases hk:x.name=c.name∧x.typ=c.typ
    .have k:=i5 x g c s i (B9 l) (D6 g) (Dx (I1 g)) x.data N hc hg (by omega) (by omega) (by omega) rfl;have e2:g.dropLast++[⟨x.name,x.typ,if c.ttl<x.ttl then c.ttl else x.ttl,x.data++[c.data]⟩]=addS g c:=by simp[addS,hg,hk]
     have e3:x.data++[c.data]=I1 (addS g c):=by rw[Ms,hg];simp[hk]
     rw[e2,e3,hld] at k;rw[hld];generalize addS g c=G at*;generalize hC7:Wc=C7 at*;simp(disch:=omega)only[Zt,hC7,hc,hilt,hx,hn0,hk.1,hk.2,k,D4,Ay,simprocAttr]
    .have k:=i5 ⟨c.name,c.typ,c.ttl,[]⟩ (g++[⟨c.name,c.typ,c.ttl,[]⟩]) c s i (B9 l) (D6 g) (Dx (I1 g)) [] N hc (by simp) (by simp;omega) (by simp) (by omega) rfl;have e1:((g++[⟨c.name,c.typ,c.ttl,[]⟩]:List SetR).length:Int)=(g.length:Int)+1:=by simp
     have e2:(g++[⟨c.name,c.typ,c.ttl,[]⟩]:List SetR).dropLast++[⟨c.name,c.typ,if c.ttl<c.ttl then c.ttl else c.ttl,[]++[c.data]⟩]=addS g c:=by simp[addS,hg,hk]
     have e3:([]++[c.data]:List Dat)=I1 (addS g c):=by rw[Ms,hg];simp[hk]
     rw[e1,e2,e3,hld] at k;rw[hld];generalize addS g c=G at*;generalize hC7:Wc=C7 at*;by_cases h1:x.name=c.name
     .have h2:¬x.typ=c.typ:=fun h=>hk ⟨h1,h⟩;simp(disch:=omega)only[Zt,hC7,hc,hilt,hx,hn0,h1,h2,k,D4,Ay,simprocAttr]
     .simp(disch:=omega)only[Zt,hC7,hc,hilt,hx,hn0,h1,k,D4,Ay,simprocAttr]
  .simp(disch:=omega)only[Zt,Dj,D4,Ay,simprocAttr];simp[Out.goes]
 simp(disch:=omega)only[Zt,hs,key,D4,Ay,simprocAttr]
 try simp[setsR,Ar4,hsd]
end Go.X.G
namespace Go.X
structure Begin where
 q:Ques
 zone:List UInt8
 hosts:List (List UInt8)
 addrs:List Adr
structure Actn where
 kind:Int
 n:Int
 odd:Bool
 m:Msg
 host:List UInt8
 addrs:List Adr
def u8r (x:Int):Prop:=0<=x∧x<=255
structure Begin.wf (b:Begin):Prop where
 q:b.q.wf
 zone:gk b.zone
 hosts:b.hosts.length<=9223372036854775807∧∀h∈b.hosts,gk h
 addrs:b.addrs.length<=9223372036854775807
structure Actn.wf (a:Actn):Prop where
 kind:u8r a.kind
 n:u8r a.n
 m:a.m.wf
 host:gk a.host
 addrs:a.addrs.length<=9223372036854775807
def Begin.cells (b:Begin):List PV:=[.s b.q.name,.i .i64 b.q.typ,.s b.zone,Dd b.hosts,F7 b.addrs]
def Begin.pv (b:Begin):PV:= .a b.cells
def Actn.cells (a:Actn):List PV:=[.i .u8 a.kind,.i .u8 a.n,.b a.odd,.i .i64 a.m.id,.i .i64 a.m.op,.i .i64 a.m.code,.b a.m.resp,.b a.m.aa,.b a.m.tc,.b a.m.rd,.b a.m.ra,.b a.m.ad,.b a.m.cd,.b a.m.dok,.i .i64 a.m.size,.s a.m.q.name,.i .i64 a.m.q.typ,B9 a.m.ans,B9 a.m.auth,B9 a.m.ext,.s a.host,F7 a.addrs]
def Actn.pv (a:Actn):PV:= .a a.cells
def Ew5 {e:Sh} {D:Type} (W:D->Prop) (pv:D->PV) (hag:e.agg=true) (h1:∀ds,e.okC ds->∃x,W x∧PV.a ds=pv x) {cs:List PV} (h:(Sh.l e).okC cs):∃l:List D,l.length<=9223372036854775807∧(∀x∈l,W x)∧cs=[.l e.size (l.map pv)]:=by
 simp only[Sh.okC,hag,if_true] at h;obtain⟨xs,rfl,hl,hx⟩:=h;have go:∀xs:List PV,(∀x,x∈xs->∃ds,x= .a ds∧e.okC ds)->∃l:List D,(∀r∈l,W r)∧xs=l.map pv:=by
  intro xs
  induction xs with
  |nil=>exact fun _=>⟨[],fun r h=>(by cases h),rfl⟩
  |cons x xs ih=>
   intro hx;obtain⟨l,g1,rfl⟩:=ih (fun y hy=>hx y (Jh _ hy));obtain⟨ds,rfl,hd⟩:=hx x (I5 ..);obtain⟨r,hr,hpv⟩:=h1 ds hd;refine⟨r::l,fun y hy=> ?_,by rw[hpv];rfl⟩;rcases Cl.1 hy with rfl|hy
   .exact hr
   .exact g1 y hy
 obtain⟨l,g1,rfl⟩:=go xs hx;exact⟨l,by simpa [maxLen] using hl,g1,rfl⟩
open Go
structure Ask where
 zone:List UInt8
 keys:List Dat
 now:Int
 deriving DecidableEq
def Ask.cells (x:Ask):List PV:=[.s x.zone,Dx x.keys,.i .i64 x.now]
def Ask.pv (x:Ask):PV:= .a x.cells
structure Ask.wf (x:Ask):Prop where
 zone:gk x.zone
 keys:∀d∈x.keys,d.wf
 now:Zw x.now
structure SetW (s:SetR):Prop where
 name:gk s.name
 typ:Zw s.typ
 ttl:Zw s.ttl
 data:∀d∈s.data,d.wf
def Bz1 (x:Ask):C0 0 x.pv=some (.s x.zone):=rfl
def Bz0 (x:Ask):C0 1 x.pv=some (Dx x.keys):=rfl
def By9 (x:Ask):C0 2 x.pv=some (.i .i64 x.now):=rfl
def Ec6 (x:Ask):P1 3 x.pv=some x.pv:=rfl
def Ek6 (x:Ask):Kk 0 3 x.pv=some x.pv:=rfl
set_option linter.defProp false in
def Gc8:=(And.intro @Bz1 (And.intro @Bz0 (And.intro @By9 (And.intro @Ec6 @Ek6))))
def Cb0:Sh:= .st [.s,.l Cz9,.i .i64]
def Ew6 {cs:List PV} (h:(Sh.l Cz9).okC cs):∃l:List Dat,(∀d∈l,d.wf)∧cs=[Dx l]:=by obtain⟨l,_,h2,rfl⟩:=Ew5 (fun d:Dat=>d.wf) Dat.pv rfl (fun ds h=>by obtain⟨d,hd,rfl⟩:=Dx7 h;exact⟨d,hd,rfl⟩) h;exact⟨l,h2,rfl⟩
def Ew8 {p:PV} (h:Cb0.ok p):∃x:Ask,x.wf∧p=x.pv:=by obtain⟨ds,rfl,h⟩:∃ds,p= .a ds∧Cb0.okC ds:=h;obtain⟨a0,r0,rfl,h0,h⟩:=Dk (Vs h);obtain⟨a1,r1,rfl,h1,h⟩:=Dk h;obtain⟨a2,r2,rfl,h2,h⟩:=Dk h;obtain rfl:=Ml h;obtain⟨x0,rfl,k0⟩:=zp h0;obtain⟨x1,k1,rfl⟩:=Ew6 h1;obtain⟨x2,rfl,k2⟩:=H9 h2;exact⟨⟨x0,x1,x2⟩,⟨k0,k1,k2⟩,rfl⟩
end Go.X
namespace Go.X.G
open Go Go.X
def labK (n:List UInt8):List (List UInt8):=if(lbl n)[0]? =some [42] then(lbl n).drop 1 else lbl n
def Rw (n:List UInt8):(labK n).length<=254:=by
 have:=Gp n;unfold labK;split
 .rw[C2];omega
 .exact this
def Bg0 (n:List UInt8) (b:Nat) (hb:b<=(labK n).length):(labK n).drop ((labK n).length - b)=(lbl n).drop ((lbl n).length - b):=by
 unfold labK at hb ⊢;split at hb
 .rename_i h;rw[if_pos h];rw[C2] at hb ⊢;rw[Gw];have h1:=(Bp.1 h).1;congr 1;omega
 .rename_i h;rw[if_neg h]
def Cn3 (n:List UInt8):∀x∈labK n,I2 x=true:=fun x hx=>by
 unfold labK at hx;split at hx
 .exact Ik n x (Gv hx)
 .exact Ik n x hx
def V6 (n:List UInt8) (hn:n.length<=9223372036854775807):S z8 1 [.s n]=some [Dd (labK n)]:=by
 refine Gr6 (N:=1) rfl ?_;have k1:=Jf n hn;have hl:=Gp n;unfold labK;generalize lbl n=l at*;cases l with
 |nil=>simp(disch:=omega)only[Dl7,k1,Ax,simprocAttr];try simp
 |cons c r=>
  have hc:(c::r)[0]? =some c:=rfl;have hp:(0:Int)<((c::r).length:Int):=by rw[Cw];omega
  have hl1:(1:Int)<=((c::r).length:Int):=by rw[Cw];omega
  have ht:(c::r).take (c::r).length=c::r:=Ec;have hd:(c::r).drop 1=r:=rfl;by_cases h:c=[42]
  .rw[if_pos (by rw[hc,h])];have ls:Kv 1 (Dd (c::r)) (.i .i64 1) (.i .i64 ((c::r).length:Int))=some (Dd r):=by have e:=X2 (c::r) .i64 .i64 1 ((c::r).length:Int) (by omega) hl1 (U9 _);rw[e,E9,ht];rfl
   rw[hd];generalize hg:c::r=l at*;simp(disch:=omega)only[Dl7,k1,hc,hp,h,ls,Ax,simprocAttr]
  .rw[if_neg (by rw[hc];simpa using h)];generalize hg:c::r=l at*;simp(disch:=omega)only[Dl7,k1,hc,hp,h,Ax,simprocAttr]
def Av1 (n:List UInt8) (hn:n.length<=9223372036854775807):S c9 1 [.s n]=some [.i .i64 ((labK n).length:Int)]:=by
 refine Fg9 (N:=1) rfl ?_;have k1:=Kc n hn;have hl:=Gp n;unfold labK;generalize lbl n=l at*;cases l with
 |nil=>simp(disch:=omega)only[Ay9,k1,Ax,simprocAttr];try simp
 |cons c r=>
  have hc:(c::r)[0]? =some c:=rfl;have hp:(0:Int)<((c::r).length:Int):=by rw[Cw];omega
  have hd:(((c::r).drop 1).length:Int)=((c::r).length:Int) - 1:=by rw[C2,Cw];omega
  by_cases h:c=[42]
  .rw[if_pos (by rw[hc,h]),hd];generalize hg:c::r=l at*;simp(disch:=omega)only[Ay9,k1,hc,hp,h,Ax,simprocAttr]
  .rw[if_neg (by rw[hc];simpa using h)];generalize hg:c::r=l at*;simp(disch:=omega)only[Ay9,k1,hc,hp,h,Ax,simprocAttr]
def joinL (l:List (List UInt8)):List UInt8×Int:=if l=[] then([46],0) else if vld (flat l)=true then(flat l,0) else([],2)
def On:∀(l:List (List UInt8)),(∀x∈l,I2 x=true)->(flat l).length<=64*l.length
 |[],_=>by simp[flat]
 |x::l,h=>by have h1:=Iq (h x (.head _));have h2:=On l fun y hy=>h y (.tail _ hy);simp only[flat,El,Bn,Cw,Cm] at h2 ⊢;omega
def Cr6 {l:List (List UInt8)} (h:l≠[]):0<(flat l).length:=by
 cases l with
 |nil=>exact absurd rfl h
 |cons x r=>simp only[flat,El,Bn,Ip];omega
def Cn8 (l:List (List UInt8)) (hl:l.length<=255) (hw:∀x∈l,I2 x=true) (N:Nat) (hN:l.length<N):
  Dd4.ev S N [Dd l]=some (.yld 0 [.l 1 (bytesPV (flat l))]):=by
 refine Em l (fun i=>[.i .i64 (i:Int),.l 1 (bytesPV (flat (l.take i)))]) (fun i r=> .yld 0 [.l 1 (bytesPV (flat l))]) rfl hN (fun i c r hd hi hc=> ?_) ?_
 .left;refine⟨?_,rfl⟩;have hlab:=hw c (Cv hc);have hc63:=Iq hlab;have hfl:=On (l.take i) fun x hx=>hw x (E8 hx);have htl:(l.take i).length<=255:=by rw[Cy];omega
  have e1:flat (l.take (i+1))=flat (l.take i)++c++[46]:=by rw[E7,hc];simp[flat]
  have g1:(bytesPV (flat (l.take i))).length<=64*255:=by rw[Gb];omega
  have g2:(bytesPV c).length<=63:=by rw[Gb];omega
  have g3:(bytesPV (flat (l.take i))++bytesPV c).length<=20000:=by rw[Bn];omega
  have hord:=Jn c (by omega);have e2:bytesPV (flat (l.take i))++bytesPV c++[.i .u8 46]=bytesPV (flat (l.take (i+1))):=by rw[e1];simp[bytesPV]
  have hb:U7 (.l 1 [.i .u8 46])=some (.s [46]):=Hg [46];rw[d5] at hlab;by_cases h42:c=[42]
  .subst h42;have hos:ord [42]=false:=by decide
   rw[hos] at hord;simp(disch:=omega)only[xw,hc,hord,hb,e2,Ax,simprocAttr]
  .have h1:ord c=true:=by simpa [h42] using hlab
   rw[h1] at hord;simp(disch:=omega)only[xw,hc,hord,hb,e2,Ax,simprocAttr]
 .have e:l.take l.length=l:=Ec;simp(disch:=omega)only[xw,e,Ax,simprocAttr]
  try simp[Out.goes]
def Dq4 (l:List (List UInt8)) (hl:l.length<=255) (hw:∀x∈l,I2 x=true):S Bc8 1 [Dd l]=some [.s (joinL l).1,.i .i64 (joinL l).2]:=by
 refine Gp7 (N:=300) rfl ?_;unfold joinL;by_cases h:l=[]
 .subst h;simp(disch:=omega)only[xw,Ax,simprocAttr]
  try simp
 .have hp:=C1.2 h;have key:=Cn8 l hl hw 300 (by omega);have hfl:=On l hw;have hval:=Dq (flat l) (by omega);obtain⟨c,hc⟩:∃c,(flat l)[0]? =some c:=⟨_,B3 (Cr6 h)⟩;have e0:¬((l.length:Int)=0):=by omega
  have e1:¬(255<(l.length:Int)):=by omega
  rw[if_neg h];rcases Bs (vld (flat l)) with hv|hv
  .rw[hv] at hval;simp only[hv,if_true];simp(disch:=omega)only[xw,key,hval,hc,e0,e1,Ax,simprocAttr]
  .rw[hv] at hval;simp only[hv,B5,if_false];simp(disch:=omega)only[xw,key,hval,hc,e0,e1,Ax,simprocAttr]
def Dq3 (l:List (List UInt8)) (hl:l.length<=255) (hne:l≠[]) (hw:∀x∈l,I2 x=true):S Ch3 1 [Dd l]=some [.s (joinL l).1,.i .i64 (joinL l).2]:=by
 refine Gn9 (N:=300) rfl ?_;have key:Dd0.ev S 300 [Dd l]=some (.yld 0 []):=by
  refine Em l (fun i=>[.i .i64 (i:Int)]) (fun _ _=> .yld 0 []) rfl (by omega) (fun i c r hd hi hc=> ?_) ?_
  .left;refine⟨?_,rfl⟩;have hlab:=hw c (Cv hc);have hc63:=Iq hlab;have k:=V7 c (by omega);rw[hlab] at k;simp(disch:=omega)only[Cx3,hc,k,Ax,simprocAttr]
  .simp(disch:=omega)only[Cx3,Ax,simprocAttr]
   try simp[Out.goes]
 have k1:=Ex2 l (by omega) (fun x hx=>by have:=Iq (hw x hx);omega);have hfl:=On l hw;have hj:jn l=flat l:=by unfold jn;rw[if_neg hne]
 rw[hj] at k1;have hval:=Mx (flat l) (by omega);have e1:¬(255<(l.length:Int)):=by omega
 unfold joinL;rw[if_neg hne];rcases Bs (vld (flat l)) with hv|hv
 .rw[hv] at hval;simp only[hv,if_true];simp(disch:=omega)only[Cx3,key,k1,hval,e1,Ax,simprocAttr]
 .rw[hv] at hval;simp only[hv,B5,if_false];simp(disch:=omega)only[Cx3,key,k1,hval,e1,Ax,simprocAttr]
def starK (n:List UInt8) (b:Nat):List (List UInt8):=[42]::(labK n).drop ((labK n).length - b)
def Sj (n:List UInt8) (b:Nat):∀x∈starK n b,I2 x=true:=fun x hx=>by
 unfold starK at hx;rcases Cl.1 hx with rfl|hx
 .decide
 .exact Cn3 n x (Gv hx)
def R9 (n:List UInt8) (b:Nat):(starK n b).length<=255:=by have:=Rw n;unfold starK;rw[Cw,C2];omega
def ownK (n:List UInt8) (b:Int):List UInt8:=if b=((labK n).length:Int) then n else(joinL (starK n b.toNat)).1
def qk (n:List UInt8) (b:Int) (hn:n.length<=9223372036854775807):(ownK n b).length<=9223372036854775807:=by
 unfold ownK;split
 .exact hn
 .have h1:=On (starK n b.toNat) (Sj n _);have h2:=R9 n b.toNat;unfold joinL;split
  .simp
  .split
   .simp only;omega
   .simp
def Bs5 (l:List (List UInt8)) (b:Nat) (hb:b<=l.length) (hl:l.length<=1000):Kv 1 (Dd l) (.i .i64 ((l.length:Int) - (b:Int))) (.i .i64 (l.length:Int))=some (Dd (l.drop (l.length - b))):=by have e:=X2 l .i64 .i64 ((l.length:Int) - (b:Int)) (l.length:Int) (by omega) (by omega) (U9 _);rw[e,E9,Ec,show ((l.length:Int) - (b:Int)).toNat=l.length - b by omega]
def wg (l:List (List UInt8)) (hl:l.length<=1000):I9 1 (.l 1 [.s [42]]) (Dd l)=some (Dd ([42]::l)):=by have:=P6 1 [.s [42]] (l.map .s) (by simp;omega);simpa [Dd] using this
def Cf7 (n:List UInt8) (b:Int) (hn:n.length<=9223372036854775807) (h0:0<=b) (h1:b<=((labK n).length:Int)):S tg 2 [.s n,.i .i64 b]=some [.s (ownK n b)]:=by
 refine Fp2 (N:=1) rfl ?_;have k1:=V6 n hn;have hl:=Rw n;unfold ownK;by_cases h:b=((labK n).length:Int)
 .rw[if_pos h];simp(disch:=omega)only[Dw3,k1,h,Ax,simprocAttr]
 .rw[if_neg h];obtain⟨m,rfl⟩:∃m:Nat,b=(m:Int):=⟨b.toNat,by omega⟩;rw[E9];have ls:=Bs5 (labK n) m (by omega) (by omega);have hdl:((labK n).drop ((labK n).length - m)).length<=1000:=by rw[C2];omega
  have ap:=wg _ hdl;have k2:=Dq4 (starK n m) (R9 n m) (Sj n m);have e:starK n m=[42]::(labK n).drop ((labK n).length - m):=rfl;rw[<-e] at ap;have hlt:Lk 1 [.s [42]]=some (.l 1 [.s [42]]):=rfl;generalize joinL (starK n m)=j at*;generalize starK n m=st at*;generalize (labK n).drop ((labK n).length - m)=dr at*;generalize labK n=lk at*;simp(disch:=omega)only[Dw3,k1,k2,h,ls,ap,hlt,Ax,simprocAttr]
def Kh {s:SetR} (h:SetW s):∀r∈unsetR s,r.wf:=fun r hr=>by unfold unsetR at hr;obtain⟨d,hd,rfl⟩:=Cw8.1 hr;exact⟨h.name,h.typ,h.ttl,h.data d hd⟩
def i4 (s:SetR):Bool:=decide (1<=s.data.length) && decide (s.data.length<=64) && decide (s.typ≠46) && (unsetR s).all Zk
def ir (s:SetR) (h:SetW s) (hd:s.data.length<=1000000):S Bd2 1 [s.pv]=some [.b (i4 s)]:=by
 have k1:=Np s hd;have hul:(unsetR s).length=s.data.length:=by unfold unsetR;rw[E6]
 refine Gr7 (N:=s.data.length+1) rfl ?_;have key:Dd7.ev S (s.data.length+1) [s.pv,B9 (unsetR s)]=some (if(unsetR s).all Zk=true then .yld 0 [] else .ret [.b false]):=by
  refine Em (unsetR s) (fun i=>[.i .i64 (i:Int)]) (fun i r=>if r.all Zk=true then .yld 0 [] else .ret [.b false]) rfl (by omega) (fun i c r hd hi hc=> ?_) ?_
  .have k:=Cv1 c (Kh h c (Cv hc));have hil:(i:Int)<((unsetR s).length:Int):=by omega
   rcases Bs (Zk c) with hv|hv
   .left;rw[hv] at k;refine⟨?_,by rw[K6,hv,Es4]⟩;simp(disch:=omega)only[gn,hc,hil,k,D4,Ax,simprocAttr]
   .right;rw[hv] at k;rw[K6,hv,Bool.false_and];simp(disch:=omega)only[gn,hc,hil,k,D4,Ax,simprocAttr];simp[Out.goes]
  .simp(disch:=omega)only[gn,Dj,D4,Ax,simprocAttr];simp[Out.goes]
 unfold i4;by_cases h1:1<=s.data.length
 .have h1':¬(s.data.length:Int)<1:=by omega
  by_cases h2:s.data.length<=64
  .have h2':¬(64:Int)<(s.data.length:Int):=by omega
   by_cases h3:s.typ=46
   .simp(disch:=omega)only[gn,h1',h2',h3,D4,Ax,simprocAttr]
    try simp
   .rcases Bs ((unsetR s).all Zk) with hv|hv<;>rw[hv] at key ⊢<;>simp(disch:=omega)only[gn,k1,key,h1',h2',h3,D4,Ax,simprocAttr]<;>simp[h1,h2]
  .have h2':(64:Int)<(s.data.length:Int):=by omega
   simp(disch:=omega)only[gn,h1',h2',D4,Ax,simprocAttr]
   try simp[h2]
 .have h1':(s.data.length:Int)<1:=by omega
  simp(disch:=omega)only[gn,h1',D4,Ax,simprocAttr]
  try simp[h1]
def Xq (s:SetR) (h:SetW s) (hd:s.data.length<=1000000):S rp 1 [s.pv]=some [.b (i4 s)]:=by
 have k1:=Nr s hd;have hul:(unsetR s).length=s.data.length:=by unfold unsetR;rw[E6]
 refine Fh0 (N:=s.data.length+1) rfl ?_;have key:Bl8.ev S (s.data.length+1) [s.pv,B9 (unsetR s)]=some (if(unsetR s).all Zk=true then .yld 0 [] else .ret [.b false]):=by
  refine Em (unsetR s) (fun i=>[.i .i64 (i:Int)]) (fun i r=>if r.all Zk=true then .yld 0 [] else .ret [.b false]) rfl (by omega) (fun i c r hd hi hc=> ?_) ?_
  .have k:=Cv3 c (Kh h c (Cv hc));have hil:(i:Int)<((unsetR s).length:Int):=by omega
   rcases Bs (Zk c) with hv|hv
   .left;rw[hv] at k;refine⟨?_,by rw[K6,hv,Es4]⟩;simp(disch:=omega)only[Rr,hc,hil,k,D4,Ax,simprocAttr]
   .right;rw[hv] at k;rw[K6,hv,Bool.false_and];simp(disch:=omega)only[Rr,hc,hil,k,D4,Ax,simprocAttr];simp[Out.goes]
  .simp(disch:=omega)only[Rr,Dj,D4,Ax,simprocAttr];simp[Out.goes]
 unfold i4;by_cases h1:1<=s.data.length
 .have h1':¬(s.data.length:Int)<1:=by omega
  by_cases h2:s.data.length<=64
  .have h2':¬(64:Int)<(s.data.length:Int):=by omega
   by_cases h3:s.typ=46
   .simp(disch:=omega)only[Rr,h1',h2',h3,D4,Ax,simprocAttr]
    try simp
   .rcases Bs ((unsetR s).all Zk) with hv|hv<;>rw[hv] at key ⊢<;>simp(disch:=omega)only[Rr,k1,key,h1',h2',h3,D4,Ax,simprocAttr]<;>simp[h1,h2]
  .have h2':(64:Int)<(s.data.length:Int):=by omega
   simp(disch:=omega)only[Rr,h1',h2',D4,Ax,simprocAttr]
   try simp[h2]
 .have h1':(s.data.length:Int)<1:=by omega
  simp(disch:=omega)only[Rr,h1',D4,Ax,simprocAttr]
  try simp[h1]
def Il {t:Int} {d:Dat} (h:En t d=true):(wireD t d).length<=50000:=by
 have hn:=Ny h;have h1:=H6 d.host;have h2:=H6 d.mail;have h3:=Rb d.bits;have h4:=hn.text;have h5:(M4 d).length<=16:=by unfold M4;split<;>simp[D3]
 unfold wireD
 repeat' split
 all_goals try simp only[Bn,D3,Cm]
 all_goals omega
def Z8 (d:Dat):∃x,wireD 46 d=x++d.text∧0<x.length:=by refine⟨be d.a 2++be 253 1++be d.b 1++be d.c 4++be d.d 4++be d.e 4++be d.f 2++wireN d.host,rfl,?_⟩;simp only[Bn,D3];omega
def Q1 (s:SetR) (g:Dat):List UInt8:=wireN (ownK s.name g.b)++be s.typ 2++be 1 2++be g.c 4
def Qs (h:List UInt8) (r:Rec):List UInt8:=h++be ((wireD r.typ r.data).length:Int) 2++wireD r.typ r.data
def preK (g:Dat):List UInt8:=(wireD 46 g).take ((wireD 46 g).length - g.text.length)
def bodyK (s:SetR) (g:Dat):List UInt8:=preK g++(sortR (unsetR s)).flatMap (Qs (Q1 s g))
def signedM (s:SetR) (g:Dat):List UInt8×Int:=
 if En 46 g=false∨i4 s=false then([],5)
 else if g.a≠s.typ∨((labK s.name).length:Int)<g.b then([],1)
 else(bodyK s g,0)
def Cd6 (g:Dat):0<(preK g).length:=by obtain⟨x,hx,hp⟩:=Z8 g;unfold preK;rw[hx,Bn,Gd0,Ax4];exact hp
def Tc (s:SetR) (g:Dat):(Q1 s g).length<=20008:=by have:=H6 (ownK s.name g.b);unfold Q1;simp only[Bn,D3];omega
def Sw {h:List UInt8} {r:Rec} (hh:h.length<=20008) (hv:En r.typ r.data=true):(Qs h r).length<=70010:=by have:=Il hv;unfold Qs;simp only[Bn,D3];omega
def Pd {s:SetR} (h:i4 s=true):1<=s.data.length∧s.data.length<=64∧∀r∈unsetR s,Zk r=true:=by unfold i4 at h;simp only[B0,decide_eq_true_eq,Dl] at h;exact⟨h.1.1.1,h.1.1.2,h.2⟩
def Ab4 {r:Rec} (h:Zk r=true):En r.typ r.data=true:=by unfold Zk at h;simp only[B0] at h;exact h.2
def Gk4 {t:Int} (h:knw t=true):0<=t:=by unfold knw at h;simp only[Cz,decide_eq_true_eq] at h;omega
def Ar5 {s:SetR} (h:i4 s=true):0<=s.typ:=by
 obtain⟨h1,_,h3⟩:=Pd h;cases hd:s.data with
 |nil=>rw[hd] at h1;simp at h1
 |cons d r=>
  have:=h3 ⟨s.name,s.typ,s.ttl,d⟩ (by unfold unsetR;rw[hd];exact .head _);unfold Zk at this;simp only[B0] at this;exact Gk4 this.1.1.1.2
def N5 {w t:List UInt8} (h:t.length<=w.length):xn (.s w) (.i .i64 0) (.i .i64 ((w.length:Int) - (t.length:Int)))=some (.s (w.take (w.length - t.length))):=by rw[Fb2 w .i64 .i64 0 _ (by omega) (by omega) (by omega),show ((w.length:Int) - (t.length:Int)).toNat=w.length - t.length by omega];rfl
def Pj (a b:List UInt8) (h:a.length+b.length<=1073741824):I9 1 (.l 1 (bytesPV a)) (.l 1 (bytesPV b))=some (.l 1 (bytesPV (a++b))):=by have:=P6 1 (bytesPV a) (bytesPV b) (by rw[Gb,Gb];exact h);rw[this];simp[bytesPV]
def Wl (b:List UInt8) (h:b.length<=1073741824):I9 1 (Dd []) (.l 1 (bytesPV b))=some (.l 1 (bytesPV b)):=by have:=Pj [] b (by simpa using h);simpa [bytesPV,Dd] using this
def ic {s:SetR} {r:Rec} (h:r∈sortR (unsetR s)):r∈unsetR s:=(((Pb (unsetR s)).2 r).1 h).mem
def Ap9 (s:SetR) (g:Dat) (hw:SetW s) (hg:En 46 g=true) (hs:i4 s=true) (p4 p5 p6 p11:PV) (w1 w2 w3 w4:List UInt8) (hh:Q1 s g=w1++w2++w3++w4) (h1:w1.length<=20000) (h2:w2.length=2) (h3:w3.length=2) (h4:w4.length=4) (N:Nat) (hN:70<N):
  Dd6.ev S N [s.pv,g.pv,.s (wireD 46 g),.i .i64 0,p4,p5,p6,.s w1,.s w2,.s w3,.s w4,p11,B9 (sortR (unsetR s))]=some (.yld 0 [.l 1 (bytesPV (bodyK s g))]):=by
 obtain⟨_,hsl,hall⟩:=Pd hs;have hul:(unsetR s).length=s.data.length:=by unfold unsetR;rw[E6]
 have hrl:=J6 (unsetR s);have hwl:=Il hg;have htl:g.text.length<=(wireD 46 g).length:=by obtain⟨x,hx,_⟩:=Z8 g;rw[hx,Bn];omega
 have hpl:(preK g).length<=50000:=by unfold preK;rw[Cy];omega
 have ht:=N5 htl;have hp0:=Wl (preK g) (by omega);have e0:(wireD 46 g).take ((wireD 46 g).length - g.text.length)=preK g:=rfl;rw[e0] at ht;unfold bodyK;have hmem:∀r∈sortR (unsetR s),r∈unsetR s:=fun r hr=>ic hr;generalize sortR (unsetR s)=L at*;refine Fp L (fun i (b:List UInt8)=>[.i .i64 (i:Int),.l 1 (bytesPV b)]) (fun _ b r=> .yld 0 [.l 1 (bytesPV (b++r.flatMap (Qs (Q1 s g))))]) (fun i b=>b.length<=70010*(i+1)) (preK g) ?_ (by omega) (by omega) (fun i b c r hd hi hc hI=> ?_) (fun b _=> ?_)
 .generalize preK g=pk at*;generalize wireD 46 g=wd at*;simp(disch:=omega)only[ht,hp0,D4,Ax,simprocAttr]
  try simp
 .left;have hil:(i:Int)<(L.length:Int):=by omega
  have hcm:=hmem c (Cv hc);have hcw:=Kh hw c hcm;have hcv:=Ab4 (hall c hcm);have k1:=Pk c.typ c.data hcw.data;rw[if_pos hcv] at k1;have hdl:=Il hcv;have k2:=Xs ((wireD c.typ c.data).length:Int) 2 (by omega) (by omega) (by omega);have h22:((2:Nat):Int)=2:=rfl;rw[h22] at k2;have hbl:=D3 ((wireD c.typ c.data).length:Int) 2;refine⟨b++Qs (Q1 s g) c,?_,?_,by simp⟩
  .have e:b++Qs (Q1 s g) c=b++(w1++w2++w3++w4)++be ((wireD c.typ c.data).length:Int) 2++wireD c.typ c.data:=by unfold Qs;rw[hh];simp
   rw[e];have a1:=Pj b (w1++w2++w3++w4) (by simp only[Bn];omega);have a2:=Pj (b++(w1++w2++w3++w4)) (be ((wireD c.typ c.data).length:Int) 2) (by simp only[Bn];omega);have a3:=Pj (b++(w1++w2++w3++w4)++be ((wireD c.typ c.data).length:Int) 2) (wireD c.typ c.data) (by simp only[Bn];omega);have l1:(w1++w2).length<=20002:=by rw[Bn];omega
   have l2:(w1++w2++w3).length<=20004:=by rw[Bn];omega
   have l3:(w1++w2++w3++w4).length<=20008:=by rw[Bn];omega
   generalize be ((wireD c.typ c.data).length:Int) 2=nb at*;generalize wireD c.typ c.data=wd at*;simp(disch:=omega)only[gm,hc,hil,k1,k2,a1,a2,a3,D4,Ax,simprocAttr]
  .have:=Sw (Tc s g) hcv;rw[Bn];omega
 .simp(disch:=omega)only[gm,Dj,D4,Ax,simprocAttr];simp[Out.goes]
def Dm7 {g:Dat} (h:En 46 g=true):0<=g.b∧0<=g.c∧g.text.length<=255:=⟨(Ny h).b,(Ny h).c,(Ny h).text⟩
def ww {s:SetR} {g:Dat} (hg:En 46 g=true) (hs:i4 s=true):(bodyK s g).length<=10000000∧0<(bodyK s g).length:=by
 obtain⟨_,hsl,hall⟩:=Pd hs;have hul:(unsetR s).length=s.data.length:=by unfold unsetR;rw[E6]
 have hrl:=J6 (unsetR s);have hwl:=Il hg;have hpl:(preK g).length<=50000:=by unfold preK;rw[Cy];omega
 have hpp:=Cd6 g;have hf:∀l:List Rec,(∀r∈l,En r.typ r.data=true)->(l.flatMap (Qs (Q1 s g))).length<=70010*l.length:=by
  intro l
  induction l with
  |nil=>intro _;simp
  |cons r l ih=>
   intro h;have h1:=Sw (Tc s g) (h r (.head _));have h2:=ih fun x hx=>h x (.tail _ hx);rw[El,Bn,Cw];omega
 have:=hf (sortR (unsetR s)) fun r hr=>Ab4 (hall r (ic hr));unfold bodyK;rw[Bn];omega
def Aw3 (s:SetR) (g:Dat) (hw:SetW s) (hgw:g.wf) (hd:s.data.length<=1000000):S Bd0 2 [s.pv,g.pv]=some [.s (signedM s g).1,.i .i64 (signedM s g).2]:=by
 have k1:=Pk 46 g hgw;have k2:=ir s hw hd;have k3:=V6 s.name hw.name;have hlk:=Rw s.name;unfold signedM;refine Gr4 (N:=100) rfl ?_;rcases Bs (En 46 g) with hg|hg
 .rw[if_pos hg] at k1;rcases Bs (i4 s) with hs|hs
  .rw[hs] at k2;rw[if_neg (by simp[hg,hs])];by_cases ha:g.a=s.typ
   .by_cases hb:((labK s.name).length:Int)<g.b
    .rw[if_pos (.inr hb)];generalize wireD 46 g=wd at*;generalize labK s.name=lk at*;simp(disch:=omega)only[gm,k1,k2,k3,ha,hb,D4,Ax,simprocAttr]
    .rw[if_neg (fun q=>q.elim (fun q=>q ha) hb)];obtain⟨hb0,hc0,_⟩:=Dm7 hg;obtain⟨_,hsl,hall⟩:=Pd hs;have hul:(unsetR s).length=s.data.length:=by unfold unsetR;rw[E6]
     have k4:=Cf7 s.name g.b hw.name hb0 (by omega);have k5:=Cx8 (ownK s.name g.b) (qk s.name g.b hw.name);have k6:=Xs s.typ 2 (by omega) (Ar5 hs) hw.typ.2;have k7:=Xs 1 2 (by omega) (by omega) (by omega);have k8:=Xs g.c 4 (by omega) hc0 hgw.c.2;have k9:=Np s hd;have k10:=xk (unsetR s) (Kh hw) (by omega);have c2:((2:Nat):Int)=2:=rfl;have c4:((4:Nat):Int)=4:=rfl;rw[c2] at k6 k7;rw[c4] at k8;have n1:=H6 (ownK s.name g.b);have n2:=D3 s.typ 2;have n3:=D3 1 2;have n4:=D3 g.c 4;have key:=fun p4 p5 p6 p11=>Ap9 s g hw hg hs p4 p5 p6 p11 _ _ _ _ rfl n1 n2 n3 n4 100 (by omega);have l1:(wireN (ownK s.name g.b)++be s.typ 2).length<=20002:=by rw[Bn];omega
     have l2:(wireN (ownK s.name g.b)++be s.typ 2++be 1 2).length<=20004:=by rw[Bn];omega
     obtain⟨hbl,hbp⟩:=ww hg hs;have hwl:=Il hg;have htl:g.text.length<=(wireD 46 g).length:=by obtain⟨x,hx,_⟩:=Z8 g;rw[hx,Bn];omega
     have ht:=N5 htl;have hp0:=Wl ((wireD 46 g).take ((wireD 46 g).length - g.text.length)) (by rw[Cy];omega);have htk:((wireD 46 g).take ((wireD 46 g).length - g.text.length)).length<=50000:=by rw[Cy];omega
     obtain⟨c0,hc00⟩:∃c0,(bodyK s g)[0]? =some c0:=⟨_,B3 hbp⟩;generalize bodyK s g=bd at*;generalize (wireD 46 g).take ((wireD 46 g).length - g.text.length)=tk at*;generalize wireD 46 g=wd at*;generalize sortR (unsetR s)=sr at*;generalize unsetR s=us at*;generalize be s.typ 2=b2 at*;generalize be 1 2=b3 at*;generalize be g.c 4=b4 at*;generalize wireN (ownK s.name g.b)=b1 at*;generalize ownK s.name g.b=ow at*;generalize labK s.name=lk at*;simp(disch:=omega)only[gm,k1,k2,k3,k4,k5,k6,k7,k8,k9,k10,key,ha,hb,ht,hp0,hc00,D4,Ax,simprocAttr]
   .rw[if_pos (.inl ha)];generalize wireD 46 g=wd at*;simp(disch:=omega)only[gm,k1,k2,ha,D4,Ax,simprocAttr]
  .rw[hs] at k2;rw[if_pos (.inr hs)];generalize wireD 46 g=wd at*;simp(disch:=omega)only[gm,k1,k2,D4,Ax,simprocAttr]
 .rw[if_pos (.inl hg)];rw[if_neg (by simp[hg]),if_pos (by decide)] at k1;simp(disch:=omega)only[gm,k1,D4,Ax,simprocAttr]
def im (s:SetR) (g:Dat) (hw:SetW s) (hgw:g.wf) (hg:En 46 g=true) (hs:i4 s=true) (p2 p3 p4 p5 p8 p9:PV) (hown:(ownK s.name g.b).length<=9223372036854775807) (N:Nat) (hN:70<N):
  Bm8.ev S N [s.pv,g.pv,p2,p3,p4,p5,.s (ownK s.name g.b),.s (wireD 46 g),p8,p9,B9 (sortR (unsetR s))]=some (.yld 0 [.s (bodyK s g)]):=by
 obtain⟨_,hsl,hall⟩:=Pd hs;obtain⟨hb0,hc0,_⟩:=Dm7 hg;have hul:(unsetR s).length=s.data.length:=by unfold unsetR;rw[E6]
 have hrl:=J6 (unsetR s);have hwl:=Il hg;have htl:g.text.length<=(wireD 46 g).length:=by obtain⟨x,hx,_⟩:=Z8 g;rw[hx,Bn];omega
 have hpl:(preK g).length<=50000:=by unfold preK;rw[Cy];omega
 have ht:=N5 htl;have e0:(wireD 46 g).take ((wireD 46 g).length - g.text.length)=preK g:=rfl;rw[e0] at ht;have k3:=Ab1 (ownK s.name g.b) hown;have k6:=M0 s.typ 2 (by omega) (Ar5 hs) hw.typ.2;have k7:=M0 1 2 (by omega) (by omega) (by omega);have k8:=M0 g.c 4 (by omega) hc0 hgw.c.2;have c2:((2:Nat):Int)=2:=rfl;have c4:((4:Nat):Int)=4:=rfl;rw[c2] at k6 k7;rw[c4] at k8;have n1:=H6 (ownK s.name g.b);have n2:=D3 s.typ 2;have n3:=D3 1 2;have n4:=D3 g.c 4;unfold bodyK;have hmem:∀r∈sortR (unsetR s),r∈unsetR s:=fun r hr=>ic hr;generalize sortR (unsetR s)=L at*;refine Fp L (fun i (b:List UInt8)=>[.s b,.i .i64 (i:Int)]) (fun _ b r=> .yld 0 [.s (b++r.flatMap (Qs (Q1 s g)))]) (fun i b=>b.length<=70010*(i+1)) (preK g) ?_ (by omega) (by omega) (fun i b c r hd hi hc hI=> ?_) (fun b _=> ?_)
 .generalize preK g=pk at*;generalize wireD 46 g=wd at*;simp(disch:=omega)only[ht,D4,Ax,simprocAttr]
  try simp
 .left;have hil:(i:Int)<(L.length:Int):=by omega
  have hcm:=hmem c (Cv hc);have hcw:=Kh hw c hcm;have hcv:=Ab4 (hall c hcm);have k1:=K4 c.typ c.data hcw.data;rw[if_pos hcv] at k1;have hdl:=Il hcv;have k2:=M0 ((wireD c.typ c.data).length:Int) 2 (by omega) (by omega) (by omega);rw[c2] at k2;have hbl:=D3 ((wireD c.typ c.data).length:Int) 2;refine⟨b++Qs (Q1 s g) c,?_,?_,by simp⟩
  .have e:b++Qs (Q1 s g) c=b++wireN (ownK s.name g.b)++be s.typ 2++be 1 2++be g.c 4++be ((wireD c.typ c.data).length:Int) 2++wireD c.typ c.data:=by unfold Qs Q1;simp
   rw[e];generalize be ((wireD c.typ c.data).length:Int) 2=nb at*;generalize wireD c.typ c.data=wd at*;generalize be s.typ 2=b2 at*;generalize be 1 2=b3 at*;generalize be g.c 4=b4 at*;generalize wireN (ownK s.name g.b)=b1 at*;have l1:(b++b1).length<=5000000:=by rw[Bn];omega
   have l2:(b++b1++b2).length<=5000002:=by rw[Bn];omega
   have l3:(b++b1++b2++b3).length<=5000004:=by rw[Bn];omega
   have l4:(b++b1++b2++b3++b4).length<=5000008:=by rw[Bn];omega
   have l5:(b++b1++b2++b3++b4++nb).length<=5000010:=by rw[Bn];omega
   simp(disch:=omega)only[Qj,hc,hil,k1,k2,k3,k6,k7,k8,D4,Ax,simprocAttr]
  .have:=Sw (Tc s g) hcv;rw[Bn];omega
 .simp(disch:=omega)only[Qj,Dj,D4,Ax,simprocAttr];simp[Out.goes]
def ng (s:SetR) (g:Dat) (hw:SetW s) (hgw:g.wf) (hd:s.data.length<=1000000):S tx 2 [s.pv,g.pv]=some [.s (signedM s g).1,.i .i64 (signedM s g).2]:=by
 have k1:=Fq 46 g hgw;have k1w:=K4 46 g hgw;have k2:=Xq s hw hd;have k3:=Av1 s.name hw.name;have hlk:=Rw s.name;unfold signedM;refine Fn6 (N:=100) rfl ?_;rcases Bs (En 46 g) with hg|hg
 .rw[hg] at k1;rw[if_pos hg] at k1w;rcases Bs (i4 s) with hs|hs
  .rw[hs] at k2;rw[if_neg (by simp[hg,hs])];by_cases ha:g.a=s.typ
   .by_cases hb:((labK s.name).length:Int)<g.b
    .rw[if_pos (.inr hb)];generalize wireD 46 g=wd at*;generalize (labK s.name).length=lk at*;simp(disch:=omega)only[Qj,k1,k2,k3,ha,hb,D4,Ax,simprocAttr]
    .rw[if_neg (fun q=>q.elim (fun q=>q ha) hb)];obtain⟨hb0,hc0,_⟩:=Dm7 hg;obtain⟨_,hsl,hall⟩:=Pd hs;have hul:(unsetR s).length=s.data.length:=by unfold unsetR;rw[E6]
     have hown:=qk s.name g.b hw.name;have k9:=Nr s hd;have k10:=xq (unsetR s) (Kh hw) (by omega);have key:=fun p2 p3 p4 p5 p8 p9=>im s g hw hgw hg hs p2 p3 p4 p5 p8 p9 hown 100 (by omega);have hwl:=Il hg;have htl:g.text.length<=(wireD 46 g).length:=by obtain⟨x,hx,_⟩:=Z8 g;rw[hx,Bn];omega
     have ht:=N5 htl;by_cases hbl:g.b=((labK s.name).length:Int)
     .have ho:ownK s.name g.b=s.name:=by unfold ownK;rw[if_pos hbl]
      rw[ho] at key;have hbl':((labK s.name).length:Int)=g.b:=hbl.symm;rw[hbl'] at k3;generalize (wireD 46 g).take ((wireD 46 g).length - g.text.length)=tk at*;generalize bodyK s g=bd at*;generalize wireD 46 g=wd at*;generalize sortR (unsetR s)=sr at*;generalize unsetR s=us at*;simp(disch:=omega)only[Qj,k1,k1w,k2,k3,k9,k10,key,ha,ht,Dj,D4,Ax,simprocAttr]
     .have k4:=Kc s.name hw.name;have hll:=Gp s.name;obtain⟨m,hm⟩:∃m:Nat,g.b=(m:Int):=⟨g.b.toNat,by omega⟩;have hlab:(labK s.name).length<=(lbl s.name).length:=by
       unfold labK;split
       .rw[C2];omega
       .exact B6 _
      have ls:=Bs5 (lbl s.name) m (by omega) (by omega);rw[<-Bg0 s.name m (by omega),<-hm] at ls;have hdl:((labK s.name).drop ((labK s.name).length - m)).length<=1000:=by rw[C2];omega
      have ap:=wg _ hdl;have k5:=Dq3 (starK s.name m) (R9 s.name m) (by unfold starK;simp) (Sj s.name m);have e:starK s.name m=[42]::(labK s.name).drop ((labK s.name).length - m):=rfl;rw[<-e] at ap;have ho:ownK s.name g.b=(joinL (starK s.name m)).1:=by unfold ownK;rw[if_neg hbl,hm,E9]
      rw[ho] at key;have hlt:Lk 1 [.s [42]]=some (.l 1 [.s [42]]):=rfl;have hbl':¬((labK s.name).length:Int)=g.b:=fun q=>hbl q.symm;generalize joinL (starK s.name m)=j at*;generalize starK s.name m=st at*;generalize (labK s.name).drop ((labK s.name).length - m)=dr at*;generalize lbl s.name=lb at*;generalize (labK s.name).length=lk at*;generalize (wireD 46 g).take ((wireD 46 g).length - g.text.length)=tk at*;generalize bodyK s g=bd at*;generalize wireD 46 g=wd at*;generalize sortR (unsetR s)=sr at*;generalize unsetR s=us at*;simp(disch:=omega)only[Qj,k1,k1w,k2,k3,k4,k5,k9,k10,key,ha,hb,hbl',ht,ls,ap,hlt,D4,Ax,simprocAttr]
   .rw[if_pos (.inl ha)];simp(disch:=omega)only[Qj,k1,k2,ha,D4,Ax,simprocAttr]
  .rw[hs] at k2;rw[if_pos (.inr hs)];simp(disch:=omega)only[Qj,k1,k2,D4,Ax,simprocAttr]
 .rw[hg] at k1;rw[if_pos (.inl hg)];simp(disch:=omega)only[Qj,k1,D4,Ax,simprocAttr]
def tagK (d:Dat):Int:=if En 48 d=true then Fv3 (wireD 48 d) else 0
def Ep6 (d:Dat) (h:d.wf):S Bd1 1 [d.pv]=some [.i .i64 (tagK d)]:=by
 have k1:=Pk 48 d h;unfold tagK;refine Gr5 (N:=1) rfl ?_;rcases Bs (En 48 d) with hv|hv
 .have hl:=Il hv;have k2:=Ep5 (wireD 48 d) (by omega);rw[if_pos hv] at k1 ⊢;generalize wireD 48 d=w at*;simp(disch:=omega)only[Es7,k1,k2,Ax,simprocAttr]
 .rw[if_neg (by simp[hv]),if_pos (by decide)] at k1;rw[if_neg (by simp[hv])];simp(disch:=omega)only[Es7,k1,Ax,simprocAttr]
def Dk6 (d:Dat) (h:d.wf):S tz 1 [d.pv]=some [.i .i64 (tagK d)]:=by
 have k0:=Fq 48 d h;have k1:=K4 48 d h;unfold tagK;refine Fn8 (N:=1) rfl ?_;rcases Bs (En 48 d) with hv|hv
 .have hl:=Il hv;have k2:=Dk7 (wireD 48 d) (by omega);rw[hv] at k0;rw[if_pos hv] at k1 ⊢;generalize wireD 48 d=w at*;simp(disch:=omega)only[Dw2,k0,k1,k2,Ax,simprocAttr]
 .rw[hv] at k0;rw[if_neg (by simp[hv])];simp(disch:=omega)only[Dw2,k0,Ax,simprocAttr]
def Cy0 (zone:List UInt8) (key:Dat) (s:SetR) (g:Dat) (now:Int):Int:=
 if g.host≠zone∨under s.name zone=false∨g.f≠tagK key then 18
 else if En 48 key=false then 5
 else if(signedM s g).2≠0 then(signedM s g).2
 else if now<g.e∨g.d<now then 20
 else if g.text≠macM key.text (signedM s g).1 then 19
 else 0
def Vg (s:SetR) (g:Dat):(signedM s g).1.length<=10000000:=by
 unfold signedM;split
 .simp
 .rename_i h;split
  .simp
  .have hg:En 46 g=true:=by
    rcases Bs (En 46 g) with q|q
    .exact q
    .exact absurd (.inl q) h
   have hs:i4 s=true:=by
    rcases Bs (i4 s) with q|q
    .exact q
    .exact absurd (.inr q) h
   exact(ww hg hs).1
def Aw2 (zone:List UInt8) (key:Dat) (s:SetR) (g:Dat) (now:Int) (hz:zone.length<=9223372036854775807) (hk:key.wf) (hw:SetW s) (hgw:g.wf) (hd:s.data.length<=1000000):
  S Ch7 5 [.s zone,key.pv,s.pv,g.pv,.i .i64 now]=some [.i .i64 (Cy0 zone key s g now)]:=by
 have k1:=Uq s.name zone hw.name hz;have k2:=Ep6 key hk;have k3:=Pm 48 key hk;have k4:=Aw3 s g hw hgw hd;have hsl:=Vg s g;unfold Cy0;refine Gr2 (N:=1) rfl ?_;generalize tagK key=tk at*;by_cases h1:g.host=zone
 .rcases Bs (under s.name zone) with h2|h2
  .rw[h2] at k1;by_cases h3:g.f=tk
   .rw[if_neg (by simp[h1,h2,h3])];rcases Bs (En 48 key) with h4|h4
    .have h4t:key.text.length<=255:=(Ny h4).text;have k5:=Er0 key.text (signedM s g).1 (by omega) (by omega);rw[h4] at k3;rw[if_neg (by simp[h4])];generalize macM key.text (signedM s g).1=mm at*;generalize signedM s g=sm at*;by_cases h5:sm.2=0
     .rw[if_neg (by simp[h5])];by_cases h6:now<g.e
      .rw[if_pos (.inl h6)];simp(disch:=omega)only[W0,k1,k2,k3,k4,h1,h3,h5,h6,D4,Ax,simprocAttr]
      .by_cases h7:g.d<now
       .rw[if_pos (.inr h7)];simp(disch:=omega)only[W0,k1,k2,k3,k4,h1,h3,h5,h6,h7,D4,Ax,simprocAttr]
       .rw[if_neg (fun q=>q.elim h6 h7)];by_cases h8:g.text=mm
        .rw[if_neg (by simp[h8])];simp(disch:=omega)only[W0,k1,k2,k3,k4,k5,h1,h3,h5,h6,h7,h8,D4,Ax,simprocAttr]
        .rw[if_pos h8];simp(disch:=omega)only[W0,k1,k2,k3,k4,k5,h1,h3,h5,h6,h7,h8,D4,Ax,simprocAttr]
     .rw[if_pos h5];simp(disch:=omega)only[W0,k1,k2,k3,k4,h1,h3,h5,D4,Ax,simprocAttr]
    .rw[h4] at k3;rw[if_pos h4];simp(disch:=omega)only[W0,k1,k2,k3,h1,h3,D4,Ax,simprocAttr]
   .rw[if_pos (.inr (.inr h3))];simp(disch:=omega)only[W0,k1,k2,h1,h3,D4,Ax,simprocAttr]
  .rw[h2] at k1;rw[if_pos (.inr (.inl h2))];simp(disch:=omega)only[W0,k1,h1,D4,Ax,simprocAttr]
 .rw[if_pos (.inl h1)];simp(disch:=omega)only[W0,h1,D4,Ax,simprocAttr]
def nd (zone:List UInt8) (key:Dat) (s:SetR) (g:Dat) (now:Int) (hz:zone.length<=9223372036854775807) (hk:key.wf) (hw:SetW s) (hgw:g.wf) (hd:s.data.length<=1000000):
  S Ch6 5 [.s zone,key.pv,s.pv,g.pv,.i .i64 now]=some [.i .i64 (Cy0 zone key s g now)]:=by
 have k1:=Uv s.name zone hw.name hz;have k2:=Dk6 key hk;have k3:=Fq 48 key hk;have k4:=ng s g hw hgw hd;have hsl:=Vg s g;unfold Cy0;refine Gr1 (N:=1) rfl ?_;generalize tagK key=tk at*;by_cases h1:g.host=zone
 .rcases Bs (under s.name zone) with h2|h2
  .rw[h2] at k1;by_cases h3:g.f=tk
   .rw[if_neg (by simp[h1,h2,h3])];rcases Bs (En 48 key) with h4|h4
    .have h4t:key.text.length<=255:=(Ny h4).text;have k5:=Dq2 key.text (signedM s g).1 (by omega) (by omega);rw[h4] at k3;rw[if_neg (by simp[h4])];generalize macM key.text (signedM s g).1=mm at*;generalize signedM s g=sm at*;by_cases h5:sm.2=0
     .rw[if_neg (by simp[h5])];by_cases h6:now<g.e
      .rw[if_pos (.inl h6)];simp(disch:=omega)only[Wt,k1,k2,k3,k4,h1,h3,h5,h6,D4,Ax,simprocAttr]
      .by_cases h7:g.d<now
       .rw[if_pos (.inr h7)];simp(disch:=omega)only[Wt,k1,k2,k3,k4,h1,h3,h5,h6,h7,D4,Ax,simprocAttr]
       .rw[if_neg (fun q=>q.elim h6 h7)];by_cases h8:g.text=mm
        .rw[if_neg (by simp[h8])];simp(disch:=omega)only[Wt,k1,k2,k3,k4,k5,h1,h3,h5,h6,h7,h8,D4,Ax,simprocAttr]
        .rw[if_pos h8];simp(disch:=omega)only[Wt,k1,k2,k3,k4,k5,h1,h3,h5,h6,h7,h8,D4,Ax,simprocAttr]
     .rw[if_pos h5];simp(disch:=omega)only[Wt,k1,k2,k3,k4,h1,h3,h5,D4,Ax,simprocAttr]
    .rw[h4] at k3;rw[if_pos h4];simp(disch:=omega)only[Wt,k1,k2,k3,h1,h3,D4,Ax,simprocAttr]
   .rw[if_pos (.inr (.inr h3))];simp(disch:=omega)only[Wt,k1,k2,h1,h3,D4,Ax,simprocAttr]
  .rw[h2] at k1;rw[if_pos (.inr (.inl h2))];simp(disch:=omega)only[Wt,k1,h1,D4,Ax,simprocAttr]
 .rw[if_pos (.inl h1)];simp(disch:=omega)only[Wt,h1,D4,Ax,simprocAttr]
set_option maxRecDepth 100000 in
def Av8:S Cl8 0 []=some [.b true]:=(Sy ext_mono).2 ⟨400,by kernel_rfl⟩
def sgnB (s:SetR) (r:Rec):Bool:=decide (r.typ=46) && decide (r.name=s.name) && decide (r.data.a=s.typ)
def verB (zone:List UInt8) (keys:List Dat) (s:SetR) (g:Dat) (now:Int):Bool:=keys.any fun k=>decide (Cy0 zone k s g now=0)
def verR (zone:List UInt8) (keys:List Dat) (now:Int) (s:SetR) (r:Rec):Bool:=sgnB s r && verB zone keys s r.data now
structure AskOk (zone:List UInt8) (keys:List Dat):Prop where
 zoneL:zone.length<=9223372036854775807
 keysW:∀d∈keys,d.wf
 few:keys.length<=1000
def g9 (zone:List UInt8) (keys:List Dat) (s:SetR) (r:Rec) (now:Int) (ha:AskOk zone keys) (hs:SetW s) (hd:s.data.length<=1000000) (hr:r.wf):
  S Aj4 5 [.s zone,Dx keys,s.pv,r.pv,.i .i64 now]=some [.b (verR zone keys now s r)]:=by
 have hf:=ha.few;have key:Dg1.ev S (keys.length+1) [.s zone,Dx keys,s.pv,r.pv,.i .i64 now]=some (if verB zone keys s r.data now=true then .ret [.b true] else .yld 0 []):=by
  unfold verB;refine Em keys (fun i=>[.i .i64 (i:Int)]) (fun _ l=>if(l.any fun k=>decide (Cy0 zone k s r.data now=0))=true then .ret [.b true] else .yld 0 []) rfl (by omega) (fun i c l hd2 hi hc=> ?_) ?_
  .have k:=Aw2 zone c s r.data now ha.zoneL (ha.keysW c (Cv hc)) hs hr.data hd;have hil:(i:Int)<(keys.length:Int):=by omega
   by_cases h:Cy0 zone c s r.data now=0
   .right;simp(disch:=omega)only[gt,hc,hil,k,h,D4,Ax,simprocAttr];simp[h,Out.goes]
   .left;refine⟨?_,by simp[h]⟩;simp(disch:=omega)only[gt,hc,hil,k,h,D4,Ax,simprocAttr]
  .simp(disch:=omega)only[gt,Dj,D4,Ax,simprocAttr];simp[Out.goes]
 refine Gt4 (N:=keys.length+1) rfl ?_;unfold verR sgnB;by_cases h1:r.typ=46
 .by_cases h2:r.name=s.name
  .by_cases h3:r.data.a=s.typ
   .rcases Bs (verB zone keys s r.data now) with hv|hv<;>rw[hv] at key ⊢<;>simp(disch:=omega)only[gt,key,h1,h2,h3,D4,Ax,simprocAttr]<;>simp
   .simp(disch:=omega)only[gt,h1,h2,h3,D4,Ax,simprocAttr]
    try simp[h3]
  .simp(disch:=omega)only[gt,h1,h2,D4,Ax,simprocAttr]
   try simp[h2]
 .simp(disch:=omega)only[gt,h1,D4,Ax,simprocAttr]
  try simp[h1]
def xr (s:SetR) (r:Rec):S Cl2 2 [r.pv,s.pv]=some [.b (sgnB s r)]:=by
 refine Gt3 (N:=1) rfl ?_;unfold sgnB;by_cases h1:r.typ=46
 .by_cases h2:r.name=s.name
  .simp(disch:=omega)only[Dl9,h1,h2,D4,Ax,simprocAttr]
   try simp
  .simp(disch:=omega)only[Dl9,h1,h2,D4,Ax,simprocAttr]
   try simp[h2]
 .simp(disch:=omega)only[Dl9,h1,D4,Ax,simprocAttr]
  try simp[h1]
def W3 (zone:List UInt8) (keys:List Dat) (s:SetR) (g:Dat) (now:Int) (ha:AskOk zone keys) (hs:SetW s) (hd:s.data.length<=1000000) (hr:g.wf):
  S Cl1 5 [.s zone,Dx keys,s.pv,g.pv,.i .i64 now]=some [.b (verB zone keys s g now)]:=by
 have hf:=ha.few;have key:Dg0.ev S (keys.length+1) [.s zone,Dx keys,s.pv,g.pv,.i .i64 now]=some (if verB zone keys s g now=true then .ret [.b true] else .yld 0 []):=by
  unfold verB;refine Em keys (fun i=>[.i .i64 (i:Int)]) (fun _ l=>if(l.any fun k=>decide (Cy0 zone k s g now=0))=true then .ret [.b true] else .yld 0 []) rfl (by omega) (fun i c l hd2 hi hc=> ?_) ?_
  .have k:=nd zone c s g now ha.zoneL (ha.keysW c (Cv hc)) hs hr hd;have hil:(i:Int)<(keys.length:Int):=by omega
   by_cases h:Cy0 zone c s g now=0
   .right;simp(disch:=omega)only[Cx6,hc,hil,k,h,D4,Ax,simprocAttr];simp[h,Out.goes]
   .left;refine⟨?_,by simp[h]⟩;simp(disch:=omega)only[Cx6,hc,hil,k,h,D4,Ax,simprocAttr]
  .simp(disch:=omega)only[Cx6,Dj,D4,Ax,simprocAttr];simp[Out.goes]
 refine Gt2 (N:=keys.length+1) rfl ?_;rcases Bs (verB zone keys s g now) with hv|hv<;>rw[hv] at key ⊢<;>simp(disch:=omega)only[Cx6,key,D4,Ax,simprocAttr]<;>simp
def Cs2 (x:Ask):S Gb8 1 [x.pv]=some [.b (decide ((x.keys.length:Int)<=8))]:=by refine Hw9 (N:=1) rfl ?_;simp(disch:=omega)only[Hw6,Gc8,D4,Ax,simprocAttr]
def zS:SetR:=⟨[],0,0,[]⟩
def isS (n:List UInt8) (t:Int) (x:SetR):Bool:=decide (x.name=n) && decide (x.typ=t)
def setF (l:List SetR) (n:List UInt8) (t:Int):Option SetR:=l.find? (isS n t)
def Eq4:Option SetR->List PV
 |some x=>[x.pv,.b true]
 |none=>[zS.pv,.b false]
def Bp6 (l:List SetR) (n:List UInt8) (t:Int) (hl:l.length<=1000000):S z9 3 [D6 l,.s n,.i .i64 t]=some (Eq4 (setF l n t)):=by
 have key:Dd9.ev S (l.length+1) [D6 l,.s n,.i .i64 t]=some (match setF l n t with|some x=> .ret [x.pv,.b true]|none=> .yld 0 [.s [],.i .i64 0,.i .i64 0,Dx []]):=by
  unfold setF;refine Em l (fun i=>[.i .i64 (i:Int),.s [],.i .i64 0,.i .i64 0,Dx []]) (fun _ l=>match l.find? (isS n t) with|some x=> .ret [x.pv,.b true]|none=> .yld 0 [.s [],.i .i64 0,.i .i64 0,Dx []]) (by simp(disch:=omega)only[D4,Ax,simprocAttr]) (by omega) (fun i c r hd2 hi hc=> ?_) ?_
  .have hil:(i:Int)<(l.length:Int):=by omega
   by_cases h1:c.name=n
   .by_cases h2:c.typ=t
    .right;have e:(c::r).find? (isS n t)=some c:=H4 (by simp[isS,h1,h2]);rw[e];simp(disch:=omega)only[xy,hc,hil,h1,h2,D4,Ax,simprocAttr];simp[Out.goes]
    .left;have e:(c::r).find? (isS n t)=r.find? (isS n t):=Dr (by simp[isS,h2]);refine⟨?_,by rw[e]⟩;simp(disch:=omega)only[xy,hc,hil,h1,h2,D4,Ax,simprocAttr]
   .left;have e:(c::r).find? (isS n t)=r.find? (isS n t):=Dr (by simp[isS,h1]);refine⟨?_,by rw[e]⟩;simp(disch:=omega)only[xy,hc,hil,h1,D4,Ax,simprocAttr]
  .simp(disch:=omega)only[xy,Dj,D4,Ax,simprocAttr];simp[Out.goes]
 refine Gr9 (N:=l.length+1) rfl ?_;cases h:setF l n t with
 |some x=>
  rw[h] at key;simp only at key;simp(disch:=omega)only[xy,key,Eq4,D4,Ax,simprocAttr]
 |none=>
  rw[h] at key;simp only at key;simp(disch:=omega)only[xy,key,Eq4,D4,Ax,simprocAttr]
  try rfl
def Rk (l:List Rec):(setsR l).length<=l.length:=by
 have h:∀(l:List Rec) (g:List SetR),(l.foldl addS g).length<=g.length+l.length:=by
  intro l
  induction l with
  |nil=>intro g;exact B6 _
  |cons r l ih=>
   intro g;have h1:=ih (addS g r);have h2:=w6 g r;rw[Gb2,Cw];omega
 have h1:=h (sortR l) [];have h2:=J6 l;unfold setsR Ar4;rw[Cm] at h1;omega
def Cg7 (l:List Rec) (n:List UInt8) (t:Int) (hw:∀r∈l,r.wf) (hl:l.length<=100000):S Ch9 3 [B9 l,.s n,.i .i64 t]=some (Eq4 (setF (setsR l) n t)):=by
 have k1:=xv l hw hl;have hsl:=Rk l;generalize setsR l=ss at*;have key:Df2.ev S (ss.length+1) [B9 l,.s n,.i .i64 t,D6 ss]=some (match setF ss n t with|some x=> .ret [x.pv,.b true]|none=> .yld 0 [.s [],.i .i64 0,.i .i64 0,Dx []]):=by
  unfold setF;refine Em ss (fun i=>[.i .i64 (i:Int),.s [],.i .i64 0,.i .i64 0,Dx []]) (fun _ l=>match l.find? (isS n t) with|some x=> .ret [x.pv,.b true]|none=> .yld 0 [.s [],.i .i64 0,.i .i64 0,Dx []]) (by simp(disch:=omega)only[D4,Ax,simprocAttr]) (by omega) (fun i c r hd2 hi hc=> ?_) ?_
  .have hil:(i:Int)<(ss.length:Int):=by omega
   by_cases h1:c.name=n
   .by_cases h2:c.typ=t
    .right;have e:(c::r).find? (isS n t)=some c:=H4 (by simp[isS,h1,h2]);rw[e];simp(disch:=omega)only[xz,hc,hil,h1,h2,D4,Ax,simprocAttr];simp[Out.goes]
    .left;have e:(c::r).find? (isS n t)=r.find? (isS n t):=Dr (by simp[isS,h2]);refine⟨?_,by rw[e]⟩;simp(disch:=omega)only[xz,hc,hil,h1,h2,D4,Ax,simprocAttr]
   .left;have e:(c::r).find? (isS n t)=r.find? (isS n t):=Dr (by simp[isS,h1]);refine⟨?_,by rw[e]⟩;simp(disch:=omega)only[xz,hc,hil,h1,D4,Ax,simprocAttr]
  .simp(disch:=omega)only[xz,Dj,D4,Ax,simprocAttr];simp[Out.goes]
 refine Gs3 (N:=ss.length+1) rfl ?_;cases h:setF ss n t with
 |some x=>
  rw[h] at key;simp only at key;simp(disch:=omega)only[xz,k1,key,Eq4,D4,Ax,simprocAttr]
 |none=>
  rw[h] at key;simp only at key;simp(disch:=omega)only[xz,k1,key,Eq4,D4,Ax,simprocAttr]
  try rfl
def Gz8 {g:List SetR} {r:Rec} (hg:∀x∈g,SetW x) (hr:r.wf):∀x∈addS g r,SetW x:=by
 have h1:SetW ⟨r.name,r.typ,r.ttl,[r.data]⟩:=⟨hr.name,hr.typ,hr.ttl,fun d hd=>by rw[Cn.1 hd];exact hr.data⟩;intro x hx;unfold addS at hx;split at hx
 .rename_i y hy;have hym:=hg y (Nt hy);split at hx
  .rcases C9.1 hx with hx|hx
   .exact hg x (List.dropLast_subset _ hx)
   .rw[Cn.1 hx];refine⟨hym.name,hym.typ,?_,fun d hd=> ?_⟩
    .show Zw (if r.ttl<y.ttl then r.ttl else y.ttl);split
     .exact hr.ttl
     .exact hym.ttl
    .rcases C9.1 hd with hd|hd
     .exact hym.data d hd
     .rw[Cn.1 hd];exact hr.data
  .rcases C9.1 hx with hx|hx
   .exact hg x hx
   .rw[Cn.1 hx];exact h1
 .rw[Cn.1 hx];exact h1
def Ep4 {g:List SetR} {r:Rec} {n:Nat} (hg:∀x∈g,x.data.length<=n):∀x∈addS g r,x.data.length<=n+1:=by
 intro x hx;unfold addS at hx;split at hx
 .rename_i y hy;have hym:=hg y (Nt hy);split at hx
  .rcases C9.1 hx with hx|hx
   .have:=hg x (List.dropLast_subset _ hx);omega
   .rw[Cn.1 hx];show (y.data++[r.data]).length<=n+1;rw[Bn,Ip];omega
  .rcases C9.1 hx with hx|hx
   .have:=hg x hx;omega
   .rw[Cn.1 hx];simp
 .rw[Cn.1 hx];simp
def Ar3:∀(l:List Rec) (g:List SetR) (n:Nat),(∀x∈g,SetW x)->(∀x∈g,x.data.length<=n)->(∀r∈l,r.wf)->∀x∈l.foldl addS g,SetW x∧x.data.length<=n+l.length
 |[],g,n,h1,h2,_=>fun x hx=>⟨h1 x hx,by have:=h2 x hx;simpa using this⟩
 |r::l,g,n,h1,h2,h3=>fun x hx=>by obtain⟨i1,i2⟩:=Ar3 l (addS g r) (n+1) (Gz8 h1 (h3 r (.head _))) (Ep4 h2) (fun y hy=>h3 y (.tail _ hy)) x hx;exact⟨i1,by rw[Cw];omega⟩
def Xv (l:List Rec) (hw:∀r∈l,r.wf):∀x∈setsR l,SetW x∧x.data.length<=l.length:=fun x hx=>by obtain⟨h1,h2⟩:=Ar3 (sortR l) [] 0 (by simp) (by simp) (fun r hr=>hw r (((Pb l).2 r).1 hr).mem) x hx;have:=J6 l;exact⟨h1,by omega⟩
def Hw5:SetW zS:=⟨Dc _,⟨by decide,by decide⟩,⟨by decide,by decide⟩,by simp[zS]⟩
def Ar8 {l:List Rec} {n:List UInt8} {t:Int} (hw:∀r∈l,r.wf):SetW ((setF (setsR l) n t).getD zS)∧((setF (setsR l) n t).getD zS).data.length<=l.length:=by
 cases h:setF (setsR l) n t with
 |some x=>exact Xv l hw x (List.mem_of_find?_eq_some h)
 |none=>exact⟨Hw5,by simp[zS]⟩
def Ar7 (o:Option SetR):Eq4 o=[(o.getD zS).pv,.b o.isSome]:=by cases o<;>rfl
def fz (a:List Dat) (ha:a.length<=1000000):S Cl3 2 [Dx a,Dx a]=some [.b true]:=by
 refine Gt7 (N:=a.length+1) rfl ?_;have key:Dg3.ev S (a.length+1) [Dx a,Dx a]=some (.yld 0 []):=by
  refine Em a (fun j=>[.i .i64 (j:Int)]) (fun _ _=> .yld 0 []) rfl (by omega) (fun j c r hd2 hj hc=> ?_) ?_
  .left;refine⟨?_,rfl⟩;have hjl:(j:Int)<(a.length:Int):=by omega
   simp(disch:=omega)only[Dm2,hc,hjl,D4,Ax,simprocAttr]
  .simp(disch:=omega)only[Dm2,Dj,D4,Ax,simprocAttr];simp[Out.goes]
 simp(disch:=omega)only[Dm2,key,D4,Ax,simprocAttr]
end Go.X.G
/- validate: what a checker knows, by the program. -/
namespace Go.X
open Go
structure Ck where
 zone:List UInt8
 keys:List Dat
 m:Msg
 now:Int
 ans:List SetR
 auth:List SetR
 proofs:List Rec
def Ck.cells (c:Ck):List PV:= .s c.zone::Dx c.keys::(c.m.cells++[.i .i64 c.now,D6 c.ans,D6 c.auth,B9 c.proofs])
def Ck.av (c:Ck):PV:= .a c.cells
def Ck.pt (c:Ck):PV:= .pt c.cells
def Gx9 (c:Ck):l7 c.pt=some c.av:=rfl
def Eq7 (c:Ck):It c.pt=some c.pt:=rfl
def Cd5 (c:Ck):C0 0 c.av=some (.s c.zone):=rfl
def Cd4 (c:Ck):C0 1 c.av=some (Dx c.keys):=rfl
def Cd3 (c:Ck):C0 4 c.av=some (.i .i64 c.m.code):=rfl
def By8 (c:Ck):C0 15 c.av=some (.i .i64 c.m.q.typ):=rfl
def By7 (c:Ck):C0 16 c.av=some (B9 c.m.ans):=rfl
def By6 (c:Ck):C0 17 c.av=some (B9 c.m.auth):=rfl
def By5 (c:Ck):C0 19 c.av=some (.i .i64 c.now):=rfl
def By4 (c:Ck):C0 20 c.av=some (D6 c.ans):=rfl
def By3 (c:Ck):C0 21 c.av=some (D6 c.auth):=rfl
def By2 (c:Ck):C0 22 c.av=some (B9 c.proofs):=rfl
def Cy7 (c:Ck):Kk 14 2 c.av=some c.m.q.pv:=rfl
def Gj4 (z:List UInt8) (k:List Dat) (id op code size qt now:Int) (b1 b2 b3 b4 b5 b6 b7 b8:Bool) (qn:List UInt8) (an au ex p:List Rec) (a b:List SetR):
  jl 0 (.a [.s z,Dx k,.i .i64 id,.i .i64 op,.i .i64 code,.b b1,.b b2,.b b3,.b b4,.b b5,.b b6,.b b7,.b b8,.i .i64 size,.s qn,.i .i64 qt,B9 an,B9 au,B9 ex,.i .i64 now,D6 a,D6 b,B9 p])=
   some (Ck.pt ⟨z,k,⟨id,op,code,b1,b2,b3,b4,b5,b6,b7,b8,size,⟨qn,qt⟩,an,au,ex⟩,now,a,b,p⟩):=rfl
set_option linter.defProp false in
def I4:=(And.intro @Ib (And.intro @Iz (And.intro @Gx9 (And.intro @Eq7 (And.intro @Cd5 (And.intro @Cd4 (And.intro @Cd3 (And.intro @By8 (And.intro @By7 (And.intro @By6 (And.intro @By5 (And.intro @By4 (And.intro @By3 (And.intro @By2 (And.intro @Cy7 @Gj4)))))))))))))))
end Go.X
namespace Go.X.G
open Go Go.X
def l8 (n:List UInt8) (hn:n.length<=9223372036854775807):S Ch5 1 [.s n]=some [.i .i64 ((labK n).length:Int)]:=by
 refine Gp9 (N:=1) rfl ?_;have k1:=Jf n hn;have hl:=Gp n;unfold labK;generalize lbl n=l at*;cases l with
 |nil=>simp(disch:=omega)only[Dl6,k1,Ax,simprocAttr];try simp
 |cons c r=>
  have hc:(c::r)[0]? =some c:=rfl;have hp:(0:Int)<((c::r).length:Int):=by rw[Cw];omega
  have hd:(((c::r).drop 1).length:Int)=((c::r).length:Int) - 1:=by rw[C2,Cw];omega
  by_cases h:c=[42]
  .rw[if_pos (by rw[hc,h]),hd];generalize hg:c::r=l at*;simp(disch:=omega)only[Dl6,k1,hc,hp,h,Ax,simprocAttr]
  .rw[if_neg (by rw[hc];simpa using h)];generalize hg:c::r=l at*;simp(disch:=omega)only[Dl6,k1,hc,hp,h,Ax,simprocAttr]
def Av0 (n:List UInt8) (hn:n.length<=9223372036854775807):S Ch4 1 [.s n]=some [.i .i64 ((labK n).length:Int)]:=by
 refine Gp1 (N:=1) rfl ?_;have k1:=Kc n hn;have hl:=Gp n;unfold labK;generalize lbl n=l at*;cases l with
 |nil=>simp(disch:=omega)only[Dl3,k1,Ax,simprocAttr];try simp
 |cons c r=>
  have hc:(c::r)[0]? =some c:=rfl;have hp:(0:Int)<((c::r).length:Int):=by rw[Cw];omega
  have hd:(((c::r).drop 1).length:Int)=((c::r).length:Int) - 1:=by rw[C2,Cw];omega
  by_cases h:c=[42]
  .rw[if_pos (by rw[hc,h]),hd];generalize hg:c::r=l at*;simp(disch:=omega)only[Dl3,k1,hc,hp,h,Ax,simprocAttr]
  .rw[if_neg (by rw[hc];simpa using h)];generalize hg:c::r=l at*;simp(disch:=omega)only[Dl3,k1,hc,hp,h,Ax,simprocAttr]
def setsN (l:List Rec):List SetR:=(setsR l).filter fun s=> !decide (s.typ=46)
def bq (l:List Rec) (hw:∀r∈l,r.wf) (hl:l.length<=100000):S Bc9 1 [B9 l]=some [D6 (setsN l)]:=by
 have k1:=Dq1 l hw hl;have hsl:=Rk l;unfold setsN;generalize setsR l=ss at*;refine Gr0 (N:=ss.length+1) rfl ?_;have key:Dd5.ev S (ss.length+1) [B9 l,D6 ss]=some (.yld 0 [D6 ([]++ss.filter fun s=> !decide (s.typ=46))]):=by
  refine Fp ss (fun i (g:List SetR)=>[D6 g,.i .i64 (i:Int)]) (fun _ g r=> .yld 0 [D6 (g++r.filter fun s=> !decide (s.typ=46))]) (fun i g=>g.length<=i) [] (by simp(disch:=omega)only[D4,Ax,simprocAttr]) (Dc _) (by omega) (fun i g c r hd hi hc hI=> ?_) (fun g hI=> ?_)
  .left;have hil:(i:Int)<(ss.length:Int):=by omega
   by_cases h:c.typ=46
   .refine⟨g,?_,by omega,by rw[Rf (by simp[h])]⟩;simp(disch:=omega)only[Cx5,hc,hil,h,D4,Ax,simprocAttr]
   .refine⟨g++[c],?_,by rw[Bn,Ip];omega,by rw[Ez (by simp[h]),Cq];rfl⟩;simp(disch:=omega)only[Cx5,hc,hil,h,D4,Ax,simprocAttr]
  .simp(disch:=omega)only[Cx5,Dj,D4,Ax,simprocAttr];simp[Out.goes]
 rw[Ek] at key;generalize ss.filter (fun s=> !decide (s.typ=46))=sf at*;simp(disch:=omega)only[Cx5,k1,key,D4,Ax,simprocAttr]
def Aw8 (zone:List UInt8) (keys:List Dat) (now:Int) (s:SetR) (r:Rec):Bool:=decide (r.data.b=((labK s.name).length:Int)) && verR zone keys now s r
def provB (zone:List UInt8) (keys:List Dat) (now:Int) (s:SetR) (sec:List Rec):Bool:=sec.any (Aw8 zone keys now s)
def bh (c:Ck) (s:SetR) (sec:List Rec) (ha:AskOk c.zone c.keys) (hs:SetW s) (hd:s.data.length<=1000000) (hw:∀r∈sec,r.wf) (hl:sec.length<=1000000):
  S jf 3 [c.pt,s.pv,B9 sec]=some [.b (provB c.zone c.keys c.now s sec)]:=by
 have k1:=l8 s.name hs.name;have key:Df8.ev S (sec.length+1) [c.pt,s.pv,B9 sec]=some (if provB c.zone c.keys c.now s sec=true then .ret [.b true] else .yld 0 []):=by
  unfold provB;refine Em sec (fun i=>[.i .i64 (i:Int)]) (fun _ l=>if l.any (Aw8 c.zone c.keys c.now s)=true then .ret [.b true] else .yld 0 []) rfl (by omega) (fun i x l hd2 hi hx=> ?_) ?_
  .have k2:=g9 c.zone c.keys s x c.now ha hs hd (hw x (Cv hx));have hil:(i:Int)<(sec.length:Int):=by omega
   have e:Aw8 c.zone c.keys c.now s x=(decide (x.data.b=((labK s.name).length:Int)) && verR c.zone c.keys c.now s x):=rfl;generalize verR c.zone c.keys c.now s x=v at*;generalize ((labK s.name).length:Int)=n at*;by_cases h:x.data.b=n
   .cases v with
    |true=>
     right;have e1:Aw8 c.zone c.keys c.now s x=true:=by rw[e];simp[h]
     simp(disch:=omega)only[Ay1,hx,hil,k1,k2,h,I4,D4,Ax,simprocAttr];simp[e1,Out.goes]
    |false=>
     left;have e1:Aw8 c.zone c.keys c.now s x=false:=by rw[e];simp
     refine⟨?_,by simp[e1]⟩;simp(disch:=omega)only[Ay1,hx,hil,k1,k2,h,I4,D4,Ax,simprocAttr]
   .left;have e1:Aw8 c.zone c.keys c.now s x=false:=by rw[e];simp[h]
    refine⟨?_,by simp[e1]⟩;simp(disch:=omega)only[Ay1,hx,hil,k1,h,I4,D4,Ax,simprocAttr]
  .simp(disch:=omega)only[Ay1,Dj,I4,D4,Ax,simprocAttr];simp[Out.goes]
 refine Gt0 (N:=sec.length+1) rfl ?_;rcases Bs (provB c.zone c.keys c.now s sec) with hv|hv<;>rw[hv] at key ⊢<;>simp(disch:=omega)only[Ay1,key,I4,D4,Ax,simprocAttr]<;>simp
structure MsgOk (m:Msg):Prop where
 ans:m.ans.length<=1000
 auth:m.auth.length<=1000
 answ:∀r∈m.ans,r.wf
 authw:∀r∈m.auth,r.wf
 qn:m.q.name.length<=9223372036854775807
def X4 (zone:List UInt8) (keys:List Dat) (now:Int) (sec:List Rec) (s:SetR):Bool:=decide (s.typ=47) && under s.name zone && provB zone keys now s sec
def Vm (zone:List UInt8) (keys:List Dat) (now:Int) (sec:List Rec) (s:SetR):List Rec:=if X4 zone keys now sec s=true then unsetR s else []
def proofsN (zone:List UInt8) (keys:List Dat) (m:Msg) (now:Int):List Rec:=(setsR m.auth).flatMap (Vm zone keys now m.auth)
def Tf {D K:Type} (p:D->Bool) (f:D->List K):∀l:List D,(∀x∈l,p x=false->f x=[])->(l.filter p).flatMap f=l.flatMap f
 |[],_=>rfl
 |x::l,h=>by
  have ih:=Tf p f l fun y hy=>h y (.tail _ hy);rcases Bs (p x) with hp|hp
  .rw[Ez hp,El,El,ih]
  .rw[Rf (by simp[hp]),El,h x (.head _) hp,ih,Ek]
def y2 (zone:List UInt8) (keys:List Dat) (m:Msg) (now:Int):(setsN m.auth).flatMap (Vm zone keys now m.auth)=proofsN zone keys m now:=by refine Tf _ _ _ fun s _ hs=> ?_;simp only[Bool.not_eq_false',decide_eq_true_eq] at hs;unfold Vm X4;simp[hs]
def Zg (l:List SetR):Nat:=(l.map fun s=>s.data.length).sum
def Yd (a b:List SetR):Zg (a++b)=Zg a+Zg b:=by simp[Zg]
def Dk5 (g:List SetR) (r:Rec):Zg (addS g r)<=Zg g+1:=by
 unfold addS;split
 .rename_i y hy;split
  .have hne:g≠[]:=fun e=>by rw[e] at hy;cases hy
   have hgl:=List.getLast?_eq_some_getLast hne;rw[hy] at hgl;injection hgl with hgl;have e:Zg g=Zg (g.dropLast++[y]):=by rw[hgl,Kj]
   rw[e,Yd,Yd];simp[Zg];omega
  .rw[Yd];simp[Zg]
 .simp[Zg]
def Ar2 (l:List Rec):Zg (setsR l)<=l.length:=by
 have h:∀(l:List Rec) (g:List SetR),Zg (l.foldl addS g)<=Zg g+l.length:=by
  intro l
  induction l with
  |nil=>intro g;exact B6 _
  |cons r l ih=>
   intro g;have h1:=ih (addS g r);have h2:=Dk5 g r;rw[Gb2,Cw];omega
 have h1:=h (sortR l) [];have h2:=J6 l;have h3:Zg ([]:List SetR)=0:=rfl;unfold setsR Ar4;omega
def qj (zone:List UInt8) (keys:List Dat) (now:Int) (sec:List Rec):∀l:List SetR,(l.flatMap (Vm zone keys now sec)).length<=Zg l
 |[]=>by simp[Zg]
 |s::l=>by
  have ih:=qj zone keys now sec l;have h:(Vm zone keys now sec s).length<=s.data.length:=by
   unfold Vm;split
   .unfold unsetR;rw[E6];exact B6 _
   .simp
  rw[El,Bn];simp only[Zg,Gd,List.sum_cons] at ih ⊢;omega
def Sn (zone:List UInt8) (keys:List Dat) (m:Msg) (now:Int):(proofsN zone keys m now).length<=m.auth.length:=
 Eh (qj _ _ _ _ _) (Ar2 _)
def y1 (zone:List UInt8) (keys:List Dat) (m:Msg) (now:Int) (hw:∀r∈m.auth,r.wf):∀r∈proofsN zone keys m now,r.wf:=fun r hr=>by
 obtain⟨s,hs,hr⟩:=List.mem_flatMap.1 hr;unfold Vm at hr;split at hr
 .exact Kh (Xv m.auth hw s hs).1 r hr
 .cases hr
def ckM (zone:List UInt8) (keys:List Dat) (m:Msg) (now:Int):Ck:=⟨zone,keys,m,now,setsN m.ans,setsN m.auth,proofsN zone keys m now⟩
def Eq1 (l:List Rec) (hw:∀r∈l,r.wf):∀x∈setsN l,SetW x∧x.data.length<=l.length:=fun x hx=>Xv l hw x (Gc.1 hx).1
def pc (l:List Rec):(setsN l).length<=l.length:=Eh (List.length_filter_le _ _) (Rk l)
def Ey4 (zone:List UInt8) (keys:List Dat) (m:Msg) (now:Int) (ha:AskOk zone keys) (hm:MsgOk m):S Bd6 4 [.s zone,Dx keys,m.pv,.i .i64 now]=some [(ckM zone keys m now).pt]:=by
 have hm1:=hm.ans;have hm2:=hm.auth;have k1:=bq m.ans hm.answ (by omega);have k2:=bq m.auth hm.authw (by omega);have hnl:=pc m.auth;have hnw:=Eq1 m.auth hm.authw;have hsm:∀l:List SetR,(∀x∈l,x∈setsN m.auth)->True:=fun _ _=>trivial;have key:∀p4,Df9.ev S ((setsN m.auth).length+1) [.s zone,Dx keys,m.pv,.i .i64 now,D6 p4,D6 (setsN m.auth)]=some (.yld 0 [B9 ([]++(setsN m.auth).flatMap (Vm zone keys now m.auth))]):=by
  intro p4;refine Fp (setsN m.auth) (fun i (g:List Rec)=>[.i .i64 (i:Int),B9 g]) (fun _ g r=> .yld 0 [B9 (g++r.flatMap (Vm zone keys now m.auth))]) (fun i g=>g.length<=1000*i) [] (by simp(disch:=omega)only[D4,Ax,simprocAttr]) (Dc _) (by omega) (fun i g s r hd hi hs hI=> ?_) (fun g hI=> ?_)
  .left;have hil:(i:Int)<((setsN m.auth).length:Int):=by omega
   obtain⟨hsw,hsd⟩:=hnw s (Cv hs);have k3:=Uq s.name zone hsw.name ha.zoneL;have k4:=bh ⟨zone,keys,m,now,p4,setsN m.auth,g⟩ s m.auth ha hsw (by omega) hm.authw (by omega);have k5:=Np s (by omega);have hul:(unsetR s).length=s.data.length:=by unfold unsetR;rw[E6]
   simp only at k4;have a1:=Rc g (unsetR s) (by omega);refine⟨g++Vm zone keys now m.auth s,?_,?_,by rw[El,Cq]⟩
   .unfold Vm X4;generalize setsN m.auth=sn at*;by_cases h1:s.typ=47
    .rcases Bs (under s.name zone) with h2|h2
     .rw[h2] at k3;rcases Bs (provB zone keys now s m.auth) with h3|h3
      .rw[h3] at k4;rw[if_pos (by simp[h1,h2,h3])];simp(disch:=omega)only[xf,hs,hil,k3,k4,k5,a1,h1,I4,EVT,EVM,D4,Ax,simprocAttr]
      .rw[h3] at k4;rw[if_neg (by simp[h3]),Ev];simp(disch:=omega)only[xf,hs,hil,k3,k4,h1,I4,EVT,EVM,D4,Ax,simprocAttr]
     .rw[h2] at k3;rw[if_neg (by simp[h2]),Ev];simp(disch:=omega)only[xf,hs,hil,k3,h1,I4,EVT,EVM,D4,Ax,simprocAttr]
    .rw[if_neg (by simp[h1]),Ev];simp(disch:=omega)only[xf,hs,hil,h1,I4,EVT,EVM,D4,Ax,simprocAttr]
   .rw[Bn];have:(Vm zone keys now m.auth s).length<=1000:=by
     unfold Vm;split
     .omega
     .simp
    omega
  .simp(disch:=omega)only[xf,Dj,I4,EVT,EVM,D4,Ax,simprocAttr];simp[Out.goes]
 rw[Ek,y2] at key;refine Gt1 (N:=(setsN m.auth).length+1) rfl ?_;unfold ckM;generalize proofsN zone keys m now=pf at*;generalize setsN m.auth=sn at*;generalize setsN m.ans=sa at*;simp(disch:=omega)only[xf,k1,k2,key,I4,EVT,EVM,D4,Ax,simprocAttr]
end Go.X.G
namespace Go.X.G
open Go Go.X
def Tm {D:Type} (p q:D->Bool) (h:∀x,q x=true->p x=true):∀l:List D,(l.filter p).find? q=l.find? q
 |[]=>rfl
 |x::l=>by
  have ih:=Tm p q h l;rcases Bs (q x) with hq|hq
  .rw[Ez (h x hq),H4 hq,H4 hq]
  .rcases Bs (p x) with hp|hp
   .rw[Ez hp,Dr (by simp[hq]),Dr (by simp[hq]),ih]
   .rw[Rf (by simp[hp]),Dr (by simp[hq]),ih]
def Dx0 (l:List Rec) (n:List UInt8) (t:Int) (ht:t≠46):setF (setsN l) n t=setF (setsR l) n t:=by refine Tm _ _ (fun x hx=> ?_) _;simp only[isS,B0,decide_eq_true_eq] at hx;simp[hx.2,ht]
def Eq5 {l:List Rec} {n:List UInt8} {t:Int} (ht:t≠46) (hw:∀r∈l,r.wf):SetW ((setF (setsN l) n t).getD zS)∧((setF (setsN l) n t).getD zS).data.length<=l.length:=by rw[Dx0 l n t ht];exact Ar8 hw
def bitB (r:Rec) (t:Nat):Bool:=decide (bit r.data.bits t=1)
def X8 (r:Rec) (t:Int) (n:Nat) (h:t=(n:Int)) (hn:n<64):S z6 1 [.i .i64 t,r.pv]=some [.b (bitB r n)]:=by
 subst h;refine Gp6 (N:=1) rfl ?_;unfold bitB;have hb:IntKind.u64.bits=64:=rfl;have h0:IntKind.u64.wrap (n:Int)=(n:Int):=Fk5 (by omega) (by omega);have h3:X.bin .shr (.i .u64 r.data.bits) (.i .u64 (n:Int))=some (.i .u64 (r.data.bits / 2 ^ n)):=Sv _ _ _ _ (by rw[hb];omega);have h4:r.data.bits / 2 ^ n % 2=bit r.data.bits n:=rfl;simp(disch:=omega)only[Gd8,Nn,Es3,h0,h3,h4,D4,Ax,simprocAttr]
 try simp
def kq (zone:List UInt8) (r:Rec):Bool:=decide (r.typ=2) && !decide (r.name=zone) && under r.name zone
def Zv (zone:List UInt8) (l:List Rec):Option (List UInt8):=(l.find? (kq zone)).map Rec.name
def Kr (child:List UInt8) (r:Rec):Bool:=decide (r.name=child) && bitB r 2 && !bitB r 43 && !bitB r 6
def Gk5 {zone c:List UInt8} {l:List Rec} (h:Zv zone l=some c):c≠[]∧under c zone=true∧c≠zone:=by
 unfold Zv at h;cases hf:l.find? (kq zone) with
 |none=>rw[hf] at h;cases h
 |some r=>
  rw[hf] at h;injection h with h;have hk:=List.find?_some hf;simp only[kq,B0,D5,decide_eq_false_iff_not] at hk;subst h;refine⟨fun e=> ?_,hk.2,hk.1.2⟩;have hv:=(Z9.1 hk.2).1;rw[e] at hv;exact absurd hv (by decide)
def At2 (zone:List UInt8) (keys:List Dat) (m:Msg) (now:Int) (c:List UInt8):List Dat×Int:=
 if((setF (setsR m.auth) c 43).isSome && provB zone keys now ((setF (setsR m.auth) c 43).getD zS) m.auth)=true then(((setF (setsR m.auth) c 43).getD zS).data,1)
 else if(proofsN zone keys m now).any (Kr c)=true then([],2) else([],3)
def refM (zone:List UInt8) (keys:List Dat) (m:Msg) (now:Int):List UInt8×List Dat×Int:=
 match Zv zone m.auth with
 |some c=>(c,At2 zone keys m now c)
 |none=>([],[],3)
def jk (zone:List UInt8) (keys:List Dat) (m:Msg) (now:Int) (ha:AskOk zone keys) (hm:MsgOk m):
  S Bd5 1 [(ckM zone keys m now).pt]=some [.s (refM zone keys m now).1,Dx (refM zone keys m now).2.1,.i .i64 (refM zone keys m now).2.2]:=by
 have hm2:=hm.auth;have hpl:=Sn zone keys m now;have key:Df7.ev S (m.auth.length+(proofsN zone keys m now).length+1) [(ckM zone keys m now).pt]=some (.yld 0 [.s ((Zv zone m.auth).getD [])]):=by
  unfold Zv ckM;refine Em m.auth (fun i=>[.s [],.i .i64 (i:Int)]) (fun _ l=> .yld 0 [.s (((l.find? (kq zone)).map Rec.name).getD [])]) (by simp(disch:=omega)only[D4,Ax,simprocAttr]) (by omega) (fun i x l hd2 hi hx=> ?_) ?_
  .have hil:(i:Int)<(m.auth.length:Int):=by omega
   have hxw:=hm.authw x (Cv hx);have k1:=Uq x.name zone hxw.name ha.zoneL;have e:kq zone x=(decide (x.typ=2) && !decide (x.name=zone) && under x.name zone):=rfl;generalize under x.name zone=u at*;generalize proofsN zone keys m now=pf at*;generalize setsN m.auth=sn at*;generalize setsN m.ans=sa at*;by_cases h1:x.typ=2
   .by_cases h2:x.name=zone
    .left;have e1:kq zone x=false:=by rw[e];simp[h2]
     refine⟨?_,by rw[Dr (by simp[e1])]⟩;simp(disch:=omega)only[Nv,hx,hil,h1,h2,I4,EVT,EVM,D4,Ax,simprocAttr]
    .cases u with
     |true=>
      right;have e1:kq zone x=true:=by rw[e];simp[h1,h2]
      simp(disch:=omega)only[Nv,hx,hil,h1,h2,k1,I4,EVT,EVM,D4,Ax,simprocAttr];simp[H4 e1,Out.goes]
     |false=>
      left;have e1:kq zone x=false:=by rw[e];simp
      refine⟨?_,by rw[Dr (by simp[e1])]⟩;simp(disch:=omega)only[Nv,hx,hil,h1,h2,k1,I4,EVT,EVM,D4,Ax,simprocAttr]
   .left;have e1:kq zone x=false:=by rw[e];simp[h1]
    refine⟨?_,by rw[Dr (by simp[e1])]⟩;simp(disch:=omega)only[Nv,hx,hil,h1,I4,EVT,EVM,D4,Ax,simprocAttr]
  .generalize proofsN zone keys m now=pf at*;generalize setsN m.auth=sn at*;generalize setsN m.ans=sa at*;simp(disch:=omega)only[Nv,Dj,I4,EVT,EVM,D4,Ax,simprocAttr];simp[Out.goes]
 have key2:∀c p2 p3 p4,Bg6.ev S (m.auth.length+(proofsN zone keys m now).length+1) [(ckM zone keys m now).pt,.s c,p2,p3,p4]=some (if(proofsN zone keys m now).any (Kr c)=true then .ret [.s c,Dx [],.i .i64 2] else .yld 0 []):=by
  intro c p2 p3 p4;unfold ckM;generalize proofsN zone keys m now=pf at*;generalize setsN m.auth=sn at*;generalize setsN m.ans=sa at*;refine Em pf (fun i=>[.i .i64 (i:Int)]) (fun _ l=>if l.any (Kr c)=true then .ret [.s c,Dx [],.i .i64 2] else .yld 0 []) rfl (by omega) (fun i x l hd2 hi hx=> ?_) ?_
  .have hil:(i:Int)<(pf.length:Int):=by omega
   have k1:=X8 x 2 2 rfl (by decide);have k2:=X8 x 43 43 rfl (by decide);have k3:=X8 x 6 6 rfl (by decide);have e:Kr c x=(decide (x.name=c) && bitB x 2 && !bitB x 43 && !bitB x 6):=rfl;generalize bitB x 2=b1 at*;generalize bitB x 43=b2 at*;generalize bitB x 6=b3 at*;by_cases h1:x.name=c
   .subst h1;cases b1 with
    |false=>
     left;have e1:Kr x.name x=false:=by rw[e];simp
     refine⟨?_,by simp[e1]⟩;simp(disch:=omega)only[Nv,hx,hil,k1,G6,T7,T8,I4,EVT,EVM,D4,Ax,simprocAttr]
    |true=>
     cases b2 with
     |true=>
      left;have e1:Kr x.name x=false:=by rw[e];simp
      refine⟨?_,by simp[e1]⟩;simp(disch:=omega)only[Nv,hx,hil,k1,k2,G6,T7,T8,I4,EVT,EVM,D4,Ax,simprocAttr]
     |false=>
      cases b3 with
      |true=>
       left;have e1:Kr x.name x=false:=by rw[e];simp
       refine⟨?_,by simp[e1]⟩;simp(disch:=omega)only[Nv,hx,hil,k1,k2,k3,G6,T7,T8,I4,EVT,EVM,D4,Ax,simprocAttr]
      |false=>
       right;have e1:Kr x.name x=true:=by rw[e];simp
       simp(disch:=omega)only[Nv,hx,hil,k1,k2,k3,G6,T7,T8,I4,EVT,EVM,D4,Ax,simprocAttr];simp[e1,Out.goes]
   .left;have e1:Kr c x=false:=by rw[e];simp[h1]
    refine⟨?_,by simp[e1]⟩;simp(disch:=omega)only[Nv,hx,hil,h1,G6,T7,T8,I4,EVT,EVM,D4,Ax,simprocAttr]
  .simp(disch:=omega)only[Nv,Dj,I4,EVT,EVM,D4,Ax,simprocAttr];simp[Out.goes]
 refine Gs9 (N:=m.auth.length+(proofsN zone keys m now).length+1) rfl ?_;have hsn:=pc m.auth;cases hk:Zv zone m.auth with
 |none=>
  have er:refM zone keys m now=([],[],3):=by unfold refM;rw[hk]
  rw[er];rw[hk] at key;have h0:(none:Option (List UInt8)).getD []=[]:=rfl;rw[h0] at key;clear key2;unfold ckM at*;generalize proofsN zone keys m now=pf at*;generalize setsN m.auth=sn at*;generalize setsN m.ans=sa at*;simp(disch:=omega)only[Nv,key,I4,EVT,EVM,D4,Ax,simprocAttr]
  try rfl
 |some c=>
  rw[hk] at key;have h0:(some c).getD []=c:=rfl;rw[h0] at key;have hne:=(Gk5 hk).1;have k2:=Bp6 (setsN m.auth) c 43 (by omega);rw[Ar7] at k2;obtain⟨hs,hsd⟩:=Eq5 (n:=c) (t:=43) (by decide) hm.authw;have k3:=bh (ckM zone keys m now) ((setF (setsN m.auth) c 43).getD zS) m.auth ha hs (by omega) hm.authw (by omega);have e3:(ckM zone keys m now).zone=zone:=rfl;have e4:(ckM zone keys m now).keys=keys:=rfl;have e5:(ckM zone keys m now).now=now:=rfl;rw[e3,e4,e5] at k3;have er:refM zone keys m now=(c,At2 zone keys m now c):=by unfold refM;rw[hk]
  rw[er];unfold At2;rw[<-Dx0 m.auth c 43 (by decide)];have key3:=key2 c ((setF (setsN m.auth) c 43).getD zS).pv (.b (setF (setsN m.auth) c 43).isSome);generalize (setF (setsN m.auth) c 43).isSome=ok at*;generalize (setF (setsN m.auth) c 43).getD zS=s at*;have hx:(ckM zone keys m now).auth=setsN m.auth:=rfl;generalize provB zone keys now s m.auth=pb at*;have fin:∀{p4},Bg6.ev S (m.auth.length+(proofsN zone keys m now).length+1) [(ckM zone keys m now).pt,.s c,s.pv,.b ok,p4]=_:=fun {p4}=>key3 p4;generalize hpp:(proofsN zone keys m now).any (Kr c)=pp at*;clear key2 key3;unfold ckM at*;generalize hq:proofsN zone keys m now=pf at*;generalize setsN m.auth=sn at*;generalize setsN m.ans=sa at*;cases ok with
  |true=>
   cases pb with
   |true=>
    simp(disch:=omega)only[Nv,key,k2,k3,hne,I4,EVT,EVM,D4,Ax,simprocAttr]
    try simp
   |false=>
    cases pp<;>simp(disch:=omega)only[Nv,key,fin,k2,k3,hne,I4,EVT,EVM,D4,Ax,simprocAttr]<;>try simp
  |false=>
   cases pp<;>simp(disch:=omega)only[Nv,key,fin,k2,hne,I4,EVT,EVM,D4,Ax,simprocAttr]<;>try simp
def pr (zone:List UInt8) (keys:List Dat) (m:Msg) (now:Int) (c:List UInt8) (hm:MsgOk m):(At2 zone keys m now c).1.length<=1000:=by
 have h1:=(Ar8 (n:=c) (t:=43) hm.authw).2;have h2:=hm.auth;unfold At2;split
 .simp only;omega
 .split<;>simp
def referM (zone:List UInt8) (keys:List Dat) (m:Msg) (now:Int):List Dat×Int:=
 if keys=[] then([],2) else match Zv zone m.auth with
 |some c=>At2 zone keys m now c
 |none=>([],3)
def f5 (zone:List UInt8) (keys:List Dat) (m:Msg) (now:Int) (ha:AskOk zone keys) (hm:MsgOk m):
  S Cl5 4 [.s zone,Dx keys,m.pv,.i .i64 now]=some [Dx (referM zone keys m now).1,.i .i64 (referM zone keys m now).2]:=by
 refine Gt9 (N:=1) rfl ?_;unfold referM;by_cases h:keys=[]
 .subst h;rw[if_pos rfl];simp(disch:=omega)only[Fj0,I4,EVT,EVM,D4,Ax,simprocAttr]
  try simp
 .have h':¬(keys.length:Int)=0:=by have:=C1.2 h;omega
  rw[if_neg h];have k1:=Ey4 zone keys m now ha hm;have k2:=jk zone keys m now ha hm;have e:refM zone keys m now=match Zv zone m.auth with|some c=>(c,At2 zone keys m now c)|none=>([],[],3):=rfl
  have e2:(match Zv zone m.auth with|some c=>At2 zone keys m now c|none=>([],3))=(refM zone keys m now).2:=by rw[e];cases Zv zone m.auth<;>rfl
  rw[e2];have hl:(refM zone keys m now).2.1.length<=1000:=by
   rw[<-e2];cases Zv zone m.auth with
   |none=>exact Dc _
   |some c=>exact pr zone keys m now c hm
  generalize refM zone keys m now=r at*;have h0:I9 13 (Dx []) (Dx r.2.1)=some (Dx r.2.1):=by have:=P6 13 [] (r.2.1.map Dat.pv) (by simp;omega);simpa [Dx] using this
  generalize (ckM zone keys m now).pt=ck at*;simp(disch:=omega)only[Fj0,h',k1,k2,h0,I4,EVT,EVM,D4,Ax,simprocAttr]
def Hx2 (x:Int) (h:0<=x) (h1:x<=18446744073709551615):X.bin .quo (.i .u64 x) (.i .u64 2)=some (.i .u64 (x / 2)):=by have e:x.tdiv 2=x / 2:=Int.tdiv_eq_ediv_of_nonneg h;have e2:IntKind.u64.wrap (x / 2)=x / 2:=Fk5 (by omega) (by omega);simp[X.bin,Gj,e,e2]
def Hx1 (x:Int) (h:0<=x):X.bin .rem (.i .u64 x) (.i .u64 2)=some (.i .u64 (x % 2)):=by simp[X.bin,Gj,Int.tmod_eq_emod_of_nonneg h]
def Ys (r:Rec) (t:Int) (n:Nat) (h:t=(n:Int)) (hn:n<64) (hr:r.wf):S Aj1 2 [.i .u64 r.data.bits,.i .i64 t]=some [.b (bitB r n)]:=by
 subst h;obtain⟨h0,h1⟩:=hr.data.bits;have hp:∀i:Nat,0<=r.data.bits / 2 ^ i∧r.data.bits / 2 ^ i<=18446744073709551615:=fun i=>
  ⟨Int.ediv_nonneg h0 (Int.pow_nonneg (by decide)),Int.le_trans (Int.ediv_le_self _ h0) h1⟩
 have key:Df1.ev S 65 [.i .u64 r.data.bits,.i .i64 (n:Int)]=some (.yld 0 [.i .u64 (r.data.bits / 2 ^ n)]):=by
  refine F0 n (fun i=>[.i .u64 (r.data.bits / 2 ^ i),.i .i64 (i:Int)]) (fun _=> .yld 0 [.i .u64 (r.data.bits / 2 ^ n)]) ?_ (by omega) (fun i hi=> ?_) ?_
  .rw[Int.pow_zero,Int.ediv_one];simp(disch:=omega)only[D4,Ax,simprocAttr];try rfl
  .left;refine⟨?_,rfl⟩;have hil:(i:Int)<(n:Int):=by omega
   have e:r.data.bits / 2 ^ (i+1)=r.data.bits / 2 ^ i / 2:=by rw[Int.pow_succ,Int.ediv_ediv_of_nonneg (Int.pow_nonneg (by decide))]
   have q:=Hx2 _ (hp i).1 (hp i).2;rw[e];generalize r.data.bits / 2 ^ i=g at*;simp(disch:=omega)only[Dl8,hil,q,D4,Ax,simprocAttr]
  .refine⟨?_,rfl⟩;generalize r.data.bits / 2 ^ n=g at*;simp(disch:=omega)only[Dl8,Dj,D4,Ax,simprocAttr]
 refine Gs2 (N:=65) rfl ?_;have q:=Hx1 _ (hp n).1;have e:bitB r n=decide (r.data.bits / 2 ^ n % 2=1):=rfl;rw[e];generalize r.data.bits / 2 ^ n=g at*;simp(disch:=omega)only[Dl8,key,q,D4,Ax,simprocAttr]
def Uw (zone:List UInt8) (keys:List Dat) (s:SetR) (sec:List Rec) (now:Int) (ha:AskOk zone keys) (hs:SetW s) (hd:s.data.length<=1000000) (hw:∀r∈sec,r.wf) (hl:sec.length<=1000000):
  S Bd3 5 [.s zone,Dx keys,s.pv,B9 sec,.i .i64 now]=some [.b (provB zone keys now s sec)]:=by
 have k1:=Av0 s.name hs.name;have key:Df4.ev S (sec.length+1) [.s zone,Dx keys,s.pv,B9 sec,.i .i64 now]=some (if provB zone keys now s sec=true then .ret [.b true] else .yld 0 []):=by
  unfold provB;refine Em sec (fun i=>[.i .i64 (i:Int)]) (fun _ l=>if l.any (Aw8 zone keys now s)=true then .ret [.b true] else .yld 0 []) rfl (by omega) (fun i x l hd2 hi hx=> ?_) ?_
  .have hxw:=hw x (Cv hx);have k2:=W3 zone keys s x.data now ha hs hd hxw.data;have k3:=xr s x;have hil:(i:Int)<(sec.length:Int):=by omega
   have e:Aw8 zone keys now s x=(decide (x.data.b=((labK s.name).length:Int)) && (sgnB s x && verB zone keys s x.data now)):=rfl;generalize verB zone keys s x.data now=v at*;generalize sgnB s x=g at*;generalize ((labK s.name).length:Int)=n at*;cases g with
   |false=>
    left;have e1:Aw8 zone keys now s x=false:=by rw[e];simp
    refine⟨?_,by simp[e1]⟩;simp(disch:=omega)only[xb,hx,hil,k3,D4,Ax,simprocAttr]
   |true=>
    by_cases h:x.data.b=n
    .cases v with
     |true=>
      right;have e1:Aw8 zone keys now s x=true:=by rw[e];simp[h]
      simp(disch:=omega)only[xb,hx,hil,k1,k2,k3,h,D4,Ax,simprocAttr];simp[e1,Out.goes]
     |false=>
      left;have e1:Aw8 zone keys now s x=false:=by rw[e];simp
      refine⟨?_,by simp[e1]⟩;simp(disch:=omega)only[xb,hx,hil,k1,k2,k3,h,D4,Ax,simprocAttr]
    .left;have e1:Aw8 zone keys now s x=false:=by rw[e];simp[h]
     refine⟨?_,by simp[e1]⟩;simp(disch:=omega)only[xb,hx,hil,k1,k3,h,D4,Ax,simprocAttr]
  .simp(disch:=omega)only[xb,Dj,D4,Ax,simprocAttr];simp[Out.goes]
 refine Gs5 (N:=sec.length+1) rfl ?_;rcases Bs (provB zone keys now s sec) with hv|hv<;>rw[hv] at key ⊢<;>simp(disch:=omega)only[xb,key,D4,Ax,simprocAttr]<;>simp
def jw (p0 p1 p2 p3 p4 p6 p7 p8:PV) (g rs:List Rec) (N:Nat) (hN:rs.length<N) (hg:g.length<=1000000) (hr:rs.length<=1000000):
  Dc5.ev S N [p0,p1,p2,p3,p4,B9 g,p6,p7,p8,B9 rs]=some (.yld 2 [B9 (g++rs)]):=by
 refine Fp rs (fun i (a:List Rec)=>[B9 a,.i .i64 (i:Int)]) (fun _ a r=> .yld 2 [B9 (a++r)]) (fun i a=>a.length<=1000000+i) g rfl (by omega) hN (fun i a c r hd hi hc hI=> ?_) (fun a hI=> ?_)
 .left;have hil:(i:Int)<(rs.length:Int):=by omega
  refine⟨a++[c],?_,by rw[Bn,Ip];omega,by rw[Cq];rfl⟩;simp(disch:=omega)only[Z0,hc,hil,D4,Ax,simprocAttr]
 .simp(disch:=omega)only[Z0,Dj,D4,Ax,simprocAttr];simp[Out.goes]
def nn (zone:List UInt8) (keys:List Dat) (m:Msg) (now:Int) (ha:AskOk zone keys) (hm:MsgOk m):S Cl0 4 [.s zone,Dx keys,m.pv,.i .i64 now]=some [B9 (proofsN zone keys m now)]:=by
 have hm2:=hm.auth;have k1:=xv m.auth hm.authw (by omega);have hsl:=Rk m.auth;have hnw:=Xv m.auth hm.authw;have key:Df6.ev S (2000) [.s zone,Dx keys,m.pv,.i .i64 now,D6 (setsR m.auth)]=some (.yld 0 [B9 ([]++(setsR m.auth).flatMap (Vm zone keys now m.auth))]):=by
  refine Fp (setsR m.auth) (fun i (g:List Rec)=>[B9 g,.i .i64 (i:Int)]) (fun _ g r=> .yld 0 [B9 (g++r.flatMap (Vm zone keys now m.auth))]) (fun i g=>g.length<=1000*i) [] (by simp(disch:=omega)only[D4,Ax,simprocAttr]) (Dc _) (by omega) (fun i g s r hd hi hs hI=> ?_) (fun g hI=> ?_)
  .left;have hil:(i:Int)<((setsR m.auth).length:Int):=by omega
   obtain⟨hsw,hsd⟩:=hnw s (Cv hs);have k3:=Uv s.name zone hsw.name ha.zoneL;have k4:=Uw zone keys s m.auth now ha hsw (by omega) hm.authw (by omega);have k5:=Nr s (by omega);have hul:(unsetR s).length=s.data.length:=by unfold unsetR;rw[E6]
   have a1:=fun p4 p7 p8=>jw (.s zone) (Dx keys) m.pv (.i .i64 now) p4 (.i .i64 (i:Int)) p7 p8 g (unsetR s) 2000 (by omega) (by omega) (by omega);refine⟨g++Vm zone keys now m.auth s,?_,?_,by rw[El,Cq]⟩
   .unfold Vm X4;generalize setsR m.auth=sn at*;by_cases h1:s.typ=47
    .rcases Bs (under s.name zone) with h2|h2
     .rw[h2] at k3;rcases Bs (provB zone keys now s m.auth) with h3|h3
      .rw[h3] at k4;rw[if_pos (by simp[h1,h2,h3])];simp(disch:=omega)only[Z0,hs,hil,k3,k4,k5,a1,h1,I4,EVT,EVM,D4,Ax,simprocAttr]
      .rw[h3] at k4;rw[if_neg (by simp[h3]),Ev];simp(disch:=omega)only[Z0,hs,hil,k3,k4,h1,I4,EVT,EVM,D4,Ax,simprocAttr]
     .rw[h2] at k3;rw[if_neg (by simp[h2]),Ev];simp(disch:=omega)only[Z0,hs,hil,k3,h1,I4,EVT,EVM,D4,Ax,simprocAttr]
    .rw[if_neg (by simp[h1]),Ev];simp(disch:=omega)only[Z0,hs,hil,h1,I4,EVT,EVM,D4,Ax,simprocAttr]
   .rw[Bn];have:(Vm zone keys now m.auth s).length<=1000:=by
     unfold Vm;split
     .omega
     .simp
    omega
  .simp(disch:=omega)only[Z0,Dj,I4,EVT,EVM,D4,Ax,simprocAttr];simp[Out.goes]
 rw[Ek] at key;refine Gs8 (N:=2000) rfl ?_;unfold proofsN;generalize (setsR m.auth).flatMap (Vm zone keys now m.auth)=pf at*;generalize setsR m.auth=sn at*;simp(disch:=omega)only[Z0,k1,key,I4,EVT,EVM,D4,Ax,simprocAttr]
def Aw5 (zone:List UInt8) (m:Msg) (hz:zone.length<=9223372036854775807) (hm:MsgOk m):
  S Aj2 2 [.s zone,m.pv]=some [.s ((Zv zone m.auth).getD []),.b (Zv zone m.auth).isSome]:=by
 have hm2:=hm.auth;have key:Df3.ev S (m.auth.length+1) [.s zone,m.pv]=some (match Zv zone m.auth with|some c=> .ret [.s c,.b true]|none=> .yld 0 []):=by
  unfold Zv;refine Em m.auth (fun i=>[.i .i64 (i:Int)]) (fun _ l=>match (l.find? (kq zone)).map Rec.name with|some c=> .ret [.s c,.b true]|none=> .yld 0 []) rfl (by omega) (fun i x l hd2 hi hx=> ?_) ?_
  .have hil:(i:Int)<(m.auth.length:Int):=by omega
   have hxw:=hm.authw x (Cv hx);have k1:=Uv x.name zone hxw.name hz;have e:kq zone x=(decide (x.typ=2) && !decide (x.name=zone) && under x.name zone):=rfl;generalize under x.name zone=u at*;by_cases h1:x.typ=2
   .by_cases h2:x.name=zone
    .left;have e1:kq zone x=false:=by rw[e];simp[h2]
     refine⟨?_,by rw[Dr (by simp[e1])]⟩;simp(disch:=omega)only[gr,hx,hil,h1,h2,I4,EVT,EVM,D4,Ax,simprocAttr]
    .cases u with
     |true=>
      right;have e1:kq zone x=true:=by rw[e];simp[h1,h2]
      simp(disch:=omega)only[gr,hx,hil,h1,h2,k1,I4,EVT,EVM,D4,Ax,simprocAttr];simp[H4 e1,Out.goes]
     |false=>
      left;have e1:kq zone x=false:=by rw[e];simp
      refine⟨?_,by rw[Dr (by simp[e1])]⟩;simp(disch:=omega)only[gr,hx,hil,h1,h2,k1,I4,EVT,EVM,D4,Ax,simprocAttr]
   .left;have e1:kq zone x=false:=by rw[e];simp[h1]
    refine⟨?_,by rw[Dr (by simp[e1])]⟩;simp(disch:=omega)only[gr,hx,hil,h1,I4,EVT,EVM,D4,Ax,simprocAttr]
  .simp(disch:=omega)only[gr,Dj,I4,EVT,EVM,D4,Ax,simprocAttr];simp[Out.goes]
 refine Gs4 (N:=m.auth.length+1) rfl ?_;cases hk:Zv zone m.auth with
 |none=>
  rw[hk] at key;simp(disch:=omega)only[gr,key,I4,EVT,EVM,D4,Ax,simprocAttr]
  try rfl
 |some c=>
  rw[hk] at key;simp(disch:=omega)only[gr,key,I4,EVT,EVM,D4,Ax,simprocAttr]
  try rfl
def Cc0 (c:List UInt8) (pf:List Rec) (p0 p1 p2 p3 p5 p6 p7 p8:PV) (N:Nat) (hN:pf.length<N) (hpl:pf.length<=1000000) (hw:∀r∈pf,r.wf):
  Dg4.ev S N [p0,p1,p2,p3,.s c,p5,p6,p7,p8,B9 pf]=some (if pf.any (Kr c)=true then .ret [Dx [],.i .i64 2] else .yld 0 []):=by
 refine Em pf (fun i=>[.i .i64 (i:Int)]) (fun _ l=>if l.any (Kr c)=true then .ret [Dx [],.i .i64 2] else .yld 0 []) rfl hN (fun i x l hd2 hi hx=> ?_) ?_
 .have hil:(i:Int)<(pf.length:Int):=by omega
  have hxw:=hw x (Cv hx);have k1:=Ys x 2 2 rfl (by decide) hxw;have k2:=Ys x 43 43 rfl (by decide) hxw;have k3:=Ys x 6 6 rfl (by decide) hxw;have e:Kr c x=(decide (x.name=c) && bitB x 2 && !bitB x 43 && !bitB x 6):=rfl;generalize bitB x 2=b1 at*;generalize bitB x 43=b2 at*;generalize bitB x 6=b3 at*;by_cases h1:x.name=c
  .cases b1 with
   |false=>
    left;have e1:Kr c x=false:=by rw[e];simp
    refine⟨?_,by simp[e1]⟩;simp(disch:=omega)only[Rn,hx,hil,h1,k1,I4,EVT,EVM,D4,Ax,simprocAttr]
   |true=>
    cases b2 with
    |true=>
     left;have e1:Kr c x=false:=by rw[e];simp
     refine⟨?_,by simp[e1]⟩;simp(disch:=omega)only[Rn,hx,hil,h1,k1,k2,I4,EVT,EVM,D4,Ax,simprocAttr]
    |false=>
     cases b3 with
     |true=>
      left;have e1:Kr c x=false:=by rw[e];simp
      refine⟨?_,by simp[e1]⟩;simp(disch:=omega)only[Rn,hx,hil,h1,k1,k2,k3,I4,EVT,EVM,D4,Ax,simprocAttr]
     |false=>
      right;have e1:Kr c x=true:=by rw[e];simp[h1]
      simp(disch:=omega)only[Rn,hx,hil,h1,k1,k2,k3,I4,EVT,EVM,D4,Ax,simprocAttr];simp[e1,Out.goes]
  .left;have e1:Kr c x=false:=by rw[e];simp[h1]
   refine⟨?_,by simp[e1]⟩;simp(disch:=omega)only[Rn,hx,hil,h1,I4,EVT,EVM,D4,Ax,simprocAttr]
 .simp(disch:=omega)only[Rn,Dj,I4,EVT,EVM,D4,Ax,simprocAttr];simp[Out.goes]
def Y7 (zone:List UInt8) (keys:List Dat) (m:Msg) (now:Int) (ha:AskOk zone keys) (hm:MsgOk m):
  S Cl4 4 [.s zone,Dx keys,m.pv,.i .i64 now]=some [Dx (referM zone keys m now).1,.i .i64 (referM zone keys m now).2]:=by
 have hm2:=hm.auth;have hpl:=Sn zone keys m now;have hpw:=y1 zone keys m now hm.authw;refine Gt8 (N:=2000) rfl ?_;unfold referM;by_cases h:keys=[]
 .subst h;rw[if_pos rfl];simp(disch:=omega)only[Rn,I4,EVT,EVM,D4,Ax,simprocAttr]
  try simp
 .have h':¬(keys.length:Int)=0:=by have:=C1.2 h;omega
  rw[if_neg h];have k1:=Aw5 zone m ha.zoneL hm;have k4:=nn zone keys m now ha hm;cases hk:Zv zone m.auth with
  |none=>
   rw[hk] at k1;have k1':S Aj2 2 [.s zone,m.pv]=some [.s [],.b false]:=k1;simp(disch:=omega)only[Rn,h',k1',I4,EVT,EVM,D4,Ax,simprocAttr]
   try rfl
  |some c=>
   rw[hk] at k1;have k1':S Aj2 2 [.s zone,m.pv]=some [.s c,.b true]:=k1;have k2:=Cg7 m.auth c 43 hm.authw (by omega);rw[Ar7] at k2;obtain⟨hs,hsd⟩:=Ar8 (n:=c) (t:=43) hm.authw;have k3:=Uw zone keys ((setF (setsR m.auth) c 43).getD zS) m.auth now ha hs (by omega) hm.authw (by omega);have key:=fun p0 p1 p2 p3 p5 p6 p7 p8=>Cc0 c (proofsN zone keys m now) p0 p1 p2 p3 p5 p6 p7 p8 2000 (by omega) (by omega) hpw;show _=some (Out.ret [Dx (At2 zone keys m now c).1,.i .i64 (At2 zone keys m now c).2]);unfold At2;generalize (setF (setsR m.auth) c 43).isSome=ok at*;generalize (setF (setsR m.auth) c 43).getD zS=s at*;generalize provB zone keys now s m.auth=pb at*;generalize hpp:(proofsN zone keys m now).any (Kr c)=pp at*;generalize proofsN zone keys m now=pf at*;cases ok with
   |true=>
    cases pb with
    |true=>
     simp(disch:=omega)only[Rn,h',k1',k2,k3,I4,EVT,EVM,D4,Ax,simprocAttr]
     try simp
    |false=>
     cases pp<;>simp(disch:=omega)only[Rn,h',k1',k2,k3,k4,key,I4,EVT,EVM,D4,Ax,simprocAttr]<;>try simp
   |false=>
    cases pp<;>simp(disch:=omega)only[Rn,h',k1',k2,k4,key,I4,EVT,EVM,D4,Ax,simprocAttr]<;>try simp
def xp (m:Msg) (hm:m.wf):∃b,S Cl7 1 [m.pv]=some [.b b]∧(b=true->MsgOk m∧m.ans.length<=60∧m.auth.length<=60):=by
 have h0:=hm.ans.1;by_cases h1:(m.ans.length:Int)<=60
 .by_cases h2:(m.auth.length:Int)<=60
  .refine⟨true,Eq9 (N:=1) rfl ?_,fun _=>⟨⟨by omega,by omega,hm.ans.2,hm.auth.2,hm.q.name⟩,by omega,by omega⟩⟩;simp(disch:=omega)only[Dm3,h1,h2,EVT,EVM,D4,Ax,simprocAttr]
  .refine⟨false,Eq9 (N:=1) rfl ?_,fun h=>by cases h⟩;simp(disch:=omega)only[Dm3,h1,h2,EVT,EVM,D4,Ax,simprocAttr]
 .refine⟨false,Eq9 (N:=1) rfl ?_,fun h=>by cases h⟩;simp(disch:=omega)only[Dm3,h1,EVT,EVM,D4,Ax,simprocAttr]
def yq (zone:List UInt8) (keys:List Dat) (m:Msg) (now:Int) (hm:MsgOk m):(referM zone keys m now).1.length<=1000:=by
 unfold referM;split
 .exact Dc _
 .cases Zv zone m.auth with
  |none=>exact Dc _
  |some c=>exact pr zone keys m now c hm
def law_ValidateReferrals (x:Ask) (m:Msg) (hx:x.wf) (hm:m.wf):S Gb9 2 [x.pv,m.pv]=some [.b true]:=by
 have k0:=Av8;have k1:=Cs2 x;obtain⟨b,k2,hb⟩:=xp m hm;refine Hx0 (N:=1) rfl ?_;by_cases h1:(x.keys.length:Int)<=8
 .have ha:AskOk x.zone x.keys:=⟨hx.zone,hx.keys,by omega⟩;rw[decide_eq_true h1] at k1;cases b with
  |true=>
   obtain⟨hm1,_,_⟩:=hb rfl;have k3:=f5 x.zone x.keys m x.now ha hm1;have k4:=Y7 x.zone x.keys m x.now ha hm1;have hl:=yq x.zone x.keys m x.now hm1;have k5:=fz (referM x.zone x.keys m x.now).1 (by omega);generalize referM x.zone x.keys m x.now=v at*;simp(disch:=omega)only[Gf0,k0,k1,k2,k3,k4,k5,Gc8,EVT,EVM,D4,Ax,simprocAttr]
  |false=>
   simp(disch:=omega)only[Gf0,k0,k1,k2,Gc8,EVT,EVM,D4,Ax,simprocAttr]
 .rw[decide_eq_false h1] at k1;simp(disch:=omega)only[Gf0,k0,k1,Gc8,EVT,EVM,D4,Ax,simprocAttr]
end Go.X.G
