/- Merging in place: the library's function, the Z9. -/
import Derived.Test.YtjakmljndnkplaaGreatDoorProveRespondsG9
import Derived.Test.YtjakmljndnkplaaGreatDoorProveRespondsG7
import Derived.Test.YtjakmljndnkplaaGreatDoorProveRespondsG6
open Bool renaming eq_false_or_eq_true->Bl,and_eq_true->Bs,false_eq_true->B5,or_eq_true->Cy,not_eq_true'->Cn,eq_iff_iff->D7,or_eq_false_iff->Hb,and_eq_false_iff->Iy,not_eq_false->Jm,true_and->Wb,eq_false_iff->By7
open Classical renaming not_not->Ij
open Int renaming toNat_natCast->Ef,lt_irrefl->Fq
open List renaming getElem?_eq_some_iff->Bp,length_append->Br,getElem?_eq_getElem->Bt,mem_of_getElem?->B8,length_cons->B9,append_assoc->Cj,mem_cons->Cq,length_take->Cw,getElem?_append_right->Cb,pairwise_cons->Cd,length_pos_iff->Cg,getElem?_drop->Cl,getElem?_append_left->Cp,mem_filter->Cs,mem_append->Ct,length_nil->C1,all_eq_true->C4,mem_singleton->C6,nil_append->C8,length_drop->Dk,getElem?_map->Dq,eq_nil_of_length_eq_zero->Dv,take_append_drop->Dw,length_singleton->Dx,any_eq_true->Dc,drop_eq_getElem_cons->Dd,mem_append_right->Df,take_add_one->Dp,length_filter_le->Dr,length_map->Dt,getElem?_cons_zero->D2,mem_append_left->D9,drop_drop->Ey,append_nil->Eb,filter_cons_of_pos->Er,mem_map->Es,take_length->E3,getElem?_of_mem->E5,take_of_length_le->Fj,getElem_mem->Fw,flatMap_cons->Fy,getElem?_cons_succ->Fg,drop_zero->F3,suffix_iff_eq_drop->G8,filter_cons_of_neg->G9,pairwise_append->Hv,mem_of_mem_drop->Hy,isSuffixOf_iff_suffix->Hz,map_cons->Hh,getLast?_eq_getElem?->H1,count_cons_of_ne->Ix,length_set->Ih,mem_of_mem_take->I4,mem_of_getLast?->I5,count_cons_self->I6,drop_of_length_le->Jl,drop_append_of_le_length->L1,getLast_eq_getElem->Mc,getElem?_set_self->N1,filter_cons->O6,findIdx?_cons->Pd,set_append_right->Q1,mem_of_find?_eq_some->Sr,getElem?_eq_none_iff->Ss,getElem?_set_ne->Tp,filterMap_cons->Y5,drop_set_of_lt->Y6,length_eq_one_iff->m9,find?_cons_of_pos->nj,find?_cons_of_neg->nk,length_mergeSort->Ac8,getElem_take->By6,take_take->Cs5,take_left->Cs6,mem_flatMap->Fh9,map_append->Jr8,foldl_cons->Jr9,map_mergeSort->Jt8,count_eq_zero->Jt9
open Nat renaming le_refl->B7,mul_le_mul_right->C0,zero_le->C3,le_trans->D4,add_zero->Gh,min_eq_left->M6,add_sub_cancel->Pb
open Option renaming bind_some->B3,map_some->Cf,getD_some->Dm
open Option.some renaming injEq->Bn
set_option maxHeartbeats 1000000
set_option linter.defProp false
set_option linter.unusedVariables false
set_option linter.unusedSimpArgs false
namespace Go.X.G
open Go Go.X
def Ay:=And.intro xe<|And.intro EVP EV
def Ax:=And.intro EVC<|And.intro xe<|And.intro EVP EV
def Aw:=And.intro EVM<|And.intro EVC<|And.intro xe<|And.intro EVP EV
section
variable {g:Nat} {caps:List PV} {c:Rec->Rec->Int} {P:Rec->Prop}
def Kw3 (hC:Cmp g caps c P) (X A B Y:List Rec) (s:List Rec) (hsd:s=X++(A++(B++Y))) (a m b mid:Int) (h i0 j0:Nat) (ha:a=X.length) (hm:m=a+A.length) (hb:b=m+B.length) (hM:(a+b) / 2=mid) (hmid:mid=a+h)
  (h1:i0<=j0) (h2:j0<=A.length) (h3:j0<=h) (h4:h<=i0+B.length) (hs:s.length<=1000000) (hP:∀y∈s,P y) (N:Nat) (hN:A.length<N):
  ∃i:Nat,Eg5.ev S N [B4 s,.i .i64 a,.i .i64 m,.i .i64 b,.f g caps,.i .i64 (a+i0),.i .i64 (a+j0)]=some (.yld 0 [.i .i64 (a+i)])∧i0<=i∧i<=j0∧
   (∀x y,i≠i0->A[i - 1]? =some x->B[h - i]? =some y->¬c y x<0)∧∀x y,i≠j0->A[i]? =some x->B[h - 1 - i]? =some y->c y x<0:=by
 have hl:s.length=X.length+A.length+B.length+Y.length:=by rw[hsd];simp;omega
 have hA:∀k y,A[k]? =some y->s[X.length+k]? =some y:=fun k y hk=>by have:=(Bp.1 hk).1;rw[hsd,Cb (by omega),show X.length+k - X.length=k by omega,Cp this,hk]
 have hB:∀k y,B[k]? =some y->s[X.length+A.length+k]? =some y:=fun k y hk=>by have:=(Bp.1 hk).1;rw[hsd,Cb (by omega),Cb (by omega),show X.length+A.length+k - X.length - A.length=k by omega,Cp this,hk]
 have key:=J2 (fn:=S) (N:=N) (J:=[B4 s,.i .i64 a,.i .i64 m,.i .i64 b,.f g caps,.i .i64 (a+i0),.i .i64 (a+j0)]) (id:=1) (init:=[.v 5,.v 6]) (body:=Bq7) (D:=Nat×Nat)
  (fun w=>[.i .i64 (a+w.1),.i .i64 (a+w.2)])
  (fun o=>∃i:Nat,o= .yld 0 [.i .i64 (a+i)]∧i0<=i∧i<=j0∧(∀x y,i≠i0->A[i - 1]? =some x->B[h - i]? =some y->¬c y x<0)∧∀x y,i≠j0->A[i]? =some x->B[h - 1 - i]? =some y->c y x<0)
  (fun w=>w.1<=w.2∧i0<=w.1∧w.2<=j0∧(∀x y,w.1≠i0->A[w.1 - 1]? =some x->B[h - w.1]? =some y->¬c y x<0)∧∀x y,w.2≠j0->A[w.2]? =some x->B[h - 1 - w.2]? =some y->c y x<0)
  (fun w=>w.2 - w.1) (i0,j0) ?_ ?_ (by simp only;omega) ?_
 .obtain⟨o,h1,p,rfl,h2⟩:=key;exact⟨p,h1,h2⟩
 .simp(disch:=omega)only[EVT,Aw,simprocAttr]
 .exact⟨h1,B7 _,B7 _,fun x y h0=>absurd rfl h0,fun x y h0=>absurd rfl h0⟩
 .rintro⟨p,q⟩ ⟨g1,g2,g3,g4,g5⟩;simp only at g1 g2 g3 g4 g5;by_cases hpq:p<q
  .left;have hk:(p+q) / 2<A.length:=by omega
   have hx:=Bt hk;have hk2:h - 1 - (p+q) / 2<B.length:=by omega
   have hy:=Bt hk2;generalize A[(p+q) / 2]=x at hx;generalize B[h - 1 - (p+q) / 2]=y at hy;have hsx:=hA _ x hx;have hsy:=hB _ y hy;have hPx:P x:=hP x (B8 hsx);have hPy:P y:=hP y (B8 hsy);have hc:=hC.ok y x hPy hPx;have hlt:a+(p:Int)<a+(q:Int):=by omega
   have e1:(a+(p:Int)+(a+(q:Int))) / 2=a+(((p+q) / 2:Nat):Int):=by omega
   have e2:(a+(((p+q) / 2:Nat):Int)).toNat=X.length+(p+q) / 2:=by omega
   have e3:(mid+m - 1 - (a+(((p+q) / 2:Nat):Int))).toNat=X.length+A.length+(h - 1 - (p+q) / 2):=by omega
   have hkh:(p+q) / 2<h:=by omega
   by_cases hcy:c y x<0
   .refine⟨(p,(p+q) / 2),?_,⟨by simp only;omega,g2,by simp only;omega,g4,fun u v _ hu hv=> ?_⟩,by simp only;omega⟩
    .simp only;generalize (p+q) / 2=k at*;simp(disch:=omega)only[Hc,hlt,Gp,hM,e1,e2,e3,hsy,hsx,hc,hcy,EVT,Aw,simprocAttr]
    .simp only at hu hv;rw[hx] at hu;injection hu with hu;subst hu;rw[hy] at hv;injection hv with hv;subst hv;exact hcy
   .refine⟨((p+q) / 2+1,q),?_,⟨by simp only;omega,by simp only;omega,g3,fun u v _ hu hv=> ?_,g5⟩,by simp only;omega⟩
    .have e4:a+(((p+q) / 2+1:Nat):Int)=a+(((p+q) / 2:Nat):Int)+1:=by omega
     simp only[e4];generalize (p+q) / 2=k at*;simp(disch:=omega)only[Hc,hlt,Gp,hM,e1,e2,e3,hsy,hsx,hc,hcy,EVT,Aw,simprocAttr]
    .simp only[Pb] at hu hv;rw[show h - ((p+q) / 2+1)=h - 1 - (p+q) / 2 by omega] at hv;rw[hx] at hu;injection hu with hu;subst hu;rw[hy] at hv;injection hv with hv;subst hv;exact hcy
  .right;have e:p=q:=by omega
   subst e;have hlt:¬a+(p:Int)<a+(p:Int):=by omega
   refine⟨.yld 0 [.i .i64 (a+p)],?_,rfl,p,rfl,g2,g3,g4,g5⟩;simp(disch:=omega)only[Hc,hlt,EVT,Aw,simprocAttr]
def Hs5 {le:Rec->Rec->Bool} (ht:TP le) {B:List Rec} (hB:B.Pairwise fun x y=>le x y=true) (x:Rec) (p:Nat) (hp:p<=B.length) (h1:∀y,p≠0->B[p - 1]? =some y->le x y=false) (h2:∀y,B[p]? =some y->le x y=true):mrg le [x] B=B.take p++x::B.drop p:=by have e1:=c9 ht (A:=[x]) (B:=B) (by simp) hB 0 p (fun u v h=>absurd rfl h) (fun u v h0 hu hv=>by simp at hu;subst hu;exact h1 v h0 hv) (by simp) hp;have e2:=c9 ht (A:=[x]) (B:=B.drop p) (by simp) (hB.sublist (List.drop_sublist p B)) 1 0 (fun u v _ hu hv=>by simp at hu;subst hu;rw[Cl] at hv;exact h2 v hv) (fun u v h=>absurd rfl h) (by simp) (by simp);rw[e1];simp only[List.take_zero,F3,List.take_succ_cons,List.drop_succ_cons,P7] at e2 ⊢;rw[e2];simp[mrg]
def Hs4 {le:Rec->Rec->Bool} (ht:TP le) {A:List Rec} (hA:A.Pairwise fun x y=>le x y=true) (x:Rec) (p:Nat) (hp:p<=A.length) (h1:∀y,p≠0->A[p - 1]? =some y->le y x=true) (h2:∀y,A[p]? =some y->le y x=false):mrg le A [x]=A.take p++x::A.drop p:=by have e1:=c9 ht (A:=A) (B:=[x]) hA (by simp) p 0 (fun u v h0 hu hv=>by simp at hv;subst hv;exact h1 u h0 hu) (fun u v h=>absurd rfl h) hp (by simp);have e2:=c9 ht (A:=A.drop p) (B:=[x]) (hA.sublist (List.drop_sublist p A)) (by simp) 0 1 (fun u v h=>absurd rfl h) (fun u v _ hu hv=>by simp at hv;subst hv;rw[Cl] at hu;exact h2 u hu) (by simp) (by simp);rw[e1];simp only[List.take_zero,F3,List.take_succ_cons,List.drop_succ_cons,P7] at e2 ⊢;rw[e2];simp[mrg]
set_option maxHeartbeats 2000000 in
def N5 (hC:Cmp g caps c P) (ht:TP (leC c)):∀(n:Nat) (X A B Y:List Rec) (a m b:Int),A.length+B.length<=n->A≠[]->B≠[]->(A.Pairwise fun x y=>leC c x y=true)->(B.Pairwise fun x y=>leC c x y=true)->
  a=X.length->m=a+A.length->b=m+B.length->(X++A++B++Y).length<=1000000->(∀y∈X++A++B++Y,P y)->
  S cr 1048581 [B4 (X++A++B++Y),.i .i64 a,.i .i64 m,.i .i64 b,.f g caps]=some [B4 (X++mrg (leC c) A B++Y)]
 |0,X,A,B,Y,a,m,b,hn,hA,_,_,_,_,_,_,_,_=>absurd (Dv (by omega)) hA
 |n+1,X,A,B,Y,a,m,b,hn,hA,hB,sA,sB,ha,hm,hb,hs,hP=>by
  have hA':0<A.length:=Cg.2 hA;have hB':0<B.length:=Cg.2 hB;have hs2:=hs;simp only[Br] at hs2;obtain⟨N,hN⟩:∃N,N=A.length+B.length+1:=⟨_,rfl⟩;refine It7 (N:=N) rfl ?_;by_cases c1:A.length=1
  ·-- one ahead
   obtain⟨x,rfl⟩:=m9.1 c1;have hsd:X++[x]++B++Y=X++x::(B++Y):=by simp
   obtain⟨p,k1,k2,k3,k4⟩:=Kw7 hC X B Y x (X++[x]++B++Y) hsd a m b ha (by simpa using hm) hb hs hP N (by omega);have k5:=Kw6 X B Y x (X++[x]++B++Y) hsd a m b .u p ha (by simpa using hm) k2 hs N (by omega) (.i .i64 m) (.i .i64 b) (.f g caps);have e:=Hs5 ht sB x p k2 (fun y h0 hy=>Gz9.2 (k3 y h0 hy)) (fun y hy=>Gz8.2 (k4 y hy));rw[e];have q1:m - a=1:=by simp at hm;omega
   generalize X++[x]++B++Y=s at*;generalize X++(List.take p B++x::List.drop p B)++Y=u at*;simp(disch:=omega)only[Hc,q1,k1,k5,EVT,Aw,simprocAttr]
  .by_cases c2:B.length=1
   .obtain⟨x,rfl⟩:=m9.1 c2;have hsd:X++A++[x]++Y=X++(A++x::Y):=by simp
    obtain⟨p,k1,k2,k3,k4⟩:=Kw5 hC X A Y x (X++A++[x]++Y) hsd a m (.i .i64 b) ha hm hs hP N (by omega);have k5:=Kw4 X A Y x (X++A++[x]++Y) hsd a m p ha hm k2 hs N (by omega) (.i .i64 a) (.i .i64 b) (.f g caps);have e:=Hs4 ht sA x p k2 (fun y h0 hy=>Gz8.2 (k3 y h0 hy)) (fun y hy=>Gz9.2 (k4 y hy));rw[e];have q1:¬m - a=1:=by omega
    have q2:b - m=1:=by simp at hb;omega
    generalize X++A++[x]++Y=s at*;generalize X++(List.take p A++x::List.drop p A)++Y=u at*;simp(disch:=omega)only[Hc,q1,q2,k1,k5,EVT,Aw,simprocAttr]
   ·-- two parts of more
    have q1:¬m - a=1:=by omega
    have q2:¬b - m=1:=by omega
    obtain⟨h,hh⟩:∃h,h=(A.length+B.length) / 2:=⟨_,rfl⟩;obtain⟨mid,hM⟩:∃mid,(a+b) / 2=mid:=⟨_,rfl⟩;have hmid:mid=a+h:=by omega
    obtain⟨i0,j0,hc15,h1,h2,h3,h4,hi0,hj0⟩:∃i0 j0:Nat,tn.ev S N [B4 (X++A++B++Y),.i .i64 a,.i .i64 m,.i .i64 b,.f g caps]=some (.yld 0 [.i .i64 (a+i0),.i .i64 (a+j0)])∧i0<=j0∧j0<=A.length∧j0<=h∧h<=i0+B.length∧(i0=0∨h - i0=B.length)∧(j0=h∨j0=A.length):=by
     by_cases hgt:h<A.length
     .refine⟨h - B.length,h,?_,by omega,by omega,by omega,by omega,by omega,.inl rfl⟩;have t1:mid<m:=by omega
      have t2:mid+m - b=a+((h - B.length:Nat):Int):=by omega
      rw[<-t2,<-hmid];generalize X++A++B++Y=s at*;simp(disch:=omega)only[Hc,Gp,hM,t1,EVT,Aw,simprocAttr]
     .refine⟨0,A.length,?_,by omega,by omega,by omega,by omega,.inl rfl,.inr rfl⟩;have t1:¬mid<m:=by omega
      generalize X++A++B++Y=s at*;simp(disch:=omega)only[Hc,Gp,hM,t1,hm,EVT,Aw,simprocAttr];simp
    have hsd:X++A++B++Y=X++(A++(B++Y)):=by simp
    obtain⟨i,k1,k2,k3,k4,k5⟩:=Kw3 hC X A B Y (X++A++B++Y) hsd a m b mid h i0 j0 ha hm hb hM hmid h1 h2 h3 h4 hs hP N (by omega);have cut:=c9 ht sA sB i (h - i) (fun x y h0 hx hy=>Gz8.2 (k4 x y (fun e=>by
      rcases hi0 with q|q
      .omega
      .have:=(Bp.1 hy).1;omega) hx hy)) (fun x y h0 hx hy=>Gz9.2 (k5 x y (fun e=>by
      rcases hj0 with q|q
      .omega
      .have:=(Bp.1 hx).1;omega) hx (by rw[show h - 1 - i=h - i - 1 by omega];exact hy))) (by omega) (by omega)
    have eA:A.take i++A.drop i=A:=Dw _ _;have eB:B.take (h - i)++B.drop (h - i)=B:=Dw _ _;have lA1:(A.take i).length=i:=by rw[Cw];omega
    have lA2:(A.drop i).length=A.length - i:=Dk;have lB1:(B.take (h - i)).length=h - i:=by rw[Cw];omega
    have lB2:(B.drop (h - i)).length=B.length - (h - i):=Dk;have sA1:=sA.sublist (List.take_sublist i A);have sA2:=sA.sublist (List.drop_sublist i A);have sB1:=sB.sublist (List.take_sublist (h - i) B);have sB2:=sB.sublist (List.drop_sublist (h - i) B);generalize A.take i=A1 at*;generalize A.drop i=A2 at*;generalize B.take (h - i)=B1 at*;generalize B.drop (h - i)=B2 at*;have e0:X++A++B++Y=X++A1++A2++B1++(B2++Y):=by rw[<-eA,<-eB];simp
    have mem1:∀y,y∈X++A1++B1++(A2++B2++Y)->P y:=fun y hy=>hP y (by rw[e0];simp only[Ct] at hy ⊢;grind);have len1:(X++A1++B1++(A2++B2++Y)).length<=1000000:=by simp only[Br] at hs2 ⊢;omega
    have lm1:=c8 (leC c) A1 B1;have mem2:∀y,y∈(X++mrg (leC c) A1 B1)++A2++B2++Y->P y:=fun y hy=>mem1 y (by simp only[Ct,mrg_mem] at hy ⊢;grind)
    have len2:((X++mrg (leC c) A1 B1)++A2++B2++Y).length<=1000000:=by simp only[Br,lm1] at hs2 ⊢;omega
    have s1:(T.blk 0 tg V2).ev S N [B4 (X++A++B++Y),.i .i64 a,.i .i64 m,.i .i64 b,.f g caps,.i .i64 (a+i0),.i .i64 (a+j0),.i .i64 (a+i)]=
      V2.ev S N [B4 (X++A++B++Y),.i .i64 a,.i .i64 m,.i .i64 b,.f g caps,.i .i64 (a+i0),.i .i64 (a+j0),.i .i64 (a+i),B4 (X++A1++B1++(A2++B2++Y))]:=by
     by_cases t:A2=[]∨B1=[]
     .have t1:¬(a+(i:Int)<m∧m<mid+m - (a+i)):=by
       rcases t with t|t
       .rw[t] at lA2;simp at lA2;omega
       .rw[t] at lB1;simp at lB1;omega
      have e1:X++A++B++Y=X++A1++B1++(A2++B2++Y):=by rw[e0];rcases t with t|t<;>subst t<;>simp
      rw[<-e1];generalize X++A++B++Y=s at*;by_cases t2:a+(i:Int)<m
      .have t3:¬m<mid+m - (a+i):=fun q=>t1 ⟨t2,q⟩;simp(disch:=omega)only[Hc,Gp,hM,t2,t3,EVT,Aw,simprocAttr]
      .simp(disch:=omega)only[Hc,Gp,hM,t2,EVT,Aw,simprocAttr]
     .have t':A2≠[]∧B1≠[]:=by grind
      have p1:=Cg.2 t'.1;have p2:=Cg.2 t'.2;have hr:=Dr0 (X++A1) A2 B1 (B2++Y) (a+i) m (mid+m - (a+i)) g caps (by simp only[Br];omega) (by simp only[Br];omega) (by simp only[Br];omega) t'.1 t'.2 (by rw[<-e0];exact hs);have t2:a+(i:Int)<m:=by omega
      have t3:m<mid+m - (a+i):=by omega
      rw[<-e0] at hr;have e1:X++A1++B1++A2++(B2++Y)=X++A1++B1++(A2++B2++Y):=by simp
      rw[e1] at hr;generalize X++A1++B1++(A2++B2++Y)=s1 at*;generalize X++A++B++Y=s at*;simp(disch:=omega)only[Hc,Gp,hM,t2,t3,hr,Eg,Jr,EVT,Aw,simprocAttr]
    have s2:(T.blk 0 tz V3).ev S N [B4 (X++A++B++Y),.i .i64 a,.i .i64 m,.i .i64 b,.f g caps,.i .i64 (a+i0),.i .i64 (a+j0),.i .i64 (a+i),B4 (X++A1++B1++(A2++B2++Y))]=
      V3.ev S N [B4 (X++A++B++Y),.i .i64 a,.i .i64 m,.i .i64 b,.f g caps,.i .i64 (a+i0),.i .i64 (a+j0),.i .i64 (a+i),B4 (X++A1++B1++(A2++B2++Y)),B4 ((X++mrg (leC c) A1 B1)++A2++B2++Y)]:=by
     by_cases t:A1=[]∨B1=[]
     .have t1:¬(a<a+(i:Int)∧a+(i:Int)<mid):=by
       rcases t with t|t
       .rw[t] at lA1;simp at lA1;omega
       .rw[t] at lB1;simp at lB1;omega
      have e1:X++A1++B1++(A2++B2++Y)=(X++mrg (leC c) A1 B1)++A2++B2++Y:=by rcases t with t|t<;>subst t<;>simp[mrg,P7]
      rw[<-e1];generalize X++A1++B1++(A2++B2++Y)=s1 at*;generalize X++A++B++Y=s at*;by_cases t2:a<a+(i:Int)
      .have t3:¬a+(i:Int)<mid:=fun q=>t1 ⟨t2,q⟩;simp(disch:=omega)only[Hc,Gp,hM,t2,t3,EVT,Aw,simprocAttr]
      .simp(disch:=omega)only[Hc,Gp,hM,t2,EVT,Aw,simprocAttr]
     .have t':A1≠[]∧B1≠[]:=by grind
      have p1:=Cg.2 t'.1;have p2:=Cg.2 t'.2;have hr:=N5 hC ht n X A1 B1 (A2++B2++Y) a (a+i) mid (by omega) t'.1 t'.2 sA1 sB1 ha (by omega) (by omega) len1 mem1;have t2:a<a+(i:Int):=by omega
      have t3:a+(i:Int)<mid:=by omega
      have e1:X++mrg (leC c) A1 B1++(A2++B2++Y)=(X++mrg (leC c) A1 B1)++A2++B2++Y:=by simp
      rw[e1] at hr;generalize (X++mrg (leC c) A1 B1)++A2++B2++Y=s2 at*;generalize X++A1++B1++(A2++B2++Y)=s1 at*;generalize X++A++B++Y=s at*;simp(disch:=omega)only[Hc,Gp,hM,t2,t3,hr,Eg,Jr,EVT,Aw,simprocAttr]
    have s3:V3.ev S N [B4 (X++A++B++Y),.i .i64 a,.i .i64 m,.i .i64 b,.f g caps,.i .i64 (a+i0),.i .i64 (a+j0),.i .i64 (a+i),B4 (X++A1++B1++(A2++B2++Y)),B4 ((X++mrg (leC c) A1 B1)++A2++B2++Y)]=
      some (.ret [B4 (X++mrg (leC c) A B++Y)]):=by
     have e9:X++mrg (leC c) A B++Y=(X++mrg (leC c) A1 B1)++mrg (leC c) A2 B2++Y:=by rw[cut];simp
     rw[e9];by_cases t:A2=[]∨B2=[]
     .have t1:¬(mid<mid+m - (a+i)∧mid+m - (a+(i:Int))<b):=by
       rcases t with t|t
       .rw[t] at lA2;simp at lA2;omega
       .rw[t] at lB2;simp at lB2;omega
      have e1:(X++mrg (leC c) A1 B1)++A2++B2++Y=(X++mrg (leC c) A1 B1)++mrg (leC c) A2 B2++Y:=by rcases t with t|t<;>subst t<;>simp[mrg,P7]
      rw[<-e1];generalize (X++mrg (leC c) A1 B1)++A2++B2++Y=s2 at*;generalize X++A1++B1++(A2++B2++Y)=s1 at*;generalize X++A++B++Y=s at*;by_cases t2:mid<mid+m - (a+(i:Int))
      .have t3:¬mid+m - (a+(i:Int))<b:=fun q=>t1 ⟨t2,q⟩;simp(disch:=omega)only[Hc,Gp,hM,t2,t3,EVT,Aw,simprocAttr]
      .simp(disch:=omega)only[Hc,Gp,hM,t2,EVT,Aw,simprocAttr]
     .have t':A2≠[]∧B2≠[]:=by grind
      have p1:=Cg.2 t'.1;have p2:=Cg.2 t'.2;have hr:=N5 hC ht n (X++mrg (leC c) A1 B1) A2 B2 Y mid (mid+m - (a+i)) b (by omega) t'.1 t'.2 sA2 sB2 (by simp only[Br,lm1];omega) (by omega) (by omega) len2 mem2;have t2:mid<mid+m - (a+(i:Int)):=by omega
      have t3:mid+m - (a+(i:Int))<b:=by omega
      generalize (X++mrg (leC c) A1 B1)++mrg (leC c) A2 B2++Y=s3 at*;generalize (X++mrg (leC c) A1 B1)++A2++B2++Y=s2 at*;generalize X++A1++B1++(A2++B2++Y)=s1 at*;generalize X++A++B++Y=s at*;simp(disch:=omega)only[Hc,Gp,hM,t2,t3,hr,Eg,Jr,EVT,Aw,simprocAttr]
    have f2:V2.ev S N [B4 (X++A++B++Y),.i .i64 a,.i .i64 m,.i .i64 b,.f g caps,.i .i64 (a+i0),.i .i64 (a+j0),.i .i64 (a+i),B4 (X++A1++B1++(A2++B2++Y))]=some (.ret [B4 (X++mrg (leC c) A B++Y)]):=s2.trans s3;have f1:=s1.trans f2;clear s1 s2 s3 f2 mem1 mem2 cut k4 k5;generalize X++mrg (leC c) A B++Y=s3 at*;generalize X++A++B++Y=s at*;simp(disch:=omega)only[Hc,q1,q2,Gp,hM,hc15,k1,f1,EVT,Aw,simprocAttr]
end
section
variable {g:Nat} {caps:List PV} {c:Rec->Rec->Int} {P:Rec->Prop}
def Kl6 (hC:Cmp g caps c P) (L L':List Rec) (i:Nat) (x y:Rec) (g0:L[i]? =some y) (g1:L[i+1]? =some x) (sw:(L.set (i+1) y).set i x=L') (k e:Int) (hk:k=i+1) (he:e<k) (he2:0<=e) (hx:P x) (hy:P y) (hlt:c x y<0) (hL:L.length<=1000000) (w0 w2 w4 w5:PV) (N:Nat):
  Qn.ev S N [w0,.i .i64 e,w2,.f g caps,w4,w5,.i .i64 k,B4 L]=some (.yld 3 [.i .i64 (k - 1),B4 L']):=by
 have hi:=(Bp.1 g1).1;have ti0:(k - 1).toNat=i:=by omega
 have ti1:k.toNat=i+1:=by omega
 have g2:(L.set (i+1) y)[i]? =some y:=by rw[Tp (by omega)];exact g0
 have hc:=hC.ok x y hx hy;simp(disch:=first|omega|(rw[Ih];omega))only[X1,Mg,Qd,he,ti0,ti1,g0,g1,g2,sw,hc,hlt,EVT,Aw,simprocAttr]
def Es0 (hC:Cmp g caps c P) (L:List Rec) (i:Nat) (x y:Rec) (g0:L[i]? =some y) (g1:L[i+1]? =some x) (k e:Int) (hk:k=i+1) (he:e<k) (hx:P x) (hy:P y) (hlt:¬c x y<0) (hL:L.length<=1000000) (w0 w2 w4 w5:PV) (N:Nat):
  Qn.ev S N [w0,.i .i64 e,w2,.f g caps,w4,w5,.i .i64 k,B4 L]=some (.yld 2 [B4 L]):=by
 have hi:=(Bp.1 g1).1;have ti0:(k - 1).toNat=i:=by omega
 have ti1:k.toNat=i+1:=by omega
 have hc:=hC.ok x y hx hy;simp(disch:=omega)only[X1,Mg,Qd,he,ti0,ti1,g0,g1,hc,hlt,EVT,Aw,simprocAttr]
def Gb7 (L:List Rec) (k e:Int) (he:¬e<k) (w0 w2 w3 w4 w5:PV) (N:Nat):
  Qn.ev S N [w0,.i .i64 e,w2,w3,w4,w5,.i .i64 k,B4 L]=some (.yld 2 [B4 L]):=by
 simp(disch:=omega)only[X1,Mg,Qd,he,EVT,Aw,simprocAttr]
def Kl5 (hC:Cmp g caps c P) (ht:TP (leC c)) (X R Y:List Rec) (x:Rec) (hR:R.Pairwise fun a b=>leC c a b=true) (hP:∀y∈X++R++x::Y,P y) (hs:(X++R++x::Y).length<=1000000) (a k:Int) (ha:a=X.length) (hk:k=a+R.length) (w0 w2:PV) (N:Nat) (hN:R.length<N):
  ∃R1 R2,R=R1++R2∧(∀y∈R1,leC c y x=true)∧(∀y∈R2,leC c y x=false)∧
   Eh4.ev S N [w0,.i .i64 a,w2,.f g caps,.i .i64 k,B4 (X++R++x::Y)]=some (.yld 2 [B4 (X++(R1++x::R2)++Y)]):=by
 have hx:P x:=hP x (by simp);have hs2:=hs;simp only[Br,B9] at hs2;have key:=J2 (fn:=S) (N:=N) (J:=[w0,.i .i64 a,w2,.f g caps,.i .i64 k,B4 (X++R++x::Y)]) (id:=3) (init:=[.v 4,.v 5]) (body:=Qn) (D:=List Rec×List Rec)
  (fun w=>[.i .i64 (a+w.1.length),B4 (X++w.1++x::(w.2++Y))])
  (fun o=>∃R1 R2,R=R1++R2∧(∀y∈R1,leC c y x=true)∧(∀y∈R2,leC c y x=false)∧o= .yld 2 [B4 (X++(R1++x::R2)++Y)])
  (fun w=>R=w.1++w.2∧∀y∈w.2,leC c y x=false) (fun w=>w.1.length) (R,[]) ?_ ⟨by simp,by simp⟩ hN ?_
 .obtain⟨o,h1,R1,R2,h2,h3,h4,rfl⟩:=key;exact⟨R1,R2,h2,h3,h4,h1⟩
 .subst hk;simp only[C8];generalize X++R++x::Y=s at*;simp(disch:=omega)only[EVT,Aw,simprocAttr]
 .rintro⟨R1,R2⟩ ⟨h1,h2⟩;simp only at h1 h2;have hlen:=congrArg List.length h1;simp only[Br] at hlen;rcases List.eq_nil_or_concat R1 with rfl|⟨R0,y,rfl⟩
  .right;refine⟨_,Gb7 _ _ a (by simp) _ _ _ _ _ N,rfl,[],R2,h1,by simp,h2,?_⟩;simp
  .rw[List.concat_eq_append] at*;simp only[Br,B9,C1] at hlen;have hy:P y:=hP y (by rw[h1];simp);have lP:(X++R0).length=X.length+R0.length:=Br;have g0:=Aw4 (X++R0) (x::(R2++Y)) y;have g1:=Ar0 (X++R0) (R2++Y) y x;rw[lP] at g0 g1;have e0:X++(R0++[y])++x::(R2++Y)=X++R0++y::x::(R2++Y):=by simp
   have lL:(X++R0++y::x::(R2++Y)).length<=1000000:=by simp only[Br,B9];omega
   by_cases hlt:c x y<0
   .left;have sw0:((X++R0++y::x::(R2++Y)).set (X.length+R0.length+1) y).set (X.length+R0.length) x=X++R0++x::(y::R2++Y):=by rw[<-lP,List.set_comm _ _ (by omega)];exact Hl4 (X++R0) (R2++Y) y x
    refine⟨(R0,y::R2),?_,⟨by simp only;rw[h1];simp,fun w hw=> ?_⟩,by simp⟩
    .have:=Kl6 hC _ _ (X.length+R0.length) x y g0 g1 sw0 (a+((R0++[y]).length:Nat)) a (by simp;omega) (by simp;omega) (by omega) hx hy hlt lL w0 w2 (.i .i64 k) (B4 (X++R++x::Y)) N;have e1:a+((R0++[y]).length:Nat) - 1=a+(R0.length:Int):=by simp;omega
     rw[e1] at this;show Qn.ev S N [w0,.i .i64 a,w2,.f g caps,.i .i64 k,B4 (X++R++x::Y),.i .i64 (a+((R0++[y]).length:Nat)),B4 (X++(R0++[y])++x::(R2++Y))]=_;rw[e0];exact this
    .rcases Cq.1 hw with rfl|hw
     .exact Gz9.2 hlt
     .exact h2 w hw
   .right;have hle:leC c y x=true:=Gz8.2 hlt;refine⟨_,?_,rfl,R0++[y],R2,h1,Ag0 ht (by rw[h1] at hR;exact(Hv.1 hR).1) hle,h2,rfl⟩;have:=Es0 hC _ (X.length+R0.length) x y g0 g1 (a+((R0++[y]).length:Nat)) a (by simp;omega) (by simp;omega) hx hy hlt lL w0 w2 (.i .i64 k) (B4 (X++R++x::Y)) N;show Qn.ev S N [w0,.i .i64 a,w2,.f g caps,.i .i64 k,B4 (X++R++x::Y),.i .i64 (a+((R0++[y]).length:Nat)),B4 (X++(R0++[y])++x::(R2++Y))]=_;rw[e0,this,<-e0];simp
def lh (hC:Cmp g caps c P) (ht:TP (leC c)) (X A Y:List Rec) (a b:Int) (ha:a=X.length) (hb:b=a+A.length) (hP:∀y∈X++A++Y,P y) (hs:(X++A++Y).length<=1000000):
  ∃R,Stab (leC c) R A∧R.length=A.length∧S zt 1048580 [B4 (X++A++Y),.i .i64 a,.i .i64 b,.f g caps]=some [B4 (X++R++Y)]:=by
 have hs2:=hs;simp only[Br] at hs2;cases A with
 |nil=>
  refine⟨[],Y9 _,rfl,?_⟩;refine Gp1 (N:=2) rfl ?_;simp only[C1] at hb;have h1:¬a+1<b:=by omega
  have key:An9.ev S 2 [B4 (X++[]++Y),.i .i64 a,.i .i64 b,.f g caps]=some (.yld 0 [B4 (X++[]++Y)]):=by
   generalize X++[]++Y=s at*;refine Gq 0 (fun _=>[.i .i64 (a+1),B4 s]) (fun _=> .yld 0 [B4 s]) ?_ (by omega) (fun i hi=>absurd hi (by omega)) ⟨?_,rfl⟩
   .simp(disch:=omega)only[EVT,Aw,simprocAttr]
   .simp(disch:=omega)only[X1,Mg,Qd,h1,EVT,Aw,simprocAttr]
  generalize X++[]++Y=s at*;simp(disch:=omega)only[X1,Mg,Qd,key,EVT,Aw,simprocAttr]
 |cons x0 A=>
  obtain⟨N,hN⟩:∃N,N=A.length+3:=⟨_,rfl⟩;simp only[B9] at hb hs2;have key:=J2 (fn:=S) (N:=N) (J:=[B4 (X++x0::A++Y),.i .i64 a,.i .i64 b,.f g caps]) (id:=1) (init:=[.bin .add (.v 1) (.c (.i .i64 1)),.v 0]) (body:=uv) (D:=List Rec×List Rec×List Rec)
   (fun w=>[.i .i64 (a+w.1.length),B4 (X++w.1++(w.2.2++Y))])
   (fun o=>∃R,Stab (leC c) R (x0::A)∧R.length=(x0::A).length∧o= .yld 0 [B4 (X++R++Y)])
   (fun w=>x0::A=w.2.1++w.2.2∧Stab (leC c) w.1 w.2.1∧w.1.length=w.2.1.length) (fun w=>w.2.2.length) ([x0],[x0],A) ?_ ⟨rfl,Af8 _ _,rfl⟩ (by simp only;omega) ?_
  .obtain⟨o,h1,R,h2,h3,rfl⟩:=key;refine⟨R,h2,h3,?_⟩;refine Gp1 (N:=N) rfl ?_;have h4:An9.ev S N [B4 (X++x0::A++Y),.i .i64 a,.i .i64 b,.f g caps]=_:=h1;clear h1;generalize X++x0::A++Y=s at*;generalize X++R++Y=u at*;simp(disch:=omega)only[X1,Mg,Qd,h4,EVT,Aw,simprocAttr]
  .simp only[B9,C1];have e:X++[x0]++(A++Y)=X++x0::A++Y:=by simp
   rw[e];have e1:a+((0+1:Nat):Int)=a+1:=by omega
   rw[e1];generalize X++x0::A++Y=s at*;simp(disch:=omega)only[EVT,Aw,simprocAttr]
  .rintro⟨R,Bf,Bd⟩ ⟨h1,h2,h3⟩;simp only at h1 h2 h3;have hlen:=congrArg List.length h1;simp only[Br,B9] at hlen;cases Bd with
   |nil=>
    right;rw[Eb] at h1;subst h1;refine⟨_,?_,rfl,R,h2,h3,rfl⟩;have hlt:¬a+(R.length:Int)<b:=by simp only[B9] at h3;omega
    simp only[C8];generalize X++x0::A++Y=s at*;have hu:(X++R++Y).length<=1000000:=by simp only[Br];omega
    generalize X++R++Y=u at*;simp(disch:=omega)only[X1,Mg,Qd,hlt,EVT,Aw,simprocAttr]
   |cons x Bd=>
    left;simp only[B9] at hlen;have hmem:∀y∈X++R++x::(Bd++Y),P y:=fun y hy=>hP y (by
     rw[h1];have:=h2.mem ht y;simp only[Ct,Cq] at hy ⊢
     grind)
    have hlen2:(X++R++x::(Bd++Y)).length<=1000000:=by simp only[Br,B9];omega
    obtain⟨R1,R2,rfl,k1,k2,k3⟩:=Kl5 hC ht X R (Bd++Y) x h2.sorted hmem hlen2 a (a+R.length) ha rfl (B4 (X++x0::A++Y)) (.i .i64 b) N (by omega);refine⟨(R1++x::R2,Bf++[x],Bd),?_,⟨by simp only;rw[h1];simp,Fp2 ht h2 k1 k2,by simp at h3 ⊢;omega⟩,by simp⟩;have e1:a+((R1++x::R2).length:Nat)=a+((R1++R2).length:Nat)+1:=by simp;omega
    have hlt:a+((R1++R2).length:Nat)<b:=by omega
    show uv.ev S N [B4 (X++x0::A++Y),.i .i64 a,.i .i64 b,.f g caps,.i .i64 (a+((R1++R2).length:Nat)),B4 (X++(R1++R2)++x::(Bd++Y))]=some (.yld 1 [.i .i64 (a+((R1++x::R2).length:Nat)),B4 (X++(R1++x::R2)++(Bd++Y))]);rw[e1];have hb2:(R1++R2).length<=1000000:=by simp only[Br] at hlen2 ⊢;omega
    generalize (R1++R2).length=n at*;generalize X++(R1++R2)++x::(Bd++Y)=s1 at*;generalize X++(R1++x::R2)++(Bd++Y)=s2 at*;generalize X++x0::A++Y=s at*;simp(disch:=omega)only[X1,Mg,Qd,hlt,k3,EVT,Aw,simprocAttr]
end
def Az4 {D:Type} {le:D->D->Bool} (ht:TP le) {bs:Nat} {Y LY:List D} (h:Blk le bs Y LY) (hl:Y.length<=2*bs) (hb:bs<Y.length):Stab le (mrg le (Y.take bs) (Y.drop bs)) LY:=by have h1:=h.head;have h2:=(h.tail).all (by rw[Dk];omega);have:=Stab.mrg ht h1 h2;rwa[Dw] at this
def Blk.pre {D:Type} {le:D->D->Bool} {bs k:Nat} {Y LY:List D} (h:Blk le bs Y LY):Blk le bs (Y.take (k*bs)) (LY.take (k*bs)):=by
 refine⟨by simp[h.len],fun j=> ?_⟩;rw[List.drop_take,List.drop_take,Cs5,Cs5];by_cases hj:j<k
 .have e:(j+1)*bs<=k*bs:=C0 _ hj;rw[Nat.succ_mul] at e;rw[M6 (by omega)];exact h.st j
 .have e:k*bs<=j*bs:=C0 _ (by omega);rw[show k*bs - j*bs=0 by omega,Nat.min_eq_right (by omega),List.take_zero,List.take_zero];exact Y9 le
section
variable {g:Nat} {caps:List PV} {c:Rec->Rec->Int} {P:Rec->Prop}
def Kw1 (hC:Cmp g caps c P) (ht:TP (leC c)) (l:List Rec) (hP:∀y∈l,P y) (hs:l.length<=1000000) (N:Nat) (hN:l.length+2<N):
  ∃(X LX Y:List Rec) (q:Nat),En4.ev S N [B4 l,.i .i64 l.length,.f g caps]=some (.yld 0 [.i .i64 X.length,B4 (X++Y)])∧l=LX++Y∧X.length=q*20∧Y.length<20∧Blk (leC c) 20 X LX∧∀y∈X++Y,P y:=by
 have key:=J2 (fn:=S) (N:=N) (J:=[B4 l,.i .i64 l.length,.f g caps]) (id:=1) (init:=[.c (.i .i64 0),.c (.i .i64 20),.v 0]) (body:=Bw2) (D:=List Rec×List Rec×List Rec×Nat)
  (fun w=>[.i .i64 (w.1.length:Int),.i .i64 ((w.1.length:Int)+20),B4 (w.1++w.2.2.1)])
  (fun o=>∃(X LX Y:List Rec) (q:Nat),o= .yld 0 [.i .i64 X.length,B4 (X++Y)]∧l=LX++Y∧X.length=q*20∧Y.length<20∧Blk (leC c) 20 X LX∧∀y∈X++Y,P y)
  (fun w=>l=w.2.1++w.2.2.1∧w.1.length=w.2.2.2*20∧Blk (leC c) 20 w.1 w.2.1∧∀y∈w.1++w.2.2.1,P y) (fun w=>w.2.2.1.length) ([],[],l,0) ?_ ⟨rfl,by simp,Blk.nil _ _,by simpa using hP⟩ (by simp only;omega) ?_
 .obtain⟨o,h1,X,LX,Y,q,rfl,h2⟩:=key;exact⟨X,LX,Y,q,h1,h2⟩
 .simp(disch:=omega)only[EVT,Aw,simprocAttr]
  try simp
 .rintro⟨X,LX,Y,q⟩ ⟨h1,h2,h3,h4⟩;simp only at h1 h2 h3 h4;have hlen:=congrArg List.length h1;simp only[Br] at hlen;have hXL:=h3.len;by_cases hge:20<=Y.length
  .left;have eY:Y.take 20++Y.drop 20=Y:=Dw _ _;have l1:(Y.take 20).length=20:=by rw[Cw];omega
   have l2:(Y.drop 20).length=Y.length - 20:=Dk;have eXY:X++Y.take 20++Y.drop 20=X++Y:=by rw[Cj,eY]
   obtain⟨R,k1,k2,k3⟩:=lh hC ht X (Y.take 20) (Y.drop 20) (X.length:Int) ((X.length:Int)+20) rfl (by omega) (by rw[eXY];exact h4) (by rw[eXY,Br];omega);rw[eXY] at k3;refine⟨(X++R,LX++Y.take 20,Y.drop 20,q+1),?_,⟨by simp only;rw[h1,Cj,eY],by simp only[Br];omega,Blk.app h2 h3 (Blk.one k1 k2 (by omega)),fun y hy=>h4 y ?_⟩,by simp only;omega⟩
   .have e1:((X++R).length:Int)=(X.length:Int)+20:=by simp only[Br];omega
    have hge':(X.length:Int)+20<=(l.length:Int):=by omega
    simp only;rw[e1];generalize X++R++Y.drop 20=s1 at*;generalize X++Y=s0 at*;simp(disch:=omega)only[X2,hge',k3,Eg,Jr,EVT,Aw,simprocAttr]
   .have:=k1.mem ht y;simp only[Ct] at hy;rcases hy with(hy|hy)|hy
    .simp[hy]
    .exact Df _ (I4 (this.1 hy))
    .exact Df _ (Hy hy)
  .right;have hge':¬(X.length:Int)+20<=(l.length:Int):=by omega
   refine⟨.yld 0 [.i .i64 X.length,B4 (X++Y)],?_,rfl,X,LX,Y,q,rfl,h1,h2,by omega,h3,h4⟩;simp only;generalize X++Y=s0 at*;simp(disch:=omega)only[X2,hge',EVT,Aw,simprocAttr]
def Kw0 (hC:Cmp g caps c P) (ht:TP (leC c)) (l r:List Rec) (bs:Nat) (hbs:0<bs) (hbs2:bs<l.length) (hr:Blk (leC c) bs r l) (hP:∀y∈r,P y) (hs:l.length<=1000000) (w0:PV) (w3 w4 w5:PV) (N:Nat) (hN:l.length+2<N):
  ∃(X LX Y LY:List Rec) (q:Nat),Eg8.ev S N [w0,.i .i64 l.length,.f g caps,w3,w4,w5,.i .i64 bs,B4 r]=some (.yld 2 [.i .i64 X.length,B4 (X++Y)])∧l=LX++LY∧X.length=q*(2*bs)∧Y.length<2*bs∧Blk (leC c) (2*bs) X LX∧Blk (leC c) bs Y LY∧∀y∈X++Y,P y:=by
 have key:=J2 (fn:=S) (N:=N) (J:=[w0,.i .i64 l.length,.f g caps,w3,w4,w5,.i .i64 bs,B4 r]) (id:=3) (init:=[.c (.i .i64 0),.bin .mul (.c (.i .i64 2)) (.v 6),.v 7]) (body:=Bq9) (D:=(List Rec×List Rec)×(List Rec×List Rec)×Nat)
  (fun w=>[.i .i64 (w.1.1.length:Int),.i .i64 ((w.1.1.length:Int)+2*bs),B4 (w.1.1++w.2.1.1)])
  (fun o=>∃(X LX Y LY:List Rec) (q:Nat),o= .yld 2 [.i .i64 X.length,B4 (X++Y)]∧l=LX++LY∧X.length=q*(2*bs)∧Y.length<2*bs∧Blk (leC c) (2*bs) X LX∧Blk (leC c) bs Y LY∧∀y∈X++Y,P y)
  (fun w=>l=w.1.2++w.2.1.2∧w.1.1.length=w.2.2*(2*bs)∧Blk (leC c) (2*bs) w.1.1 w.1.2∧Blk (leC c) bs w.2.1.1 w.2.1.2∧∀y∈w.1.1++w.2.1.1,P y) (fun w=>w.2.1.1.length) (([],[]),(r,l),0) ?_ ⟨rfl,by simp,Blk.nil _ _,hr,by simpa using hP⟩ (by have:=hr.len;simp only;omega) ?_
 .obtain⟨o,h1,X,LX,Y,LY,q,rfl,h2⟩:=key;exact⟨X,LX,Y,LY,q,h1,h2⟩
 .simp(disch:=omega)only[EVT,Aw,simprocAttr];simp
 .rintro⟨⟨X,LX⟩,⟨Y,LY⟩,q⟩ ⟨h1,h2,h3,h4,h5⟩;simp only at h1 h2 h3 h4 h5;have hlen:=congrArg List.length h1;simp only[Br] at hlen;have hXL:=h3.len;have hYL:=h4.len;by_cases hge:2*bs<=Y.length
  .left;have eY:Y.take (2*bs)++Y.drop (2*bs)=Y:=Dw _ _;have l1:(Y.take (2*bs)).length=2*bs:=by rw[Cw];omega
   have l2:(Y.drop (2*bs)).length=Y.length - 2*bs:=Dk;have hp:=h4.pre (k:=2);have hz:Blk (leC c) bs (Y.drop (2*bs)) (LY.drop (2*bs)):=by have:=h4.tail.tail;rwa[Ey,Ey,show bs+bs=2*bs by omega] at this
   have hst:=Az4 ht hp (by omega) (by omega);have sA:((Y.take (2*bs)).take bs).Pairwise fun x y=>leC c x y=true:=hp.head.sorted;have sB:((Y.take (2*bs)).drop bs).Pairwise fun x y=>leC c x y=true:=(hp.tail.all (by rw[Dk];omega)).sorted;have lA:((Y.take (2*bs)).take bs).length=bs:=by rw[Cw];omega
   have lB:((Y.take (2*bs)).drop bs).length=bs:=by rw[Dk];omega
   have eAB:(Y.take (2*bs)).take bs++(Y.take (2*bs)).drop bs=Y.take (2*bs):=Dw _ _;generalize (Y.take (2*bs)).take bs=A at*;generalize (Y.take (2*bs)).drop bs=B at*;have eXY:X++A++B++Y.drop (2*bs)=X++Y:=by rw[Cj X,eAB,Cj,eY]
   have hm:=N5 hC ht (A.length+B.length) X A B (Y.drop (2*bs)) (X.length:Int) ((X.length:Int)+bs) ((X.length:Int)+2*bs) (B7 _) (by intro e;rw[e] at lA;simp at lA;omega) (by intro e;rw[e] at lB;simp at lB;omega) sA sB rfl (by omega) (by omega) (by rw[eXY,Br];omega) (by rw[eXY];exact h5);rw[eXY] at hm;have lM:=c8 (leC c) A B;have eL:LY.take (2*bs)++LY.drop (2*bs)=LY:=Dw _ _;refine⟨((X++mrg (leC c) A B,LX++LY.take (2*bs)),(Y.drop (2*bs),LY.drop (2*bs)),q+1),?_,⟨by simp only;rw[h1,Cj,eL],by simp only[Br];rw[Nat.succ_mul];omega,Blk.app h2 h3 (Blk.one hst (by rw[lM,Cw];omega) (by omega)),hz,fun y hy=>h5 y ?_⟩,by simp only;omega⟩
   .have e1:((X++mrg (leC c) A B).length:Int)=(X.length:Int)+2*bs:=by simp only[Br];omega
    have hge':(X.length:Int)+2*(bs:Int)<=(l.length:Int):=by omega
    simp only;rw[e1];generalize X++mrg (leC c) A B++Y.drop (2*bs)=s1 at*;generalize X++Y=s0 at*;simp(disch:=omega)only[X2,hge',hm,Eg,Jr,EVT,Aw,simprocAttr]
   .rw[<-eXY];simp only[Ct,mrg_mem] at hy ⊢
    grind
  .right;have hge':¬(X.length:Int)+2*(bs:Int)<=(l.length:Int):=by omega
   refine⟨.yld 2 [.i .i64 X.length,B4 (X++Y)],?_,rfl,X,LX,Y,LY,q,rfl,h1,h2,by omega,h3,h4,h5⟩;simp only;generalize X++Y=s0 at*;simp(disch:=omega)only[X2,hge',EVT,Aw,simprocAttr]
def Kw2 (hC:Cmp g caps c P) (ht:TP (leC c)) (l r:List Rec) (bs:Nat) (hbs:0<bs) (hbs2:bs<l.length) (hr:Blk (leC c) bs r l) (hP:∀y∈r,P y) (hs:l.length<=1000000) (w0 w3 w4 w5:PV) (N:Nat) (hN:l.length+2<N):
  ∃r',Blk (leC c) (2*bs) r' l∧(∀y∈r',P y)∧uq.ev S N [w0,.i .i64 l.length,.f g caps,w3,w4,w5,.i .i64 bs,B4 r]=some (.yld 1 [.i .i64 ((2*bs:Nat):Int),B4 r']):=by
 obtain⟨X,LX,Y,LY,q,k,h1,h2,h3,h4,h5,h6⟩:=Kw0 hC ht l r bs hbs hbs2 hr hP hs w0 w3 w4 w5 N hN;have hlen:=congrArg List.length h1;simp only[Br] at hlen;have hXL:=h4.len;have hYL:=h5.len;have hlt:(bs:Int)<(l.length:Int):=by omega
 have e2:((2*bs:Nat):Int)=(bs:Int)*2:=by omega
 rw[e2];by_cases hge:bs<Y.length
 .have eY:Y.take bs++Y.drop bs=Y:=Dw _ _;have hst:=Az4 ht h5 (by omega) hge;have sA:=h5.head.sorted;have sB:=(h5.tail.all (by rw[Dk];omega)).sorted;have lA:(Y.take bs).length=bs:=by rw[Cw];omega
  have lB:(Y.drop bs).length=Y.length - bs:=Dk;generalize Y.take bs=A at*;generalize Y.drop bs=B at*;have eXY:X++A++B++[]=X++Y:=by rw[Eb,Cj,eY]
  have hm:=N5 hC ht (A.length+B.length) X A B [] (X.length:Int) ((X.length:Int)+bs) (l.length:Int) (B7 _) (by intro e;rw[e] at lA;simp at lA;omega) (by intro e;rw[e] at lB;simp at lB;omega) sA sB rfl (by omega) (by omega) (by rw[eXY,Br];omega) (by rw[eXY];exact h6);rw[eXY,Eb] at hm;have lM:=c8 (leC c) A B;refine⟨X++mrg (leC c) A B,by rw[h1];exact Blk.app h2 h4 (Blk.one hst (by omega) (by omega)),fun y hy=>h6 y (by
   rw[<-eXY];simp only[Ct,mrg_mem] at hy ⊢
   grind),?_⟩
  have hge':(X.length:Int)+(bs:Int)<(l.length:Int):=by omega
  generalize X++mrg (leC c) A B=s1 at*;generalize X++Y=s0 at*;simp(disch:=omega)only[X2,hlt,hge',k,hm,Eg,Jr,EVT,Aw,simprocAttr]
 .refine⟨X++Y,by rw[h1];exact Blk.app h2 h4 (Blk.one (h5.all (by omega)) hYL (by omega)),h6,?_⟩;have hge':¬(X.length:Int)+(bs:Int)<(l.length:Int):=by omega
  generalize X++Y=s0 at*;simp(disch:=omega)only[X2,hlt,hge',k,EVT,Aw,simprocAttr]
def Dm8 (hC:Cmp g caps c P) (ht:TP (leC c)) (l:List Rec) (hP:∀y∈l,P y) (hs:l.length<=1000000):
  ∃r,Stab (leC c) r l∧r.length=l.length∧S Bm6 1048579 [B4 l,.i .i64 l.length,.f g caps]=some [B4 r]:=by
 obtain⟨N,hN⟩:∃N,N=l.length+3:=⟨_,rfl⟩;obtain⟨X,LX,Y,q,k0,h1,h2,h3,h4,h5⟩:=Kw1 hC ht l hP hs N (by omega);have hlen:=congrArg List.length h1;simp only[Br] at hlen;have hXL:=h4.len;obtain⟨R,i1,i2,i3⟩:=lh hC ht X Y [] (X.length:Int) (l.length:Int) rfl (by omega) (by simpa using h5) (by simp;omega);simp only[Eb] at i3;have hB:Blk (leC c) 20 (X++R) l:=by rw[h1];exact Blk.app h2 h4 (Blk.one i1 i2 (by omega))
 have hP':∀y∈X++R,P y:=fun y hy=>h5 y (by
  have:=i1.mem ht y;simp only[Ct] at hy ⊢
  grind)
 have key:=J2 (fn:=S) (N:=N) (J:=[B4 l,.i .i64 l.length,.f g caps,.i .i64 X.length,B4 (X++Y),B4 (X++R)]) (id:=1) (init:=[.c (.i .i64 20),.v 5]) (body:=uq) (D:=Nat×List Rec)
  (fun w=>[.i .i64 (w.1:Int),B4 w.2])
  (fun o=>∃r,Stab (leC c) r l∧r.length=l.length∧o= .yld 0 [B4 r])
  (fun w=>0<w.1∧Blk (leC c) w.1 w.2 l∧∀y∈w.2,P y) (fun w=>l.length - w.1) (20,X++R) ?_ ⟨by simp,hB,hP'⟩ (by simp only;omega) ?_
 .obtain⟨o,k1,r,k2,k3,rfl⟩:=key;refine⟨r,k2,k3,?_⟩;refine Jv6 (N:=N) rfl ?_;have k4:Eh7.ev S N [B4 l,.i .i64 l.length,.f g caps,.i .i64 X.length,B4 (X++Y),B4 (X++R)]=_:=k1;clear k1;generalize X++Y=s0 at*;generalize X++R=s1 at*;simp(disch:=omega)only[X2,k0,i3,k4,Eg,Jr,EVT,Aw,simprocAttr]
 .generalize X++Y=s0 at*;generalize X++R=s1 at*;simp(disch:=omega)only[EVT,Aw,simprocAttr]
 .rintro⟨bs,r⟩ ⟨g1,g2,g3⟩;simp only at g1 g2 g3;have hr:=g2.len;by_cases hlt:bs<l.length
  .left;obtain⟨r',k1,k2,k3⟩:=Kw2 hC ht l r bs g1 hlt g2 g3 hs (B4 l) (.i .i64 X.length) (B4 (X++Y)) (B4 (X++R)) N (by omega);exact⟨(2*bs,r'),k3,⟨by simp only;omega,k1,k2⟩,by simp only;omega⟩
  .right;have hlt':¬(bs:Int)<(l.length:Int):=by omega
   refine⟨.yld 0 [B4 r],?_,rfl,r,g2.all (by omega),hr,rfl⟩;generalize X++Y=s0 at*;generalize X++R=s1 at*;simp(disch:=omega)only[X2,hlt',EVT,Aw,simprocAttr]
def V6 (hC:Cmp g caps c P) (ht:TP (leC c)) (l:List Rec) (hP:∀y∈l,P y) (hs:l.length<=1000000):
  ∃r,Stab (leC c) r l∧r.length=l.length∧S Gq4 1048578 [B4 l,.f g caps]=some [B4 r]:=by
 obtain⟨r,h1,h2,h3⟩:=Dm8 hC ht l hP hs;refine⟨r,h1,h2,?_⟩;refine Kx1 (N:=1) rfl ?_;simp(disch:=omega)only[Kj1,h3,Eg,Jr,EVT,Aw,simprocAttr]
end
def By3 (l:List Rec) (g:Nat) (caps:List PV) (eq2:Rec->Rec->Bool) (h:∀x∈l,∀y∈l,S g 2 (x.pv::y.pv::caps)=some [.b (eq2 x y)]) (hl:l.length<=1000000):S Bp0 1048578 [B4 l,.f g caps]=some [B4 (cpt eq2 l)]:=by
 refine Jb6 (N:=l.length+2) rfl ?_;by_cases h2:(l.length:Int)<2
 .have e:cpt eq2 l=l:=by
   match l,h2 with
   |[],_=>rfl
   |[x],_=>rfl
   |_::_::_,h=>simp at h;omega
  rw[e];simp(disch:=omega)only[T3,h2,EVT,Aw,simprocAttr]
 ·-- the inner It, from a place where two neighbours are equal
  have inner:∀k:Nat,1<=k->k<l.length->cpt eq2 (l.take (k+1))=l.take k->∃s:List Rec,s.length=l.length∧s.take (cpt eq2 l).length=cpt eq2 l∧Eh8.ev S (l.length+2) [B4 l,.f g caps,.i .i64 (k:Int),B4 l,.b true]=some (.yld 2 [.i .i64 ((cpt eq2 l).length:Int),B4 s]):=by
   intro k hk1 hk hcp;have key:=J2 (fn:=S) (N:=l.length+2) (J:=[B4 l,.f g caps,.i .i64 (k:Int),B4 l,.b true]) (id:=3) (init:=[(.v 2),(.c (.i .i64 (1))),(.v 3)]) (body:=Bv2) (D:=Nat×Nat×List Rec)
    (fun a=>[.i .i64 (a.1:Int),.i .i64 (a.2.1:Int),B4 a.2.2])
    (fun o=>∃s:List Rec,s.length=l.length∧s.take (cpt eq2 l).length=cpt eq2 l∧o= .yld 2 [.i .i64 ((cpt eq2 l).length:Int),B4 s])
    (fun a=>1<=a.2.1∧k+a.2.1<=l.length∧a.1<k+a.2.1∧a.2.2.length=l.length∧a.2.2.take a.1=cpt eq2 (l.take (k+a.2.1))∧(cpt eq2 (l.take (k+a.2.1))).length=a.1∧a.2.2.drop (k+a.2.1 - 1)=l.drop (k+a.2.1 - 1))
    (fun a=>l.length - a.2.1) (k,1,l) (by simp(disch:=omega)only[EVT,Aw,simprocAttr])
    ⟨by simp,by simp;omega,by simp,rfl,by simp only;rw[hcp],by simp only;rw[hcp,Cw];omega,rfl⟩ (by simp only;omega) ?_
   .obtain⟨o,h3,s,h4,h5,rfl⟩:=key;exact⟨s,h4,h5,h3⟩
   .rintro⟨i,j,s⟩ ⟨a1,a2,a3,a4,a5,a6,a7⟩;simp only at a1 a2 a3 a4 a5 a6 a7;by_cases hj:k+j<l.length
    .left;have c1:s[k+j]? =l[k+j]? :=by have:=congrArg (fun q=>q[1]?) a7;simp only[Cl] at this;rwa[show k+j - 1+1=k+j by omega] at this
     have c0:s[k+j - 1]? =l[k+j - 1]? :=by have:=congrArg (fun q=>q[0]?) a7;simpa only[Cl,Gh] using this
     have g1:l[k+j]? =some (l[k+j]'hj):=Bt hj;have g0:l[k+j - 1]? =some (l[k+j - 1]'(by omega)):=Bt (by omega);have tk:l.take (k+(j+1))=l.take (k+j)++[l[k+j]'hj]:=by rw[show k+(j+1)=(k+j)+1 by omega,Dp,g1];rfl
     have ne:l.take (k+j)≠[]:=by intro h;have:=congrArg List.length h;rw[Cw,C1] at this;omega
     have gl:(l.take (k+j)).getLast ne=l[k+j - 1]'(by omega):=by rw[Mc];simp only[By6,Cw];congr 1;omega
     have cs:=Rl eq2 (l[k+j]'hj) (l.take (k+j)) ne;rw[<-tk,gl] at cs;have hc:=h (l[k+j]'hj) (Fw _) (l[k+j - 1]'(by omega)) (Fw _);generalize l[k+j]'hj=x at*;generalize l[k+j - 1]'(by omega)=y at*;have hjj:(j:Int)<(s.length:Int) - (k:Int):=by omega
     have i1:H3 16 (B4 s) (.i .i64 ((k:Int)+(j:Int)))=some x.pv:=by rw[Kc _ _ _ (by omega),show ((k:Int)+(j:Int)).toNat=k+j by omega,c1,g1];rfl
     have i0:H3 16 (B4 s) (.i .i64 ((k:Int)+((j:Int) - 1)))=some y.pv:=by rw[Kc _ _ _ (by omega),show ((k:Int)+((j:Int) - 1)).toNat=k+j - 1 by omega,c0,g0];rfl
     have ls:Jx 16 (B4 s) (.i .i64 (k:Int)) (.i .i64 (s.length:Int))=some (B4 (s.drop k)):=by rw[J1 _ _ _ _ _ (by omega) (by omega) (by omega)];simp
     have e1:(s.drop k)[j]? =some x:=by rw[Cl,c1,g1]
     have e0:(s.drop k)[j - 1]? =some y:=by rw[Cl,show k+(j - 1)=k+j - 1 by omega,c0,g0]
     have si:∃w,s[i]? =some w:=⟨_,Bt (by omega)⟩;obtain⟨w,si⟩:=si;have ej:((j:Int) - 1).toNat=j - 1:=by omega
     by_cases hxy:eq2 x y=true
     .refine⟨(i,j+1,s),?_,⟨by simp,by simp only;omega,by simp only;omega,a4,?_,?_,?_⟩,by simp only;omega⟩
      .simp(disch:=omega)only[T3,hjj,i1,i0,ls,e1,e0,ej,hc,hxy,EVT,Aw,simprocAttr]
      .simp only;rw[cs,a5];simp[hxy]
      .simp only;rw[cs,Br,a6];simp[hxy]
      .simp only;rw[show k+(j+1) - 1=(k+j - 1)+1 by omega,<-Ey,<-Ey,a7]
     .refine⟨(i+1,j+1,s.set i x),?_,⟨by simp,by simp only;omega,by simp only;omega,by simpa using a4,?_,?_,?_⟩,by simp only;omega⟩
      .simp(disch:=omega)only[T3,hjj,i1,i0,ls,e1,e0,ej,si,hc,hxy,EVT,Aw,simprocAttr]
      .simp only;rw[cs,Dp,N1 (by omega),List.take_set_of_le (by omega),a5];simp[hxy]
      .simp only;rw[cs,Br,a6];simp[hxy]
      .simp only;rw[show k+(j+1) - 1=(k+j - 1)+1 by omega,Y6 (by omega),<-Ey,<-Ey,a7]
    .right;have ek:k+j=l.length:=by omega
     rw[ek,E3] at a5 a6;have hjj:¬(j:Int)<(s.length:Int) - (k:Int):=by omega
     refine⟨.yld 2 [.i .i64 (i:Int),B4 s],?_,rfl,s,a4,by rw[a6];exact a5,by rw[a6]⟩;simp(disch:=omega)only[T3,hjj,EVT,Aw,simprocAttr]
  have key:Er2.ev S (l.length+2) [B4 l,.f g caps]=some (if cpt eq2 l=l then .yld 0 [B4 l] else .ret [B4 (cpt eq2 l)]):=by
   have:=J2 (fn:=S) (N:=l.length+2) (J:=[B4 l,.f g caps]) (id:=1) (init:=[(.c (.i .i64 (1))),(.v 0)]) (body:=Bw9) (D:=Nat)
    (fun k=>[.i .i64 (k:Int),B4 l]) (fun o=>o=if cpt eq2 l=l then .yld 0 [B4 l] else .ret [B4 (cpt eq2 l)])
    (fun k=>1<=k∧k<=l.length∧cpt eq2 (l.take k)=l.take k) (fun k=>l.length - k) 1 (by simp(disch:=omega)only[EVT,Aw,simprocAttr])
    ⟨B7 1,by omega,by cases l with
     |nil=>simp at h2
     |cons x r=>rfl⟩ (by omega) ?_
   .obtain⟨o,h3,h4⟩:=this;rw[<-h4];exact h3
   .rintro k ⟨k1,k2,k3⟩;by_cases hk:k<l.length
    .have g1:l[k]? =some l[k]:=Bt hk;have g0:l[k - 1]? =some (l[k - 1]'(by omega)):=Bt (by omega);have tk:l.take (k+1)=l.take k++[l[k]]:=by rw[Dp,g1];rfl
     have ne:l.take k≠[]:=by intro h;have:=congrArg List.length h;rw[Cw,C1] at this;omega
     have gl:(l.take k).getLast ne=l[k - 1]'(by omega):=by rw[Mc];simp only[By6,Cw];congr 1;omega
     have cs:=Rl eq2 l[k] (l.take k) ne;rw[<-tk,gl,k3] at cs;have hkk:(k:Int)<(l.length:Int):=by omega
     have i1:H3 16 (B4 l) (.i .i64 (k:Int))=some (l[k]).pv:=by rw[Kc _ _ _ (by omega),show ((k:Int)).toNat=k by omega,g1];rfl
     have i0:H3 16 (B4 l) (.i .i64 ((k:Int) - 1))=some (l[k - 1]'(by omega)).pv:=by rw[Kc _ _ _ (by omega),show ((k:Int) - 1).toNat=k - 1 by omega,g0];rfl
     have hc:=h l[k] (Fw _) (l[k - 1]'(by omega)) (Fw _);by_cases hxy:eq2 l[k] (l[k - 1]'(by omega))=true
     .right;have cs':cpt eq2 (l.take (k+1))=l.take k:=by rw[cs];simp[hxy]
      obtain⟨s,s1,s2,s3⟩:=inner k k1 hk cs';have hlt:cpt eq2 l≠l:=by
       intro h;have q:(cpt eq2 l).length<=(cpt eq2 (l.take (k+1))).length+(l.drop (k+1)).length:=by
        have:∀(b a:List Rec),a≠[]->(cpt eq2 (a++b)).length<=(cpt eq2 a).length+b.length:=by
         intro b
         induction b with
         |nil=>intro a _;simp
         |cons x r ih=>
          intro a ha;have h1:=ih (a++[x]) (by simp);rw[Rl _ _ _ ha] at h1;rw[show a++x::r=a++[x]++r by simp];refine D4 h1 ?_;rw[Br];split<;>simp<;>omega
        have h3:=this (l.drop (k+1)) (l.take (k+1)) (by intro h;have:=congrArg List.length h;rw[Cw,C1] at this;omega);rwa[Dw] at h3
       rw[h,cs',Cw,Dk] at q;omega
      have hlen:=s8 eq2 l;refine⟨.ret [B4 (cpt eq2 l)],?_,rfl,by rw[if_neg hlt]⟩;generalize cpt eq2 l=fl at*;have ls:Jx 16 (B4 l) (.i .i64 (k:Int)) (.i .i64 (l.length:Int))=some (B4 (l.drop k)):=by rw[J1 _ _ _ _ _ (by omega) (by omega) (by omega)];simp
      have hsl1:Jx 16 (B4 s) (.i .i64 ((fl.length:Nat):Int)) (.i .i64 (s.length:Int))=some (B4 (s.drop fl.length)):=by rw[J1 _ _ _ _ _ (by omega) (by omega) (by omega)];simp
      have hsl2:Jx 16 (B4 s) (.i .i64 0) (.i .i64 ((fl.length:Nat):Int))=some (B4 fl):=by rw[J1 _ _ _ _ _ (by omega) (by omega) (by omega)];simp[s2]
      have hrep:O8 16 (.i .i64 ((s.length:Int) - (fl.length:Int))) By8=some (B4 (List.replicate (s.length - fl.length) zr)):=by rw[Bd5 _ (by omega) (by omega)];congr 3;omega
      have happ:Jz 16 (B4 fl) (B4 (List.replicate (s.length - fl.length) zr))=some (B4 (fl++List.replicate (s.length - fl.length) zr)):=Gr _ _ (by simp;omega);have hsl3:Jx 16 (B4 (fl++List.replicate (s.length - fl.length) zr)) (.i .i64 0) (.i .i64 ((fl.length:Nat):Int))=some (B4 fl):=by rw[J1 _ _ _ _ _ (by omega) (by omega) (by simp;omega)];simp
      simp(disch:=omega)only[T3,hkk,i1,i0,hc,hxy,ls,s3,hsl1,hsl2,hrep,happ,hsl3,EVT,Aw,simprocAttr]
     .left;refine⟨k+1,?_,⟨by omega,by omega,?_⟩,by omega⟩
      .simp(disch:=omega)only[T3,hkk,i1,i0,hc,hxy,EVT,Aw,simprocAttr]
      .rw[cs,tk];simp[hxy]
    .right;have e:k=l.length:=by omega
     subst e;rw[E3] at k3;refine⟨_,?_,?_,rfl⟩
     .rw[if_pos k3];simp(disch:=omega)only[T3,EVT,Aw,simprocAttr]
     .rw[if_pos k3];rfl
  by_cases hh:cpt eq2 l=l
  .rw[if_pos hh] at key;rw[hh];simp(disch:=omega)only[T3,h2,key,EVT,Aw,simprocAttr]
  .rw[if_neg hh] at key;simp(disch:=omega)only[T3,h2,key,EVT,Aw,simprocAttr]
def Ff0 (r:Rec) (h:r.wf):S Gx1 1 [r.pv]=some [.b (R7 r)]:=by
 refine Kd4 (N:=1) rfl ?_;have g:r.name.length<=9223372036854775807:=h.name;have h1:=Db r.name g;have h2:=Ez r.typ;have h3:=jh r.typ r.data h.data;unfold R7;by_cases k0:0<=r.ttl<;>by_cases k1:r.ttl<=2147483647
 all_goals rcases ch3 (vld r.name) (knw r.typ) (Ff r.typ r.data) with e0|⟨e0,e1⟩|⟨e0,e1,e2⟩|⟨e0,e1,e2⟩
 all_goals simp only[*] at h1 h2 h3
 all_goals simp(disch:=omega)only[Kk4,qp,Hf,h1,h2,h3,EVC,xe,EVP,EV,simprocAttr, *]
 all_goals simp
def Hw0 (x:Int):S zp 1 [.i .i64 x]=some [.b false]:=by refine It6 (N:=1) rfl ?_;simp(disch:=omega)only[Ic9,Ax,simprocAttr]
def Fg7 (a b:Int):S Aj8 2 [.i .i64 a,.i .i64 b]=some [.i .i64 (Ay7 a b)]:=by
 refine Jv5 (N:=1) rfl ?_;have h1:=Hw0 a;have h2:=Hw0 b;unfold Ay7;by_cases k1:a<b
 .simp(disch:=omega)only[Dk6,h1,h2,k1,Ax,simprocAttr]
 .by_cases k2:b<a
  .simp(disch:=omega)only[Dk6,h1,h2,k1,k2,Ax,simprocAttr]
  .simp(disch:=omega)only[Dk6,h1,h2,k1,k2,Ax,simprocAttr]
def Bf0 (a b:Rec) (ha:a.wf) (hb:b.wf):S Aq5 2 [a.pv,b.pv]=some [.i .i64 (Tb a b)]:=by
 refine Jb4 (N:=1) rfl ?_;have g1:a.name.length<=9223372036854775807:=ha.name;have g2:b.name.length<=9223372036854775807:=hb.name;have h1:=Kx a.name b.name g1 g2;have h2:=Fg7 a.typ b.typ;have h3:=By1 a.typ a.data b.data ha.data hb.data;unfold Tb;by_cases k1:J7 a.name b.name=0
 .by_cases k2:Ay7 a.typ b.typ=0
  .rw[k1] at h1;rw[k2] at h2;simp(disch:=omega)only[Dq1,qp,Hf,h1,h2,h3,Ax,simprocAttr];simp[k1,k2]
  .rw[k1] at h1;simp(disch:=omega)only[Dq1,h1,h2,k2,Ax,simprocAttr];simp[k1,k2]
 .simp(disch:=omega)only[Dq1,h1,k1,Ax,simprocAttr]
def Bx8 (a b:Rec) (ha:a.wf) (hb:b.wf):S Eb7 2 [a.pv,b.pv]=some [.i .i64 (Iw0 a b)]:=by
 refine Kx0 (N:=1) rfl ?_;have h1:=Bf0 a b ha hb;have h2:=Fg7 a.ttl b.ttl;unfold Iw0;by_cases k1:Tb a b=0
 .rw[k1] at h1;simp(disch:=omega)only[Ib3,h1,h2,Ax,simprocAttr];simp[k1]
 .simp(disch:=omega)only[Ib3,h1,k1,Ax,simprocAttr]
def Jp4:Cmp Eb7 [] Iw0 Rec.wf:=⟨fun x y hx hy=>Bx8 x y hx hy⟩
def Gb0:leC Iw0=leR:=rfl
def Gl0 (a b:Rec) (ha:a.wf) (hb:b.wf):S Aq6 2 [a.pv,b.pv]=some [.b (eqF a b)]:=by refine Jb5 (N:=1) rfl ?_;have h1:=Bf0 a b ha hb;simp(disch:=omega)only[Ig9,h1,Ax,simprocAttr]
def Cv9 (l:List Rec) (hw:∀r∈l,r.wf) (hl:l.length<=1000000):S Ed2 1 [B4 l]=some [B4 (sortR l)]:=by refine Kd2 (N:=1) rfl ?_;have h0:=Q0 l hl;obtain⟨r,h1,h2,h3⟩:=V6 Jp4 (by rw[Gb0];exact Js0) l hw hl;rw[Gb0] at h1;have hm:=h1.mem Js0;have h4:=By3 r Aq6 [] eqF (fun x hx y hy=>Gl0 x y (hw x ((hm x).1 hx)) (hw y ((hm y).1 hy))) (by omega);rw[Bc4 h1] at h4;simp(disch:=omega)only[Kk3,h0,h3,h4,Eg,Jr,EVT,Aw,simprocAttr]
def Fq3 {z:Zone} {n b:List UInt8} {c:Rec} (hI:b=[]∨under n b=true):(if(E1 z c && under n c.name && (decide (b=[])||decide ((lbl c.name).length<(lbl b).length)))=true then c.name else b)=[]∨under n (if(E1 z c && under n c.name && (decide (b=[])||decide ((lbl c.name).length<(lbl b).length)))=true then c.name else b)=true:=by
 split
 .rename_i h;simp only[Bs] at h;exact .inr h.1.2
 .exact hI
def Ct2 (z:Zone) (n:List UInt8) (hz:z.wf) (hl:z.recs.length<=1000000) (hn:n.length<=9223372036854775807):S Ec9 2 [z.pv,.s n]=some [.s (cutN z n),.b (decide (cutN z n≠[]))]:=by
 refine Kc1 (N:=z.recs.length+1) rfl ?_;have g1:=hz.origin;unfold Mw at g1;have key:Hj1.ev S (z.recs.length+1) [z.pv,.s n]=some (.yld 0 [.s (ix z n [] z.recs)]):=by
  refine Dh z.recs (fun i (b:List UInt8)=>[.s b,.i .i64 (i:Int)]) (fun i b r=> .yld 0 [.s (ix z n b r)]) (fun i b=>b=[]∨under n b=true) [] rfl (.inl rfl) (by omega) (fun i b c r hd hi hc hI=> ?_) (fun b hI=> ?_)
  .left;have g2:=(hz.recs.2 c (B8 hc)).name;unfold Mw at g2;refine⟨if E1 z c && under n c.name && (decide (b=[])||decide ((lbl c.name).length<(lbl b).length)) then c.name else b,?_,Fq3 hI,rfl⟩;by_cases h1:c.typ=2
   .by_cases h2:c.name=z.origin
    .simp(disch:=omega)only[nd,hc,h1,h2,Aw,simprocAttr];simp[E1,Fs,h2]
    .have k1:=F9 c.name z.origin g2 g1;have k2:=F9 n c.name hn g2;rcases Bl (under c.name z.origin) with h3|h3
     .rcases Bl (under n c.name) with h4|h4
      .by_cases h5:b=[]
       .rw[h3] at k1;rw[h4] at k2;simp(disch:=omega)only[nd,hc,h1,h2,h3,h4,h5,k1,k2,Aw,simprocAttr];simp[E1,Fs,h1,h2,h3,h4,h5]
       .have hb:=hI.resolve_left h5;have e:=Fd9 h4 hb;rw[h3] at k1;rw[h4] at k2;by_cases h6:c.name.length<b.length
        .have h7:=e.1 h6;have h8:(c.name.length:Int)<(b.length:Int):=by omega
         simp(disch:=omega)only[nd,hc,h1,h2,h3,h4,h5,h8,k1,k2,Aw,simprocAttr];simp[E1,Fs,h1,h2,h3,h4,h5,h7]
        .have h7:¬(lbl c.name).length<(lbl b).length:=fun q=>h6 (e.2 q);have h8:¬(c.name.length:Int)<(b.length:Int):=by omega
         simp(disch:=omega)only[nd,hc,h1,h2,h3,h4,h5,h8,k1,k2,Aw,simprocAttr];simp[E1,Fs,h1,h2,h3,h4,h5,h7]
      .rw[h3] at k1;rw[h4] at k2;simp(disch:=omega)only[nd,hc,h1,h2,h3,h4,k1,k2,Aw,simprocAttr];simp[E1,Fs,h1,h2,h3,h4]
     .rw[h3] at k1;simp(disch:=omega)only[nd,hc,h1,h2,h3,k1,Aw,simprocAttr];simp[E1,Fs,h1,h2,h3]
   .simp(disch:=omega)only[nd,hc,h1,Aw,simprocAttr];simp[E1,h1]
  .simp(disch:=omega)only[nd,Aw,simprocAttr];simp[ix,Out.goes]
 rw[show ix z n [] z.recs=cutN z n from rfl] at key;simp(disch:=omega)only[nd,key,Aw,simprocAttr]
 try simp
def cutsN (z:Zone):List (List UInt8):=setN ((z.recs.filter (E1 z)).map Rec.name)
def fw (z:Zone) (x:List UInt8):x∈cutsN z↔∃r∈z.recs,E1 z r=true∧r.name=x:=by unfold cutsN;rw[N8,Es];simp only[Cs,and_assoc]
def Fr9 {l:List (List UInt8)} (h:∀x∈l,x.length<=9223372036854775807):∀x∈setN l,x.length<=9223372036854775807:=fun x hx=>h x ((N8 l x).1 hx)
def By9 (z:Zone) (hz:z.wf) (hl:z.recs.length<=1000000):S Aq2 1 [z.pv]=some [Ch (cutsN z)]:=by
 refine Jz8 (N:=z.recs.length+1) rfl ?_;have g1:=hz.origin;unfold Mw at g1;have key:Er0.ev S (z.recs.length+1) [z.pv]=some (.yld 0 [Ch ([]++(z.recs.filter (E1 z)).map Rec.name)]):=by
  refine Dh z.recs (fun i (b:List (List UInt8))=>[Ch b,.i .i64 (i:Int)]) (fun i b r=> .yld 0 [Ch (b++(r.filter (E1 z)).map Rec.name)]) (fun i b=>b.length<=i) [] rfl (C3 _) (by omega) (fun i b c r hd hi hc hI=> ?_) (fun b hI=> ?_)
  .left;have g2:=(hz.recs.2 c (B8 hc)).name;unfold Mw at g2;refine⟨if E1 z c then b++[c.name] else b,?_,by split<;>(try rw[Br,Dx])<;>omega,by rcases Bl (E1 z c) with q|q<;>simp[q]⟩;by_cases h1:c.typ=2
   .by_cases h2:c.name=z.origin
    .simp(disch:=omega)only[i7,hc,h1,h2,Aw,simprocAttr];simp[E1,Fs,h2]
    .have k1:=F9 c.name z.origin g2 g1;rcases Bl (under c.name z.origin) with h3|h3
     .rw[h3] at k1;simp(disch:=omega)only[i7,hc,h1,h2,h3,k1,Aw,simprocAttr];simp[E1,Fs,h1,h2,h3]
     .rw[h3] at k1;simp(disch:=omega)only[i7,hc,h1,h2,h3,k1,Aw,simprocAttr];simp[E1,Fs,h1,h2,h3]
   .simp(disch:=omega)only[i7,hc,h1,Aw,simprocAttr];simp[E1,h1]
  .simp(disch:=omega)only[i7,Aw,simprocAttr];simp[Out.goes]
 rw[C8] at key;have hlen:((z.recs.filter (E1 z)).map Rec.name).length<=1000000:=by rw[Dt];exact D4 (Dr _ _) hl
 have hw:∀x∈(z.recs.filter (E1 z)).map Rec.name,x.length<=9223372036854775807:=fun x hx=>by obtain⟨r,hr,rfl⟩:=Es.1 hx;exact(hz.recs.2 r (Cs.1 hr).1).name
 have k1:=u5 _ hlen hw;have k2:=Td (((z.recs.filter (E1 z)).map Rec.name).mergeSort fun x y=> !decide (J7 y x<0)) (by rw[Ac8];exact hlen);rw[show cpt eqs (((z.recs.filter (E1 z)).map Rec.name).mergeSort fun x y=> !decide (J7 y x<0))=cutsN z from rfl] at k2;generalize ((z.recs.filter (E1 z)).map Rec.name).mergeSort (fun x y=> !decide (J7 y x<0))=so at*;generalize (z.recs.filter (E1 z)).map Rec.name=un at*;simp(disch:=omega)only[i7,key,k1,k2,Eg,Jr,Aw,simprocAttr]
def Ds5 (l:List Rec) (hl:l.length<=1000000) (hw:∀r∈l,r.wf):S Bm2 1 [B4 l]=some [Ch (setN (l.map Rec.name))]:=by
 refine Jq8 (N:=l.length+1) rfl ?_;have key:En1.ev S (l.length+1) [B4 l]=some (.yld 0 [Ch ([]++l.map Rec.name)]):=by
  refine Dh l (fun i (b:List (List UInt8))=>[Ch b,.i .i64 (i:Int)]) (fun i b r=> .yld 0 [Ch (b++r.map Rec.name)]) (fun i b=>b.length<=i) [] rfl (C3 _) (by omega) (fun i b c r hd hi hc hI=> ?_) (fun b hI=> ?_)
  .left;refine⟨b++[c.name],?_,by simp;omega,by simp⟩;simp(disch:=omega)only[Dk3,hc,Aw,simprocAttr]
  .simp(disch:=omega)only[Dk3,Aw,simprocAttr];simp[Out.goes]
 rw[C8] at key;have hlen:(l.map Rec.name).length<=1000000:=by rw[Dt];exact hl
 have hw:∀x∈l.map Rec.name,x.length<=9223372036854775807:=fun x hx=>by obtain⟨r,hr,rfl⟩:=Es.1 hx;exact(hw r hr).name
 have k1:=u5 _ hlen hw;have k2:=Td ((l.map Rec.name).mergeSort fun x y=> !decide (J7 y x<0)) (by rw[Ac8];exact hlen);rw[show cpt eqs ((l.map Rec.name).mergeSort fun x y=> !decide (J7 y x<0))=setN (l.map Rec.name) from rfl] at k2;generalize setN (l.map Rec.name)=se at*;generalize (l.map Rec.name).mergeSort (fun x y=> !decide (J7 y x<0))=so at*;generalize l.map Rec.name=un at*;simp(disch:=omega)only[Dk3,key,k1,k2,Eg,Jr,Aw,simprocAttr]
def Fg1 (c owner:List UInt8) (hc:c.length<=9223372036854775807) (ho:owner.length<=9223372036854775807):S Aj5 1 [.s c,.s owner]=some [.b (decide (c≠owner) && under owner c)]:=by
 refine Jq7 (N:=1) rfl ?_;have k1:=F9 owner c ho hc;by_cases h:c=owner
 .simp(disch:=omega)only[Gm6,h,Aw,simprocAttr];simp
 .simp(disch:=omega)only[Gm6,h,k1,Aw,simprocAttr];simp
def Ct1 (z:Zone) (acc:List (List UInt8)) (n:List UInt8) (p1 p2 p3 p4 p5 p6:PV) (N:Nat) (hu:under n z.origin=true) (ha:acc.length<=1000000) (hN:1000<N) (hp2:H3 1 p2 p4=some (.s n)):
  An4.ev S N [z.pv,p1,p2,Ch acc,p4,p5,p6]=some (.yld 2 [Ch (acc++upN z.origin n)]):=by
 obtain⟨v1,v2,_⟩:=C5.1 hu;have hlb:=G5 n;have h0:jn ((lbl n).drop 0)=n:=db v1;have e0:upN z.origin n=(upN z.origin n).take ((lbl n).length - (lbl z.origin).length+1):=by rw[Fj];simp[upN]
 have:=Gq (fn:=S) (N:=N) (J:=[z.pv,p1,p2,Ch acc,p4,p5,p6]) (id:=3) (init:=[(.v 3),(.proj 0 (.idx 1 (.v 2) (.v 4)))]) (body:=Bv1) ((lbl n).length - (lbl z.origin).length) (fun k=>[Ch (acc++(upN z.origin n).take k),.s (jn ((lbl n).drop k))])
  (fun _=> .yld 2 [Ch (acc++upN z.origin n)]) ?_ (by omega) (fun k hk=> ?_) ?_
 .exact this
 .rw[h0];simp(disch:=omega)only[hp2,Aw,simprocAttr];simp
 .left;obtain⟨q1,q2⟩:=xk hu hk;have q3:¬jn ((lbl n).drop k)=z.origin:=fun h=>by have:=(Uj hu (Nat.le_of_lt hk)).1 h;omega
  have q4:=dc v1 k;have k1:=Xp (jn ((lbl n).drop k)) (by omega);rw[q1,q2] at k1;have q5:(upN z.origin n).take (k+1)=(upN z.origin n).take k++[jn ((lbl n).drop k)]:=by rw[Dp,Pr (Nat.le_of_lt hk)];rfl
  rw[q5,<-Cj];have q6:(acc++(upN z.origin n).take k).length<=1000300:=by rw[Br,Cw];omega
  generalize acc++(upN z.origin n).take k=a at*;refine⟨?_,rfl⟩;generalize jn ((lbl n).drop (k+1))=nx at*;generalize jn ((lbl n).drop k)=cu at*;simp(disch:=omega)only[Z8,q3,k1,Aw,simprocAttr]
 .have q3:=(Uj hu (B7 _)).2 rfl;have q5:(upN z.origin n)=(upN z.origin n).take ((lbl n).length - (lbl z.origin).length)++[jn ((lbl n).drop ((lbl n).length - (lbl z.origin).length))]:=by have:=Dp (l:=upN z.origin n) (i:=(lbl n).length - (lbl z.origin).length);rw[Pr (B7 _)] at this;rw[<-e0] at this;exact this
  rw[q3] at q5 ⊢;have q6:(acc++(upN z.origin n).take ((lbl n).length - (lbl z.origin).length)).length<=1000300:=by rw[Br,Cw];omega
  refine⟨?_,rfl⟩
  conv=>rhs;rw[q5,<-Cj]
  generalize acc++(upN z.origin n).take ((lbl n).length - (lbl z.origin).length)=a at*;simp(disch:=omega)only[Z8,Aw,simprocAttr]
def Gg2 (z:Zone) (owner:List UInt8):((cutsN z).any fun c=>decide (c≠owner) && under owner c)=Oc z owner:=by
 rw[D7];unfold Oc;simp only[Dc,Bs,decide_eq_true_eq,fw];constructor
 .rintro⟨x,⟨r,hr,h1,rfl⟩,h2,h3⟩;exact⟨r,hr,⟨h1,h2⟩,h3⟩
 .rintro⟨r,hr,⟨h1,h2⟩,h3⟩;exact⟨r.name,⟨r,hr,h1,rfl⟩,h2,h3⟩
def K5 (z:Zone) (n:List UInt8):Bool:=under n z.origin && !Oc z n
def Z1 (z:Zone) (hz:z.wf) (hl:z.recs.length<=1000):S lc 1 [z.pv]=some [Ch (namesN z)]:=by
 refine Jz7 (N:=z.recs.length+1001) rfl ?_;have g1:=hz.origin;unfold Mw at g1;have k1:=By9 z hz (by omega);have k2:=Ds5 z.recs (by omega) (fun r hr=>hz.recs.2 r hr);have hol:(setN (z.recs.map Rec.name)).length<=z.recs.length:=by have:=Ub (z.recs.map Rec.name);rwa[Dt] at this
 have how:∀x∈setN (z.recs.map Rec.name),x.length<=9223372036854775807:=Fr9 fun x hx=>by obtain⟨r,hr,rfl⟩:=Es.1 hx;exact(hz.recs.2 r hr).name
 have hcl:(cutsN z).length<=1000000:=by have:=Ub ((z.recs.filter (E1 z)).map Rec.name);rw[Dt] at this;have h2:=Dr (E1 z) z.recs;show (setN ((z.recs.filter (E1 z)).map Rec.name)).length<=1000000;omega
 have hcw:∀x∈cutsN z,x.length<=9223372036854775807:=fun x hx=>by obtain⟨r,hr,_,rfl⟩:=(fw z x).1 hx;exact(hz.recs.2 r hr).name
 have hmem:∀x,x∈((setN (z.recs.map Rec.name)).filter (K5 z)).flatMap (upN z.origin)↔Fh7 z x:=by
  intro x;unfold Fh7 K5;simp only[Fh9,Cs,N8,Es,Bs,Cn];constructor
  .rintro⟨o,⟨⟨r,hr,rfl⟩,h1,h2⟩,h3⟩;obtain⟨h4,h5⟩:=(L2 h1).1 h3;exact⟨r,hr,h1,h2,h4,h5⟩
  .rintro⟨r,hr,h1,h2,h4,h5⟩;exact⟨r.name,⟨⟨r,hr,rfl⟩,h1,h2⟩,(L2 h1).2 ⟨h4,h5⟩⟩
 generalize hO:setN (z.recs.map Rec.name)=O at*;have key:Ep9.ev S (z.recs.length+1001) [z.pv,Ch (cutsN z),Ch O]=some (.yld 0 [Ch ([]++(O.filter (K5 z)).flatMap (upN z.origin))]):=by
  refine Dh O (fun i (b:List (List UInt8))=>[Ch b,.i .i64 (i:Int)]) (fun i b r=> .yld 0 [Ch (b++(r.filter (K5 z)).flatMap (upN z.origin))]) (fun i b=>b.length<=256*i) [] rfl (C3 _) (by omega) (fun i b c r hd hi hc hI=> ?_) (fun b hI=> ?_)
  .left;have g2:=how c (B8 hc);have k3:=F9 c z.origin g2 g1;have hid:=Gg2 z c;rcases Bl (under c z.origin) with h1|h1
   .have k4:=Y3 (cutsN z) Aj5 [.s c] _ hcl (fun x hx=>Fg1 x c (hcw x hx) g2);rw[hid] at k4;rw[h1] at k3;rcases Bl (Oc z c) with h2|h2
    .refine⟨b,?_,by omega,by simp[K5,h1,h2]⟩;rw[h2] at k4;generalize cutsN z=cz at*;simp(disch:=omega)only[Z8,hc,k3,k4,Aw,simprocAttr]
    .have hu:=aj z.origin c;refine⟨b++upN z.origin c,?_,by rw[Br];omega,by simp[K5,h1,h2]⟩;rw[h2] at k4;have k5:∀p5 p6,An4.ev S (z.recs.length+1001) [z.pv,Ch (cutsN z),Ch O,Ch b,.i .i64 (i:Int),p5,p6]=some (.yld 2 [Ch (b++upN z.origin c)]):=fun p5 p6=>Ct1 z b c _ _ (Ch b) _ p5 p6 _ h1 (by omega) (by omega) (by rw[Rc _ _ _ (by omega)];simp[hc]);generalize b++upN z.origin c=b' at*;generalize cutsN z=cz at*;simp(disch:=omega)only[Z8,hc,k3,k4,k5,Aw,simprocAttr]
   .refine⟨b,?_,by omega,by simp[K5,h1]⟩;rw[h1] at k3;generalize cutsN z=cz at*;simp(disch:=omega)only[Z8,hc,k3,Aw,simprocAttr]
  .generalize cutsN z=cz at*;simp(disch:=omega)only[Z8,Aw,simprocAttr];simp[Out.goes]
 rw[C8] at key;have hxl:((O.filter (K5 z)).flatMap (upN z.origin)).length<=256*O.length:=by
  have:∀l:List (List UInt8),(l.flatMap (upN z.origin)).length<=256*l.length:=by
   intro l
   induction l with
   |nil=>simp
   |cons x r ih=>
    have:=aj z.origin x;rw[Fy,Br,B9];omega
  refine D4 (this _) ?_;have:=Dr (K5 z) O;omega
 have hxw:∀x∈(O.filter (K5 z)).flatMap (upN z.origin),x.length<=9223372036854775807:=fun x hx=>by obtain⟨r,hr,_,_,h4,_⟩:=(hmem x).1 hx;have:=Hs (C5.1 h4).2.1;omega
 have he:setN ((O.filter (K5 z)).flatMap (upN z.origin))=namesN z:=Bf6 z _ hmem;generalize (O.filter (K5 z)).flatMap (upN z.origin)=un at*;have k6:=u5 un (by omega) hxw;have k7:=Td (un.mergeSort fun x y=> !decide (J7 y x<0)) (by rw[Ac8];omega);rw[show cpt eqs (un.mergeSort fun x y=> !decide (J7 y x<0))=setN un from rfl,he] at k7;generalize un.mergeSort (fun x y=> !decide (J7 y x<0))=so at*;generalize namesN z=nz at*;generalize cutsN z=cz at*;simp(disch:=omega)only[Z8,k1,k2,key,k6,k7,Eg,Jr,Aw,simprocAttr]
abbrev ltC:List UInt8×Int->List UInt8×Int->Prop:=fun p q=>ltB p.1 q.1∨(p.1=q.1∧p.2<q.2)
def to_C:TO ltC:=Fh5.prod Il7
def ltQ (a b:Ques):Prop:=ltC (a.name,a.typ) (b.name,b.typ)
def to_Q:TO ltQ where
 irr:=fun a=>to_C.irr _
 tr:=fun a b c=>to_C.tr _ _ _
 tri:=fun a b=>by
  rcases to_C.tri (a.name,a.typ) (b.name,b.typ) with h|h|h
  .exact .inl h
  .injection h with h1 h2;refine .inr (.inl ?_);cases a;cases b;simp only at h1 h2;rw[h1,h2]
  .exact .inr (.inr h)
def At0 (a b:Ques):Int:=if(Op.bytesLess a.name b.name||(decide (a.name=b.name) && decide (a.typ<b.typ)))=true then -1 else if a=b then 0 else 1
def Jv (a b:Ques):At0 a b<0↔ltQ a b:=by
 unfold At0 ltQ ltC;simp only;have e:(Op.bytesLess a.name b.name||(decide (a.name=b.name) && decide (a.typ<b.typ)))=true↔(ltB a.name b.name∨a.name=b.name∧a.typ<b.typ):=by simp only[Cy,Bs,decide_eq_true_eq,fh]
 by_cases h:ltB a.name b.name∨a.name=b.name∧a.typ<b.typ
 .rw[if_pos (e.2 h)];simp[h]
 .rw[if_neg (fun q=>h (e.1 q))];simp only[h,iff_false];split<;>omega
def As9 (a b:Ques):S qv 2 [a.pv,b.pv]=some [.i .i64 (At0 a b)]:=by
 refine Kx4 (N:=1) rfl ?_;unfold At0;rcases Bl (Op.bytesLess a.name b.name) with h1|h1
 .simp(disch:=omega)only[Ct5,h1,Aw,simprocAttr];simp
 .by_cases h2:a.name=b.name
  .by_cases h3:a.typ<b.typ
   .rw[h2] at h1;simp(disch:=omega)only[Ct5,h1,h2,h3,Aw,simprocAttr];simp
   .rw[h2] at h1;by_cases h4:a=b
    .simp(disch:=omega)only[Ct5,h1,h2,h3,Aw,simprocAttr];simp[h4]
    .simp(disch:=omega)only[Ct5,h1,h2,h3,h4,Aw,simprocAttr];simp[h4]
  .have h4:¬a=b:=fun e=>h2 (by rw[e]);simp(disch:=omega)only[Ct5,h1,h2,h4,Aw,simprocAttr];simp[h4]
def Lv (l:List Ques):PV:= .l 2 (l.map Ques.pv)
def Lb (l:List Ques):Hj (Lv l)=some (.i .i64 (l.length:Int)):=by simp[Lv,Hj]
def Oz (l:List Ques) (k:IntKind) (z:Int) (h:0<=z):H3 2 (Lv l) (.i k z)=(l[z.toNat]?).map Ques.pv:=by simp[Lv,Yn _ _ _ _ h]
def Gz0 (x:Ques):L4 2 [x.pv]=some (Lv [x]):=rfl
def Fd4 (l:List Ques) (x:Ques) (h:l.length+1<=1073741824):Jz 2 (Lv l) (Lv [x])=some (Lv (l++[x])):=by have:=V5 2 (l.map Ques.pv) [x.pv] (by simpa using h);simpa [Lv] using this
def Bd7:PV->PV->Int
 | .a [.s a,.i _ t],.a [.s b,.i _ u]=>At0 ⟨a,t⟩ ⟨b,u⟩
 |_,_=>0
def Gh9 (l:List Ques) (hl:l.length<=1000000):S Am0 1048578 [Lv l,.f qv []]=some [Lv (l.mergeSort fun x y=> !decide (At0 y x<0))]:=by
 have hm:∀x∈l.map Ques.pv,∃a∈l,x=a.pv:=fun x hx=>by obtain⟨a,h1,h2⟩:=Es.1 hx;exact⟨a,h1,h2.symm⟩
 have hc:∀a b:Ques,Bd7 a.pv b.pv=At0 a b:=fun a b=>rfl;have h:=Bc9 (tab:=tab) (xs:=Ik0) (ss:=ob) (f:=Am0) (s:=Gn9) Im3 Im8 (g:=qv) (caps:=[]) (l:=l.map Ques.pv) (by decide) (by simp;omega)
  (fun x hx=>by obtain⟨a,_,rfl⟩:=hm x hx;rfl) Bd7
  (fun x hx y hy=>by obtain⟨a,ha,rfl⟩:=hm x hx;obtain⟨b,hb,rfl⟩:=hm y hy;exact As9 a b)
  (fun x hx=>by obtain⟨a,_,rfl⟩:=hm x hx;rw[hc,Jv];exact to_Q.irr a)
  (fun x hx y hy z hz h1 h2=>by obtain⟨a,_,rfl⟩:=hm x hx;obtain⟨b,_,rfl⟩:=hm y hy;obtain⟨c,_,rfl⟩:=hm z hz;rw[hc] at*;exact(Jv a c).2 (to_Q.tr _ _ _ ((Jv a b).1 h1) ((Jv b c).1 h2)))
  (fun x hx y hy z hz h1 h2=>by obtain⟨a,_,rfl⟩:=hm x hx;obtain⟨b,_,rfl⟩:=hm y hy;obtain⟨c,_,rfl⟩:=hm z hz;rw[hc] at*;exact fun h3=>to_Q.ntr (fun q=>h1 ((Jv a b).2 q)) (fun q=>h2 ((Jv b c).2 q)) ((Jv a c).1 h3))
  (fun x hx y hy h1 h2=>by
   obtain⟨a,_,rfl⟩:=hm x hx;obtain⟨b,_,rfl⟩:=hm y hy;rw[hc] at*;rcases to_Q.tri a b with q|q|q
   .exact absurd ((Jv a b).2 q) h1
   .rw[q]
   .exact absurd ((Jv b a).2 q) h2)
 have e:(l.map Ques.pv).mergeSort (fun x y=> !decide (Bd7 y x<0))=(l.mergeSort fun x y=> !decide (At0 y x<0)).map Ques.pv:=(Jt8 (r:=fun x y=> !decide (At0 y x<0)) (s:=fun x y=> !decide (Bd7 y x<0)) (f:=Ques.pv) fun a _ b _=>rfl).symm;rw[e] at h;exact h
def o3 (p:Option Ques) (n:Nat):List Ques->Bool
 |[]=>false
 |k::r=>if 64<(if p=some k then n+1 else 1) then true else o3 (some k) (if p=some k then n+1 else 1) r
def o0:∀(l:List Ques) (p:Ques) (n:Nat),(p::l).Pairwise (fun a b=>¬ltQ b a)->n<=64->(o3 (some p) n l=true↔(∃k,k≠p∧64<l.count k)∨64<n+l.count p)
 |[],p,n,_,hn=>by simp[o3];omega
 |k::r,p,n,hs,hn=>by
  obtain⟨h1,h2⟩:=Cd.1 hs;by_cases e:p=k
  .subst e;by_cases hg:64<n+1
   .simp only[o3,if_true,hg];refine⟨fun _=> .inr ?_,fun _=>trivial⟩;rw[I6];omega
   .simp only[o3,if_true,hg,if_false];rw[o0 r p (n+1) h2 (by omega),I6];constructor
    .rintro (⟨q,q1,q2⟩|q)
     .exact .inl ⟨q,q1,by rw[Ix (fun e=>q1 e.symm)];exact q2⟩
     .exact .inr (by omega)
    .rintro (⟨q,q1,q2⟩|q)
     .exact .inl ⟨q,q1,by rw[Ix (fun e=>q1 e.symm)] at q2;exact q2⟩
     .exact .inr (by omega)
  .have e':¬(some p=some k):=fun q=>e (by injection q);simp only[o3,if_neg e',show¬64<1 by omega,if_false];rw[o0 r k 1 h2 (by omega)];have hlt:ltQ p k:=by
    rcases to_Q.tri p k with q|q|q
    .exact q
    .exact absurd q e
    .exact absurd q (h1 k (.head _))
   have hno:∀y∈k::r,y≠p:=fun y hy q=>by
    subst q;rcases Cq.1 hy with q|hy
    .exact e q
    .exact(Cd.1 h2).1 y hy hlt
   have h0:(k::r).count p=0:=Jt9.2 fun hm=>hno p hm rfl;have h0r:r.count p=0:=Jt9.2 fun hm=>hno p (.tail _ hm) rfl;rw[h0];constructor
   .rintro (⟨q,q1,q2⟩|q)
    .refine .inl ⟨q,fun w=>by rw[w,h0r] at q2;omega,?_⟩;rw[Ix (fun w=>q1 w.symm)];exact q2
    .refine .inl ⟨k,fun w=>e w.symm,?_⟩;rw[I6];omega
   .rintro (⟨q,q1,q2⟩|q)
    .by_cases w:q=k
     .subst w;rw[I6] at q2;exact .inr (by omega)
     .rw[Ix (fun v=>w v.symm)] at q2;exact .inl ⟨q,w,q2⟩
    .omega
def Fs5 (l:List Ques) (hs:l.Pairwise (fun a b=>¬ltQ b a)):o3 none 0 l=true↔∃k,64<l.count k:=by
 cases l with
 |nil=>simp[o3]
 |cons k r=>
  have e:¬((none:Option Ques)=some k):=by simp
  simp only[o3,if_neg e,show¬64<1 by omega,if_false];rw[o0 r k 1 hs (by omega)];constructor
  .rintro (⟨q,q1,q2⟩|q)
   .exact⟨q,by rw[Ix (fun w=>q1 w.symm)];exact q2⟩
   .exact⟨k,by rw[I6];omega⟩
  .rintro⟨q,q2⟩;by_cases w:q=k
   .subst w;rw[I6] at q2;exact .inr (by omega)
   .rw[Ix (fun v=>w v.symm)] at q2;exact .inl ⟨q,w,q2⟩
def kyQ (r:Rec):Ques:=⟨r.name,r.typ⟩
def Yz (l:List Rec):Bool:=o3 none 0 ((l.map kyQ).mergeSort fun x y=> !decide (At0 y x<0))
def tj (n:List UInt8) (t:Int):∀l:List Rec,(l.map kyQ).count ⟨n,t⟩=(findR l n t).length
 |[]=>rfl
 |r::l=>by
  have ih:=tj n t l;unfold findR at ih ⊢;rw[Hh,O6];by_cases h:isK n t r=true
  .rw[if_pos h];unfold isK at h;simp only[Bs,decide_eq_true_eq] at h;have:kyQ r=⟨n,t⟩:=by unfold kyQ;rw[h.1,h.2]
   rw[this,I6,ih,B9]
  .rw[if_neg h];have:kyQ r≠⟨n,t⟩:=fun e=>h (by unfold kyQ at e;injection e with e1 e2;unfold isK;simp[e1,e2])
   rw[Ix this,ih]
def Hs2 (l:List Ques):(l.mergeSort fun x y=> !decide (At0 y x<0)).Pairwise (fun a b=>¬ltQ b a):=by
 have:=List.pairwise_mergeSort (le:=fun x y:Ques=> !decide (At0 y x<0)) (fun a b c h1 h2=>by
  simp only[Cn,decide_eq_false_iff_not,Jv] at h1 h2 ⊢;exact to_Q.ntr h2 h1) (fun a b=>by
  simp only[Cy,Cn,decide_eq_false_iff_not,Jv];rcases to_Q.tri a b with h|h|h
  .exact .inl (to_Q.asym h)
  .subst h;exact .inl (to_Q.irr a)
  .exact .inr (to_Q.asym h)) l
 refine this.imp fun {a b} h=> ?_;simpa only[Cn,decide_eq_false_iff_not,Jv] using h
def Cm9 (l:List Rec):Yz l= !(l.all fun r=>decide ((findR l r.name r.typ).length<=64)):=by
 rw[D7];unfold Yz;rw[Fs5 _ (Hs2 _)];have hc:∀k,((l.map kyQ).mergeSort fun x y=> !decide (At0 y x<0)).count k=(l.map kyQ).count k:=fun k=>(List.mergeSort_perm _ _).count_eq k;simp only[hc,Cn,List.all_eq_false,decide_eq_true_eq];constructor
 .rintro⟨⟨n,t⟩,h⟩;rw[tj] at h;have hp:0<(findR l n t).length:=by omega
  obtain⟨x,hx⟩:=List.length_pos_iff_exists_mem.1 hp;obtain⟨h3,h4⟩:=Cs.1 hx;unfold isK at h4;simp only[Bs,decide_eq_true_eq] at h4;exact⟨x,h3,by rw[h4.1,h4.2];omega⟩
 .rintro⟨r,h1,h2⟩;exact⟨kyQ r,by show 64<(l.map kyQ).count ⟨r.name,r.typ⟩;rw[tj];omega⟩
def Cm8 (l:List Rec) (hl:l.length<=1000000):S Gx3 1 [B4 l]=some [.b (Yz l)]:=by
 obtain⟨N,hN⟩:∃N,N=l.length+1:=⟨_,rfl⟩;refine Kd7 (N:=N) rfl ?_;have k0:Hj8.ev S N [B4 l]=some (.yld 0 [Lv (l.map kyQ)]):=by
  refine Et l (fun i=>[Lv ((l.take i).map kyQ),.i .i64 (i:Int)]) (fun i r=> .yld 0 [Lv (l.map kyQ)]) rfl (by omega) (fun i c r hd hi hc=> ?_) ?_
  .left;refine⟨?_,rfl⟩;have e:(l.take (i+1)).map kyQ=(l.take i).map kyQ++[kyQ c]:=by rw[Dp,hc];simp
   have hsub:Mq 0 2 c.pv=some (kyQ c).pv:=rfl;have hlen:((l.take i).map kyQ).length<=1000000:=by rw[Dt,Cw];omega
   rw[e];generalize (l.take i).map kyQ=a at*;simp(disch:=omega)only[nr,hc,hsub,Gz0,Fd4,Lb,Oz,Aw,simprocAttr]
  .refine⟨?_,rfl⟩;have e:l.take l.length=l:=E3;simp(disch:=omega)only[nr,e,Lb,Oz,Aw,simprocAttr]
 have hs:=Gh9 (l.map kyQ) (by simpa using hl);have hlen:((l.map kyQ).mergeSort fun x y=> !decide (At0 y x<0)).length=l.length:=by simp
 unfold Yz;generalize ((l.map kyQ).mergeSort fun x y=> !decide (At0 y x<0))=ks at*;have k1:Gr7.ev S N [B4 l,Lv (l.map kyQ),Lv ks]=some (if o3 none 0 ks=true then .ret [.b true] else .yld 0 []):=by
  refine Dh ks (fun i (g:Nat)=>[.i .i64 (g:Int),.i .i64 (i:Int)]) (fun i g r=>if o3 (if i=0 then none else ks[i - 1]?) g r=true then .ret [.b true] else .yld 0 []) (fun i g=>g<=64) 0 ?_ (by omega) (by omega) (fun i g c r hd hi hc hg=> ?_) (fun g hg=> ?_)
  .simp(disch:=omega)only[Ax,simprocAttr]
  .have hp:(if i=0 then none else ks[i - 1]?)=some c↔(0<i∧ks[i - 1]? =some c):=by
    by_cases h:i=0
    .simp[h]
    .simp[h];omega
   have hci:(if i+1=0 then none else ks[i+1 - 1]?)=some c:=by rw[if_neg (by omega),Pb,hc]
   have hsub:Mq 0 2 c.pv=some c.pv:=rfl;have eqq:∀x:Ques,Pq false true [.s,(.i .i64)] x.pv c.pv=some (.b (decide (x=c))):=fun x=>Kp8 false x c;by_cases hsame:0<i∧ks[i - 1]? =some c
   .have hp':=hp.2 hsame;have hi0:(0:Int)<(i:Int):=by omega
    have ei:((i:Int) - 1).toNat=i - 1:=by omega
    have ei2:(i:Int).toNat=i:=by omega
    by_cases hgt:64<g+1
    .right;have hgt':(64:Int)<(g:Int)+1:=by omega
     have er:o3 (if i=0 then none else ks[i - 1]?) g (c::r)=true:=by rw[hp'];simp[o3,hgt]
     rw[er];refine⟨?_,rfl⟩;simp(disch:=omega)only[nr,hc,hsame.2,hi0,ei,ei2,hgt',Lb,Oz,Aw,simprocAttr]
    .left;have hgt':¬(64:Int)<(g:Int)+1:=by omega
     refine⟨g+1,?_,by omega,?_⟩
     .simp(disch:=omega)only[nr,hc,hsame.2,hi0,ei,ei2,hgt',Lb,Oz,Aw,simprocAttr]
     .rw[hp',hci];simp[o3,hgt]
   .left;have hp':¬(if i=0 then none else ks[i - 1]?)=some c:=fun q=>hsame (hp.1 q);have ei:((i:Int) - 1).toNat=i - 1:=by omega
    have ei2:(i:Int).toNat=i:=by omega
    refine⟨1,?_,by omega,?_⟩
    .by_cases hi0:0<i
     .have hi0':(0:Int)<(i:Int):=by omega
      obtain⟨y,hy⟩:∃y,ks[i - 1]? =some y:=⟨_,Bt (by omega)⟩;have hyc:¬y=c:=fun q=>hsame ⟨hi0,by rw[hy,q]⟩;simp(disch:=omega)only[nr,hc,hy,hyc,hi0',ei,ei2,Lb,Oz,Aw,simprocAttr]
     .have hi0':¬(0:Int)<(i:Int):=by omega
      simp(disch:=omega)only[nr,hc,hi0',ei2,Lb,Oz,Aw,simprocAttr]
    .rw[hci];simp[o3,hp']
  .refine⟨?_,by simp[o3,Out.goes]⟩;have hlt:¬(ks.length:Int)<(ks.length:Int):=by omega
   simp(disch:=omega)only[nr,hlt,Lb,Oz,Aw,simprocAttr];simp[o3]
 have hrep:∃p,O8 2 (.i .i64 (l.length:Int)) (Ques.pv ⟨[],0⟩)=some p:=by
  have h1:(l.length:Int)<=(LIM:Int):=by simp only[LIM];omega
  have h2:(Ques.pv ⟨[],0⟩).cells.length=2:=rfl;simp[O8,h1,h2]
 obtain⟨p,hrep⟩:=hrep;rcases Bl (o3 none 0 ks) with h|h
 .rw[h,if_pos rfl] at k1;rw[h];simp(disch:=omega)only[nr,hrep,k0,hs,k1,Lb,Eg,Jr,Aw,simprocAttr]
 .rw[h,if_neg (by simp)] at k1;rw[h];simp(disch:=omega)only[nr,hrep,k0,hs,k1,Lb,Eg,Jr,Aw,simprocAttr]
def Cp7 (t:Int):S Bm4 1 [.i .i64 t]=some [.b (decide (t=6)||decide (t=5)||decide (t=39))]:=by
 refine Jv3 (N:=1) rfl ?_;by_cases h1:t=6
 .simp(disch:=omega)only[Dk5,h1,Ax,simprocAttr];simp
 .by_cases h2:t=5
  .simp(disch:=omega)only[Dk5,h2,Ax,simprocAttr];simp
  .simp(disch:=omega)only[Dk5,h1,h2,Ax,simprocAttr];simp
def Fl0 (r:Rec) (t:Int):S Aq3 1 [r.pv,.i .i64 t]=some [.b (decide (r.typ=t))]:=by refine Jb0 (N:=1) rfl ?_;simp(disch:=omega)only[Ig6,Ax,simprocAttr]
def N2 (g:List Rec) (t:Int) (hl:g.length<=1000000):S W3 2 [B4 g,.i .i64 t]=some [.b (If g t)]:=by refine Kc8 (N:=1) rfl ?_;have h:=K9 g Aq3 [.i .i64 t] (fun r=>decide (r.typ=t)) hl (fun r _=>Fl0 r t);simp(disch:=omega)only[Kk2,h,Ax,simprocAttr];rfl
def M0 (l:List Int):PV:= .l 1 (l.map (PV.i .i64))
def U5 (l:List Int):Hj (M0 l)=some (.i .i64 (l.length:Int)):=by simp[M0,Hj]
def qh (l:List Int) (k:IntKind) (z:Int) (h:0<=z):H3 1 (M0 l) (.i k z)=(l[z.toNat]?).map (PV.i .i64):=by simp[M0,Yn _ _ _ _ h]
def yr (l:List Int):Dj 0 (M0 l)=some (M0 l):=rfl
def Dp2 (l:List Int):J8 (M0 l)=some (M0 l):=rfl
def Fg4 (l:List Int) (x:Int) (hl:l.length<=1000000):∃k:Int,(0<=k↔x∈l)∧S Bh7 2 [M0 l,.i .i64 x]=some [.i .i64 k]:=by
 have go:∀(i:Nat) (l:List Int),∃k:Int,k=(match l.findIdx? (·=x) with|some j=>((i+j:Nat):Int)|none=> -1)∧(0<=k↔x∈l):=by
  intro i l;refine⟨_,rfl,?_⟩;cases h:l.findIdx? (·=x) with
  |none=>
   rw[List.findIdx?_eq_none_iff] at h;simp only;constructor
   .intro h2;omega
   .intro h2;have:=h x h2;simp at this
  |some j=>
   simp only;constructor
   .intro _;rw[List.findIdx?_eq_some_iff_getElem] at h;obtain⟨h1,h2,_⟩:=h;simp at h2;rw[<-h2];exact Fw _
   .intro _;omega
 obtain⟨k,hk,hk2⟩:=go 0 l;refine⟨k,hk2,?_⟩;refine It4 (N:=l.length+1) rfl ?_;have key:Em1.ev S (l.length+1) [M0 l,.i .i64 x]=some (match l.findIdx? (·=x) with|some j=> .ret [.i .i64 ((0+j:Nat):Int)]|none=> .yld 0 []):=by
  refine Et l (fun i=>[.i .i64 (i:Int)]) (fun i r=>match r.findIdx? (·=x) with|some j=> .ret [.i .i64 ((i+j:Nat):Int)]|none=> .yld 0 []) rfl (by omega) (fun i c r hd hi hc=> ?_) ?_
  .by_cases h:x=c
   .right;subst h;simp(disch:=omega)only[wz,hc,U5,qh,Aw,simprocAttr];simp[Pd,Out.goes]
   .left;have h':¬c=x:=fun e=>h e.symm;simp(disch:=omega)only[wz,hc,h,h',U5,qh,Aw,simprocAttr];refine⟨trivial,?_⟩;simp only[Pd,h',decide_false,B5,if_false];cases r.findIdx? (·=x) with
    |none=>rfl
    |some j=>simp;omega
  .simp(disch:=omega)only[wz,U5,qh,Aw,simprocAttr];simp[Out.goes]
 rw[hk];cases h:l.findIdx? (·=x) with
 |none=>
  rw[h] at key;simp(disch:=omega)only[wz,key,U5,Aw,simprocAttr]
 |some j=>
  rw[h] at key;simp(disch:=omega)only[wz,key,U5,Aw,simprocAttr]
def Ac0 (l:List Int) (x:Int) (hl:l.length<=1000000):S Bm3 2 [M0 l,.i .i64 x]=some [.b (decide (x∈l))]:=by refine Jv1 (N:=1) rfl ?_;obtain⟨k,h1,h2⟩:=Fg4 l x hl;simp(disch:=omega)only[If5,h2,Aw,simprocAttr];simp[h1]
def Ct0 (r:Rec) (ts:List Int) (hl:ts.length<=1000000):S Aj7 1 [r.pv,M0 ts]=some [.b (!decide (r.typ∈ts))]:=by refine Jv2 (N:=1) rfl ?_;have h:=Ac0 ts r.typ hl;simp(disch:=omega)only[If6,yr,h,Ax,simprocAttr]
def nv (g:List Rec) (ts:List Int) (hl:g.length<=1000000) (ht:ts.length<=1000000):S U0 2 [B4 g,M0 ts]=some [.b (My g ts)]:=by
 refine Jb1 (N:=1) rfl ?_;have h:=K9 g Aj7 [M0 ts] (fun r=> !decide (r.typ∈ts)) hl (fun r _=>Ct0 r ts ht);have e:(!(g.any fun r=> !decide (r.typ∈ts)))=My g ts:=by unfold My;rw[List.not_any_eq_all_not];simp
 rw[<-e];generalize (g.any fun r=> !decide (r.typ∈ts))=b at*;simp(disch:=omega)only[Ig7,yr,Dp2,h,Ax,simprocAttr]
def Ad1 (g:List Rec) (hl:g.length<=1000000):S Bn9 1 [B4 g]=some [.b (Fh3 g)]:=by
 obtain⟨N,hN⟩:∃N,N=g.length+2:=⟨_,rfl⟩;refine Jb2 (N:=N) rfl ?_;have key:Er1.ev S N [B4 g]=some (if Fh3 g=true then .yld 0 [] else .ret [.b false]):=by
  cases g with
  |nil=>
   refine Gq 0 (fun _=>[.i .i64 1]) (fun _=> .yld 0 []) ?_ (by omega) (fun i hi=>absurd hi (by omega)) ⟨?_,rfl⟩
   .simp(disch:=omega)only[Ax,simprocAttr]
   .have hlt:¬(1:Int)<(([]:List Rec).length:Int):=by simp
    simp(disch:=omega)only[T2,hlt,Ax,simprocAttr]
  |cons p r=>
   have hlr:(p::r).length=r.length+1:=rfl;have:=Et (fn:=S) (N:=N) (J:=[B4 (p::r)]) (id:=1) (init:=[.c (.i .i64 1)]) (body:=Bw8) r (fun i=>[.i .i64 ((i:Int)+1)]) (fun i l=>if(match (p::r)[i]? with|some q=>i9 q l|none=>true)=true then .yld 0 [] else .ret [.b false]) ?_ (by omega) (fun i c l hd hi hc=> ?_) ?_
   .exact this
   .simp(disch:=omega)only[Ax,simprocAttr]
    try rfl
   .obtain⟨q,hq⟩:∃q,(p::r)[i]? =some q:=⟨_,Bt (by rw[hlr];omega)⟩;have hc':(p::r)[i+1]? =some c:=by simpa using hc
    have e1:((i:Int)+1 - 1).toNat=i:=by omega
    have e2:((i:Int)+1).toNat=i+1:=by omega
    have hlt:(i:Int)+1<((p::r).length:Int):=by rw[hlr];omega
    have hsg:=Cp7 c.typ;rw[hq,hc'];generalize (p::r)=g' at*;have step:i9 q (c::l)=((!decide (c.typ=q.typ)||(!(decide (c.typ=6)||decide (c.typ=5)||decide (c.typ=39)) && (decide (c.typ=46)||decide (c.ttl=q.ttl)))) && i9 c l):=rfl;by_cases h1:c.typ=q.typ
    .rcases Bl (decide (c.typ=6)||decide (c.typ=5)||decide (c.typ=39)) with h2|h2
     .right;have er:i9 q (c::l)=false:=by rw[step,h2];simp[h1]
      rw[h2] at hsg;simp only[er,B5,if_false];refine⟨?_,rfl⟩;rw[h1] at hsg;simp(disch:=omega)only[T2,hlt,e1,e2,hq,hc',h1,hsg,Ax,simprocAttr]
     .rw[h2] at hsg;rw[h2] at step;rw[h1] at hsg;by_cases h3:c.typ=46
      .left;have er:i9 q (c::l)=i9 c l:=by rw[step];simp[h3]
       have h3':q.typ=46:=by rw[<-h1];exact h3
       rw[h3'] at hsg;refine⟨?_,by simp only[er]⟩;simp(disch:=omega)only[T2,hlt,e1,e2,hq,hc',h1,h3',hsg,Ax,simprocAttr]
       try simp
      .have h3':¬q.typ=46:=by rw[<-h1];exact h3
       by_cases h4:c.ttl=q.ttl
       .left;have er:i9 q (c::l)=i9 c l:=by rw[step];simp[h4]
        refine⟨?_,by simp only[er]⟩;simp(disch:=omega)only[T2,hlt,e1,e2,hq,hc',h1,h3',h4,hsg,Ax,simprocAttr]
        try simp
       .right;have er:i9 q (c::l)=false:=by rw[step];simp[h1,h3',h4]
        simp only[er,B5,if_false];refine⟨?_,rfl⟩;simp(disch:=omega)only[T2,hlt,e1,e2,hq,hc',h1,h3',h4,hsg,Ax,simprocAttr]
    .left;have er:i9 q (c::l)=i9 c l:=by rw[step];simp[h1]
     refine⟨?_,by simp only[er]⟩;simp(disch:=omega)only[T2,hlt,e1,e2,hq,hc',h1,Ax,simprocAttr]
     try simp
   .have hlt:¬(r.length:Int)+1<((p::r).length:Int):=by rw[hlr];omega
    obtain⟨q,hq⟩:∃q,(p::r)[r.length]? =some q:=⟨_,Bt (by rw[hlr];omega)⟩;rw[hq];refine⟨?_,by simp[i9,Out.goes]⟩;generalize (p::r)=g' at*;simp(disch:=omega)only[T2,hlt,Ax,simprocAttr];simp[i9]
 rcases Bl (Fh3 g) with h|h
 .rw[h,if_pos rfl] at key;rw[h];simp(disch:=omega)only[T2,key,Ax,simprocAttr]
 .rw[h,if_neg (by simp)] at key;rw[h];simp(disch:=omega)only[T2,key,Ax,simprocAttr]
def Fg5 (a b:List Rec) (ha:a.length<=1000000) (hb:b.length<=1000000):S Gx0 2 [B4 a,B4 b]=some [.b (decide (a=b))]:=by
 obtain⟨N,hN⟩:∃N,N=a.length+1:=⟨_,rfl⟩;refine Kd3 (N:=N) rfl ?_;by_cases hl:a.length=b.length
 .have key:Hj7.ev S N [B4 a,B4 b]=some (if a.drop 0=b.drop 0 then .yld 0 [] else .ret [.b false]):=by
   refine Gq a.length (fun i=>[.i .i64 (i:Int)]) (fun i=>if a.drop i=b.drop i then .yld 0 [] else .ret [.b false]) rfl (by omega) (fun i hi=> ?_) ?_
   .have h1:a[i]? =some a[i]:=Bt hi;have h2:b[i]? =some b[i]:=Bt (by omega);have d1:a.drop i=a[i]::a.drop (i+1):=Dd hi;have d2:b.drop i=b[i]::b.drop (i+1):=Dd (by omega);rw[d1,d2];generalize a[i]=x at*;generalize b[i]'(by omega)=y at*;have hlt:(i:Int)<(a.length:Int):=by omega
    by_cases h:x=y
    .left;subst h;refine⟨?_,by simp⟩;simp(disch:=omega)only[Cw9,hlt,h1,h2,Ax,simprocAttr]
     try simp
    .right;rw[if_neg (by simp[h])];refine⟨?_,rfl⟩;simp(disch:=omega)only[Cw9,hlt,h1,h2,h,Ax,simprocAttr]
   .have hlt:¬(a.length:Int)<(a.length:Int):=by omega
    have e:a.drop a.length=b.drop a.length:=by rw[List.drop_length,hl,List.drop_length]
    rw[if_pos e];refine⟨?_,rfl⟩;simp(disch:=omega)only[Cw9,hlt,Ax,simprocAttr]
  have hl':(a.length:Int)=(b.length:Int):=by omega
  rw[F3,F3] at key;by_cases h:a=b
  .rw[if_pos h] at key;have e:decide (a=b)=true:=by simp[h]
   rw[e];simp(disch:=omega)only[Cw9,hl',key,Ax,simprocAttr]
  .rw[if_neg h] at key;have e:decide (a=b)=false:=by simp[h]
   rw[e];simp(disch:=omega)only[Cw9,hl',key,Ax,simprocAttr]
 .have hl':¬(a.length:Int)=(b.length:Int):=by omega
  have e:decide (a=b)=false:=decide_eq_false fun q=>hl (by rw[q]);rw[e];simp(disch:=omega)only[Cw9,hl',Ax,simprocAttr]
section
variable (o cut red:List UInt8) (g:List Rec) (x:Rec) (N:Nat)
def Cx4 (n:List UInt8):Bool:=decide (n[0]? =some 42)
def Kg8 (hx:g[0]? =some x) (hl:g.length<=1000000) (hn:x.name≠[]) (p4 p5 p6 p7 p8 p9 p10 p11 p12 p13:PV):
  Fy2.ev S N [.s o,B4 g,.s cut,.s red,p4,p5,p6,p7,p8,p9,p10,p11,p12,p13]=some (.ret [.b (!Cx4 x.name||(!If g 2 && !If g 39))]):=by
 have k2:=N2 g 2 hl;have k39:=N2 g 39 hl;obtain⟨c,hc⟩:∃c,x.name[0]? =some c:=⟨_,Bt (Cg.2 hn)⟩;unfold Cx4;rw[hc];by_cases h1:c=42
 .have h1':(c.toNat:Int)=42:=by rw[h1];rfl
  rcases Bl (If g 2) with h2|h2
  .rw[h2] at k2;simp(disch:=omega)only[Hw7,hx,hc,h1',k2,Ax,simprocAttr];simp[h1,h2]
  .rw[h2] at k2;simp(disch:=omega)only[Hw7,hx,hc,h1',k2,k39,Ax,simprocAttr];simp[h1,h2]
 .have h1':¬(c.toNat:Int)=42:=fun q=>h1 (UInt8.toNat_inj.1 (show c.toNat=42 by omega));simp(disch:=omega)only[Hw7,hx,hc,h1',Ax,simprocAttr];simp[h1]
def Kg7 (hx:g[0]? =some x) (hl:g.length<=1000000) (hn:x.name≠[]) (p4 p5 p6 p7 p8 p9 p10:PV):
  Cj5.ev S N [.s o,B4 g,.s cut,.s red,p4,p5,p6,p7,p8,p9,p10]=some (.ret [.b ((if(!decide (x.name=o) && If g 2)=true then My g [2,43,47,46,1,28] else !If g 43) && (!Cx4 x.name||(!If g 2 && !If g 39)))]):=by
 have k2:=N2 g 2 hl;have k43:=N2 g 43 hl;have kd:S U0 2 [B4 g,.l 1 [.i .i64 2,.i .i64 43,.i .i64 47,.i .i64 46,.i .i64 1,.i .i64 28]]=some [.b (My g [2,43,47,46,1,28])]:=nv g [2,43,47,46,1,28] hl (by decide);have hlit:L4 1 [.i .i64 2,.i .i64 43,.i .i64 47,.i .i64 46,.i .i64 1,.i .i64 28]=some (.l 1 [.i .i64 2,.i .i64 43,.i .i64 47,.i .i64 46,.i .i64 1,.i .i64 28]):=rfl;have t:=fun p11 p12 p13=>Kg8 o cut red g x N hx hl hn p4 p5 p6 p7 p8 p9 p10 p11 p12 p13;have x7:=Cz Cj5.eq_1;have x6:=Cz Fw1.eq_1;have x5:=Cz Fw4.eq_1;have x4:=Cz Fw9.eq_1;have x3:=Cz Fx4.eq_1;by_cases h0:x.name=o
 .rcases Bl (If g 43) with h1|h1<;>rw[h1] at k43<;>simp(disch:=omega)only[x7,x6,x5,x4,x3,t,hx,h0,k43,hlit,Ax,simprocAttr]<;>simp[h1]
 .rcases Bl (If g 2) with h2|h2
  .rw[h2] at k2;rcases Bl (My g [2,43,47,46,1,28]) with h3|h3<;>rw[h3] at kd<;>simp(disch:=omega)only[x7,x6,x5,x4,x3,t,hx,h0,k2,kd,hlit,Ax,simprocAttr]<;>simp[h0,h2,h3]
  .rw[h2] at k2;rcases Bl (If g 43) with h1|h1<;>rw[h1] at k43<;>simp(disch:=omega)only[x7,x6,x5,x4,x3,t,hx,h0,k2,k43,hlit,Ax,simprocAttr]<;>simp[h0,h1,h2]
def Jd1 (hx:g[0]? =some x) (hl:g.length<=1000000) (hn:x.name≠[]) (p4 p5 p6 p7:PV):
  tp.ev S N [.s o,B4 g,.s cut,.s red,p4,p5,p6,p7]=some (.ret [.b ((!If g 5||My g [5,46,47]) && decide (red=[]) && (decide (cut=[])||My g [1,28]) && ((if(!decide (x.name=o) && If g 2)=true then My g [2,43,47,46,1,28] else !If g 43) && (!Cx4 x.name||(!If g 2 && !If g 39))))]):=by
 have k5:=N2 g 5 hl;have kc:S U0 2 [B4 g,.l 1 [.i .i64 5,.i .i64 46,.i .i64 47]]=some [.b (My g [5,46,47])]:=nv g [5,46,47] hl (by decide);have ka:S U0 2 [B4 g,.l 1 [.i .i64 1,.i .i64 28]]=some [.b (My g [1,28])]:=nv g [1,28] hl (by decide);have hlit1:L4 1 [.i .i64 5,.i .i64 46,.i .i64 47]=some (.l 1 [.i .i64 5,.i .i64 46,.i .i64 47]):=rfl;have hlit2:L4 1 [.i .i64 1,.i .i64 28]=some (.l 1 [.i .i64 1,.i .i64 28]):=rfl;have t:=fun p8 p9 p10=>Kg7 o cut red g x N hx hl hn p4 p5 p6 p7 p8 p9 p10;generalize ((if(!decide (x.name=o) && If g 2)=true then My g [2,43,47,46,1,28] else !If g 43) && (!Cx4 x.name||(!If g 2 && !If g 39)))=B at*;have x13:=Cz tp.eq_1;have x12:=Cz Bq3.eq_1;have x11:=Cz Bq4.eq_1;have x10:=Cz Bq5.eq_1;have x9:=Cz Fv6.eq_1;have x8:=Cz Fv8.eq_1;rcases Bl (If g 5) with h1|h1<;>rw[h1] at k5
 .rcases Bl (My g [5,46,47]) with h2|h2<;>rw[h2] at kc
  .by_cases h3:red=[]
   .replace h3:=eq_true h3;by_cases h4:cut=[]
    .replace h4:=eq_true h4;simp(disch:=omega)only[x13,x12,x11,x10,x9,x8,t,k5,kc,h3,h4,hlit1,hlit2,Ax,simprocAttr]
     (clear x13 x12 x11 x10 x9 x8 t;simp[*])
    .rcases Bl (My g [1,28]) with h5|h5<;>rw[h5] at ka<;>simp(disch:=omega)only[x13,x12,x11,x10,x9,x8,t,k5,kc,ka,h3,h4,hlit1,hlit2,Ax,simprocAttr]<;>(clear x13 x12 x11 x10 x9 x8 t;simp[*])
   .simp(disch:=omega)only[x13,x12,x11,x10,x9,x8,t,k5,kc,h3,hlit1,hlit2,Ax,simprocAttr]
    (clear x13 x12 x11 x10 x9 x8 t;simp[*])
  .simp(disch:=omega)only[x13,x12,x11,k5,kc,hlit1,hlit2,Ax,simprocAttr]
   (clear x13 x12 x11 x10 x9 x8 t;simp[*])
 .by_cases h3:red=[]
  .replace h3:=eq_true h3;by_cases h4:cut=[]
   .replace h4:=eq_true h4;simp(disch:=omega)only[x13,x12,x11,x10,x9,x8,t,k5,h3,h4,hlit1,hlit2,Ax,simprocAttr]
    (clear x13 x12 x11 x10 x9 x8 t;simp[*])
   .rcases Bl (My g [1,28]) with h5|h5<;>rw[h5] at ka<;>simp(disch:=omega)only[x13,x12,x11,x10,x9,x8,t,k5,ka,h3,h4,hlit1,hlit2,Ax,simprocAttr]<;>(clear x13 x12 x11 x10 x9 x8 t;simp[*])
  .simp(disch:=omega)only[x13,x12,x11,x10,x9,x8,t,k5,h3,hlit1,hlit2,Ax,simprocAttr]
   (clear x13 x12 x11 x10 x9 x8 t;simp[*])
end
def Cw3 (o cut red:List UInt8) (g:List Rec) (hg:g≠[]) (hl:g.length<=1000000) (ho:o.length<=9223372036854775807) (hn:(nmG g).length<=9223372036854775807):
  S Gw8 4 [.s o,B4 g,.s cut,.s red]=some [.b (propG o g (decide (cut≠[])) (decide (red≠[])))]:=by
 obtain⟨x,r,rfl⟩:∃x r,g=x::r:=by
  cases g with
  |nil=>exact absurd rfl hg
  |cons x r=>exact⟨x,r,rfl⟩
 have hx:(x::r)[0]? =some x:=rfl;have hnm:nmG (x::r)=x.name:=rfl;rw[hnm] at hn;unfold propG;rw[hnm];generalize (x::r)=g at*;obtain⟨N,hN⟩:∃N,N=1:=⟨_,rfl⟩;refine Kc9 (N:=N) rfl ?_;have hu:=F9 x.name o hn ho;have k6:=N2 g 6 hl;have k2:=N2 g 2 hl;have ku:=Ad1 g hl;have xt:=Cz Fn2.eq_1;have x18:=Cz Bk4.eq_1;have x17:=Cz Bk6.eq_1;have x16:=Cz Bk7.eq_1;have x15:=Cz Bk9.eq_1;have x14:=Cz Bq0.eq_1;have e1:decide (cut≠[])= !decide (cut=[]):=by simp
 have e2:decide (red≠[])= !decide (red=[]):=by simp
 rw[e1,e2,Bool.not_not,Bool.not_not];rcases Bl (under x.name o) with h0|h0<;>rw[h0] at hu
 .have hne:x.name≠[]:=Ad0 (C5.1 h0).1;have t:=fun p4 p5 p6 p7=>Jd1 o cut red g x N hx hl hne p4 p5 p6 p7;have eS:Cx4 x.name=decide (x.name[0]? =some 42):=rfl;rw[eS] at t;generalize hA:(!If g 5||My g [5,46,47])=A at*;generalize hB:(if(!decide (x.name=o) && If g 2)=true then My g [2,43,47,46,1,28] else !If g 43)=B at*;generalize hC:(!decide (x.name[0]? =some 42)||(!If g 2 && !If g 39))=C at*;generalize decide (red=[])=Bf at*;generalize (decide (cut=[])||My g [1,28])=E' at*;clear hB hC hA;rcases Bl (If g 6) with h6|h6<;>rw[h6] at k6
  .by_cases hno:x.name=o
   .replace hno:=eq_true hno;rcases Bl (Fh3 g) with h1|h1<;>rw[h1] at ku
    .rcases Bl (If g 2) with h2|h2<;>rw[h2] at k2
     .simp(disch:=omega)only[xt,x18,x17,x16,x15,x14,t,hx,hu,k6,hno,ku,k2,Ax,simprocAttr]
      (clear xt x18 x17 x16 x15 x14 t;simp[*,Bool.and_assoc])
     .simp(disch:=omega)only[xt,x18,x17,x16,x15,x14,t,hx,hu,k6,hno,ku,k2,Ax,simprocAttr]
      (clear xt x18 x17 x16 x15 x14 t;simp[*])
    .simp(disch:=omega)only[xt,x18,x17,x16,x15,x14,t,hx,hu,k6,hno,ku,Ax,simprocAttr]
     (clear xt x18 x17 x16 x15 x14 t;simp[*])
   .simp(disch:=omega)only[xt,x18,x17,x16,x15,x14,t,hx,hu,k6,hno,Ax,simprocAttr]
    (clear xt x18 x17 x16 x15 x14 t;simp[*])
  .by_cases hno:x.name=o
   .replace hno:=eq_true hno;simp(disch:=omega)only[xt,x18,x17,x16,x15,x14,t,hx,hu,k6,hno,Ax,simprocAttr]
    (clear xt x18 x17 x16 x15 x14 t;simp[*])
   .rcases Bl (Fh3 g) with h1|h1<;>rw[h1] at ku
    .simp(disch:=omega)only[xt,x18,x17,x16,x15,x14,t,hx,hu,k6,hno,ku,Ax,simprocAttr]
     (clear xt x18 x17 x16 x15 x14 t;simp[*,Bool.and_assoc])
    .simp(disch:=omega)only[xt,x18,x17,x16,x15,x14,t,hx,hu,k6,hno,ku,Ax,simprocAttr]
     (clear xt x18 x17 x16 x15 x14 t;simp[*])
 .simp(disch:=omega)only[xt,x18,x17,x16,x15,x14,hx,hu,Ax,simprocAttr]
  (clear xt x18 x17 x16 x15 x14;simp[*])
def I1 (gs:List (List Rec)):PV:= .l 1 (gs.map B4)
def U6 (l:List (List Rec)):Hj (I1 l)=some (.i .i64 (l.length:Int)):=by simp[I1,Hj]
def G3 (l:List (List Rec)) (k:IntKind) (z:Int) (h:0<=z):H3 1 (I1 l) (.i k z)=(l[z.toNat]?).map B4:=by simp[I1,Yn _ _ _ _ h]
def Ef7 (x:List Rec):L4 1 [B4 x]=some (I1 [x]):=rfl
def Az7 (l:List (List Rec)) (x:List Rec) (h:l.length+1<=1073741824):Jz 1 (I1 l) (I1 [x])=some (I1 (l++[x])):=by have:=V5 1 (l.map B4) [B4 x] (by simpa using h);simpa [I1] using this
def Hm8 {D:Type} (l:List D) (s i:Nat) (c:D) (h:l[i]? =some c) (hs:s<=i):sl l s (i+1)=sl l s i++[c]:=by unfold sl;have hi:=(Bp.1 h).1;rw[Dp,h,L1 (by rw[Cw];omega)];rfl
def Et3 (l:List Rec) (hl:l.length<=1000000):S Gw9 1 [B4 l]=some [I1 (grp l)]:=by
 obtain⟨N,hN⟩:∃N,N=l.length+1:=⟨_,rfl⟩;refine Kd1 (N:=N) rfl ?_;have key:Hj6.ev S N [B4 l]=some (.yld 0 [I1 ([]++g7 (sl l 0 0) l)]):=by
  refine Dh l (fun i (g:List (List Rec)×Nat)=>[I1 g.1,.i .i64 (g.2:Int),.i .i64 (i:Int)]) (fun i g r=> .yld 0 [I1 (g.1++g7 (sl l g.2 i) r)]) (fun i g=>g.2<=i∧g.1.length<=i) ([],0) ?_ (by simp) (by omega) (fun i g c r hd hi hc hI=> ?_) (fun g hI=> ?_)
  .rfl
  .left;obtain⟨out,st⟩:=g;obtain⟨hI1,hI2⟩:=hI;simp only at hI1 hI2 ⊢;have hlt:(i:Int)<(l.length:Int):=by omega
   have e1:((i:Int)+1).toNat=i+1:=by omega
   have e2:(i:Int).toNat=i:=by omega
   have e3:(st:Int).toNat=st:=by omega
   have hsl:=Hm8 l st i c hc hI1;have hsl2:List.drop st (List.take (i+1) l)=sl l st i++[c]:=hsl;have hsl3:sl l st st=[]:=by unfold sl;rw[List.drop_eq_nil_iff,Cw];omega
   have hsl4:sl l (i+1) (i+1)=[]:=by unfold sl;rw[List.drop_eq_nil_iff,Cw];omega
   have hr:r=l.drop (i+1):=by have:=congrArg List.tail hd;simpa using this.symm
   by_cases hc2:(match r with|[]=>true|y::_=> !decide (y.name=c.name))=true
   .refine⟨(out++[sl l st i++[c]],i+1),?_,⟨by simp,by simp;omega⟩,?_⟩
    .cases r with
     |nil=>
      have hend:(i:Int)+1=(l.length:Int):=by have:=congrArg List.length hr;simp at this;omega
      simp only;simp(disch:=omega)only[Dj1,hlt,hend.symm,e1,e2,e3,hc,hsl2,Ef7,Az7,Ax,simprocAttr]
      try (congr 3;omega)
     |cons y r'=>
      have hy:l[i+1]? =some y:=by have:=congrArg (fun q=>q[0]?) hr;simpa [Cl] using this.symm
      have hyl:=(Bp.1 hy).1;have hend:¬(i:Int)+1=(l.length:Int):=by omega
      have hyc:¬y.name=c.name:=by simpa using hc2
      simp only;simp(disch:=omega)only[Dj1,hlt,hend,e1,e2,e3,hc,hy,hyc,hsl2,Ef7,Az7,Ax,simprocAttr]
      try congr 3
    .have eg:g7 (sl l st i) (c::r)=(sl l st i++[c])::g7 [] r:=by
      cases r with
      |nil=>rfl
      |cons y r'=>rw[g7,if_pos hc2]
     simp only[eg,hsl4];simp
   .refine⟨(out,st),?_,⟨by simp;omega,by simp;omega⟩,?_⟩
    .cases r with
     |nil=>simp at hc2
     |cons y r'=>
      have hy:l[i+1]? =some y:=by have:=congrArg (fun q=>q[0]?) hr;simpa [Cl] using this.symm
      have hyl:=(Bp.1 hy).1;have hend:¬(i:Int)+1=(l.length:Int):=by omega
      have hyc:y.name=c.name:=by simpa using hc2
      simp only;simp(disch:=omega)only[Dj1,hlt,hend,e1,e2,e3,hc,hy,hyc,Ax,simprocAttr]
      try rfl
    .have eg:g7 (sl l st i) (c::r)=g7 (sl l st i++[c]) r:=by
      cases r with
      |nil=>simp at hc2
      |cons y r'=>rw[g7,if_neg hc2]
     simp only[eg,hsl]
  .have hlt:¬(l.length:Int)<(l.length:Int):=by omega
   refine⟨?_,rfl⟩;simp(disch:=omega)only[Dj1,hlt,Ax,simprocAttr];simp[g7]
 have e:[]++g7 (sl l 0 0) l=grp l:=by simp[sl,grp]
 rw[e] at key;generalize grp l=gs at*;simp(disch:=omega)only[Dj1,key,Ax,simprocAttr]
def Cn4 (o:List UInt8):List (List Rec)->List UInt8->List UInt8->Bool->Option Bool
 |[],_,_,soa=>some soa
 |g::gs,cut,red,soa=>
  if propG o g (decide (F1 (nmG g) cut≠[])) (decide (F1 (nmG g) red≠[]))=true then
   Cn4 o gs (if F1 (nmG g) cut=[]∧nmG g≠o∧If g 2=true then nmG g else F1 (nmG g) cut) (if If g 39=true then nmG g else F1 (nmG g) red) (soa||decide (nmG g=o))
  else none
def Fv3 (o:List UInt8):∀(gs:List (List Rec)) (cut red:List UInt8) (soa:Bool),At4 o gs cut red soa=decide (Cn4 o gs cut red soa=some true)
 |[],_,_,soa=>by simp[At4,Cn4]
 |g::gs,cut,red,soa=>by
  simp only[At4,Cn4];split
  .exact Fv3 o gs _ _ _
  .simp
def Js3:Option Bool->Out
 |some b=> .yld 0 [.b b]
 |none=> .ret [.i .i64 13]
section
variable (z:Zone) (g:List Rec) (gs:List (List Rec)) (x:Rec) (N:Nat) (i:Nat) (cut red:List UInt8) (soa:Bool)
def Ks5 (hi:gs[i]? =some g) (hx:g[0]? =some x) (hxl:x.name.length<=9223372036854775807) (hcl:cut.length<=9223372036854775807) (p1 p2 p3 p4 p5:PV):
  ∃p11,ff.ev S N [z.pv,p1,p2,p3,p4,p5,I1 gs,.s cut,.s red,.b soa,.i .i64 (i:Int)]=fg.ev S N [z.pv,p1,p2,p3,p4,p5,I1 gs,.s cut,.s red,.b soa,.i .i64 (i:Int),p11,.s (F1 x.name cut)]:=by
 have x17:=Cz ff.eq_1;have x16:=Cz Bk8.eq_1;have x0:=Cz Fz4.eq_1;have hu:=F9 x.name cut hxl hcl;have ei:(i:Int).toNat=i:=by omega
 by_cases h1:cut=[]
 .refine⟨.u,?_⟩;have e:F1 x.name cut=cut:=by unfold F1;simp[h1]
  rw[e];replace h1:=eq_true h1;simp(disch:=omega)only[x17,x16,x0,h1,hi,hx,ei,G3,Ax,simprocAttr]
 .rcases Bl (under x.name cut) with h2|h2<;>rw[h2] at hu
  .refine⟨.b true,?_⟩;have e:F1 x.name cut=cut:=by unfold F1;simp[h2]
   rw[e];simp(disch:=omega)only[x17,x16,x0,h1,hu,hi,hx,ei,G3,Ax,simprocAttr]
  .refine⟨.b false,?_⟩;have e:F1 x.name cut=[]:=by unfold F1;simp[h1,h2]
   rw[e];simp(disch:=omega)only[x17,x16,x0,h1,hu,hi,hx,ei,G3,Ax,simprocAttr]
def Ks4 (hi:gs[i]? =some g) (hx:g[0]? =some x) (hxl:x.name.length<=9223372036854775807) (hrl:red.length<=9223372036854775807) (p1 p2 p3 p4 p5 p11 p12:PV):
  ∃p13,fg.ev S N [z.pv,p1,p2,p3,p4,p5,I1 gs,.s cut,.s red,.b soa,.i .i64 (i:Int),p11,p12]=t6.ev S N [z.pv,p1,p2,p3,p4,p5,I1 gs,.s cut,.s red,.b soa,.i .i64 (i:Int),p11,p12,p13,.s (F1 x.name red)]:=by
 have x15:=Cz fg.eq_1;have x14:=Cz Bq2.eq_1;have x1:=Cz Fy7.eq_1;have hu:=F9 x.name red hxl hrl;have ei:(i:Int).toNat=i:=by omega
 by_cases h1:red=[]
 .refine⟨.u,?_⟩;have e:F1 x.name red=red:=by unfold F1;simp[h1]
  rw[e];replace h1:=eq_true h1;simp(disch:=omega)only[x15,x14,x1,h1,hi,hx,ei,G3,Ax,simprocAttr]
 .rcases Bl (under x.name red) with h2|h2<;>rw[h2] at hu
  .refine⟨.b true,?_⟩;have e:F1 x.name red=red:=by unfold F1;simp[h2]
   rw[e];simp(disch:=omega)only[x15,x14,x1,h1,hu,hi,hx,ei,G3,Ax,simprocAttr]
  .refine⟨.b false,?_⟩;have e:F1 x.name red=[]:=by unfold F1;simp[h1,h2]
   rw[e];simp(disch:=omega)only[x15,x14,x1,h1,hu,hi,hx,ei,G3,Ax,simprocAttr]
def Ks3 (hi:gs[i]? =some g) (hx:g[0]? =some x) (hnm:nmG g=x.name) (hg:g≠[]) (hl:g.length<=1000000) (hil:i<=1000000) (hxl:x.name.length<=9223372036854775807) (hzl:z.origin.length<=9223372036854775807) (cu re:List UInt8) (p1 p2 p3 p4 p5 p7 p8 p11 p13:PV):
  t6.ev S N [z.pv,p1,p2,p3,p4,p5,I1 gs,p7,p8,.b soa,.i .i64 (i:Int),p11,.s cu,p13,.s re]=
   some (if propG z.origin g (decide (cu≠[])) (decide (re≠[]))=true then .yld 1 [.s (if cu=[]∧x.name≠z.origin∧If g 2=true then x.name else cu),.s (if If g 39=true then x.name else re),.b (soa||decide (x.name=z.origin)),.i .i64 ((i:Int)+1)] else .ret [.i .i64 13]):=by
 have hp:=Cw3 z.origin cu re g hg hl hzl (by rw[hnm];exact hxl);have k2:=N2 g 2 hl;have k39:=N2 g 39 hl;have ei:(i:Int).toNat=i:=by omega
 generalize propG z.origin g (decide (cu≠[])) (decide (re≠[]))=P at*;cases P
 .simp(disch:=omega)only[Z5,hp,hi,hx,ei,G3,Ax,simprocAttr]
  try simp
 .by_cases h1:cu=[]
  .by_cases h2:x.name=z.origin
   .rcases Bl (If g 39) with h3|h3<;>rw[h3] at k39
    .cases soa<;>(have h1':=eq_true h1;have h2':=eq_true h2;simp(disch:=omega)only[Z5,hp,hi,hx,ei,h1',h2',k39,G3,Ax,simprocAttr];simp[h2,h3])
    .cases soa<;>(have h1':=eq_true h1;have h2':=eq_true h2;simp(disch:=omega)only[Z5,hp,hi,hx,ei,h1',h2',k39,G3,Ax,simprocAttr];simp[h2,h3])
   .rcases Bl (If g 2) with h4|h4<;>rw[h4] at k2
    .rcases Bl (If g 39) with h3|h3<;>rw[h3] at k39
     .cases soa<;>(have h1':=eq_true h1;simp(disch:=omega)only[Z5,hp,hi,hx,ei,h1',h2,k2,k39,G3,Ax,simprocAttr];simp[h1,h2,h3,h4])
     .cases soa<;>(have h1':=eq_true h1;simp(disch:=omega)only[Z5,hp,hi,hx,ei,h1',h2,k2,k39,G3,Ax,simprocAttr];simp[h1,h2,h3,h4])
    .rcases Bl (If g 39) with h3|h3<;>rw[h3] at k39
     .cases soa<;>(have h1':=eq_true h1;simp(disch:=omega)only[Z5,hp,hi,hx,ei,h1',h2,k2,k39,G3,Ax,simprocAttr];simp[h2,h3,h4])
     .cases soa<;>(have h1':=eq_true h1;simp(disch:=omega)only[Z5,hp,hi,hx,ei,h1',h2,k2,k39,G3,Ax,simprocAttr];simp[h2,h3,h4])
  .by_cases h2:x.name=z.origin
   .rcases Bl (If g 39) with h3|h3<;>rw[h3] at k39
    .cases soa<;>(have h2':=eq_true h2;simp(disch:=omega)only[Z5,hp,hi,hx,ei,h1,h2',k39,G3,Ax,simprocAttr];simp[h1,h2,h3])
    .cases soa<;>(have h2':=eq_true h2;simp(disch:=omega)only[Z5,hp,hi,hx,ei,h1,h2',k39,G3,Ax,simprocAttr];simp[h1,h2,h3])
   .rcases Bl (If g 39) with h3|h3<;>rw[h3] at k39
    .cases soa<;>(simp(disch:=omega)only[Z5,hp,hi,hx,ei,h1,h2,k39,G3,Ax,simprocAttr];simp[h1,h2,h3])
    .cases soa<;>(simp(disch:=omega)only[Z5,hp,hi,hx,ei,h1,h2,k39,G3,Ax,simprocAttr];simp[h1,h2,h3])
end
def Bs3:∀(n:Nat) (l:List Rec),l.length<=n->(∀g∈grp l,g≠[]∧∀x∈g,x∈l)∧(grp l).length<=l.length
 |_,[],_=>by simp[grp,g7]
 |0,x::r,hn=>by simp at hn
 |n+1,x::r,hn=>by
  obtain⟨g,l',h1,h2,h3,h4,h5⟩:=Zy x r;have hlen:=congrArg List.length h1;have hg0:0<g.length:=Cg.2 h2;simp only[Br,B9] at hlen hn;obtain⟨i1,i2⟩:=Bs3 n l' (by omega);rw[h5];refine⟨fun g' hg'=> ?_,by simp;omega⟩;rcases Cq.1 hg' with rfl|hg'
  .exact⟨h2,fun w hw=>by rw[h1];exact D9 _ hw⟩
  .obtain⟨j1,j2⟩:=i1 g' hg';exact⟨j1,fun w hw=>by rw[h1];exact Df _ (j2 w hw)⟩
def Er9 (p:Prop) [Decidable p] (a b:List UInt8) (ha:a.length<=9223372036854775807) (hb:b.length<=9223372036854775807):(if p then a else b).length<=9223372036854775807:=by split<;>assumption
def Kn4 (z:Zone) (hz:z.wf) (hl:z.recs.length<=1000000) (N:Nat) (hN:z.recs.length+1<N) (p1 p2 p3 p4 p5:PV):
  Hk8.ev S N [z.pv,p1,p2,p3,p4,p5,I1 (grp z.recs)]=some (Js3 (Cn4 z.origin (grp z.recs) [] [] false)):=by
 obtain⟨gf1,gf2⟩:=Bs3 z.recs.length z.recs (B7 _);have hgl:∀g∈grp z.recs,g.length<=1000000:=fun g hg=>by
  have:∀(n:Nat) (l:List Rec),l.length<=n->∀g∈grp l,g.length<=l.length:=by
   intro n
   induction n with
   |zero=>intro l hl g hg;cases l with
    |nil=>simp[grp,g7] at hg
    |cons x r=>simp at hl
   |succ n ih=>
    intro l hl g hg;cases l with
    |nil=>simp[grp,g7] at hg
    |cons x r=>
     obtain⟨g0,l',h1,h2,h3,h4,h5⟩:=Zy x r;have hlen:=congrArg List.length h1;have hg0:0<g0.length:=Cg.2 h2;simp only[Br,B9] at hlen hl;rw[h5] at hg;rcases Cq.1 hg with rfl|hg
     .simp only[B9];omega
     .have:=ih l' (by omega) g hg;simp only[B9];omega
  exact D4 (this _ _ (B7 _) g hg) hl
 generalize grp z.recs=gs at*;have:=Dh (fn:=S) (N:=N) (J:=[z.pv,p1,p2,p3,p4,p5,I1 gs]) (id:=1) (init:=[.c (.s []),.c (.s []),.c (.b false),.c (.i .i64 0)]) (body:=md) gs (fun i (a:List UInt8×List UInt8×Bool)=>[.s a.1,.s a.2.1,.b a.2.2,.i .i64 (i:Int)]) (fun i a r=>Js3 (Cn4 z.origin r a.1 a.2.1 a.2.2)) (fun i a=>a.1.length<=9223372036854775807∧a.2.1.length<=9223372036854775807) ([],[],false) ?_ (by simp) (by omega) (fun i a g r hd hi hc hI=> ?_) (fun a hI=> ?_)
 .exact this
 .simp(disch:=omega)only[Ax,simprocAttr]
  try rfl
 .obtain⟨cut,red,soa⟩:=a;obtain⟨hI1,hI2⟩:=hI;simp only at hI1 hI2 ⊢;have hgm:=B8 hc;obtain⟨hg,hgz⟩:=gf1 g hgm;obtain⟨x,hx,hxm⟩:∃x,g[0]? =some x∧x∈g:=by
   cases g with
   |nil=>exact absurd rfl hg
   |cons x r=>exact⟨x,rfl,.head _⟩
  have hnm:nmG g=x.name:=by
   cases g with
   |nil=>exact absurd rfl hg
   |cons y r=>simp at hx;rw[<-hx];rfl
  have hxl:x.name.length<=9223372036854775807:=(hz.recs.2 x (hgz x hxm)).name;have hzl:z.origin.length<=9223372036854775807:=hz.origin;obtain⟨p11,kA⟩:=Ks5 z g gs x N i cut red soa hc hx hxl hI1 p1 p2 p3 p4 p5;have hku:(F1 x.name cut).length<=9223372036854775807:=by unfold F1;split<;>simp[hI1]
  have hkr:(F1 x.name red).length<=9223372036854775807:=by unfold F1;split<;>simp[hI2]
  obtain⟨p13,kB⟩:=Ks4 z g gs x N i cut red soa hc hx hxl hI2 p1 p2 p3 p4 p5 p11 (.s (F1 x.name cut));have kC:=Ks3 z g gs x N i soa hc hx hnm hg (hgl g hgm) (by omega) hxl hzl (F1 x.name cut) (F1 x.name red) p1 p2 p3 p4 p5 (.s cut) (.s red) p11 p13;have kall:=kA.trans (kB.trans kC);have hlt:(i:Int)<(gs.length:Int):=by omega
  have hb:md.ev S N [z.pv,p1,p2,p3,p4,p5,I1 gs,.s cut,.s red,.b soa,.i .i64 (i:Int)]=ff.ev S N [z.pv,p1,p2,p3,p4,p5,I1 gs,.s cut,.s red,.b soa,.i .i64 (i:Int)]:=by have xb:=Cz md.eq_1;simp(disch:=omega)only[xb,hlt,U6,Ax,simprocAttr]
  have hb2:=hb.trans kall;have estep:Cn4 z.origin (g::r) cut red soa=if propG z.origin g (decide (F1 x.name cut≠[])) (decide (F1 x.name red≠[]))=true then Cn4 z.origin r (if F1 x.name cut=[]∧x.name≠z.origin∧If g 2=true then x.name else F1 x.name cut) (if If g 39=true then x.name else F1 x.name red) (soa||decide (x.name=z.origin)) else none:=by simp only[Cn4,hnm]
  by_cases hP:propG z.origin g (decide (F1 x.name cut≠[])) (decide (F1 x.name red≠[]))=true
  .left;rw[if_pos hP] at hb2 estep;refine⟨(if F1 x.name cut=[]∧x.name≠z.origin∧If g 2=true then x.name else F1 x.name cut,if If g 39=true then x.name else F1 x.name red,soa||decide (x.name=z.origin)),hb2,⟨?_,?_⟩,?_⟩
   .exact Er9 _ _ _ hxl hku
   .exact Er9 _ _ _ hxl hkr
   .rw[estep]
  .right;rw[if_neg hP] at hb2 estep;rw[estep];exact⟨hb2,rfl⟩
 .have hlt:¬(gs.length:Int)<(gs.length:Int):=by omega
  have xb:=Cz md.eq_1;refine⟨?_,rfl⟩;simp(disch:=omega)only[xb,hlt,U6,Ax,simprocAttr];rfl
def By4 (z:Zone) (hz:z.wf):Jk z=if vld z.origin=false then 2 else if 2048<z.recs.length∨Yz z.recs=true then 9 else if z.recs.all R7=false then 5 else if z.recs≠sortR z.recs then 7 else if Cn4 z.origin (grp z.recs) [] [] false=some true then 0 else 13:=by
 unfold Jk;rcases Bl (vld z.origin) with h1|h1
 .have n1:¬vld z.origin=false:=by simp[h1]
  rw[if_neg n1,if_neg n1];by_cases h2:2048<z.recs.length
  .rw[if_pos h2,if_pos (.inl h2)]
  .rw[if_neg h2];have hcr:=Cm9 z.recs;rcases Bl (z.recs.all fun r=>decide ((findR z.recs r.name r.typ).length<=64)) with h3|h3
   .rw[h3] at hcr;have hn2:¬(2048<z.recs.length∨Yz z.recs=true):=by
     rintro (q|q)
     .exact h2 q
     .rw[hcr] at q;cases q
    have n3:¬(z.recs.all fun r=>decide ((findR z.recs r.name r.typ).length<=64))=false:=by simp only[h3];simp
    rw[if_neg n3,if_neg hn2];rcases Bl (z.recs.all R7) with h4|h4
    .have n4:¬z.recs.all R7=false:=by simp only[h4];simp
     rw[if_neg n4,if_neg n4];by_cases h5:z.recs=sortR z.recs
     .have n5:¬z.recs≠sortR z.recs:=by simpa using h5
      rw[if_neg n5,if_neg n5];have hv:∀r∈z.recs,R7 r=true:=C4.1 h4;have hr:z.recs.Pairwise ltR:=by rw[h5];exact(X6 z.recs hv).1
      have hk:=Cj2 z (fun r h=>xj (hv r h)) (Dr1 hr) z.recs.length [] z.recs [] [] false (B7 _) rfl (by simp) ⟨by simp,by simp,by simp,by simp⟩;rw[Fv3,decide_eq_true_eq] at hk;have hk2:=Dt1 z hv hr;have hk3:Cn4 z.origin (grp z.recs) [] [] false=some true↔(findR z.recs z.origin 6).length=1∧gq z.recs z.origin 2=true∧∀r∈z.recs,Oj z r=true:=by rw[hk,<-hk2];simp
      by_cases h6:Cn4 z.origin (grp z.recs) [] [] false=some true
      .obtain⟨a,b,c⟩:=hk3.1 h6;have c':z.recs.all (Oj z)=true:=C4.2 c;have n7:¬((findR z.recs z.origin 6).length≠1∨gq z.recs z.origin 2=false):=by simp[a,b]
       have n8:¬z.recs.all (Oj z)=false:=by simp only[c'];simp
       rw[if_pos h6,if_neg n7,if_neg n8]
      .rw[if_neg h6];by_cases h7:(findR z.recs z.origin 6).length≠1∨gq z.recs z.origin 2=false
       .rw[if_pos h7]
       .rw[if_neg h7];by_cases h8:z.recs.all (Oj z)=false
        .rw[if_pos h8]
        .exfalso;simp only[not_or,ne_eq,Ij,Jm] at h7 h8;exact h6 (hk3.2 ⟨h7.1,h7.2,C4.1 h8⟩)
     .rw[if_pos h5,if_pos h5]
    .rw[if_pos h4,if_pos h4]
   .rw[h3] at hcr;rw[if_pos h3,if_pos (.inr hcr)]
 .rw[if_pos h1,if_pos h1]
def Fg8 (z:Zone) (hz:z.wf) (hl:z.recs.length<=1000000):S Gx8 1 [z.pv]=some [.i .i64 (Jk z)]:=by
 obtain⟨N,hN⟩:∃N,N=z.recs.length+2:=⟨_,rfl⟩;refine Kg0 (N:=N) rfl ?_;rw[By4 z hz];have hzl:z.origin.length<=9223372036854775807:=hz.origin;have k1:=Db z.origin hzl;have k2:=Cm8 z.recs hl;have k3:=K9 z.recs Gx2 [] (fun r=> !R7 r) hl (fun r hr=>by refine Kd5 (N:=1) rfl ?_;have:=Ff0 r (hz.recs.2 r hr);simp(disch:=omega)only[Kk5,this,Ax,simprocAttr])
 have e3:(z.recs.any fun r=> !R7 r)= !z.recs.all R7:=by rw[List.not_all_eq_any_not]
 rw[e3] at k3;have k4:=Cv9 z.recs hz.recs.2 hl;have hsl:(sortR z.recs).length<=1000000:=by obtain⟨r,h1,h2,_⟩:=V6 Jp4 (by rw[Gb0];exact Js0) z.recs hz.recs.2 hl;rw[Gb0] at h1;have:=s8 eqF r;rw[Bc4 h1] at this;omega
 have k5:=Fg5 z.recs (sortR z.recs) hl hsl;have k6:=Et3 z.recs hl;have k7:=fun p1 p2 p3 p4 p5=>Kn4 z hz hl N (by omega) p1 p2 p3 p4 p5;have xt:=Cz Fn3.eq_1;have x28:=Cz Bj2.eq_1;have x27:=Cz Bj3.eq_1;have x26:=Cz Bj4.eq_1;have x25:=Cz Bj5.eq_1;have x24:=Cz Bj6.eq_1;have x23:=Cz Bj7.eq_1;have x22:=Cz Bj8.eq_1;have x21:=Cz Bk0.eq_1;have x20:=Cz Bk1.eq_1;have x19:=Cz Bk3.eq_1;have x18:=Cz Bk5.eq_1;rcases Bl (vld z.origin) with h1|h1
 .have n1:¬vld z.origin=false:=by simp[h1]
  rw[if_neg n1];rw[h1] at k1;by_cases h2:2048<z.recs.length
  .rw[if_pos (.inl h2)];have h2':(2048:Int)<(z.recs.length:Int):=by omega
   simp(disch:=omega)only[xt,x28,x27,x26,k1,h2',Ax,simprocAttr]
  .have h2':¬(2048:Int)<(z.recs.length:Int):=by omega
   rcases Bl (Yz z.recs) with h3|h3<;>rw[h3] at k2
   .rw[if_pos (.inr h3)];simp(disch:=omega)only[xt,x28,x27,x26,k1,k2,h2',Ax,simprocAttr]
   .have n2:¬(2048<z.recs.length∨Yz z.recs=true):=by simp only[h2,h3];simp
    rw[if_neg n2];rcases Bl (z.recs.all R7) with h4|h4<;>rw[h4] at k3
    .have n4:¬z.recs.all R7=false:=by simp only[h4];simp
     rw[if_neg n4];by_cases h5:z.recs=sortR z.recs
     .have n5:¬z.recs≠sortR z.recs:=by simpa using h5
      rw[if_neg n5];have e5:decide (z.recs=sortR z.recs)=true:=decide_eq_true h5;rw[e5] at k5;clear h5 e5;generalize sortR z.recs=sr at*;cases h6:Cn4 z.origin (grp z.recs) [] [] false with
      |none=>
       rw[h6] at k7;simp only[Js3] at k7;generalize grp z.recs=gs at*;rw[if_neg (by simp)];simp(disch:=omega)only[xt,x28,x27,x26,x25,x24,x23,x22,x21,x20,x19,x18,k1,k2,h2',k3,k4,k5,k6,k7,U6,Ax,simprocAttr]
      |some b=>
       rw[h6] at k7;simp only[Js3] at k7;generalize grp z.recs=gs at*;cases b
       .rw[if_neg (by simp)];simp(disch:=omega)only[xt,x28,x27,x26,x25,x24,x23,x22,x21,x20,x19,x18,k1,k2,h2',k3,k4,k5,k6,k7,U6,Ax,simprocAttr]
       .rw[if_pos rfl];simp(disch:=omega)only[xt,x28,x27,x26,x25,x24,x23,x22,x21,x20,x19,x18,k1,k2,h2',k3,k4,k5,k6,k7,U6,Ax,simprocAttr]
     .rw[if_pos h5];have e5:decide (z.recs=sortR z.recs)=false:=decide_eq_false h5;rw[e5] at k5;clear h5 e5;generalize sortR z.recs=sr at*;simp(disch:=omega)only[xt,x28,x27,x26,x25,x24,x23,x22,x21,k1,k2,h2',k3,k4,k5,Ax,simprocAttr]
    .rw[if_pos h4];simp(disch:=omega)only[xt,x28,x27,x26,x25,x24,k1,k2,h2',k3,Ax,simprocAttr]
     try simp
 .rw[if_pos h1];rw[h1] at k1;simp(disch:=omega)only[xt,x28,k1,Ax,simprocAttr]
def mr (n:List UInt8) (hn:n.length<=9223372036854775807):S zg 1 [.s n]=some [.s (parentN n),.b (dp n)]:=by
 refine Is8 (N:=1) rfl ?_;have k1:=split_ok n hn;have hl:=G5 n;unfold parentN dp;by_cases h:lbl n=[]
 .have e:¬(vld n=true∧n≠[46]):=fun⟨h1,h2⟩=>h2 ((P8 h1).1 h);have e2:(vld n && !decide (n=[46]))=false:=by
   rcases Bl (vld n) with h1|h1
   .have:=(P8 h1).1 h;simp[this]
   .simp[h1]
  rw[if_neg e,e2];rw[h] at k1;simp(disch:=omega)only[Gm3,k1,Aw,simprocAttr]
  try simp
 .have h1:vld n=true:=by
   rcases Bl (vld n) with h1|h1
   .exact h1
   .exact absurd (qb h1) h
  have h2:n≠[46]:=fun e=>h ((P8 h1).2 e);have e2:(vld n && !decide (n=[46]))=true:=by simp[h1,h2]
  rw[if_pos ⟨h1,h2⟩,e2];have hp:=Cg.2 h;have ls:Jx 1 (Ch (lbl n)) (.i .i64 1) (.i .i64 ((lbl n).length:Int))=some (Ch ((lbl n).drop 1)):=by rw[Ms _ _ _ _ _ (by omega) (by omega) (by omega)];simp
  have k2:=Eb6 ((lbl n).drop 1) (by simp;omega) (fun x hx=>Eg1 n x (Hy hx));have h0:¬((lbl n).length:Int)=0:=by omega
  simp(disch:=omega)only[Gm3,k1,k2,ls,h0,Aw,simprocAttr]
def o4 (z:Zone) (n:List UInt8) (hz:z.wf) (hl:z.recs.length<=1000000) (hn:n.length<=9223372036854775807):S c6 2 [z.pv,.s n]=some [.s (cutN z n),.b (decide (cutN z n≠[]))]:=by
 refine Jx2 (N:=z.recs.length+1) rfl ?_;have g1:=hz.origin;unfold Mw at g1;have key:Ep1.ev S (z.recs.length+1) [z.pv,.s n]=some (.yld 0 [.s (ix z n [] z.recs)]):=by
  refine Dh z.recs (fun i (b:List UInt8)=>[.s b,.i .i64 (i:Int)]) (fun i b r=> .yld 0 [.s (ix z n b r)]) (fun i b=>b=[]∨under n b=true) [] rfl (.inl rfl) (by omega) (fun i b c r hd hi hc hI=> ?_) (fun b hI=> ?_)
  .left;have g2:=(hz.recs.2 c (B8 hc)).name;unfold Mw at g2;refine⟨if E1 z c && under n c.name && (decide (b=[])||decide ((lbl c.name).length<(lbl b).length)) then c.name else b,?_,Fq3 hI,rfl⟩;by_cases h1:c.typ=2
   .have k1:=Nn c.name z.origin g2 g1;have k2:=Gj n c.name hn g2;rcases Bl (Fs c.name z.origin) with h3|h3
    .rcases Bl (under n c.name) with h4|h4
     .rw[h3] at k1;rw[h4] at k2;by_cases h5:b=[]
      .simp(disch:=omega)only[X3,hc,h1,h3,h4,h5,k1,k2,Aw,simprocAttr];simp[E1,h1,h3,h4,h5]
      .have hb:=hI.resolve_left h5;have k3:=Kv c.name g2;have k4:=Kv b (by have:=Hs (C5.1 hb).2.1;omega);by_cases h6:(lbl c.name).length<(lbl b).length
       .have h8:((lbl c.name).length:Int)<((lbl b).length:Int):=by omega
        simp(disch:=omega)only[X3,hc,h1,h3,h4,h5,h8,k1,k2,k3,k4,Aw,simprocAttr];simp[E1,h1,h3,h4,h5,h6]
       .have h8:¬((lbl c.name).length:Int)<((lbl b).length:Int):=by omega
        simp(disch:=omega)only[X3,hc,h1,h3,h4,h5,h8,k1,k2,k3,k4,Aw,simprocAttr];simp[E1,h1,h3,h4,h5,h6]
     .rw[h3] at k1;rw[h4] at k2;simp(disch:=omega)only[X3,hc,h1,h3,h4,k1,k2,Aw,simprocAttr];simp[E1,h1,h3,h4]
    .rw[h3] at k1;simp(disch:=omega)only[X3,hc,h1,h3,k1,Aw,simprocAttr];simp[E1,h1,h3]
   .simp(disch:=omega)only[X3,hc,h1,Aw,simprocAttr];simp[E1,h1]
  .simp(disch:=omega)only[X3,Aw,simprocAttr];simp[ix,Out.goes]
 rw[show ix z n [] z.recs=cutN z n from rfl] at key;simp(disch:=omega)only[X3,key,Aw,simprocAttr]
 try simp
def vq (x:List UInt8):List (List UInt8)->List (List UInt8)
 |[]=>[x]
 |y::r=>if J7 y x<0 then y::vq x r else if y=x then y::r else x::y::r
def Pj (x:List UInt8):List (List UInt8)->Nat
 |[]=>0
 |y::r=>if J7 y x<0 then Pj x r+1 else 0
def Br3 (x:List UInt8):∀l,Pj x l<=l.length
 |[]=>B7 _
 |y::r=>by have:=Br3 x r;simp only[Pj];split<;>simp;omega
def Es8 (x:List UInt8):∀(l:List (List UInt8)),vq x l=match l[Pj x l]? with
  |some y=>if y=x then l else l.take (Pj x l)++[x]++l.drop (Pj x l)
  |none=>l.take (Pj x l)++[x]++l.drop (Pj x l)
 |[]=>rfl
 |y::r=>by
  simp only[vq,Pj];by_cases h:J7 y x<0
  .simp only[if_pos h,Fg];rw[Es8 x r];cases h2:r[Pj x r]? with
   |none=>simp
   |some z=>by_cases h3:z=x<;>simp[h3]
  .simp only[if_neg h,D2];by_cases h3:y=x<;>simp[h3]
def Br9 (x:List UInt8):∀l,(vq x l).length<=l.length+1
 |[]=>by simp[vq]
 |y::r=>by
  have:=Br9 x r;simp only[vq];split
  .simp;omega
  .split<;>simp
def insN_mem (x z:List UInt8):∀(l:List (List UInt8)),z∈vq x l↔z=x∨z∈l
 |[]=>by simp[vq]
 |y::r=>by
  have ih:=insN_mem x z r;simp only[vq];split
  .simp only[Cq,ih];grind
  .split
   .rename_i h;subst h;simp only[Cq];grind
   .simp only[Cq]
def dl (x:List UInt8):∀(l:List (List UInt8)),l.Pairwise ltN->(vq x l).Pairwise ltN
 |[],_=>by simp[vq]
 |y::r,h=>by
  obtain⟨h1,h2⟩:=Cd.1 h;have ih:=dl x r h2;simp only[vq];by_cases c:J7 y x<0
  .rw[if_pos c];refine Cd.2 ⟨fun w hw=> ?_,ih⟩;rcases (insN_mem x w r).1 hw with rfl|hw
   .exact(G4 _ _).1 c
   .exact h1 w hw
  .rw[if_neg c];by_cases e:y=x
   .rw[if_pos e];exact h
   .rw[if_neg e];have hxy:ltN x y:=by
     rcases to_N.tri x y with q|q|q
     .exact q
     .exact absurd q.symm e
     .exact absurd ((G4 _ _).2 q) c
    refine Cd.2 ⟨fun w hw=> ?_,h⟩;rcases Cq.1 hw with rfl|hw
    .exact hxy
    .exact to_N.tr _ _ _ hxy (h1 w hw)
def Eb5 (l:List (List UInt8)):List (List UInt8):=l.foldl (fun a x=>vq x a) []
def cg (l:List (List UInt8)):Eb5 l=setN l:=by
 have:∀(l a:List (List UInt8)),a.Pairwise ltN->(l.foldl (fun a x=>vq x a) a).Pairwise ltN∧∀z,z∈l.foldl (fun a x=>vq x a) a↔z∈a∨z∈l:=by
  intro l
  induction l with
  |nil=>intro a h;exact⟨h,fun z=>by simp⟩
  |cons x r ih=>
   intro a h;obtain⟨h1,h2⟩:=ih (vq x a) (dl x a h);refine⟨h1,fun z=> ?_⟩;rw[Jr9,h2,insN_mem,Cq]
   grind
 obtain⟨h1,h2⟩:=this l [] List.Pairwise.nil;exact bf to_N _ _ h1 (N7 l) fun x=>by rw[N8];rw[Eb5,h2 x];simp
def Fg0 (l:List Rec) (g:List (List UInt8)) (i:Nat) (x:Rec) (hx:l[i]? =some x) (hw:x.name.length<=9223372036854775807) (hg:∀r∈g,r.length<=9223372036854775807) (N:Nat) (hN:g.length<N) (hl:g.length<=1000000):
  An2.ev S N [B4 l,Ch g,.i .i64 (i:Int)]=some (.yld 2 [.i .i64 (Pj x.name g:Int)]):=by
 have key:An2.ev S N [B4 l,Ch g,.i .i64 (i:Int)]=some (.yld 2 [.i .i64 ((0+Pj x.name g:Nat):Int)]):=by
  refine Et g (fun k=>[.i .i64 (k:Int)]) (fun k r=> .yld 2 [.i .i64 ((k+Pj x.name r:Nat):Int)]) rfl hN (fun k c r hd hk hc=> ?_) ?_
  .have h1:=Ky c x.name (hg c (B8 hc)) hw;by_cases h:J7 c x.name<0
   .left;simp(disch:=omega)only[X0,hc,hx,h1,h,Aw,simprocAttr];refine⟨trivial,?_⟩;simp only[Pj,if_pos h];congr 3;push_cast;omega
   .right;simp(disch:=omega)only[X0,hc,hx,h1,Aw,simprocAttr];simp[Pj,h,Out.goes]
  .simp(disch:=omega)only[X0,Aw,simprocAttr];simp[Pj,Out.goes]
 simpa using key
def Ff9 (l:List Rec) (hl:l.length<=1000000) (hw:∀r∈l,r.name.length<=9223372036854775807):S Bh4 1 [B4 l]=some [Ch (setN (l.map Rec.name))]:=by
 refine Is6 (N:=l.length+1) rfl ?_;have key:Em0.ev S (l.length+1) [B4 l]=some (.yld 0 [Ch (Eb5 (l.map Rec.name))]):=by
  refine Dh l (fun i (g:List (List UInt8))=>[Ch g,.i .i64 (i:Int)]) (fun i g r=> .yld 0 [Ch ((r.map Rec.name).foldl (fun acc x=>vq x acc) g)]) (fun i g=>g.length<=i∧∀r∈g,r.length<=9223372036854775807) [] rfl ⟨B7 _,fun r h=>by cases h⟩ (by omega) (fun i g c r hd hi hc hI=> ?_) (fun g hI=> ?_)
  .left;obtain⟨h1,h2⟩:=hI;have hcw:=hw c (B8 hc);have h3:=Fg0 l g i c hc hcw h2 (l.length+1) (by omega) (by omega);have h4:=Br3 c.name g;have h5:=Br9 c.name g;refine⟨vq c.name g,?_,⟨by omega,fun r hr=> ?_⟩,rfl⟩
   .rw[Es8];cases h6:g[Pj c.name g]? with
    |none=>
     have h7:=Ss.1 h6;have h8:Pj c.name g=g.length:=by omega
     simp(disch:=first|omega|(simp;omega))only[X0,hc,h3,h8,Aw,simprocAttr];simp
    |some y=>
     have h7:=(Bp.1 h6).1;by_cases h9:y=c.name
     .simp(disch:=omega)only[X0,hc,h3,h6,h9,Aw,simprocAttr]
     .simp(disch:=first|omega|(simp;omega))only[X0,hc,h3,h6,h9,Aw,simprocAttr];simp
   .rcases (insN_mem c.name r g).1 hr with h|h
    .subst h;exact hcw
    .exact h2 r h
  .simp(disch:=omega)only[X0,Aw,simprocAttr];simp[Out.goes]
 rw[cg] at key;simp(disch:=omega)only[X0,key,Aw,simprocAttr]
def cw (n:List UInt8):Rec:=⟨n,0,0,⟨false,0,0,[],[],[],0,0,0,0,0,0,0⟩⟩
def Cd3 (z:Zone) (n:List UInt8):List (List UInt8):=if Oc z n=true then [] else if under n z.origin=true then upN z.origin n else []
def Al0 (n:List UInt8):(parentN n).length<=254:=by
 unfold parentN;split
 .rename_i h;exact dc h.1 1
 .simp
def Ds6 (z:Zone) (acc:List Rec) (n:List UInt8) (p1 p2 p3 p4:PV) (x:Rec) (i:Nat) (N:Nat) (hx:z.recs[i]? =some x) (hxn:x.name=n) (hn:n.length<=9223372036854775807) (ho:z.origin.length<=9223372036854775807) (ha:acc.length<=1000000) (hN:1000<N) (hp1:p1=B4 acc) (hp2:p2= .i .i64 (i:Int)):
  An3.ev S N [z.pv,p1,p2,p3,p4]=some (.yld 2 [B4 (acc++(if under n z.origin=true then upN z.origin n else []).map cw)]):=by
 subst hp1 hp2;have init:E.evs [z.pv,B4 acc,.i .i64 (i:Int),p3,p4] [(.v 1),(.proj 0 (.idx 16 (.proj 1 (.v 0)) (.v 2))),(.c (.i .i64 (0)))]=some [B4 acc,.s n,.i .i64 0]:=by simp(disch:=omega)only[hx,hxn,Aw,simprocAttr]
 rcases Bl (under n z.origin) with hu|hu
 .rw[if_pos hu];obtain⟨v1,v2,_⟩:=C5.1 hu;have hlb:=G5 n;have h0:jn ((lbl n).drop 0)=n:=db v1;generalize hm:(lbl n).length - (lbl z.origin).length=m at*;have hup:∀k,k<=m->(upN z.origin n)[k]? =some (jn ((lbl n).drop k)):=fun k hk=>Pr (by omega);have hul:(upN z.origin n).length=m+1:=by simp[upN,hm]
  have e0:(upN z.origin n).take (m+1)=upN z.origin n:=Fj (by omega);have:=Gq (fn:=S) (N:=N) (J:=[z.pv,B4 acc,.i .i64 (i:Int),p3,p4]) (id:=3) (init:=[(.v 1),(.proj 0 (.idx 16 (.proj 1 (.v 0)) (.v 2))),(.c (.i .i64 (0)))]) (body:=uk) (m+1)
   (fun k=>[B4 (acc++((upN z.origin n).take k).map cw),.s (if k<=m then jn ((lbl n).drop k) else parentN z.origin),.i .i64 (k:Int)])
   (fun _=> .yld 2 [B4 (acc++(upN z.origin n).map cw)]) ?_ (by omega) (fun k hk=> ?_) ?_
  .exact this
  .rw[init,if_pos (C3 _),h0];simp
  .have hk':k<=m:=by omega
   rw[if_pos hk'];have q4:=dc v1 k;have hcu:under (jn ((lbl n).drop k)) z.origin=true:=((L2 hu).1 (B8 (hup k hk'))).2;have k2:=Gj (jn ((lbl n).drop k)) z.origin (by omega) ho;have k1:=mr (jn ((lbl n).drop k)) (by omega);rw[hcu] at k2;have q5:((upN z.origin n).take (k+1)).map cw=((upN z.origin n).take k).map cw++[cw (jn ((lbl n).drop k))]:=by rw[Dp,hup k hk',Jr8];rfl
   have q6:(acc++((upN z.origin n).take k).map cw).length<=1000300:=by rw[Br,Dt,Cw];omega
   by_cases hlt:k<m
   .left;rw[if_pos (by omega)];obtain⟨q1,q2⟩:=xk hu (k:=k) (by omega);rw[q1,q2] at k1;rw[q5,<-Cj];generalize acc++((upN z.origin n).take k).map cw=a at*;refine⟨?_,rfl⟩;generalize jn ((lbl n).drop (k+1))=nx at*;generalize jn ((lbl n).drop k)=cu at*;simp(disch:=omega)only[Pl,k1,k2,cw,Aw,simprocAttr]
   .have ek:k=m:=by omega
    subst ek;rw[if_neg (by omega)];have q3:jn ((lbl n).drop k)=z.origin:=(Uj hu (by omega)).2 (by omega);rw[q3] at k1 k2 q5 ⊢;rcases Bl (dp z.origin) with hp|hp
    .left;rw[hp] at k1;rw[q5,<-Cj];generalize acc++((upN z.origin n).take k).map cw=a at*;refine⟨?_,rfl⟩;generalize parentN z.origin=nx at*;simp(disch:=omega)only[Pl,k1,k2,cw,Aw,simprocAttr]
    .right;rw[hp] at k1;rw[e0] at q5;rw[q5,<-Cj];generalize acc++((upN z.origin n).take k).map cw=a at*;refine⟨?_,rfl⟩;generalize parentN z.origin=nx at*;simp(disch:=omega)only[Pl,k1,k2,cw,Aw,simprocAttr]
  .rw[e0,if_neg (by omega)];refine⟨?_,rfl⟩;have k2:=Gj (parentN z.origin) z.origin (by have:=Al0 z.origin;omega) ho;rw[Ez4 v2] at k2;generalize acc++(upN z.origin n).map cw=a at*;generalize parentN z.origin=nx at*;simp(disch:=omega)only[Pl,k2,Aw,simprocAttr]
 .rw[hu];have k2:=Gj n z.origin hn ho;rw[hu] at k2;have:=Gq (fn:=S) (N:=N) (J:=[z.pv,B4 acc,.i .i64 (i:Int),p3,p4]) (id:=3) (init:=[(.v 1),(.proj 0 (.idx 16 (.proj 1 (.v 0)) (.v 2))),(.c (.i .i64 (0)))]) (body:=uk) 0
   (fun k=>[B4 acc,.s n,.i .i64 0]) (fun _=> .yld 2 [B4 acc]) init (by omega) (fun k hk=>by omega) ?_
  .rw[if_neg (by simp),List.map_nil,Eb];exact this
  .refine⟨?_,rfl⟩;simp(disch:=omega)only[Pl,k2,Aw,simprocAttr]
def Bd8 (z:Zone) (x:List UInt8):x∈z.recs.flatMap (fun r=>Cd3 z r.name)↔Fh7 z x:=by
 unfold Fh7 Cd3;simp only[Fh9];constructor
 .rintro⟨r,hr,h⟩;rcases Bl (Oc z r.name) with h1|h1
  .rw[if_pos h1] at h;cases h
  .rcases Bl (under r.name z.origin) with h2|h2
   .rw[if_neg (by simp[h1]),if_pos h2] at h;obtain⟨h4,h5⟩:=(L2 h2).1 h;exact⟨r,hr,h2,h1,h4,h5⟩
   .rw[if_neg (by simp[h1]),if_neg (by simp[h2])] at h;cases h
 .rintro⟨r,hr,h1,h2,h4,h5⟩;exact⟨r,hr,by rw[if_neg (by simp[h2]),if_pos h1];exact(L2 h1).2 ⟨h4,h5⟩⟩
def Bd9 (z:Zone) (n:List UInt8):(Cd3 z n).length<=256:=by
 unfold Cd3;split
 .simp
 .split
  .exact aj _ _
  .simp
def Eb3 (l:List (List UInt8)):(l.map cw).map Rec.name=l:=by rw[List.map_map];exact(List.map_congr_left fun _ _=>rfl).trans (List.map_id l)
def S4 (z:Zone) (hz:z.wf) (hl:z.recs.length<=1000):S kw 1 [z.pv]=some [Ch (namesN z)]:=by
 refine Jj4 (N:=z.recs.length+1001) rfl ?_;have g1:=hz.origin;unfold Mw at g1;have key:Em5.ev S (z.recs.length+1001) [z.pv]=some (.yld 0 [B4 ([]++(z.recs.flatMap fun r=>Cd3 z r.name).map cw)]):=by
  refine Dh z.recs (fun i (b:List Rec)=>[B4 b,.i .i64 (i:Int)]) (fun i b r=> .yld 0 [B4 (b++(r.flatMap fun r=>Cd3 z r.name).map cw)]) (fun i b=>b.length<=256*i) [] rfl (C3 _) (by omega) (fun i b c r hd hi hc hI=> ?_) (fun b hI=> ?_)
  .left;have g2:=(hz.recs.2 c (B8 hc)).name;unfold Mw at g2;have k1:=o4 z c.name hz (by omega) g2;have hh:=Ap8 z c.name;have hol:=Bd9 z c.name;refine⟨b++(Cd3 z c.name).map cw,?_,by rw[Br,Dt];omega,by simp⟩;have k5:∀p3 p4,An3.ev S (z.recs.length+1001) [z.pv,B4 b,.i .i64 (i:Int),p3,p4]=some (.yld 2 [B4 (b++(if under c.name z.origin=true then upN z.origin c.name else []).map cw)]):=fun p3 p4=>Ds6 z b c.name _ _ p3 p4 c i _ hc rfl g2 g1 (by omega) (by omega) rfl rfl;unfold Cd3;by_cases h1:cutN z c.name=[]
   .have h2:Oc z c.name=false:=by rw[hh];simp[h1]
    rw[if_neg (by simp[h2])];rw[h1] at k1;generalize b++(if under c.name z.origin=true then upN z.origin c.name else []).map cw=b' at*;simp(disch:=omega)only[Pl,hc,k1,k5,Aw,simprocAttr]
    try simp(disch:=omega)only[Pl,hc,k1,k5,ne_eq,not_true,decide_false,Aw,simprocAttr]
   .by_cases h2:cutN z c.name=c.name
    .have h3:Oc z c.name=false:=by rw[hh];simp[h2]
     rw[if_neg (by simp[h3])];rw[h2] at k1;have h4:decide (c.name≠[])=true:=by rw[h2] at h1;simpa using h1
     rw[h4] at k1;generalize b++(if under c.name z.origin=true then upN z.origin c.name else []).map cw=b' at*;simp(disch:=omega)only[Pl,hc,k1,k5,Aw,simprocAttr]
    .have h3:Oc z c.name=true:=by rw[hh];simp[h1,h2]
     rw[if_pos h3];have h4:decide (cutN z c.name≠[])=true:=by simpa using h1
     rw[h4] at k1;simp(disch:=omega)only[Pl,hc,k1,h2,Aw,simprocAttr]
     try simp
  .simp(disch:=omega)only[Pl,Aw,simprocAttr];simp[Out.goes]
 rw[C8] at key;have hxl:(z.recs.flatMap fun r=>Cd3 z r.name).length<=256*z.recs.length:=by
  have:∀l:List Rec,(l.flatMap fun r=>Cd3 z r.name).length<=256*l.length:=by
   intro l
   induction l with
   |nil=>simp
   |cons x r ih=>
    have:=Bd9 z x.name;rw[Fy,Br,B9];omega
  exact this _
 have hxw:∀x∈z.recs.flatMap fun r=>Cd3 z r.name,x.length<=9223372036854775807:=fun x hx=>by obtain⟨r,hr,_,_,h4,_⟩:=(Bd8 z x).1 hx;have:=Hs (C5.1 h4).2.1;omega
 have he:setN (z.recs.flatMap fun r=>Cd3 z r.name)=namesN z:=Bf6 z _ (Bd8 z);generalize (z.recs.flatMap fun r=>Cd3 z r.name)=un at*;have k6:=Ff9 (un.map cw) (by rw[Dt];omega) (fun r hr=>by obtain⟨x,hx,rfl⟩:=Es.1 hr;exact hxw x hx)
 rw[Eb3,he] at k6;generalize un.map cw=ur at*;generalize namesN z=nz at*;simp(disch:=omega)only[Pl,key,k6,Aw,simprocAttr]
def exB (z:Zone) (x:List UInt8):Bool:=z.recs.any fun r=>under r.name z.origin && !Oc z r.name && under r.name x && under x z.origin
def Vf (z:Zone) (x:List UInt8):exB z x=true↔Fh7 z x:=by unfold exB Fh7;simp only[Dc,Bs,Cn,and_assoc]
def Xj (z:Zone) (x:List UInt8):decide (x∈namesN z)=exB z x:=by rw[D7,Vf,<-W2];simp
def Jb (z:Zone) (hl:z.recs.length<=1000):(namesN z).length<=1000000:=by
 have h1:=Ub (Gh7 z);have h2:∀l:List Rec,(l.flatMap fun r=>upN z.origin r.name).length<=256*l.length:=by
  intro l
  induction l with
  |nil=>simp
  |cons x r ih=>
   have:=aj z.origin x.name;rw[Fy,Br,B9];omega
 have h3:=h2 (z.recs.filter fun r=>under r.name z.origin && !Oc z r.name);have h4:=Dr (fun r=>under r.name z.origin && !Oc z r.name) z.recs;show (setN (Gh7 z)).length<=1000000;unfold Gh7 at h1 ⊢;omega
def ic (z:Zone) (n:List UInt8) (hz:z.wf) (hl:z.recs.length<=1000):S Ec8 2 [z.pv,.s n]=some [.b (exB z n)]:=by refine Kb9 (N:=1) rfl ?_;have k1:=Z1 z hz hl;have k2:=M5 (namesN z) n (Jb z hl);rw[Xj] at k2;generalize namesN z=nz at*;simp(disch:=omega)only[Kk1,k1,k2,Aw,simprocAttr]
def jl (z:Zone) (n:List UInt8) (hz:z.wf) (hl:z.recs.length<=1000):S Ak4 2 [z.pv,.s n]=some [.b (exB z n)]:=by
 have hn:=Jb z hl;refine Jx1 (N:=(namesN z).length+1) rfl ?_;have k1:=S4 z hz hl;rw[<-Xj];generalize namesN z=nz at*;have key:Ep0.ev S (nz.length+1) [z.pv,.s n,Ch nz]=some (if n∈nz then .ret [.b true] else .yld 0 []):=by
  refine Et nz (fun i=>[.i .i64 (i:Int)]) (fun i r=>if n∈r then .ret [.b true] else .yld 0 []) rfl (by omega) (fun i c r hd hi hc=> ?_) ?_
  .by_cases h:c=n
   .right;simp(disch:=omega)only[wl,hc,h,Aw,simprocAttr];simp[Out.goes]
   .left;have h2:¬n=c:=fun e=>h e.symm;simp(disch:=omega)only[wl,hc,h,Aw,simprocAttr];simp[h2]
  .simp(disch:=omega)only[wl,Aw,simprocAttr];simp[Out.goes]
 by_cases h:n∈nz
 .rw[if_pos h] at key;simp(disch:=omega)only[wl,k1,key,Aw,simprocAttr]
  try simp[h]
 .rw[if_neg h] at key;simp(disch:=omega)only[wl,k1,key,Aw,simprocAttr]
  try simp[h]
def Cr9 (z:Zone) (n:List UInt8):Option (List UInt8):=(upN z.origin n).find? (exB z)
def encN (z:Zone) (n:List UInt8):List UInt8:=if under n z.origin=true then(Cr9 z n).getD [] else []
def Bb4 {n:List UInt8} (h:vld n=true):n≠[]:=fun e=>by subst e;simp[vld,nm] at h
def Qw {z:Zone} {n e:List UInt8} (hu:under n z.origin=true) (h:Cr9 z n=some e):under n e=true∧exB z e=true:=by unfold Cr9 at h;have h1:=Sr h;have h2:=List.find?_some h;exact⟨((L2 hu).1 h1).1,h2⟩
def Pg (z:Zone) (n:List UInt8) (hz:z.wf) (hl:z.recs.length<=1000) (hn:n.length<=9223372036854775807):S lw 2 [z.pv,.s n]=some [.s (encN z n),.b (decide (encN z n≠[]))]:=by
 refine Jz1 (N:=1000) rfl ?_;have g1:=hz.origin;unfold Mw at g1;have k0:=F9 n z.origin hn g1;unfold encN;rcases Bl (under n z.origin) with hu|hu
 .rw[if_pos hu];rw[hu] at k0;have k1:=Z1 z hz hl;have hnl:=Jb z hl;have k2:∀x,S gt 2 [Ch (namesN z),.s x]=some [.b (exB z x)]:=fun x=>by rw[<-Xj];exact M5 (namesN z) x hnl
  generalize namesN z=nz at*;obtain⟨v1,v2,_⟩:=C5.1 hu;have hlb:=G5 n;have h0:jn ((lbl n).drop 0)=n:=db v1;let res:Option (List UInt8)->Out:=fun o=>match o with|some e=> .yld 0 [.s e]|none=> .ret [.s [],.b false]
  have key:Ep7.ev S 1000 [z.pv,.s n,.b true,Ch nz]=some (res (Cr9 z n)):=by
   have:=Gq (fn:=S) (N:=1000) (J:=[z.pv,.s n,.b true,Ch nz]) (id:=1) (init:=[(.v 1)]) (body:=Bw7) ((lbl n).length - (lbl z.origin).length)
    (fun k=>[.s (jn ((lbl n).drop k))]) (fun k=>res (((upN z.origin n).drop k).find? (exB z))) ?_ (by omega) (fun k hk=> ?_) ?_
   .exact this
   .rw[h0];simp(disch:=omega)only[Aw,simprocAttr]
   .have hup:(upN z.origin n)[k]? =some (jn ((lbl n).drop k)):=Pr (Nat.le_of_lt hk);have hd:(upN z.origin n).drop k=jn ((lbl n).drop k)::(upN z.origin n).drop (k+1):=by obtain⟨h1,h2⟩:=Bp.1 hup;rw[Dd h1,h2]
    obtain⟨q1,q2⟩:=xk hu hk;have q3:¬jn ((lbl n).drop k)=z.origin:=fun h=>by have:=(Uj hu (Nat.le_of_lt hk)).1 h;omega
    have q4:=dc v1 k;have k1:=Xp (jn ((lbl n).drop k)) (by omega);rw[q1,q2] at k1;have k3:=k2 (jn ((lbl n).drop k));rw[hd];generalize jn ((lbl n).drop (k+1))=nx at*;generalize jn ((lbl n).drop k)=cu at*;rcases Bl (exB z cu) with h5|h5
    .right;rw[h5] at k3;rw[nj h5];refine⟨?_,rfl⟩;simp(disch:=omega)only[Z7,k3,Aw,simprocAttr];rfl
    .left;rw[h5] at k3;rw[nk (by simp[h5])];refine⟨?_,rfl⟩;simp(disch:=omega)only[Z7,k1,k3,q3,Aw,simprocAttr]
   .have hup:(upN z.origin n)[(lbl n).length - (lbl z.origin).length]? =some (jn ((lbl n).drop ((lbl n).length - (lbl z.origin).length))):=Pr (B7 _);have hd:(upN z.origin n).drop ((lbl n).length - (lbl z.origin).length)=[jn ((lbl n).drop ((lbl n).length - (lbl z.origin).length))]:=by obtain⟨h1,h2⟩:=Bp.1 hup;have h9:(upN z.origin n).drop ((lbl n).length - (lbl z.origin).length+1)=[]:=Jl (by simp[upN]);rw[Dd h1,h2,h9]
    have q3:=(Uj hu (B7 _)).2 rfl;rw[hd,q3];have k3:=k2 z.origin;rcases Bl (exB z z.origin) with h5|h5
    .rw[h5] at k3;rw[nj h5];refine⟨?_,rfl⟩;simp(disch:=omega)only[Z7,k3,Aw,simprocAttr];rfl
    .rw[h5] at k3;rw[nk (by simp[h5]),List.find?_nil];refine⟨?_,rfl⟩;simp(disch:=omega)only[Z7,k3,Aw,simprocAttr];rfl
  cases he:Cr9 z n with
  |none=>
   rw[he] at key;simp only[res] at key;simp(disch:=omega)only[Z7,k0,k1,key,Aw,simprocAttr];simp
  |some e=>
   rw[he] at key;simp only[res] at key;have h6:=Bb4 (C5.1 (Qw hu he).1).2.1;simp(disch:=omega)only[Z7,k0,k1,key,Aw,simprocAttr];simp[h6]
 .rw[if_neg (by simp[hu])];rw[hu] at k0;simp(disch:=omega)only[Z7,k0,Aw,simprocAttr]
  try simp
def bestF (n:List UInt8):List UInt8->List (List UInt8)->List UInt8
 |b,[]=>b
 |b,x::r=>bestF n (if under n x && (decide (b=[])||decide ((lbl b).length<(lbl x).length)) then x else b) r
def Zm (n:List UInt8):∀(l:List (List UInt8)) (b:List UInt8),(b=[]∨under n b=true)->
  (bestF n b l=[]->b=[]∧∀x∈l,under n x=false)∧
  (bestF n b l≠[]->under n (bestF n b l)=true∧(bestF n b l=b∨bestF n b l∈l)∧(b≠[]->(lbl b).length<=(lbl (bestF n b l)).length)∧∀x∈l,under n x=true->(lbl x).length<=(lbl (bestF n b l)).length)
 |[],b,hb=>by simp only[bestF];refine⟨fun h=>⟨h,fun r hr=>by simp at hr⟩,fun h=>⟨hb.resolve_left h,.inl trivial,fun _=>B7 _,fun r hr=>by simp at hr⟩⟩
 |x::rs,b,hb=>by
  simp only[bestF];have hne:under n x=true->x≠[]:=fun h=>Bb4 (C5.1 h).2.1;by_cases hc:(under n x && (decide (b=[])||decide ((lbl b).length<(lbl x).length)))=true
  .rw[if_pos hc];simp only[Bs,Cy,decide_eq_true_eq] at hc;obtain⟨c2,c3⟩:=hc;obtain⟨h1,h2⟩:=Zm n rs x (.inr c2);refine⟨fun h=>absurd (h1 h).1 (hne c2),fun h=> ?_⟩;obtain⟨g1,g2,g3,g4⟩:=h2 h;refine⟨g1,.inr ?_,fun hb0=> ?_,fun y hy hy2=> ?_⟩
   .rcases g2 with g2|g2
    .rw[g2];exact .head _
    .exact .tail _ g2
   .have:=g3 (hne c2);rcases c3 with c3|c3
    .exact absurd c3 hb0
    .omega
   .rcases Cq.1 hy with rfl|hy
    .exact g3 (hne c2)
    .exact g4 y hy hy2
  .rw[if_neg hc];obtain⟨h1,h2⟩:=Zm n rs b hb;have hr:under n x=true->b≠[]∧(lbl x).length<=(lbl b).length:=by intro c2;simp only[c2,Wb,Cy,decide_eq_true_eq,not_or,Nat.not_lt] at hc;exact hc
   refine⟨fun h=> ?_,fun h=> ?_⟩
   .obtain⟨g1,g2⟩:=h1 h;refine⟨g1,fun y hy=> ?_⟩;rcases Cq.1 hy with rfl|hy
    .rcases Bl (under n y) with h3|h3
     .exact absurd g1 (hr h3).1
     .exact h3
    .exact g2 y hy
   .obtain⟨g1,g2,g3,g4⟩:=h2 h;refine⟨g1,?_,g3,fun y hy hy2=> ?_⟩
    .rcases g2 with g2|g2
     .exact .inl g2
     .exact .inr (.tail _ g2)
    .rcases Cq.1 hy with rfl|hy
     .obtain⟨q1,q2⟩:=hr hy2;have:=g3 q1;omega
     .exact g4 y hy hy2
def Q3 {a b c:List UInt8} (h1:under a b=true) (h2:under b c=true):under a c=true:=by obtain⟨v1,_,s1⟩:=C5.1 h1;obtain⟨_,v3,s2⟩:=C5.1 h2;exact C5.2 ⟨v1,v3,s2.trans s1⟩
def Az5 (z:Zone) (n:List UInt8):bestF n [] (namesN z)=encN z n:=by
 obtain⟨h1,h2⟩:=Zm n (namesN z) [] (.inl rfl);have hin:∀x,x∈namesN z↔exB z x=true:=fun x=>by rw[<-Xj];simp
 have hor:∀x,exB z x=true->under x z.origin=true:=fun x hx=>by obtain⟨_,_,_,_,_,h⟩:=(Vf z x).1 hx;exact h
 unfold encN;by_cases hb:bestF n [] (namesN z)=[]
 .have:=(h1 hb).2;rw[hb];rcases Bl (under n z.origin) with hu|hu
  .rw[if_pos hu];cases he:Cr9 z n with
   |none=>rfl
   |some e=>
    obtain⟨g1,g2⟩:=Qw hu he;have:=this e ((hin e).2 g2);rw[g1] at this;cases this
  .rw[if_neg (by simp[hu])]
 .obtain⟨g1,g2,_,g4⟩:=h2 hb;have g3:exB z (bestF n [] (namesN z))=true:=(hin _).1 (g2.resolve_left hb);have hu:under n z.origin=true:=Q3 g1 (hor _ g3);rw[if_pos hu];generalize bestF n [] (namesN z)=b at*;have hm:b∈upN z.origin n:=(L2 hu).2 ⟨g1,hor _ g3⟩;cases he:Cr9 z n with
  |none=>
   unfold Cr9 at he;rw[List.find?_eq_none] at he;exact absurd g3 (he b hm)
  |some e=>
   obtain⟨q1,q2⟩:=Qw hu he;have q3:=g4 e ((hin e).2 q2) q1;have q4:(lbl b).length<=(lbl e).length:=by
    unfold Cr9 at he;obtain⟨_,pa,pb,he2,he3⟩:=List.find?_eq_some_iff_append.1 he;obtain⟨v1,v2,vs⟩:=C5.1 hu;have hbm:=hm;rw[he2] at hbm;rcases Ct.1 hbm with hbm|hbm
    .have:=he3 b hbm;rw[g3] at this;cases this
    .rcases Cq.1 hbm with rfl|hbm
     .exact B7 _
     .obtain⟨j,hj⟩:=E5 hbm;have e1:(upN z.origin n)[pa.length]? =some e:=by rw[he2,Cb (B7 _)];simp
      have e2:(upN z.origin n)[pa.length+1+j]? =some b:=by rw[he2,Cb (by omega),show pa.length+1+j - pa.length=j+1 by omega];simpa using hj
      have l2:=(Bp.1 e2).1;rw[show (upN z.origin n).length=(lbl n).length - (lbl z.origin).length+1 by simp[upN]] at l2;rw[Pr (by omega)] at e1 e2;injection e1 with e1;injection e2 with e2;rw[<-e1,<-e2,(N3 v1 _).2,(N3 v1 _).2,Dk,Dk];omega
   obtain⟨_,vb,sb⟩:=C5.1 g1;obtain⟨_,ve,se⟩:=C5.1 q1;rw[G8] at sb se;show b=e;refine P9 vb ve ?_;rw[sb,se,Nat.le_antisymm q4 q3]
def P2 (z:Zone) (n:List UInt8) (hz:z.wf) (hl:z.recs.length<=1000) (hn:n.length<=9223372036854775807):S lj 2 [z.pv,.s n]=some [.s (encN z n),.b (decide (encN z n≠[]))]:=by
 have hnl:=Jb z hl;refine Jw9 (N:=(namesN z).length+1) rfl ?_;have k1:=S4 z hz hl;have hv:∀x∈namesN z,x.length<=254:=fun x hx=>by obtain⟨_,_,_,_,_,h⟩:=(W2 z x).1 hx;exact Hs (C5.1 h).1
 rw[<-Az5];generalize namesN z=nz at*;have key:En8.ev S (nz.length+1) [z.pv,.s n,Ch nz]=some (.yld 0 [.s (bestF n [] nz)]):=by
  refine Dh nz (fun i (b:List UInt8)=>[.s b,.i .i64 (i:Int)]) (fun i b r=> .yld 0 [.s (bestF n b r)]) (fun i b=>b.length<=254) [] rfl (by simp) (by omega) (fun i b c r hd hi hc hI=> ?_) (fun b hI=> ?_)
  .left;have g2:=hv c (B8 hc);have k2:=Gj n c hn (by omega);refine⟨if under n c && (decide (b=[])||decide ((lbl b).length<(lbl c).length)) then c else b,?_,by split<;>omega,rfl⟩;rcases Bl (under n c) with h1|h1
   .rw[h1] at k2;by_cases h2:b=[]
    .simp(disch:=omega)only[ir,hc,h1,h2,k2,Aw,simprocAttr];simp
    .have k3:=Kv b (by omega);have k4:=Kv c (by omega);by_cases h3:(lbl b).length<(lbl c).length
     .have h4:((lbl b).length:Int)<((lbl c).length:Int):=by omega
      simp(disch:=omega)only[ir,hc,h1,h2,h4,k2,k3,k4,Aw,simprocAttr];simp[h3,h2]
     .have h4:¬((lbl b).length:Int)<((lbl c).length:Int):=by omega
      simp(disch:=omega)only[ir,hc,h1,h2,h4,k2,k3,k4,Aw,simprocAttr];simp[h3,h2]
   .rw[h1] at k2;simp(disch:=omega)only[ir,hc,h1,k2,Aw,simprocAttr];simp
  .simp(disch:=omega)only[ir,Aw,simprocAttr];simp[bestF,Out.goes]
 generalize bestF n [] nz=be at*;simp(disch:=omega)only[ir,k1,key,Aw,simprocAttr]
 try simp
def c3 (s:List UInt8):List UInt8:=s.take 300
def E4 (o:List UInt8) (l:List Rec):PV.a [.s o,B4 l]=Zone.pv ⟨o,l⟩:=rfl
def Fc (z:Zone):(⟨z.origin,z.recs⟩:Zone)=z:=rfl
end Go.X.G
/- Names with another end; redirections; what records of a name say. -/
namespace Go.X
structure Res where
 kind:Int
 owner:List UInt8
 wild:Bool
 target:List UInt8
 recs:List Rec
 deriving DecidableEq
def Res.cells (x:Res):List PV:=[.i .i64 x.kind,.s x.owner,.b x.wild,.s x.target,B4 x.recs]
def Res.pv (x:Res):PV:= .a x.cells
def Eq6 (x:Res):Dj 0 x.pv=some (.i .i64 x.kind):=rfl
def Eq5 (x:Res):Dj 1 x.pv=some (.s x.owner):=rfl
def Eq4 (x:Res):Dj 2 x.pv=some (.b x.wild):=rfl
def Eq3 (x:Res):Dj 3 x.pv=some (.s x.target):=rfl
def Eq2 (x:Res):Dj 4 x.pv=some (B4 x.recs):=rfl
def Hl7 (x:Res):Mq 0 5 x.pv=some x.pv:=rfl
def Ij4 (x:Res):W9 5 x.pv=some x.pv:=rfl
def Gc8 (k:Int) (o:List UInt8) (w:Bool) (t:List UInt8) (l:List Rec):PV.a [.i .i64 k,.s o,.b w,.s t,B4 l]=Res.pv ⟨k,o,w,t,l⟩:=rfl
def Uz (l:List Rec) (k:IntKind) (z:Int) (n:List UInt8) (x:Rec) (h0:0<=z) (h3:l[z.toNat]? =some x):
  Mx 16 0 [.s n] (B4 l) (.i k z)=some (B4 (l.set z.toNat {x with name:=n})):=by
 have h4:(l.map Rec.pv)[z.toNat]? =some x.pv:=by rw[Dq,h3];rfl
 simp only[Mx,B4,h0,h4,and_self,if_true,B3];have h5:P1 x.pv 0 [.s n]=some (Rec.pv {x with name:=n}):=rfl;rw[h5];simp[List.map_set]
set_option linter.defProp false in
def EVR:=(And.intro @Eq6 (And.intro @Eq5 (And.intro @Eq4 (And.intro @Eq3 (And.intro @Eq2 (And.intro @Hl7 (And.intro @Ij4 @Gc8)))))))
end Go.X
namespace Go.X.G
open Go Go.X
def replL (n top to:List UInt8):List (List UInt8):=(lbl n).take ((lbl n).length - (lbl top).length)++lbl to
def replN (n top to:List UInt8):List UInt8×Int:=
 if vld n=true∧vld top=true∧vld to=true∧(lbl to)[0]? ≠some [42] then
  if under n top=true∧n≠top then
   if(flat (replL n top to)).length<=254 then(flat (replL n top to),0) else([],9)
  else([],1)
 else([],2)
def Aw3 {l:List (List UInt8)} (h:H8 true l=true) (h2:l[0]? ≠some [42]):H8 false l=true:=by
 cases l with
 |nil=>rfl
 |cons p r=>
  simp only[H8,Bs] at h ⊢;refine⟨⟨h.1.1,?_⟩,h.2⟩;have:p≠[42]:=fun e=>h2 (by rw[e];rfl);simp[this]
def jg {n top to:List UInt8} (hu:under n top=true) (hne:n≠top) (ht:vld to=true) (hs:(lbl to)[0]? ≠some [42]):H8 true (replL n top to)=true∧replL n top to≠[]∧(lbl n).take ((lbl n).length - (lbl top).length)≠[]:=by
 obtain⟨vn,vt,sf⟩:=C5.1 hu;have hlt:(lbl top).length<(lbl n).length:=by
  have:=sf.length_le;rcases Nat.lt_or_ge (lbl top).length (lbl n).length with h|h
  .exact h
  .exact absurd (Lg hu h) hne
 have h1:(lbl n).take ((lbl n).length - (lbl top).length)≠[]:=by intro e;have:=congrArg List.length e;rw[Cw,C1] at this;omega
 have h2:H8 true ((lbl n).take ((lbl n).length - (lbl top).length))=true:=by have:=T8 vn;rw[<-Dw ((lbl n).length - (lbl top).length) (lbl n),Vy,Bs] at this;exact this.1
 refine⟨?_,by unfold replL;simp[h1],h1⟩;unfold replL;rw[Vy,h2,List.isEmpty_eq_false_iff.2 h1];simp[Aw3 (T8 ht) hs]
def Et4 {l:List (List UInt8)} (h:H8 true l=true):∀x∈l,x.length<=1000:=fun x hx=>by have:=W8 (H4 h hx);omega
def Ah4 (n top to:List UInt8) (hn:n.length<=9223372036854775807) (ht:top.length<=9223372036854775807) (hto:to.length<=9223372036854775807):S Bl1 3 [.s n,.s top,.s to]=some [.s (replN n top to).1,.i .i64 (replN n top to).2]:=by
 refine Jj7 (N:=1) rfl ?_;have k1:=split_ok n hn;have k2:=split_ok top ht;have k3:=split_ok to hto;have k4:=Gj n top hn ht;have l1:=G5 n;have l2:=G5 top;have l3:=G5 to;unfold replN;rcases Bl (vld n) with v1|v1
 .rcases Bl (vld top) with v2|v2
  .rcases Bl (vld to) with v3|v3
   .rw[v1] at k1;rw[v2] at k2;rw[v3] at k3;have tail:(lbl to)[0]? ≠some [42]->T.ev S 1 At8 [.s n,.s top,.s to,Ch (lbl n),.b true,Ch (lbl top),.b true,Ch (lbl to),.b true]=some (.ret (if under n top=true∧n≠top then(if(flat (replL n top to)).length<=254 then [.s (flat (replL n top to)),.i .i64 0] else [.s [],.i .i64 9]) else [.s [],.i .i64 1])):=by
     intro hs;rcases Bl (under n top) with hu|hu
     .rw[hu] at k4;have hle:=(C5.1 hu).2.2.length_le;by_cases he:n=top
      .have h5:((lbl n).length:Int)=((lbl top).length:Int):=by rw[he]
       rw[if_neg (by simp[he])];simp(disch:=omega)only[Sv,k4,h5,Aw,simprocAttr]
      .rw[if_pos ⟨hu,he⟩];obtain⟨q1,q2,q3⟩:=jg hu he v3 hs;have h5:¬((lbl n).length:Int)=((lbl top).length:Int):=by intro h;exact he (Lg hu (by omega))
       have h6:Jx 1 (Ch (lbl n)) (.i .i64 0) (.i .i64 (((lbl n).length:Int) - ((lbl top).length:Int)))=some (Ch ((lbl n).take ((lbl n).length - (lbl top).length))):=by
        rw[Ms _ _ _ _ _ (by omega) (by omega) (by omega)];have:(((lbl n).length:Int) - ((lbl top).length:Int)).toNat=(lbl n).length - (lbl top).length:=by omega
        rw[this];simp
       have h7:Jz 1 (Ch []) (Ch ((lbl n).take ((lbl n).length - (lbl top).length)))=some (Ch ((lbl n).take ((lbl n).length - (lbl top).length))):=by have:=Zn [] ((lbl n).take ((lbl n).length - (lbl top).length)) (by rw[Cw];simp;omega);simpa using this
       have h8:Jz 1 (Ch ((lbl n).take ((lbl n).length - (lbl top).length))) (Ch (lbl to))=some (Ch (replL n top to)):=Zn _ _ (by rw[Cw];omega);have hrl:(replL n top to).length<=1000:=by unfold replL;rw[Br,Cw];omega
       have h9:=Eb6 (replL n top to) hrl (Et4 q1);have hj:jn (replL n top to)=flat (replL n top to):=by unfold jn;rw[if_neg q2]
       rw[hj] at h9;have hfl:(flat (replL n top to)).length<=1000000:=by
        have:∀l:List (List UInt8),(∀x∈l,x.length<=999)->(flat l).length<=1000*l.length:=by
         intro l
         induction l with
         |nil=>intro _;simp[flat]
         |cons x r ih=>
          intro h;have a1:=ih fun y hy=>h y (.tail _ hy);have a2:=h x (.head _);rw[Ng,Br,B9,B9];omega
        have:=this (replL n top to) (fun x hx=>by have:=W8 (H4 q1 hx);omega);omega
       have h10:=Gd (flat (replL n top to)) (by omega);generalize (lbl n).take ((lbl n).length - (lbl top).length)=th at*;by_cases hlen:(flat (replL n top to)).length<=254
       .rw[if_pos hlen];have hv:=(Gn5 q1 hlen).1;rw[hj] at hv;rw[hv] at h10;generalize replL n top to=rl at*;simp(disch:=omega)only[Sv,k4,h5,h6,h7,h8,h9,h10,Aw,simprocAttr]
       .rw[if_neg hlen];have hv:vld (flat (replL n top to))=false:=by
         rcases Bl (vld (flat (replL n top to))) with h|h
         .exact absurd (Hs h) hlen
         .exact h
        rw[hv] at h10;generalize replL n top to=rl at*;simp(disch:=omega)only[Sv,k4,h5,h6,h7,h8,h9,h10,Aw,simprocAttr]
     .rw[hu] at k4;rw[if_neg (by simp[hu])];simp(disch:=omega)only[Sv,k4,Aw,simprocAttr]
    cases hq:lbl to with
    |nil=>
     rw[hq] at k3 tail;have ht:=tail (by simp);rw[if_pos ⟨v1,v2,v3,by simp⟩];simp(disch:=first|omega|(simp;omega))only[↓ht,Sv,k1,k2,k3,Aw,simprocAttr];split<;>(try split)<;>rfl
    |cons p r=>
     rw[hq] at k3 tail;have h6:0<((p::r).length:Int):=by simp only[B9];omega
     by_cases h7:p=[42]
     .subst h7;rw[if_neg (by simp)];simp(disch:=first|omega|(simp only[B9];omega))only[Sv,k1,k2,k3,Aw,simprocAttr]
     .have ht:=tail (by simpa using h7);rw[if_pos ⟨v1,v2,v3,by simpa using h7⟩];simp(disch:=first|omega|(simp only[B9];omega))only[↓ht,Sv,k1,k2,k3,h7,Aw,simprocAttr];split<;>(try split)<;>rfl
   .rw[if_neg (by simp[v3])];rw[v1] at k1;rw[v2] at k2;rw[v3] at k3;simp(disch:=omega)only[Sv,k1,k2,k3,Aw,simprocAttr]
  .rw[if_neg (by simp[v2])];rw[v1] at k1;rw[v2] at k2;simp(disch:=omega)only[Sv,k1,k2,k3,Aw,simprocAttr]
 .rw[if_neg (by simp[v1])];rw[v1] at k1;simp(disch:=omega)only[Sv,k1,k2,k3,Aw,simprocAttr]
def uz (s t:List UInt8) (hs:s.length<=9223372036854775807) (h:t.isSuffixOf s=true):S Bm0 2 [.s s,.s t]=some [.s (s.take (s.length - t.length))]:=by
 have hle:t.length<=s.length:=(Hz.1 h).length_le;have k1:=Wk s t hs;rw[h] at k1;have k2:S Bh6 2 [.s s,.s t]=some [.s (s.take (s.length - t.length))]:=by
  refine It2 (N:=1) rfl ?_;have h6:Cx5 (.s s) (.i .i64 0) (.i .i64 ((s.length:Int) - (t.length:Int)))=some (.s (s.take (s.length - t.length))):=by
   rw[Im4 _ _ _ _ _ (by omega) (by omega) (by omega)];have:((s.length:Int) - (t.length:Int)).toNat=s.length - t.length:=by omega
   rw[this];simp
  simp(disch:=omega)only[Ic7,k1,h6,Aw,simprocAttr]
 refine Jq5 (N:=1) rfl ?_;simp(disch:=omega)only[If3,k2,Aw,simprocAttr]
def Ad2 (n top to:List UInt8) (hn:n.length<=9223372036854775807) (ht:top.length<=9223372036854775807) (hto:to.length<=9223372036854775807):S Bn7 3 [.s n,.s top,.s to]=some [.s (replN n top to).1,.i .i64 (replN n top to).2]:=by
 refine Jz4 (N:=1) rfl ?_;have k1:=Db n hn;have k2:=Db top ht;have k3:=Db to hto;unfold replN;rcases Bl (vld n) with v1|v1
 .rcases Bl (vld top) with v2|v2
  .rcases Bl (vld to) with v3|v3
   .rw[v1] at k1;rw[v2] at k2;rw[v3] at k3;have hp:=T7 v3;have hsf:=Wl v3;obtain⟨c,hc⟩:∃c,to[0]? =some c:=⟨_,Bt hp⟩;rw[hc] at hsf;by_cases hs:c=42
    .rw[if_neg (by rw[hs] at hsf;simp[hsf.1 rfl])];subst hs;simp(disch:=omega)only[Pn,k1,k2,k3,hc,Aw,simprocAttr]
     try simp
    .have hs':(lbl to)[0]? ≠some [42]:=fun e=>hs (by have:=hsf.2 e;simpa using this);have hcc:¬(c.toNat:Int)=42:=fun e=>hs (by apply UInt8.toNat.inj;have:(42:UInt8).toNat=42:=rfl;omega)
     rw[if_pos ⟨v1,v2,v3,hs'⟩];have tl:=Hs v2;have k4:=Fj5 n top hn (by omega);rw[jk v1 v2] at k4;by_cases he:n=top
     .rw[if_neg (by simp[he])];simp(disch:=omega)only[Pn,k1,k2,k3,hc,hcc,he,Aw,simprocAttr]
     .rcases Bl (under n top) with hu|hu
      .rw[hu] at k4;rw[if_pos ⟨hu,he⟩];obtain⟨q1,q2,q3⟩:=jg hu he v3 hs';have nl:=Hs v1;have tol:=Hs v3;have hnr:n≠[46]:=by rintro rfl;have:=(C5.1 hu).2.2.length_le;rw[Lc] at this;exact he (P9 v1 v2 (by rw[Lc];exact(List.length_eq_zero_iff.1 (by simpa using this)).symm))
       have hnf:n=flat (lbl n):=by have:=Sx v1;unfold jn at this;rwa[if_neg (fun h=>hnr ((P8 v1).1 h))] at this
       have hsp:lbl n=(lbl n).take ((lbl n).length - (lbl top).length)++lbl top:=by
        have:=(C5.1 hu).2.2;rw[G8] at this
        conv=>lhs;rw[<-Dw ((lbl n).length - (lbl top).length) (lbl n)]
        rw[<-this]
       have hhead:∃hd,hd=flat ((lbl n).take ((lbl n).length - (lbl top).length))∧hd.length<=254∧∀p3 p4 p5 p6,Bj1.ev S 1 [.s n,.s top,.s to,p3,p4,p5,p6]=some (.yld 0 [.s hd]):=by
        refine⟨_,rfl,?_,fun p3 p4 p5 p6=> ?_⟩
        .have:(flat (lbl n)).length<=254:=by rw[<-hnf];exact nl
         rw[hsp,Rf,Br] at this;omega
        .by_cases hr:top=[46]
         .subst hr;rw[Lc,Eb] at hsp;rw[Lc,<-hsp,<-hnf];simp(disch:=omega)only[Pn,Aw,simprocAttr]
         .have htf:top=flat (lbl top):=by have:=Sx v2;unfold jn at this;rwa[if_neg (fun h=>hr ((P8 v2).1 h))] at this
          have hna:n=flat ((lbl n).take ((lbl n).length - (lbl top).length))++top:=by
           conv=>lhs;rw[hnf,hsp,Rf]
           rw[<-htf]
          have hsuf:top.isSuffixOf n=true:=Hz.2 ⟨_,hna.symm⟩;have k5:=uz n top hn hsuf;have htk:n.take (n.length - top.length)=flat ((lbl n).take ((lbl n).length - (lbl top).length)):=by
           conv=>lhs;rw[hna]
           rw[Br,Pb,Cs6]
          rw[htk] at k5;generalize flat ((lbl n).take ((lbl n).length - (lbl top).length))=hd at*;simp(disch:=omega)only[Pn,k5,hr,Aw,simprocAttr]
       obtain⟨hd,hd1,hd2,hd3⟩:=hhead;have hfin:flat (replL n top to)=if to=[46] then hd else hd++to:=by
        unfold replL;rw[Rf,<-hd1];by_cases hr:to=[46]
        .rw[if_pos hr,hr,Lc];simp[flat]
        .rw[if_neg hr];have:=Sx v3;unfold jn at this;rw[if_neg (fun h=>hr ((P8 v3).1 h))] at this;rw[<-this]
       rw[hfin];by_cases hr:to=[46]
       .rw[if_pos hr];subst hr;have h1:¬(255:Int)<=(hd.length:Int):=by omega
        rw[if_pos hd2];simp(disch:=omega)only[Pn,k1,k2,k3,k4,hc,hcc,he,hd3,h1,Aw,simprocAttr]
       .rw[if_neg hr];by_cases hlen:(hd++to).length<=254
        .rw[if_pos hlen];have h1:¬(255:Int)<=((hd++to).length:Int):=by omega
         simp(disch:=first|omega|(rw[Br] at*;omega))only[Pn,k1,k2,k3,k4,hc,hcc,he,hd3,hr,h1,Aw,simprocAttr]
        .rw[if_neg hlen];have h1:(255:Int)<=((hd++to).length:Int):=by omega
         simp(disch:=first|omega|(rw[Br] at*;omega))only[Pn,k1,k2,k3,k4,hc,hcc,he,hd3,hr,h1,Aw,simprocAttr]
      .rw[hu] at k4;rw[if_neg (by simp[hu])];simp(disch:=omega)only[Pn,k1,k2,k3,k4,hc,hcc,he,Aw,simprocAttr]
   .rw[if_neg (by simp[v3])];rw[v1] at k1;rw[v2] at k2;rw[v3] at k3;simp(disch:=omega)only[Pn,k1,k2,k3,Aw,simprocAttr]
  .rw[if_neg (by simp[v2])];rw[v1] at k1;rw[v2] at k2;simp(disch:=omega)only[Pn,k1,k2,Aw,simprocAttr]
 .rw[if_neg (by simp[v1])];rw[v1] at k1;simp(disch:=omega)only[Pn,k1,Aw,simprocAttr]
end Go.X.G
namespace Go.X.G
open Go Go.X
def Kb (z:Zone) (n:List UInt8) (t:Int) (hl:z.recs.length<=1000000):S S7 3 [z.pv,.s n,.i .i64 t]=some [B4 (findR z.recs n t)]:=by refine Ip1 (N:=1) rfl ?_;have k1:=Cw1 z.recs n t hl;simp(disch:=omega)only[Ic2,k1,Aw,simprocAttr]
def Im (z:Zone) (n:List UInt8) (t:Int) (hl:z.recs.length<=1000000):S Ul 3 [z.pv,.s n,.i .i64 t]=some [B4 (findR z.recs n t)]:=by refine In9 (N:=1) rfl ?_;have k1:=M4 z.recs n t hl;simp(disch:=omega)only[Ib5,k1,Aw,simprocAttr]
abbrev Kj0:Res:=⟨0,[],false,[],[]⟩
def ab (s:List UInt8):List UInt8:=if s[0]? =some 42 then [] else s
def dnB (z:Zone) (u:List UInt8):Bool:=decide (0<(findR z.recs u 39).length)
def Cy3 (z:Zone) (n:List UInt8):Option (List UInt8):=((upN z.origin n).drop 1).find? (dnB z)
def X7 (z:Zone) (n u:List UInt8):Res:=
 match findR z.recs u 39 with
 |r::_=>⟨3,u,false,ab (replN n u r.data.host).1,[r]⟩
 |[]=>Kj0
def Bd6 (z:Zone) (n:List UInt8):Option Res:=(Cy3 z n).map (X7 z n)
def O0:Option Res->List PV
 |some x=>[x.pv,.b true]
 |none=>[Kj0.pv,.b false]
def Of {z:Zone} (hz:z.wf) {n:List UInt8} {t:Int} {r:Rec} (h:r∈findR z.recs n t):r.wf:=hz.recs.2 r (Cs.1 h).1
def Gx (z:Zone) (n:List UInt8) (t:Int):(findR z.recs n t).length<=z.recs.length:=Dr _ _
def c42 (c:UInt8):(c.toNat:Int)=42↔c=42:=by
 constructor
 .intro h;apply UInt8.toNat.inj;have:(42:UInt8).toNat=42:=rfl;omega
 .rintro rfl;rfl
def Hw2 (z:Zone) (n:List UInt8) (hz:z.wf) (hl:z.recs.length<=1000000) (hu:under n z.origin=true) (N:Nat) (hN:1000<N):
  Hj0.ev S N [z.pv,.s n]=some (match Bd6 z n with|some x=> .ret [x.pv,.b true]|none=> .yld 0 [.i .i64 0,.s [],.b false,.s [],B4 []]):=by
 obtain⟨v1,v2,_⟩:=C5.1 hu;have hlb:=G5 n;have nl:=Hs v1;have h0:jn ((lbl n).drop 0)=n:=db v1;let res:Option (List UInt8)->Out:=fun o=>match o.map (X7 z n) with|some x=> .ret [x.pv,.b true]|none=> .yld 0 [.i .i64 0,.s [],.b false,.s [],B4 []]
 have:=Gq (fn:=S) (N:=N) (J:=[z.pv,.s n]) (id:=1) (init:=[(.v 1),(.c (.i .i64 (0))),(.c (.s [])),(.c (.b false)),(.c (.s [])),(.c (.l 16 []))]) (body:=Fc7) ((lbl n).length - (lbl z.origin).length)
  (fun k=>[.s (jn ((lbl n).drop k)),.i .i64 0,.s [],.b false,.s [],B4 []]) (fun k=>res (((upN z.origin n).drop (k+1)).find? (dnB z))) ?_ (by omega) (fun k hk=> ?_) ?_
 .exact this
 .rw[h0];simp(disch:=omega)only[Aw,simprocAttr]
 .have hup:(upN z.origin n)[k+1]? =some (jn ((lbl n).drop (k+1))):=Pr hk;have hd:(upN z.origin n).drop (k+1)=jn ((lbl n).drop (k+1))::(upN z.origin n).drop (k+1+1):=by obtain⟨h1,h2⟩:=Bp.1 hup;rw[Dd h1,h2]
  obtain⟨q1,q2⟩:=xk hu hk;have q3:¬jn ((lbl n).drop k)=z.origin:=fun h=>by have:=(Uj hu (Nat.le_of_lt hk)).1 h;omega
  have q4:=dc v1 k;have q5:=dc v1 (k+1);have k1:=Xp (jn ((lbl n).drop k)) (by omega);rw[q1,q2] at k1;have k2:=Kb z (jn ((lbl n).drop (k+1))) 39 hl;rw[hd];generalize jn ((lbl n).drop (k+1))=nx at*;generalize jn ((lbl n).drop k)=cu at*;cases hf:findR z.recs nx 39 with
  |nil=>
   left;have h5:dnB z nx=false:=by unfold dnB;rw[hf];rfl
   rw[hf] at k2;rw[nk (by simp[h5])];refine⟨?_,rfl⟩;simp(disch:=omega)only[Ad7,k1,k2,q3,EVM,EVC,EVR,Ay,simprocAttr]
   try rfl
  |cons r rest=>
   right;have h5:dnB z nx=true:=by unfold dnB;rw[hf];simp
   have hrw:=Of hz (n:=nx) (t:=39) (r:=r) (by rw[hf];exact .head _);have hll:=Gx z nx 39;have hh:=hrw.data.host;unfold Mw at hh;have k3:=Ad2 n nx r.data.host (by omega) (by omega) hh;rw[hf] at k2 hll;rw[nj h5];have e:res (some nx)= .ret [(Res.mk 3 nx false (ab (replN n nx r.data.host).1) [r]).pv,.b true]:=by simp only[res,Cf,X7,hf]
   rw[e];refine⟨?_,rfl⟩;have hpos:(0:Int)<((r::rest).length:Int):=by simp only[B9];omega
   have hls:Jx 16 (B4 (r::rest)) (.i .i64 0) (.i .i64 1)=some (B4 [r]):=by rw[J1 _ _ _ _ _ (by omega) (by omega) (by omega)];rfl
   have hix:H3 16 (B4 (r::rest)) (.i .i64 0)=some r.pv:=by rw[Kc _ _ _ (by omega)];rfl
   unfold ab;generalize replN n nx r.data.host=rp at*;obtain⟨to,er⟩:=rp;generalize (r::rest)=ll at*;cases to with
   |nil=>
    simp(disch:=omega)only[Ad7,k1,k2,k3,q3,hpos,hls,hix,EVM,EVC,EVR,Ay,simprocAttr]
    try simp
   |cons c tr=>
    by_cases hc:c=42
    .subst hc;simp(disch:=omega)only[Ad7,k1,k2,k3,q3,hpos,hls,hix,EVM,EVC,EVR,Ay,simprocAttr]
     try simp
    .have hc2:¬(c.toNat:Int)=42:=fun h=>hc ((c42 c).1 h);simp(disch:=omega)only[Ad7,k1,k2,k3,q3,hpos,hls,hix,hc2,EVM,EVC,EVR,Ay,simprocAttr]
     try simp[hc]
 .have q3:=(Uj hu (B7 _)).2 rfl;have h9:(upN z.origin n).drop ((lbl n).length - (lbl z.origin).length+1)=[]:=Jl (by simp[upN]);rw[h9,q3,List.find?_nil];refine⟨?_,rfl⟩;simp(disch:=omega)only[Ad7,EVM,EVC,EVR,Ay,simprocAttr]
  try rfl
def vm (z:Zone) (n:List UInt8) (hz:z.wf) (hl:z.recs.length<=1000000) (hu:under n z.origin=true):S Gw4 2 [z.pv,.s n]=some (O0 (Bd6 z n)):=by
 refine Kc0 (N:=1001) rfl ?_;have key:=Hw2 z n hz hl hu 1001 (by omega);cases h:Bd6 z n with
 |none=>
  rw[h] at key;simp(disch:=omega)only[Ad7,key,O0,EVM,EVC,EVR,Ay,simprocAttr]
 |some x=>
  rw[h] at key;simp(disch:=omega)only[Ad7,key,O0,EVM,EVC,EVR,Ay,simprocAttr]
def Bs6:∀(l:List (List UInt8)),(∀x∈l,x≠[])->2*l.length<=(flat l).length
 |[],_=>by simp[flat]
 |x::r,h=>by have ih:=Bs6 r fun y hy=>h y (.tail _ hy);have hx:=Cg.2 (h x (.head _));rw[Ng,Br,B9,B9];omega
def Ht7 (n:List UInt8):(lbl n).length<=127:=by
 rcases Bl (vld n) with h|h
 .rcases vld_cases h with⟨_,h2⟩|⟨_,h2,h3,h4⟩
  .rw[h2];simp
  .have:=Bs6 (lbl n) fun x hx=>qf (H4 h2 hx);rw[<-h3] at this;omega
 .rw[qb h];simp
def Hn9 (z:Zone) (n:List UInt8) (hl:z.recs.length<=1000000) (hu:under n z.origin=true):S Bl2 2 [z.pv,.s n]=some (match Cy3 z n with|some u=>[.s u,.b true]|none=>[.s [],.b false]):=by
 refine Jj8 (N:=1001) rfl ?_;obtain⟨v1,v2,_⟩:=C5.1 hu;have hlb:=Ht7 n;have nl:=Hs v1;have h0:jn ((lbl n).drop 0)=n:=db v1;let res:Option (List UInt8)->Out:=fun o=>match o with|some u=> .ret [.s u,.b true]|none=> .yld 0 []
 have key:Em8.ev S 1001 [z.pv,.s n]=some (res (Cy3 z n)):=by
  have:=Gq (fn:=S) (N:=1001) (J:=[z.pv,.s n]) (id:=1) (init:=[(.v 1),(.c (.i .i64 (0)))]) (body:=Bw0) ((lbl n).length - (lbl z.origin).length)
   (fun k=>[.s (jn ((lbl n).drop k)),.i .i64 (k:Int)]) (fun k=>res (((upN z.origin n).drop (k+1)).find? (dnB z))) ?_ (by omega) (fun k hk=> ?_) ?_
  .exact this
  .rw[h0];simp(disch:=omega)only[Aw,simprocAttr]
  .have hup:(upN z.origin n)[k+1]? =some (jn ((lbl n).drop (k+1))):=Pr hk;have hd:(upN z.origin n).drop (k+1)=jn ((lbl n).drop (k+1))::(upN z.origin n).drop (k+1+1):=by obtain⟨h1,h2⟩:=Bp.1 hup;rw[Dd h1,h2]
   obtain⟨q1,q2⟩:=xk hu hk;have q3:¬jn ((lbl n).drop k)=z.origin:=fun h=>by have:=(Uj hu (Nat.le_of_lt hk)).1 h;omega
   have q4:=dc v1 k;have k1:=mr (jn ((lbl n).drop k)) (by omega);rw[q1,q2] at k1;have k2:=Im z (jn ((lbl n).drop (k+1))) 39 hl;rw[hd];generalize jn ((lbl n).drop (k+1))=nx at*;generalize jn ((lbl n).drop k)=cu at*;by_cases h6:0<(findR z.recs nx 39).length
   .right;have h5:dnB z nx=true:=by unfold dnB;simp[h6]
    have h7:(0:Int)<((findR z.recs nx 39).length:Int):=by omega
    rw[nj h5];refine⟨?_,rfl⟩;generalize findR z.recs nx 39=fr at*;simp(disch:=omega)only[wb,k1,k2,q3,h7,EVM,EVC,EVR,Ay,simprocAttr]
    try rfl
   .left;have h5:dnB z nx=false:=by unfold dnB;simp[h6]
    have h7:¬(0:Int)<((findR z.recs nx 39).length:Int):=by omega
    rw[nk (by simp[h5])];refine⟨?_,rfl⟩;generalize findR z.recs nx 39=fr at*;simp(disch:=omega)only[wb,k1,k2,q3,h7,EVM,EVC,EVR,Ay,simprocAttr]
  .have q3:=(Uj hu (B7 _)).2 rfl;have h9:(upN z.origin n).drop ((lbl n).length - (lbl z.origin).length+1)=[]:=Jl (by simp[upN]);rw[h9,q3,List.find?_nil];refine⟨?_,rfl⟩;simp(disch:=omega)only[wb,EVM,EVC,EVR,Ay,simprocAttr]
   try rfl
 cases h:Cy3 z n with
 |none=>
  rw[h] at key;simp only[res] at key;simp(disch:=omega)only[wb,key,EVM,EVC,EVR,Ay,simprocAttr]
 |some u=>
  rw[h] at key;simp only[res] at key;simp(disch:=omega)only[wb,key,EVM,EVC,EVR,Ay,simprocAttr]
def allR (z:Zone) (n:List UInt8):List Rec:=z.recs.filter fun r=>decide (r.name=n)
def Fq1 (t:Int):Bool:=decide (t=5)||decide (t=47)||decide (t=46)||decide (t=255)
def typedR (l:List Rec) (t:Int):List Rec:=if t=255 then l else l.filter fun r=>decide (r.typ=t)
def Cp6 (l:List Rec) (t:Int):Option Rec:=if Fq1 t=true then none else l.find? fun r=>decide (r.typ=5)
def saysM (l:List Rec) (t:Int):Res:=
 match Cp6 l t with
 |some c=>⟨2,[],false,c.data.host,[c]⟩
 |none=>if typedR l t=[] then ⟨5,[],false,[],[]⟩ else ⟨1,[],false,[],typedR l t⟩
def Bf7 (z:Zone) (n:List UInt8) (hl:z.recs.length<=1000000):S Ec6 2 [z.pv,.s n]=some [B4 (allR z n)]:=by
 refine Kb7 (N:=z.recs.length+1) rfl ?_;have key:Gt9.ev S (z.recs.length+1) [z.pv,.s n]=some (.yld 0 [B4 ([]++allR z n)]):=by
  refine Dh z.recs (fun i (b:List Rec)=>[B4 b,.i .i64 (i:Int)]) (fun i b r=> .yld 0 [B4 (b++r.filter fun r=>decide (r.name=n))]) (fun i b=>b.length<=i) [] rfl (C3 _) (by omega) (fun i b c r hd hi hc hI=> ?_) (fun b hI=> ?_)
  .left;by_cases h:c.name=n
   .refine⟨b++[c],?_,by simp;omega,by simp[h]⟩;simp(disch:=omega)only[Fl7,hc,h,EVM,EVC,EVR,Ay,simprocAttr]
    try simp[<-h]
   .refine⟨b,?_,by omega,by simp[h]⟩;simp(disch:=omega)only[Fl7,hc,h,EVM,EVC,EVR,Ay,simprocAttr]
  .simp(disch:=omega)only[Fl7,EVM,EVC,EVR,Ay,simprocAttr]
   try simp[Out.goes]
 rw[C8] at key;generalize allR z n=ar at*;simp(disch:=omega)only[Fl7,key,EVM,EVC,EVR,Ay,simprocAttr]
def Cw2 (z:Zone) (n:List UInt8) (hl:z.recs.length<=1000000):S Aj0 2 [z.pv,.s n]=some [B4 (allR z n)]:=by
 refine Jj5 (N:=z.recs.length+1) rfl ?_;have key:Em6.ev S (z.recs.length+1) [z.pv,.s n]=some (.yld 0 [B4 ([]++allR z n)]):=by
  refine Dh z.recs (fun i (b:List Rec)=>[B4 b,.i .i64 (i:Int)]) (fun i b r=> .yld 0 [B4 (b++r.filter fun r=>decide (r.name=n))]) (fun i b=>b.length<=i) [] rfl (C3 _) (by omega) (fun i b c r hd hi hc hI=> ?_) (fun b hI=> ?_)
  .left;by_cases h:c.name=n
   .refine⟨b++[c],?_,by simp;omega,by simp[h]⟩;simp(disch:=omega)only[Bz6,hc,h,EVM,EVC,EVR,Ay,simprocAttr]
    try simp[<-h]
   .refine⟨b,?_,by omega,by simp[h]⟩;simp(disch:=omega)only[Bz6,hc,h,EVM,EVC,EVR,Ay,simprocAttr]
  .simp(disch:=omega)only[Bz6,EVM,EVC,EVR,Ay,simprocAttr]
   try simp[Out.goes]
 rw[C8] at key;generalize allR z n=ar at*;simp(disch:=omega)only[Bz6,key,EVM,EVC,EVR,Ay,simprocAttr]
def Dq6 (r:Rec) (t:Int):S Aj4 1 [r.pv,.i .i64 t]=some [.b (decide (r.typ≠t))]:=by
 refine Jq4 (N:=1) rfl ?_;simp(disch:=omega)only[If2,EVM,EVC,EVR,Ay,simprocAttr]
 try simp
def Bb7 (l:List Rec) (t:Int) (hl:l.length<=1000000):S Aq1 2 [B4 l,.i .i64 t]=some [B4 (typedR l t)]:=by
 refine Jz3 (N:=1) rfl ?_;unfold typedR;by_cases h:t=255
 .rw[if_pos h];simp(disch:=omega)only[Gn3,h,EVM,EVC,EVR,Ay,simprocAttr]
 .rw[if_neg h];have k1:=Q0 l hl;have k2:=Xt l Aj4 [.i .i64 t] _ hl (fun r _=>Dq6 r t);have e:(l.filter fun x=> !decide (x.typ≠t))=l.filter fun r=>decide (r.typ=t):=by congr 1;funext x;simp
  rw[e] at k2;generalize (l.filter fun r=>decide (r.typ=t))=fl at*;simp(disch:=omega)only[Gn3,h,k1,k2,Eg,Jr,EVT,EVM,EVC,EVR,Ay,simprocAttr]
def Fq0 (t:Int):S Bn6 1 [.i .i64 t]=some [.b (Fq1 t)]:=by
 refine Jz2 (N:=1) rfl ?_;unfold Fq1;by_cases h1:t=5
 .subst h1;simp(disch:=omega)only[w6,EVM,EVC,EVR,Ay,simprocAttr];try simp
 .by_cases h2:t=47
  .subst h2;simp(disch:=omega)only[w6,EVM,EVC,EVR,Ay,simprocAttr];try simp
  .by_cases h3:t=46
   .subst h3;simp(disch:=omega)only[w6,EVM,EVC,EVR,Ay,simprocAttr];try simp
   .by_cases h4:t=255
    .subst h4;simp(disch:=omega)only[w6,EVM,EVC,EVR,Ay,simprocAttr];try simp
    .simp(disch:=omega)only[w6,h1,h2,h3,h4,EVM,EVC,EVR,Ay,simprocAttr];try simp[h1,h2,h3,h4]
def Q6 (l:List Rec) (t:Int):(typedR l t).length<=l.length:=by
 unfold typedR;split
 .exact B7 _
 .exact Dr _ _
def Dp5 (l:List Rec) (t:Int) (hl:l.length<=1000000):S Ec7 2 [B4 l,.i .i64 t]=some [(saysM l t).pv]:=by
 refine Kb8 (N:=1) rfl ?_;have k1:=Bb7 l 5 hl;have k2:=Bb7 l t hl;have k3:=Fq0 t;have hh:(typedR l 5).head? =l.find? fun r=>decide (r.typ=5):=by unfold typedR;rw[if_neg (by omega),List.head?_filter]
 have hl2:=Q6 l 5;have hl3:=Q6 l t;have tail:∀a b,T.ev S 1 Fw8 [B4 l,.i .i64 t,a,b]=some (.ret [(if typedR l t=[] then(⟨5,[],false,[],[]⟩:Res) else ⟨1,[],false,[],typedR l t⟩).pv]):=by
  intro a b;by_cases h:typedR l t=[]
  .rw[if_pos h];rw[h] at k2;simp(disch:=omega)only[Dj0,k2,EVM,EVC,EVR,Ay,simprocAttr]
   try rfl
  .rw[if_neg h];have hp:(0:Int)<((typedR l t).length:Int):=by have:=Cg.2 h;omega
   generalize typedR l t=tl at*;simp(disch:=omega)only[Dj0,k2,hp,EVM,EVC,EVR,Ay,simprocAttr]
 unfold saysM Cp6;cases hf:typedR l 5 with
 |nil=>
  rw[hf] at k1 hh;have e:(if Fq1 t=true then none else l.find? fun r=>decide (r.typ=5))=none:=by rw[<-hh];simp
  rw[e];simp(disch:=omega)only[↓tail,Dj0,k1,EVM,EVC,EVR,Ay,simprocAttr]
 |cons c r=>
  rw[hf] at k1 hh hl2;rw[List.head?_cons] at hh;rw[<-hh];have hp:(0:Int)<((c::r).length:Int):=by simp only[B9];omega
  rcases Bl (Fq1 t) with hd|hd
  .rw[hd] at k3;simp only[hd,if_true];simp(disch:=omega)only[↓tail,Dj0,k1,k3,hp,EVM,EVC,EVR,Ay,simprocAttr]
  .rw[hd] at k3;simp only[hd,B5,if_false];have hls:Jx 16 (B4 (c::r)) (.i .i64 0) (.i .i64 1)=some (B4 [c]):=by rw[J1 _ _ _ _ _ (by omega) (by omega) (by omega)];rfl
   have hix:H3 16 (B4 (c::r)) (.i .i64 0)=some c.pv:=by rw[Kc _ _ _ (by omega)];rfl
   generalize (c::r)=ll at*;simp(disch:=omega)only[Dj0,k1,k3,hp,hls,hix,EVM,EVC,EVR,Ay,simprocAttr]
def Ag7 (t:Int) (g r:List Rec):Out:=
 match Cp6 r t with
 |some c=> .ret [(Res.mk 2 [] false c.data.host [c]).pv]
 |none=> .yld 0 (B4 (g++typedR r t)::[.i .i64 0,.s [],.b false,.s [],B4 []])
def Af0 (c:Rec) (r:List Rec) (t:Int):typedR (c::r) t=if c.typ=t∨t=255 then c::typedR r t else typedR r t:=by
 unfold typedR;by_cases h:t=255
 .simp[h]
 .by_cases h2:c.typ=t
  .simp[h,h2]
  .simp[h,h2]
def Az9 (c:Rec) (r:List Rec) (t:Int):Cp6 (c::r) t=if Fq1 t=false∧c.typ=5 then some c else Cp6 r t:=by
 unfold Cp6;rcases Bl (Fq1 t) with h|h
 .simp[h]
 .by_cases h2:c.typ=5
  .simp[h,h2]
  .simp[h,h2]
def yz (l:List Rec) (t:Int) (hl:l.length<=1000000):S Aj1 2 [B4 l,.i .i64 t]=some [(saysM l t).pv]:=by
 refine Jj6 (N:=l.length+1) rfl ?_;have key:Em7.ev S (l.length+1) [B4 l,.i .i64 t]=some (Ag7 t [] l):=by
  refine Dh l (fun i (b:List Rec)=>[B4 b,.i .i64 (i:Int),.i .i64 0,.s [],.b false,.s [],B4 []]) (fun i b r=>Ag7 t b r) (fun i b=>b.length<=i) [] rfl (C3 _) (by omega) (fun i b c r hd hi hc hI=> ?_) (fun b hI=> ?_)
  .have pick:Fq1 t=false∧c.typ=5∨¬(Fq1 t=false∧c.typ=5):=Classical.em _;rcases pick with h|h
   .right;have hs:Ag7 t b (c::r)= .ret [(Res.mk 2 [] false c.data.host [c]).pv]:=by unfold Ag7;rw[Az9,if_pos h]
    rw[hs];refine⟨?_,rfl⟩;obtain⟨h1,h2⟩:=h;simp only[Fq1,Hb,decide_eq_false_iff_not] at h1;obtain⟨⟨⟨d1,d2⟩,d3⟩,d4⟩:=h1;simp(disch:=omega)only[Pm,hc,h2,d1,d2,d3,d4,EVM,EVC,EVR,Ay,simprocAttr]
   .left;have step:Bv9.ev S (l.length+1) ([B4 l,.i .i64 t]++[B4 b,.i .i64 (i:Int),.i .i64 0,.s [],.b false,.s [],B4 []])=some (.yld 1 [B4 (if c.typ=t∨t=255 then b++[c] else b),.i .i64 ((i:Int)+1),.i .i64 0,.s [],.b false,.s [],B4 []]):=by
     have h':¬((((c.typ=5∧¬t=5)∧¬t=47)∧¬t=46)∧¬t=255):=by rintro⟨⟨⟨⟨a1,a2⟩,a3⟩,a4⟩,a5⟩;exact h ⟨by simp[Fq1,a2,a3,a4,a5],a1⟩
     by_cases h3:t=255
     .rw[if_pos (.inr h3)];by_cases h4:c.typ=5<;>by_cases h6:c.typ=255<;>simp(disch:=omega)only[Pm,hc,h3,h4,h6,EVM,EVC,EVR,Ay,simprocAttr]<;>(try simp)<;>(try omega)
     .by_cases h2:c.typ=t
      .rw[if_pos (.inl h2)];by_cases h4:t=5
       .simp(disch:=omega)only[Pm,hc,h2,h4,EVM,EVC,EVR,Ay,simprocAttr]
       .by_cases h5:c.typ=5
        .rw[h5] at h2;exact absurd h2.symm h4
        .simp(disch:=omega)only[Pm,hc,h2,h4,EVM,EVC,EVR,Ay,simprocAttr]
      .rw[if_neg (by simp[h2,h3])];by_cases h4:c.typ=5
       .have h5:t=47∨t=46:=by
         by_cases a3:t=47
         .exact .inl a3
         .by_cases a4:t=46
          .exact .inr a4
          .exact absurd ⟨⟨⟨⟨h4,fun e=>h2 (by omega)⟩,a3⟩,a4⟩,h3⟩ h'
        have h6:¬t=5:=by omega
        rcases h5 with h5|h5
        .simp(disch:=omega)only[Pm,hc,h2,h3,h4,h5,h6,EVM,EVC,EVR,Ay,simprocAttr]
        .simp(disch:=omega)only[Pm,hc,h2,h3,h4,h5,h6,EVM,EVC,EVR,Ay,simprocAttr]
       .simp(disch:=omega)only[Pm,hc,h2,h3,h4,EVM,EVC,EVR,Ay,simprocAttr]
    refine⟨if c.typ=t∨t=255 then b++[c] else b,step,by split<;>(try rw[Br,Dx])<;>omega,?_⟩;unfold Ag7;rw[Az9,if_neg h,Af0];by_cases hq:c.typ=t∨t=255
    .rw[if_pos hq,if_pos hq,Cj];rfl
    .rw[if_neg hq,if_neg hq]
  .simp(disch:=omega)only[Pm,EVM,EVC,EVR,Ay,simprocAttr];have ha:Cp6 [] t=none:=by unfold Cp6;split<;>rfl
   have hb:typedR [] t=[]:=by unfold typedR;split<;>rfl
   unfold Ag7;rw[ha,hb,Eb];exact⟨rfl,rfl⟩
 unfold Ag7 at key;unfold saysM;have hl3:=Q6 l t;cases ha:Cp6 l t with
 |some c=>
  rw[ha] at key;simp only at key;simp(disch:=omega)only[Pm,key,EVM,EVC,EVR,Ay,simprocAttr]
 |none=>
  rw[ha] at key;simp only[C8] at key;by_cases h:typedR l t=[]
  .rw[h] at key;simp only[h,if_true];simp(disch:=omega)only[Pm,key,EVM,EVC,EVR,Ay,simprocAttr]
   try rfl
  .simp only[h,if_false];have hp:(0:Int)<((typedR l t).length:Int):=by have:=Cg.2 h;omega
   generalize typedR l t=tl at*;simp(disch:=omega)only[Pm,key,hp,EVM,EVC,EVR,Ay,simprocAttr]
def anB (x y:Int):Int:=IntKind.u64.wrap ((BitVec.ofInt IntKind.u64.bits x &&& ~~~ BitVec.ofInt IntKind.u64.bits y).toNat:Int)
def adB (x y:Int):Int:=IntKind.u64.wrap ((BitVec.ofInt IntKind.u64.bits x &&& BitVec.ofInt IntKind.u64.bits y).toNat:Int)
def orB (x y:Int):Int:=IntKind.u64.wrap ((BitVec.ofInt IntKind.u64.bits x|||BitVec.ofInt IntKind.u64.bits y).toNat:Int)
def Hv8 (x y:Int):X.bin .andNot (.i .u64 x) (.i .u64 y)=some (.i .u64 (anB x y)):=by rw[Ej];rfl
def Hv9 (x y:Int):X.bin .and (.i .u64 x) (.i .u64 y)=some (.i .u64 (adB x y)):=by rw[Qh];rfl
def Ez6 (x y:Int):X.bin .or (.i .u64 x) (.i .u64 y)=some (.i .u64 (orB x y)):=by rw[Hv5];rfl
def j6 (l:List Int) (hk:∀t∈l,knw t=true) (hl:l.length<=1000000):S c7 1 [Is l]=some [.i .u64 (l.foldl bitO 0)]:=by refine Jz9 (N:=1) rfl ?_;have h:=Ff5 l hk hl;generalize l.foldl bitO 0=v at*;simp(disch:=omega)only[Ig5,h,Ax,simprocAttr]
def vj:Int:=211106232532992
def Ac3:Int:=8796093022212
def Jd5:S c7 1 [.l 1 [.i .i64 47,.i .i64 46]]=some [.i .u64 vj]:=by
 have:=j6 [47,46] (by decide) (by decide);have e:[47,46].foldl bitO 0=vj:=by kernel_rfl
 rw[e] at this;exact this
def Jd4:S c7 1 [.l 1 [.i .i64 2,.i .i64 43]]=some [.i .u64 Ac3]:=by
 have:=j6 [2,43] (by decide) (by decide);have e:[2,43].foldl bitO 0=Ac3:=by kernel_rfl
 rw[e] at this;exact this
def tyO (z:Zone) (n:List UInt8):Int:=anB ((typesR z.recs n).foldl bitO 0) vj
def chBits (z:Zone) (n:List UInt8):Int:=orB (if n∈cutsN z then adB (tyO z n) Ac3 else tyO z n) vj
def K1 (z:Zone) (ttl:Int) (n:List UInt8):Option Rec:=
 if tyO z n=0 then none else some ⟨n,47,ttl,⟨false,0,0,z.origin,[],[],0,0,0,0,0,0,chBits z n⟩⟩
def chain0 (z:Zone) (ttl:Int):List Rec:=(namesN z).filterMap (K1 z ttl)
def minE (z:Zone):Int:=match findR z.recs z.origin 6 with|[]=>0|r::_=>r.data.e
def Hn1 (h:List UInt8) (r:Rec):Rec:={r with data:={r.data with host:=h}}
def lnk (g:List Rec) (i:Nat):List Rec:=
 if 0<i then match g[i - 1]?,g[i]? with
  |some a,some b=>g.set (i - 1) (Hn1 b.name a)
  |_,_=>g
 else g
def Av1:Nat->Nat->List Rec->List Rec
 |0,_,g=>g
 |k+1,i,g=>Av1 k (i+1) (lnk g i)
def chainN (z:Zone):List Rec:=Av1 (chain0 z (minE z)).length 0 (chain0 z (minE z))
def dx (g:List Rec) (i:Nat):(lnk g i).length=g.length:=by
 unfold lnk;split
 .split
  .rw[Ih]
  .rfl
 .rfl
def In2 (l:List Rec) (j:Nat) (h:List UInt8) (x:Rec) (hx:l[j]? =some x):Mx 16 6 [.s h] (B4 l) (.i .i64 (j:Int))=some (B4 (l.set j (Hn1 h x))):=by
 have h1:=(Bp.1 hx).1;have h3:(l.map Rec.pv)[j]? =some x.pv:=by rw[Dq,hx];rfl
 have h0:(0:Int)<=(j:Int):=by omega
 simp only[Mx,B4,h0,Ef,h3,and_self,if_true,B3];have h4:P1 x.pv 6 [.s h]=some (Hn1 h x).pv:=rfl;rw[h4];simp[List.map_set]
def Gl5 (z:Zone) (ttl:Int) (s:List Rec) (hz:z.wf) (hl:z.recs.length<=1000000) (cl:(cutsN z).length<=1000000) (hn:(namesN z).length<=1000000) (hs:∃r,s=[r]∧r.data.e=ttl) (p1:PV) (N:Nat) (hN:(namesN z).length<N):
  Hj2.ev S N [z.pv,p1,.i .u64 vj,.i .u64 Ac3,B4 s,Ch (cutsN z),Ch (namesN z)]=some (.yld 0 [B4 (chain0 z ttl)]):=by
 obtain⟨r0,rfl,hr0⟩:=hs;have hor:(chain0 z ttl)=[]++(namesN z).filterMap (K1 z ttl):=rfl;rw[hor];have ki:=fun n=>yc (cutsN z) n cl;have kt:=fun n=>Ff3 z.recs n hl;refine Dh (N:=N) (namesN z) (fun i (g:List Rec)=>[B4 g,.i .i64 (i:Int)]) (fun i g r=> .yld 0 [B4 (g++r.filterMap (K1 z ttl))]) (fun i g=>g.length<=i) [] rfl (C3 _) hN (fun i g c r hd hi hc hI=> ?_) (fun g hI=> ?_)
 .left;have e1:=Hv8 ((typesR z.recs c).foldl bitO 0) vj;have e2:anB ((typesR z.recs c).foldl bitO 0) vj=tyO z c:=rfl;rw[e2] at e1;have kt:=kt c;have ki:=ki c;have eb:chBits z c=orB (if c∈cutsN z then adB (tyO z c) Ac3 else tyO z c) vj:=rfl;have hil:(i:Int)<((namesN z).length:Int):=by omega
  generalize (typesR z.recs c).foldl bitO 0=ty at*;by_cases h0:tyO z c=0
  .have hci:K1 z ttl c=none:=by unfold K1;rw[if_pos h0]
   refine⟨g,?_,by omega,by rw[Y5,hci]⟩;rw[h0] at e1;generalize namesN z=nn at*;generalize cutsN z=cc at*;simp(disch:=omega)only[ng,hc,hil,kt,ki,e1,Ax,simprocAttr]
  .have hci:K1 z ttl c=some ⟨c,47,ttl,⟨false,0,0,z.origin,[],[],0,0,0,0,0,0,chBits z c⟩⟩:=by unfold K1;rw[if_neg h0]
   have ho:=Ez6 (if c∈cutsN z then adB (tyO z c) Ac3 else tyO z c) vj;rw[<-eb] at ho;refine⟨g++[⟨c,47,ttl,⟨false,0,0,z.origin,[],[],0,0,0,0,0,0,chBits z c⟩⟩],?_,by simp;omega,by rw[Y5,hci,Cj];rfl⟩;have ea:=Hv9 (tyO z c) Ac3;generalize chBits z c=bits at*;generalize tyO z c=t at*;generalize adB t Ac3=u at*;generalize namesN z=nn at*;by_cases h1:c∈cutsN z
   .rw[if_pos h1] at ho;generalize cutsN z=cc at*;simp(disch:=omega)only[ng,hc,hil,kt,ki,e1,ea,ho,h0,h1,hr0,Ax,simprocAttr]
   .rw[if_neg h1] at ho;generalize cutsN z=cc at*;simp(disch:=omega)only[ng,hc,hil,kt,ki,e1,ea,ho,h0,h1,hr0,Ax,simprocAttr]
 .generalize namesN z=nn at*;simp(disch:=omega)only[ng,Fq,Ax,simprocAttr];simp[Out.goes]
def Gl4 (c0:List Rec) (hl:c0.length<=1000000) (N:Nat) (hN:c0.length<N) (p0 p1 p2 p3 p4 p5 p6:PV):
  Gr6.ev S N [p0,p1,p2,p3,p4,p5,p6,B4 c0]=some (.yld 0 [B4 (Av1 c0.length 0 c0)]):=by
 refine Dh (N:=N) c0 (fun i (g:List Rec)=>[B4 g,.i .i64 (i:Int)]) (fun i g r=> .yld 0 [B4 (Av1 r.length i g)]) (fun i g=>g.length=c0.length) c0 rfl rfl hN (fun i g c r hd hi hc hI=> ?_) (fun g hI=> ?_)
 .left;refine⟨lnk g i,?_,by rw[dx];exact hI,rfl⟩;have hil:(i:Int)<(c0.length:Int):=by omega
  unfold lnk;by_cases h0:0<i
  .have a1:g[i - 1]? =some (g[i - 1]'(by omega)):=Bt (by omega);have a2:g[i]? =some (g[i]'(by omega)):=Bt (by omega);generalize g[i - 1]'(by omega)=a at*;generalize g[i]'(by omega)=b at*;rw[if_pos h0,a1,a2];simp only;have e1:(i:Int) - 1=((i - 1:Nat):Int):=by omega
   have e2:IntKind.i64.wrap ((i:Int) - 1)=((i - 1:Nat):Int):=by rw[w64 (by omega) (by omega)];exact e1
   have e3:=In2 g (i - 1) b.name a a1;have h0':(0:Int)<(i:Int):=by omega
   simp(disch:=omega)only[ng,hil,h0',e1,e2,e3,a1,a2,Ax,simprocAttr]
  .have h0':¬(0:Int)<(i:Int):=by omega
   rw[if_neg h0];simp(disch:=omega)only[ng,hil,h0',Ax,simprocAttr]
 .simp(disch:=omega)only[ng,Fq,Ax,simprocAttr];simp[Out.goes,Av1]
def Rr (z:Zone) (ttl:Int):(chain0 z ttl).length<=(namesN z).length:=List.length_filterMap_le _ _
def Gg1 (z:Zone) (hl:z.recs.length<=1000):(cutsN z).length<=1000000:=by have:=Ub ((z.recs.filter (E1 z)).map Rec.name);have h2:=Dr (E1 z) z.recs;rw[Dt] at this;unfold cutsN;omega
def Fg9 (z:Zone) (hz:z.wf) (hl:z.recs.length<=1000):S Gw5 1 [z.pv]=some (if Jk z=0 then [B4 (chainN z),.i .i64 0] else [B4 [],.i .i64 13]):=by
 have hn:=Jb z hl;have hc:=Gg1 z hl;have hcl:=Rr z (minE z);refine Kc2 (N:=(namesN z).length+1) rfl ?_;have k1:=Fg8 z hz (by omega);by_cases h:Jk z=0
 .rw[if_pos h];rw[h] at k1;have ho:=Qf h;obtain⟨s,es⟩:=m9.1 ho.soa;have k2:=Kb z z.origin 6 (by omega);have k3:=By9 z hz (by omega);have k4:=Z1 z hz (by omega);have em:minE z=s.data.e:=by unfold minE;rw[es]
  have l0:=Gl5 z (minE z) [s] hz (by omega) hc hn ⟨s,rfl,em.symm⟩ (.i .i64 0) ((namesN z).length+1) (by omega);have l1:=Gl4 (chain0 z (minE z)) (by omega) ((namesN z).length+1) (by omega);rw[es] at k2;have ec:Av1 (chain0 z (minE z)).length 0 (chain0 z (minE z))=chainN z:=rfl;rw[ec] at l1;generalize chainN z=cn at*;generalize chain0 z (minE z)=c0 at*;generalize cutsN z=cc at*;generalize namesN z=nn at*;have o1:=Jd5;have o2:=Jd4;have q1:L4 1 [.i .i64 47,.i .i64 46]=some (.l 1 [.i .i64 47,.i .i64 46]):=rfl;have q2:L4 1 [.i .i64 2,.i .i64 43]=some (.l 1 [.i .i64 2,.i .i64 43]):=rfl;simp(disch:=omega)only[ng,k1,k2,k3,k4,l0,l1,o1,o2,q1,q2,E4,Fc,Ax,simprocAttr]
 .rw[if_neg h];simp(disch:=omega)only[ng,k1,h,E4,Fc,Ax,simprocAttr]
def Q4 {n:List UInt8} (h:vld n=true):under n n=true:=C5.2 ⟨h,h,List.suffix_refl _⟩
def jq {a b:List UInt8} (h1:under a b=true) (h2:under b a=true):a=b:=by refine Lg h1 ?_;exact(C5.1 h2).2.2.length_le
def Av9 {z:Zone} {r:Rec}:E1 z r=true↔r.typ=2∧r.name≠z.origin∧under r.name z.origin=true:=by unfold E1 Fs;simp only[Bs,decide_eq_true_eq,ne_eq]
def Nh {l:List Rec} {n:List UInt8} {t:Int} {r:Rec}:r∈findR l n t↔r∈l∧r.name=n∧r.typ=t:=by unfold findR;rw[Cs];simp only[isK,Bs,decide_eq_true_eq]
def ZOk.soaR {z:Zone} (h:ZOk z):∃r∈z.recs,r.name=z.origin∧r.typ=6:=by
 have:=h.soa;cases e:findR z.recs z.origin 6 with
 |nil=>rw[e] at this;cases this
 |cons r l=>
  have:r∈findR z.recs z.origin 6:=by rw[e];exact .head _
  exact⟨r,(Nh.1 this).1,(Nh.1 this).2⟩
def Cg4 (z:Zone):Oc z z.origin=false:=by
 cases h:Oc z z.origin with
 |false=>rfl
 |true=>
  unfold Oc at h;simp only[Dc,Bs,decide_eq_true_eq] at h;obtain⟨r,_,⟨h1,_⟩,h3⟩:=h;obtain⟨_,h4,h5⟩:=Av9.1 h1;exact absurd (jq h5 h3) h4
def ZOk.exO {z:Zone} (h:ZOk z):exB z z.origin=true:=by obtain⟨r,hr,e,_⟩:=h.soaR;have u:=Q4 h.origin;exact(Vf z _).2 ⟨r,hr,by rw[e];exact u,by rw[e];exact Cg4 z,by rw[e];exact u,u⟩
def Gd9 {z:Zone} {n:List UInt8} (h:exB z n=true):under n z.origin=true:=by obtain⟨_,_,_,_,_,h⟩:=(Vf z n).1 h;exact h
def Kr0 {z:Zone} (h:ZOk z) {n:List UInt8} (hu:under n z.origin=true):encN z n≠[]∧under n (encN z n)=true∧exB z (encN z n)=true:=by
 unfold encN;rw[if_pos hu];cases e:Cr9 z n with
 |none=>
  unfold Cr9 at e;rw[List.find?_eq_none] at e;exact absurd h.exO (e _ ((L2 hu).2 ⟨hu,Q4 h.origin⟩))
 |some x=>
  obtain⟨h1,h2⟩:=Qw hu e;exact⟨Bb4 (C5.1 h1).2.1,h1,h2⟩
def Iq3 {z:Zone} {n x:List UInt8} (hu:under n x=true) (hx:exB z x=true):(lbl x).length<=(lbl (encN z n)).length:=by
 have hne:=Bb4 (C5.1 hu).2.1;have h0:=Az5 z n;obtain⟨h1,h2⟩:=Zm n (namesN z) [] (.inl rfl);rw[h0] at h1 h2;have hm:x∈namesN z:=by have:=Xj z x;rw[hx] at this;simpa using this
 by_cases hb:encN z n=[]
 .have:=(h1 hb).2 x hm;rw[hu] at this;cases this
 .exact(h2 hb).2.2.2 x hm hu
def Af5 {a b c:List (List UInt8)} (h1:a<:+c) (h2:b<:+c) (h:a.length<=b.length):a<:+b:=by exact List.suffix_of_suffix_length_le h1 h2 h
def Ay5 {z:Zone} {n:List UInt8} (ho:ZOk z) (h:cutN z n≠[]):
  under n (cutN z n)=true∧cutN z n≠z.origin∧(findR z.recs (cutN z n) 2).length≠0∧encN z n=cutN z n∧under n z.origin=true∧exB z (cutN z n)=true:=by
 obtain⟨_,h2⟩:=Tz z n z.recs [] (.inl rfl);obtain⟨g1,g2,_,g4⟩:=h2 h;change under n (cutN z n)=true at g1;change cutN z n=[]∨∃r∈z.recs,E1 z r=true∧r.name=cutN z n at g2;change∀r∈z.recs,E1 z r=true->under n r.name=true->(lbl (cutN z n)).length<=(lbl r.name).length at g4;obtain⟨r,hr,hc,hn⟩:=g2.resolve_left h;generalize cutN z n=c at*;obtain⟨c1,c2,c3⟩:=Av9.1 hc;rw[hn] at c2 c3;have hu:=Q3 g1 c3;have hh:Oc z c=false:=by
  cases e:Oc z c with
  |false=>rfl
  |true=>
   unfold Oc at e;simp only[Dc,Bs,decide_eq_true_eq] at e;obtain⟨x,hx,⟨x1,x2⟩,x3⟩:=e;have:=g4 x hx x1 (Q3 g1 x3);exact absurd (Lg x3 this).symm x2
 have hv:=(C5.1 c3).1;have hex:exB z c=true:=(Vf z c).2 ⟨r,hr,by rw[hn];exact c3,by rw[hn];exact hh,by rw[hn];exact Q4 hv,c3⟩;refine⟨g1,c2,?_,?_,hu,hex⟩
 .have:r∈findR z.recs c 2:=Nh.2 ⟨hr,hn,c1⟩;intro e;rw[List.length_eq_zero_iff.1 e] at this;cases this
 .obtain⟨_,e1,e2⟩:=(Kr0 ho hu);have hm:=Iq3 g1 hex;generalize encN z n=e at*;obtain⟨_,_,s1⟩:=C5.1 g1;obtain⟨_,ve,s2⟩:=C5.1 e1;have s3:=Af5 s1 s2 hm;have ec:under e c=true:=C5.2 ⟨ve,hv,s3⟩;by_cases hl:(lbl e).length<=(lbl c).length
  .exact Lg ec hl
  .exfalso;obtain⟨x,hx,x1,x2,x3,_⟩:=(Vf z e).1 e2;have hxc:=Q3 x3 ec;have:Oc z x.name=true:=by unfold Oc;simp only[Dc,Bs,decide_eq_true_eq];refine⟨r,hr,⟨hc,fun q=> ?_⟩,by rw[hn];exact hxc⟩;have:=(C5.1 x3).2.2.length_le;rw[<-q,hn] at this;exact hl this
   rw[x2] at this;cases this
def bv (x:Int):BitVec 64:=BitVec.ofInt 64 x
def Iw6 (v:BitVec 64):bv (IntKind.u64.wrap (v.toNat:Int))=v:=by have h:=v.isLt;rw[Gn4 (by omega) (by omega)];unfold bv;rw[BitVec.ofInt_natCast,BitVec.ofNat_toNat,BitVec.setWidth_eq]
def Kn5 (x y:Int):bv (orB x y)=bv x|||bv y:=Iw6 _
def Ef4 (g:List Rec) (i j:Nat) (a:Rec) (hi:i<g.length) (ha:g[j]? =some a):(lnk g i)[j]? =some (if 0<i∧j=i - 1 then Hn1 (g[i]'hi).name a else a):=by
 unfold lnk;by_cases h0:0<i
 .have a1:g[i - 1]? =some (g[i - 1]'(by omega)):=Bt (by omega);have a2:g[i]? =some (g[i]'hi):=Bt hi;rw[if_pos h0,a1,a2];simp only;by_cases hj:j=i - 1
  .subst hj;rw[if_pos ⟨h0,rfl⟩,N1 (by omega)];rw[a1] at ha;injection ha with ha;rw[ha]
  .rw[if_neg (by omega),Tp (by omega),ha]
 .rw[if_neg h0,if_neg (by omega),ha]
def nxt (g:List Rec) (j:Nat) (a:Rec):Rec:=match g[j+1]? with
 |some b=>Hn1 b.name a
 |none=>a
def Bp8:∀(k i:Nat) (g:List Rec),g.length=i+k->∀(j:Nat) (a:Rec),g[j]? =some a->(Av1 k i g)[j]? =some (if i<=j+1 then nxt g j a else a)
 |0,i,g,hl,j,a,ha=>by
  show g[j]? =_;rw[ha];by_cases h:i<=j+1
  .rw[if_pos h];have:g[j+1]? =none:=by rw[Ss];omega
   unfold nxt;rw[this]
  .rw[if_neg h]
 |k+1,i,g,hl,j,a,ha=>by
  show (Av1 k (i+1) (lnk g i))[j]? =_;have hi:i<g.length:=by omega
  have hj:=Ef4 g i j a hi ha;rw[Bp8 k (i+1) (lnk g i) (by rw[dx];omega) j _ hj];by_cases h1:0<i∧j=i - 1
  .rw[if_neg (by omega),if_pos h1,if_pos (by omega)];unfold nxt;have e:j+1=i:=by omega
   rw[e,Bt hi]
  .rw[if_neg h1];by_cases h2:i<=j+1
   .have h3:i+1<=j+1:=by omega
    rw[if_pos h2,if_pos h3];unfold nxt;cases hb:g[j+1]? with
    |none=>
     have:(lnk g i)[j+1]? =none:=by rw[Ss] at hb ⊢;rw[dx];exact hb
     rw[this]
    |some b=>
     rw[Ef4 g i (j+1) b hi hb,if_neg (by omega)]
   .rw[if_neg h2,if_neg (by omega)]
def Bp7:∀(k i:Nat) (g:List Rec),(Av1 k i g).length=g.length
 |0,_,_=>rfl
 |k+1,i,g=>by show (Av1 k (i+1) (lnk g i)).length=_;rw[Bp7,dx]
def Xl (z:Zone):(chainN z).length=(chain0 z (minE z)).length:=Bp7 _ _ _
def Cn5 {z:Zone} {j:Nat} {a:Rec} (h:(chain0 z (minE z))[j]? =some a):(chainN z)[j]? =some (nxt (chain0 z (minE z)) j a):=by unfold chainN;rw[Bp8 _ 0 _ (by omega) j a h,if_pos (by omega)]
def Cn6 {z:Zone} {ttl:Int} {a:Rec} (h:a∈chain0 z ttl):∃n∈namesN z,tyO z n≠0∧a=⟨n,47,ttl,⟨false,0,0,z.origin,[],[],0,0,0,0,0,0,chBits z n⟩⟩:=by
 unfold chain0 at h;rw[List.mem_filterMap] at h;obtain⟨n,hn,ha⟩:=h;unfold K1 at ha;split at ha
 .cases ha
 .rename_i h0;injection ha with ha;exact⟨n,hn,h0,ha.symm⟩
def tx (z:Zone) (ttl:Int):(chain0 z ttl).Pairwise fun a b=>ltN a.name b.name:=by
 unfold chain0;have h:(namesN z).Pairwise ltN:=N7 _;generalize namesN z=l at*
 induction l with
 |nil=>exact .nil
 |cons n l ih=>
  obtain⟨h1,h2⟩:=Cd.1 h;rw[Y5];split
  .exact ih h2
  .rename_i b hb;refine Cd.2 ⟨fun w hw=> ?_,ih h2⟩;rw[List.mem_filterMap] at hw;obtain⟨m,hm,hw⟩:=hw;have e:∀{x:List UInt8} {y:Rec},K1 z ttl x=some y->y.name=x:=by
    intro x y hy;unfold K1 at hy;split at hy
    .cases hy
    .injection hy with hy;rw[<-hy]
   rw[e hb,e hw];exact h1 m hm
structure ChainOk (z:Zone) (l:List Rec):Prop where
 pos:0<l.length
 first:∀a,l[0]? =some a->a.name=z.origin
 last:∀a,l[l.length - 1]? =some a->a.data.host=z.origin
 each:∀a∈l,a.typ=47∧bit a.data.bits 47=1∧bit a.data.bits 46=1∧(∃r∈z.recs,r.name=a.name)∧under a.name z.origin=true
 next:∀i a b,l[i]? =some a->l[i+1]? =some b->a.data.host=b.name∧ltN a.name b.name
def Bf5 (g:List Rec) (j:Nat) (a:Rec):(nxt g j a).name=a.name:=by unfold nxt;split<;>rfl
def Xm {z:Zone} {j:Nat} {b:Rec} (h:(chainN z)[j]? =some b):∃a,(chain0 z (minE z))[j]? =some a∧b=nxt (chain0 z (minE z)) j a:=by have hlt:=(Bp.1 h).1;rw[Xl] at hlt;have e:=Bt hlt;refine⟨_,e,?_⟩;rw[Cn5 e] at h;injection h with h;exact h.symm
def Ns (n:List UInt8) (r:Rec):Rec:={r with name:=n}
def Zk (l:List Rec) (n:List UInt8) (i:Nat) (c:Rec) (r g:List Rec) (hd:l.drop i=c::r) (hi:i<l.length) (hc:l[i]? =some c) (hg:g=(l.take i).map (Ns n)++l.drop i):
  g[i]? =some c∧g.length=l.length∧g.set i {c with name:=n}=(l.take (i+1)).map (Ns n)++l.drop (i+1):=by
 have hA:((l.take i).map (Ns n)).length=i:=by rw[Dt,Cw];omega
 have hd1:l.drop (i+1)=r:=by rw[<-Ey (i:=1) (j:=i),hd];rfl
 have ht:(l.take (i+1)).map (Ns n)=(l.take i).map (Ns n)++[Ns n c]:=by rw[Dp,hc,Jr8];rfl
 rw[ht,hd1];rw[hd] at hg;have hlen:l.length=i+(r.length+1):=by have:=congrArg List.length hd;rw[Dk,B9] at this;omega
 generalize (l.take i).map (Ns n)=A at*;subst hg;refine⟨?_,?_,?_⟩
 .rw[Cb (by omega),hA];simp
 .rw[Br,B9,hA];omega
 .rw[Q1 _ _ (by omega),hA];simp[Ns]
def Hx3 (z:Zone) (q:Ques) (l:List Rec) (p2 p3 p4 p5:PV) (N:Nat) (hN:l.length<N) (hl:l.length<=1000000):
  Gt8.ev S N [z.pv,q.pv,p2,p3,p4,p5,B4 l]=some (.yld 0 [B4 (l.map (Ns q.name))]):=by
 refine Dh l (fun i (g:List Rec)=>[B4 g,.i .i64 (i:Int)]) (fun i g r=> .yld 0 [B4 (l.map (Ns q.name))]) (fun i g=>g=(l.take i).map (Ns q.name)++l.drop i) l (by simp(disch:=omega)only[Aw,simprocAttr]) (by simp) hN (fun i g c r hd hi hc hI=> ?_) (fun g hI=> ?_)
 .left;obtain⟨h1,h2,h3⟩:=Zk l q.name i c r g hd hi hc hI;refine⟨g.set i {c with name:=q.name},?_,h3,rfl⟩;have hs:Mx 16 0 [.s q.name] (B4 g) (.i .i64 (i:Int))=some (B4 (g.set i {c with name:=q.name})):=by have:=Uz g .i64 (i:Int) q.name c (by omega) (by rw[Ef];exact h1);rwa[Ef] at this
  generalize g.set i {c with name:=q.name}=g' at*;simp(disch:=omega)only[Cw8,h1,hs,EVM,EVC,EVR,Ay,simprocAttr]
 .have e:g=l.map (Ns q.name):=by rw[hI];simp
  rw[<-e];simp(disch:=omega)only[Cw8,EVM,EVC,EVR,Ay,simprocAttr]
  try simp[Out.goes]
def oq (z:Zone) (q:Ques):Option Res:=
 if starOk (encN z q.name)=true∧allR z (starN (encN z q.name))≠[] then
  some {saysM ((allR z (starN (encN z q.name))).map (Ns q.name)) q.typ with owner:=starN (encN z q.name),wild:=true}
 else none
def R3 (z:Zone) (n:List UInt8):(allR z n).length<=z.recs.length:=Dr _ _
def Rh (z:Zone) (n:List UInt8):(encN z n).length<=254:=by
 unfold encN;rcases Bl (under n z.origin) with hu|hu
 .rw[if_pos hu];cases h:Cr9 z n with
  |none=>simp
  |some e=>exact Hs (C5.1 (Qw hu h).1).2.1
 .rw[if_neg (by simp[hu])];simp
def Cx3:starOk []=false:=by decide
def Hx2 (z:Zone) (q:Ques) (hz:z.wf) (hl:z.recs.length<=1000) (hq:q.name.length<=9223372036854775807):S Gw3 2 [z.pv,q.pv]=some (O0 (oq z q)):=by
 refine Kb6 (N:=2000) rfl ?_;have k1:=Pg z q.name hz hl hq;have el:=Rh z q.name;have k2:=uh (encN z q.name) (by omega);have k3:=Bf7 z (starN (encN z q.name)) (by omega);have al:=R3 z (starN (encN z q.name));unfold oq;by_cases h1:encN z q.name=[]
 .rw[h1] at k1 ⊢;rw[Cx3,if_neg (by simp)];simp(disch:=omega)only[Cw8,k1,O0,EVM,EVC,EVR,Ay,simprocAttr]
  try simp
 .have h2:decide (encN z q.name≠[])=true:=by simp[h1]
  rw[h2] at k1;rcases Bl (starOk (encN z q.name)) with h3|h3
  .rw[h3] at k2;by_cases h4:allR z (starN (encN z q.name))=[]
   .rw[if_neg (by simp[h4])];rw[h4] at k3;simp(disch:=omega)only[Cw8,k1,k2,k3,O0,EVM,EVC,EVR,Ay,simprocAttr]
    try simp
   .rw[if_pos ⟨h3,h4⟩];have h5:¬((allR z (starN (encN z q.name))).length:Int)=0:=by have:=Cg.2 h4;omega
    have k4:=fun p2 p3 p4 p5=>Hx3 z q (allR z (starN (encN z q.name))) p2 p3 p4 p5 2000 (by omega) (by omega);have k5:=Dp5 ((allR z (starN (encN z q.name))).map (Ns q.name)) q.typ (by rw[Dt];omega);generalize (allR z (starN (encN z q.name))).map (Ns q.name)=ml at*;generalize allR z (starN (encN z q.name))=al at*;simp(disch:=omega)only[Cw8,k1,k2,k3,k4,k5,h5,O0,EVM,EVC,EVR,Ay,simprocAttr]
  .rw[h3] at k2;rw[if_neg (by simp[h3])];generalize allR z (starN (encN z q.name))=al at*;simp(disch:=omega)only[Cw8,k1,k2,k3,O0,EVM,EVC,EVR,Ay,simprocAttr]
   try simp
def ql (z:Zone) (q:Ques):Res:=
 match Bd6 z q.name with
 |some x=>x
 |none=>if exB z q.name=true then {saysM (allR z q.name) q.typ with owner:=q.name} else(oq z q).getD ⟨6,q.name,false,[],[]⟩
def findM (z:Zone) (q:Ques):Res:=
 if under q.name z.origin=true then
  if cutN z q.name≠[]∧(cutN z q.name≠q.name∨q.typ≠43) then ⟨4,cutN z q.name,false,[],findR z.recs (cutN z q.name) 2⟩ else ql z q
 else Kj0
def Et7 (z:Zone) (q:Ques) (hz:z.wf) (hl:z.recs.length<=1000) (hq:q.name.length<=9223372036854775807):S Ed5 2 [z.pv,q.pv]=some [(findM z q).pv]:=by
 refine Kf8 (N:=1) rfl ?_;have g1:=hz.origin;unfold Mw at g1;have k0:=F9 q.name z.origin hq g1;have k1:=Ct2 z q.name hz (by omega) hq;have k2:=Kb z (cutN z q.name) 2 (by omega);have k4:=ic z q.name hz hl;have k5:=Bf7 z q.name (by omega);have al:=R3 z q.name;have k6:=Dp5 (allR z q.name) q.typ (by omega);have k7:=Hx2 z q hz hl hq;unfold findM;rcases Bl (under q.name z.origin) with hu|hu
 .rw[if_pos hu];rw[hu] at k0;have k3:=vm z q.name hz (by omega) hu;have tail:∀p3 p4,T.ev S 1 Bq1 [z.pv,q.pv,.b true,p3,p4]=some (.ret [(ql z q).pv]):=by
   intro p3 p4;unfold ql;cases hr:Bd6 z q.name with
   |some x=>
    rw[hr] at k3;simp only[O0] at k3;simp(disch:=omega)only[oj,k3,EVM,EVC,EVR,Ay,simprocAttr]
   |none=>
    rw[hr] at k3;simp only[O0] at k3;rcases Bl (exB z q.name) with he|he
    .rw[he] at k4;simp only[he,if_true];generalize saysM (allR z q.name) q.typ=sm at*;generalize allR z q.name=ar at*;simp(disch:=omega)only[oj,k3,k4,k5,k6,EVM,EVC,EVR,Ay,simprocAttr]
    .rw[he] at k4;simp only[he,B5,if_false];cases hw:oq z q with
     |some x=>
      rw[hw] at k7;simp only[O0] at k7;simp(disch:=omega)only[oj,k3,k4,k7,EVM,EVC,EVR,Ay,simprocAttr]
      try rfl
     |none=>
      rw[hw] at k7;simp only[O0] at k7;simp(disch:=omega)only[oj,k3,k4,k7,EVM,EVC,EVR,Ay,simprocAttr]
      try rfl
  by_cases h1:cutN z q.name=[]
  .rw[h1] at k1;rw[if_neg (by simp[h1])];simp(disch:=omega)only[↓tail,oj,k0,k1,ne_eq,not_true,decide_false,EVM,EVC,EVR,Ay,simprocAttr]
  .have h2:decide (cutN z q.name≠[])=true:=by simp[h1]
   rw[h2] at k1;by_cases h3:cutN z q.name=q.name
   .by_cases h4:q.typ=43
    .rw[if_neg (by simp[h3,h4])];rw[h3] at k1;simp(disch:=omega)only[↓tail,oj,k0,k1,h4,EVM,EVC,EVR,Ay,simprocAttr]
    .rw[if_pos ⟨h1,.inr h4⟩];rw[h3] at k1 k2 ⊢;generalize findR z.recs q.name 2=fr at*;simp(disch:=omega)only[oj,k0,k1,k2,h4,EVM,EVC,EVR,Ay,simprocAttr]
   .rw[if_pos ⟨h1,.inl h3⟩];generalize findR z.recs (cutN z q.name) 2=fr at*;simp(disch:=omega)only[oj,k0,k1,k2,h3,EVM,EVC,EVR,Ay,simprocAttr]
 .rw[if_neg (by simp[hu])];rw[hu] at k0;simp(disch:=omega)only[oj,k0,EVM,EVC,EVR,Ay,simprocAttr]
def Fs3 (z:Zone) (q:Ques) (l:List Rec) (p2 p3 p4 p5 p6 p7 p8 p9 p10 p11:PV) (N:Nat) (hN:l.length<N) (hl:l.length<=1000000):
  Ep2.ev S N [z.pv,q.pv,p2,p3,p4,p5,p6,p7,p8,p9,p10,p11,B4 l]=some (.yld 0 [B4 (l.map (Ns q.name))]):=by
 refine Dh l (fun i (g:List Rec)=>[B4 g,.i .i64 (i:Int)]) (fun i g r=> .yld 0 [B4 (l.map (Ns q.name))]) (fun i g=>g=(l.take i).map (Ns q.name)++l.drop i) l (by simp(disch:=omega)only[Aw,simprocAttr]) (by simp) hN (fun i g c r hd hi hc hI=> ?_) (fun g hI=> ?_)
 .left;obtain⟨h1,h2,h3⟩:=Zk l q.name i c r g hd hi hc hI;refine⟨g.set i {c with name:=q.name},?_,h3,rfl⟩;have hs:Mx 16 0 [.s q.name] (B4 g) (.i .i64 (i:Int))=some (B4 (g.set i {c with name:=q.name})):=by have:=Uz g .i64 (i:Int) q.name c (by omega) (by rw[Ef];exact h1);rwa[Ef] at this
  generalize g.set i {c with name:=q.name}=g' at*;simp(disch:=omega)only[Mf,h1,hs,EVM,EVC,EVR,Ay,simprocAttr]
 .have e:g=l.map (Ns q.name):=by rw[hI];simp
  have hgl:g.length=l.length:=by rw[e,Dt]
  rw[<-e];simp(disch:=omega)only[Mf,EVM,EVC,EVR,Ay,simprocAttr]
  try simp[Out.goes]
def Dr9 {z:Zone} {n u:List UInt8} (h:Cy3 z n=some u):∃r rest,findR z.recs u 39=r::rest:=by
 unfold Cy3 at h;have:=List.find?_some h;unfold dnB at this;cases hf:findR z.recs u 39 with
 |nil=>rw[hf] at this;simp at this
 |cons r rest=>exact⟨r,rest,rfl⟩
def Fs9 {z:Zone} {n u:List UInt8} (hu:under n z.origin=true) (h:Cy3 z n=some u):u.length<=254:=by unfold Cy3 at h;have h1:=Hy (Sr h);exact Hs (C5.1 ((L2 hu).1 h1).2).1
def Bd2 (z:Zone) (q:Ques) (hz:z.wf) (hl:z.recs.length<=1000) (hq:q.name.length<=9223372036854775807) (hdn:∀u,(findR z.recs u 39).length<=1):S Ak5 2 [z.pv,q.pv]=some [(findM z q).pv]:=by
 refine Jx4 (N:=2000) rfl ?_;have g1:=hz.origin;unfold Mw at g1;have k0:=Gj q.name z.origin hq g1;have k1:=o4 z q.name hz (by omega) hq;have k2:=Im z (cutN z q.name) 2 (by omega);have k4:=jl z q.name hz hl;have k5:=Cw2 z q.name (by omega);have al:=R3 z q.name;have k6:=yz (allR z q.name) q.typ (by omega);unfold findM;rcases Bl (under q.name z.origin) with hu|hu
 .rw[if_pos hu];rw[hu] at k0;have k3:=Hn9 z q.name (by omega) hu;have tail:∀p3 p4,T.ev S 2000 td [z.pv,q.pv,.b true,p3,p4]=some (.ret [(ql z q).pv]):=by
   intro p3 p4;unfold ql Bd6;cases hr:Cy3 z q.name with
   |some u=>
    rw[hr] at k3;simp only at k3;obtain⟨r,rest,hf⟩:=Dr9 hr;have hu1:=hdn u;rw[hf,B9] at hu1;have hrest:rest=[]:=List.length_eq_zero_iff.1 (by omega);subst hrest;have hrw:=Of hz (n:=u) (t:=39) (r:=r) (by rw[hf];exact .head _);have hh:=hrw.data.host;unfold Mw at hh;have ul:=Fs9 hu hr;have k8:=Im z u 39 (by omega);have k9:=Ah4 q.name u r.data.host hq (by omega) hh;rw[hf] at k8;simp only[Cf,X7,hf];have hix:H3 16 (B4 [r]) (.i .i64 0)=some r.pv:=by rw[Kc _ _ _ (by omega)];rfl
    unfold ab;generalize replN q.name u r.data.host=rp at*;obtain⟨to,er⟩:=rp;generalize [r]=ll at*;cases to with
    |nil=>
     simp(disch:=omega)only[Mf,k3,k8,k9,hix,EVM,EVC,EVR,Ay,simprocAttr]
     try simp
    |cons c tr=>
     have hp:(0:Int)<((c::tr).length:Int):=by simp only[B9];omega
     by_cases hc:c=42
     .subst hc;simp(disch:=first|omega|(simp only[B9];omega))only[Mf,k3,k8,k9,hix,EVM,EVC,EVR,Ay,simprocAttr]
      try simp
     .have hc2:¬(c.toNat:Int)=42:=fun h=>hc ((c42 c).1 h);simp(disch:=first|omega|(simp only[B9];omega))only[Mf,k3,k8,k9,hix,hc2,EVM,EVC,EVR,Ay,simprocAttr]
      try simp[hc]
   |none=>
    rw[hr] at k3;simp only at k3;simp only[Option.map_none];rcases Bl (exB z q.name) with he|he
    .rw[he] at k4;simp only[he,if_true];generalize saysM (allR z q.name) q.typ=sm at*;generalize allR z q.name=ar at*;simp(disch:=omega)only[Mf,k3,k4,k5,k6,EVM,EVC,EVR,Ay,simprocAttr]
    .rw[he] at k4;simp only[he,B5,if_false];have e1:=P2 z q.name hz hl hq;have el:=Rh z q.name;have e2:=um (encN z q.name) (by omega);have e3:=Cw2 z (starN (encN z q.name)) (by omega);have al:=R3 z (starN (encN z q.name));unfold oq;rcases Bl (starOk (encN z q.name)) with h3|h3
     .rw[h3] at e2;by_cases h4:allR z (starN (encN z q.name))=[]
      .rw[if_neg (by simp[h4])];rw[h4] at e3;simp(disch:=omega)only[Mf,k3,k4,e1,e2,e3,EVM,EVC,EVR,Ay,simprocAttr]
       try rfl
      .rw[if_pos ⟨h3,h4⟩];have h5:¬((allR z (starN (encN z q.name))).length:Int)=0:=by have:=Cg.2 h4;omega
       have e4:=fun p2 p3 p4 p5 p6 p7 p8 p9 p10 p11=>Fs3 z q (allR z (starN (encN z q.name))) p2 p3 p4 p5 p6 p7 p8 p9 p10 p11 2000 (by omega) (by omega);have e5:=yz ((allR z (starN (encN z q.name))).map (Ns q.name)) q.typ (by rw[Dt];omega);generalize (allR z (starN (encN z q.name))).map (Ns q.name)=ml at*;generalize allR z (starN (encN z q.name))=al at*;simp(disch:=omega)only[Mf,k3,k4,e1,e2,e3,e4,e5,h5,EVM,EVC,EVR,Ay,simprocAttr]
       try rfl
     .rw[h3] at e2;rw[if_neg (by simp[h3])];generalize allR z (starN (encN z q.name))=al at*;simp(disch:=omega)only[Mf,k3,k4,e1,e2,e3,EVM,EVC,EVR,Ay,simprocAttr]
      try rfl
  by_cases h1:cutN z q.name=[]
  .rw[h1] at k1;rw[if_neg (by simp[h1])];simp(disch:=omega)only[↓tail,Mf,k0,k1,ne_eq,not_true,decide_false,EVM,EVC,EVR,Ay,simprocAttr]
  .have h2:decide (cutN z q.name≠[])=true:=by simp[h1]
   rw[h2] at k1;by_cases h3:cutN z q.name=q.name
   .by_cases h4:q.typ=43
    .rw[if_neg (by simp[h3,h4])];rw[h3] at k1;simp(disch:=omega)only[↓tail,Mf,k0,k1,h4,EVM,EVC,EVR,Ay,simprocAttr]
    .rw[if_pos ⟨h1,.inr h4⟩];rw[h3] at k1 k2 ⊢;generalize findR z.recs q.name 2=fr at*;simp(disch:=omega)only[Mf,k0,k1,k2,h4,EVM,EVC,EVR,Ay,simprocAttr]
   .rw[if_pos ⟨h1,.inl h3⟩];generalize findR z.recs (cutN z q.name) 2=fr at*;simp(disch:=omega)only[Mf,k0,k1,k2,h3,EVM,EVC,EVR,Ay,simprocAttr]
 .rw[if_neg (by simp[hu])];rw[hu] at k0;simp(disch:=omega)only[Mf,k0,EVM,EVC,EVR,Ay,simprocAttr]
def zb {z:Zone} {n:List UInt8} (h:n∈namesN z):Oc z n=false∧under n z.origin=true:=by obtain⟨r,hr,h1,h2,h3,h4⟩:=(W2 z n).1 h;refine⟨?_,h4⟩;rw[By7];intro hn;unfold Oc at hn h2;rw[Dc] at hn;obtain⟨c,hc,h5⟩:=hn;simp only[Bs,decide_eq_true_eq] at h5;obtain⟨⟨c1,c2⟩,c3⟩:=h5;rw[List.any_eq_false] at h2;refine h2 c hc ?_;simp only[Bs,decide_eq_true_eq];refine⟨⟨c1,fun e=> ?_⟩,Q3 h3 c3⟩;rw[<-e] at h3;exact c2 (jq h3 c3)
def Gg3 {z:Zone} {n:List UInt8} (h:n∈namesN z):(decide (cutN z n≠[]) && decide (cutN z n=n))=decide (n∈cutsN z):=by
 obtain⟨hh,hu⟩:=zb h;have hv:=(C5.1 hu).1;rw[Ap8] at hh;obtain⟨h1,h2⟩:=Tz z n z.recs [] (.inl rfl);have e:cutN z n=ix z n [] z.recs:=rfl;rw[<-e] at h1 h2;rw[D7];simp only[Bs,decide_eq_true_eq,fw];constructor
 .rintro⟨g1,g2⟩;obtain⟨_,g3,_⟩:=h2 g1;rcases g3 with g3|⟨r,hr,g3,g4⟩
  .exact absurd g3 g1
  .exact⟨r,hr,g3,g4.trans g2⟩
 .rintro⟨r,hr,g1,g2⟩;have g3:cutN z n≠[]:=fun q=>by have:=(h1 q).2 r hr g1;rw[g2,Q4 hv] at this;cases this
  refine⟨g3,?_⟩;simp only[Iy,decide_eq_false_iff_not,ne_eq,Ij] at hh;exact hh.resolve_left g3
def Jd6 (t:Int):orB (orB t 140737488355328) 70368744177664=orB t vj:=by
 have h:bv (orB t 140737488355328)|||bv 70368744177664=bv t|||bv vj:=by rw[Kn5,BitVec.or_assoc];congr 1
 have e1:orB (orB t 140737488355328) 70368744177664=IntKind.u64.wrap ((bv (orB t 140737488355328)|||bv 70368744177664).toNat:Int):=rfl;rw[e1,h];rfl
def Sl:List Rec->Int
 |[]=>0
 |r::l=>if r.typ=6 then r.data.e else Sl l
def Aq9 (z:Zone) (hl:z.recs.length<=1000000):S Bh2 1 [z.pv]=some [.i .i64 (Sl z.recs)]:=by
 refine Is3 (N:=z.recs.length+1) rfl ?_;have key:El8.ev S (z.recs.length+1) [z.pv]=some (if z.recs.any (fun r=>decide (r.typ=6))=true then .ret [.i .i64 (Sl z.recs)] else .yld 0 []):=by
  refine Et z.recs (fun i=>[.i .i64 (i:Int)]) (fun i r=>if r.any (fun r=>decide (r.typ=6))=true then .ret [.i .i64 (Sl r)] else .yld 0 []) rfl (by omega) (fun i c r hd hi hc=> ?_) ?_
  .by_cases h:c.typ=6
   .right;simp(disch:=omega)only[ww,hc,h,Ax,simprocAttr];simp[h,Sl,Out.goes]
   .left;simp(disch:=omega)only[ww,hc,h,Ax,simprocAttr];simp[h,Sl]
  .simp(disch:=omega)only[ww,Ax,simprocAttr];simp[Out.goes]
 rcases Bl (z.recs.any (fun r=>decide (r.typ=6))) with h|h<;>rw[h] at key
 .simp(disch:=omega)only[ww,key,Ax,simprocAttr]
  try simp
 .have:Sl z.recs=0:=by
   generalize z.recs=l at h
   induction l with
   |nil=>rfl
   |cons r l ih=>
    rw[List.any_cons,Hb] at h;unfold Sl;rw[if_neg (by simpa using h.1)];exact ih h.2
  rw[this];simp(disch:=omega)only[ww,key,Ax,simprocAttr]
  try simp
def Ch1 {z:Zone} (ho:ZOk z):Sl z.recs=minE z:=by
 have hs:∀r∈z.recs,r.typ=6->r.data.e=minE z:=fun r hr ht=>by have:=ho.recs r hr;unfold Oj at this;simp only[ht,Bs,decide_true,Wb,Cn,decide_eq_false_iff_not,Ij,ne_eq] at this;have hm:r∈findR z.recs z.origin 6:=Nh.2 ⟨hr,this.1.1.2,ht⟩;obtain⟨s,es⟩:=m9.1 ho.soa;unfold minE;rw[es] at hm ⊢;rw[C6.1 hm]
 have hx:∃r∈z.recs,r.typ=6:=by obtain⟨r,hr,_,ht⟩:=ho.soaR;exact⟨r,hr,ht⟩
 generalize minE z=m at*;generalize z.recs=l at*
 induction l with
 |nil=>obtain⟨r,hr,_⟩:=hx;cases hr
 |cons r l ih=>
  unfold Sl;by_cases h:r.typ=6
  .rw[if_pos h];exact hs r (.head _) h
  .rw[if_neg h];refine ih ?_ (fun x hx=>hs x (.tail _ hx));obtain⟨x,hx,ht⟩:=hx;rcases Cq.1 hx with e|hx
   .rw[e] at ht;exact absurd ht h
   .exact⟨x,hx,ht⟩
def Cr5 (z:Zone) (hz:z.wf) (ho:ZOk z) (hl:z.recs.length<=1000) (p1:PV) (N:Nat) (hN:(namesN z).length<N):
  Em4.ev S N [z.pv,p1,Ch (namesN z)]=some (.yld 0 [B4 (chain0 z (minE z))]):=by
 have hor:(chain0 z (minE z))=[]++(namesN z).filterMap (K1 z (minE z)):=rfl;rw[hor];have hn:=Jb z hl;have kt:=fun n=>Ff4 z.recs n (by omega);have km:=Aq9 z (by omega);rw[Ch1 ho] at km;have b47:S Mn 1 [.i .i64 47]=some [.i .u64 140737488355328]:=by simpa using V4 47 (by decide)
 have b46:S Mn 1 [.i .i64 46]=some [.i .u64 70368744177664]:=by simpa using V4 46 (by decide)
 have b43:S Mn 1 [.i .i64 43]=some [.i .u64 8796093022208]:=by simpa using V4 43 (by decide)
 have b2:S Mn 1 [.i .i64 2]=some [.i .u64 4]:=by simpa using V4 2 (by decide)
 have o1:X.bin .or (.i .u64 140737488355328) (.i .u64 70368744177664)=some (.i .u64 vj):=by kernel_rfl
 have o2:X.bin .or (.i .u64 4) (.i .u64 8796093022208)=some (.i .u64 Ac3):=by kernel_rfl
 refine Dh (N:=N) (namesN z) (fun i (g:List Rec)=>[B4 g,.i .i64 (i:Int)]) (fun i g r=> .yld 0 [B4 (g++r.filterMap (K1 z (minE z)))]) (fun i g=>g.length<=i) [] rfl (C3 _) hN (fun i g c r hd hi hc hI=> ?_) (fun g hI=> ?_)
 .left;have hm:=B8 hc;have hcut:=Gg3 hm;have hv:=Hs (C5.1 (zb hm).2).1;have kc:=o4 z c hz (by omega) (by omega);have e1:=Hv8 ((typesR z.recs c).foldl bitO 0) vj;have e2:anB ((typesR z.recs c).foldl bitO 0) vj=tyO z c:=rfl;rw[e2] at e1;have kt:=kt c;have eb:chBits z c=orB (if c∈cutsN z then adB (tyO z c) Ac3 else tyO z c) vj:=rfl;have hil:(i:Int)<((namesN z).length:Int):=by omega
  by_cases h0:tyO z c=0
  .have hci:K1 z (minE z) c=none:=by unfold K1;rw[if_pos h0]
   refine⟨g,?_,by omega,by rw[Y5,hci]⟩;rw[h0] at e1;generalize (typesR z.recs c).foldl bitO 0=ty at*;generalize namesN z=nn at*;simp(disch:=omega)only[T0,hc,hil,kt,b47,b46,o1,e1,Ax,simprocAttr]
  .have hci:K1 z (minE z) c=some ⟨c,47,minE z,⟨false,0,0,z.origin,[],[],0,0,0,0,0,0,chBits z c⟩⟩:=by unfold K1;rw[if_neg h0]
   refine⟨g++[⟨c,47,minE z,⟨false,0,0,z.origin,[],[],0,0,0,0,0,0,chBits z c⟩⟩],?_,by simp;omega,by rw[Y5,hci,Cj];rfl⟩;have fin:∀t,X.bin .or (.i .u64 t) (.i .u64 140737488355328)=some (.i .u64 (orB t 140737488355328)):=fun t=>Ez6 _ _;have fin2:∀t,X.bin .or (.i .u64 (orB t 140737488355328)) (.i .u64 70368744177664)=some (.i .u64 (orB t vj)):=fun t=>by rw[Ez6,Jd6]
   have ea:=Hv9 (tyO z c) Ac3;generalize (typesR z.recs c).foldl bitO 0=ty at*;rw[eb];by_cases h1:c∈cutsN z
   .rw[if_pos h1];rw[decide_eq_true h1] at hcut;simp only[Bs,decide_eq_true_eq] at hcut;obtain⟨g1,g2⟩:=hcut;have g1':decide (cutN z c≠[])=true:=decide_eq_true g1;rw[g1',g2] at kc;have f1:=fin (adB (tyO z c) Ac3);have f2:=fin2 (adB (tyO z c) Ac3);generalize orB (adB (tyO z c) Ac3) vj=bits at*;generalize orB (adB (tyO z c) Ac3) 140737488355328=mid at*;generalize adB (tyO z c) Ac3=u at*;generalize tyO z c=t at*;generalize namesN z=nn at*;generalize minE z=me at*;simp(disch:=omega)only[T0,hc,hil,kt,kc,km,b47,b46,b43,b2,o1,o2,e1,ea,f1,f2,h0,E4,Fc,Ax,simprocAttr]
   .rw[if_neg h1];rw[decide_eq_false h1] at hcut;have f1:=fin (tyO z c);have f2:=fin2 (tyO z c);generalize orB (tyO z c) vj=bits at*;generalize orB (tyO z c) 140737488355328=mid at*;generalize tyO z c=t at*;generalize namesN z=nn at*;generalize minE z=me at*;generalize cutN z c=cu at*;by_cases g1:cu=[]
    .have g1':decide (cu≠[])=false:=by simp[g1]
     rw[g1'] at kc;simp(disch:=omega)only[T0,hc,hil,kt,kc,km,b47,b46,o1,e1,f1,f2,h0,E4,Fc,Ax,simprocAttr]
    .have g1':decide (cu≠[])=true:=by simp[g1]
     rw[g1',Wb,decide_eq_false_iff_not] at hcut;rw[g1'] at kc;simp(disch:=omega)only[T0,hc,hil,kt,kc,km,b47,b46,o1,e1,f1,f2,h0,hcut,E4,Fc,Ax,simprocAttr]
 .generalize namesN z=nn at*;simp(disch:=omega)only[T0,Fq,Ax,simprocAttr];simp[Out.goes]
def Gy7 (c0:List Rec):Av1 (c0.drop 1).length 1 c0=Av1 c0.length 0 c0:=by
 cases c0 with
 |nil=>rfl
 |cons a l=>rfl
def Cr4 (c0:List Rec) (hl:c0.length<=1000000) (N:Nat) (hN:c0.length<N) (p0 p1 p2:PV):
  Eh5.ev S N [p0,p1,p2,B4 c0]=some (.yld 0 [B4 (Av1 c0.length 0 c0)]):=by
 rw[<-Gy7];refine Dh (N:=N) (c0.drop 1) (fun i (g:List Rec)=>[B4 g,.i .i64 (i:Int)]) (fun i g r=> .yld 0 [B4 (Av1 r.length (i+1) g)]) (fun i g=>g.length=c0.length) c0 rfl rfl (by rw[Dk];omega) (fun i g c r hd hi hc hI=> ?_) (fun g hI=> ?_)
 .left;rw[Dk] at hi;refine⟨lnk g (i+1),?_,by rw[dx];exact hI,rfl⟩;have hgl:(g.length:Int)=(c0.length:Int):=by omega
  have hil:(i:Int)+1<(c0.length:Int):=by omega
  have e1:(i:Int)+1=((i+1:Nat):Int):=by omega
  have a1:g[i]? =some (g[i]'(by omega)):=Bt (by omega);have a2:g[i+1]? =some (g[i+1]'(by omega)):=Bt (by omega);unfold lnk;rw[if_pos (by omega),Pb,a1,a2];simp only;generalize g[i]'(by omega)=a at*;generalize g[i+1]'(by omega)=b at*;have e3:=In2 g i b.name a a1;have e4:((i:Int)+1).toNat=i+1:=by omega
  simp(disch:=omega)only[T0,hgl,hil,e3,e4,a1,a2,Ax,simprocAttr]
 .rw[Dk] at*;have hgl:(g.length:Int)=(c0.length:Int):=by omega
  have hil:¬((c0.length - 1:Nat):Int)+1<(c0.length:Int):=by omega
  simp(disch:=omega)only[T0,hgl,hil,Ax,simprocAttr];simp[Out.goes,Av1]
def Cr3 (z:Zone) (hz:z.wf) (hl:z.recs.length<=1000):S Bl0 1 [z.pv]=some (if Jk z=0 then [B4 (chainN z),.i .i64 0] else [B4 [],.i .i64 13]):=by
 have hn:=Jb z hl;have hcl:=Rr z (minE z);refine Jj3 (N:=(namesN z).length+1) rfl ?_;have k1:=m7 z hz;by_cases h:Jk z=0
 .rw[if_pos h];rw[h] at k1;have ho:=Qf h;have k4:=S4 z hz (by omega);have l0:=Cr5 z hz ho hl (.i .i64 0) ((namesN z).length+1) (by omega);have l1:=Cr4 (chain0 z (minE z)) (by omega) ((namesN z).length+1) (by omega);have ec:Av1 (chain0 z (minE z)).length 0 (chain0 z (minE z))=chainN z:=rfl;rw[ec] at l1;generalize chainN z=cn at*;generalize chain0 z (minE z)=c0 at*;generalize namesN z=nn at*;simp(disch:=omega)only[T0,k1,k4,l0,l1,E4,Fc,Ax,simprocAttr]
 .rw[if_neg h];simp(disch:=omega)only[T0,k1,h,E4,Fc,Ax,simprocAttr]
def Cd9 {z:Zone} {n:List UInt8} (ho:ZOk z) (hu:under n z.origin=true) (hx:exB z n=false) (hc:cutN z n=[]∨cutN z n=n):∀r∈z.recs,under r.name n=false:=by
 intro r hr;rcases Bl (under r.name n) with h|h
 .exfalso;have h1:=ho.under hr;have hh:Oc z r.name=true:=by
   rcases Bl (Oc z r.name) with e|e
   .exact e
   .have:=(Vf z n).2 ⟨r,hr,h1,e,h,hu⟩;rw[hx] at this;cases this
  rw[Ap8] at hh;simp only[Bs,decide_eq_true_eq] at hh;obtain⟨c1,_,_,_,_,c2⟩:=Ay5 ho hh.1;obtain⟨_,g2⟩:=Tz z r.name z.recs [] (.inl rfl);obtain⟨_,g3,_,_⟩:=g2 hh.1;obtain⟨x,hxm,x1,x2⟩:=g3.resolve_left hh.1;change x.name=cutN z r.name at x2;generalize cutN z r.name=c at*;obtain⟨_,_,s1⟩:=C5.1 c1;obtain⟨_,vn,s2⟩:=C5.1 h;obtain⟨_,vc,_⟩:=C5.1 c1;by_cases hl:(lbl n).length<=(lbl c).length
  .have hcn:under c n=true:=C5.2 ⟨vc,vn,Af5 s2 s1 hl⟩;obtain⟨y,y1,y2,y3,y4,_⟩:=(Vf z c).1 c2;have:=(Vf z n).2 ⟨y,y1,y2,y3,Q3 y4 hcn,hu⟩;rw[hx] at this;cases this
  .have hnc:under n c=true:=C5.2 ⟨vn,vc,Af5 s1 s2 (by omega)⟩;obtain⟨k1,k2⟩:=Tz z n z.recs [] (.inl rfl);rcases hc with hc|hc
   .have:=(k1 hc).2 x hxm x1;rw[x2,hnc] at this;cases this
   .by_cases hc0:cutN z n=[]
    .have:=(k1 hc0).2 x hxm x1;rw[x2,hnc] at this;cases this
    .obtain⟨_,_,_,k3⟩:=k2 hc0;have:=k3 x hxm x1 (by rw[x2];exact hnc);change (lbl (cutN z n)).length<=_ at this;rw[hc,x2] at this;omega
 .exact h
def Qb (z:Zone) (n:List UInt8) (t:Int):Nat:=(z.recs.filter fun r=>decide (r.name=n) && (decide (t=255)||decide (r.typ=t))).length
def Ol (z:Zone) (n:List UInt8) (t:Int):Qb z n t=(typedR (allR z n) t).length:=by
 unfold Qb typedR allR;split
 .rename_i h;subst h;simp
 .rename_i h;rw[List.filter_filter];congr 1;refine List.filter_congr fun r _=> ?_;simp[h,Bool.and_comm]
def Cn1 (z:Zone) (n:List UInt8):Qb z n 2=(findR z.recs n 2).length:=by unfold Qb findR;congr 1
def xw {l:List Rec} {t:Int} {x:Rec} (h:x∈typedR l t):x∈l∧(x.typ=t∨t=255):=by
 unfold typedR at h;split at h
 .rename_i e;exact⟨h,.inr e⟩
 .obtain⟨h1,h2⟩:=Cs.1 h;exact⟨h1,.inl (by simpa using h2)⟩
def xv (l:List Rec) (n:List UInt8) (t:Int):(typedR (l.map (Ns n)) t).length=(typedR l t).length:=by
 unfold typedR;split
 .simp
 .rw[List.filter_map,Dt];rfl
structure FindOk (z:Zone) (q:Ques) (r:Res):Prop where
 ans:r.kind=1->r.recs≠[]∧r.recs.length=Qb z r.owner q.typ∧(r.wild=false->r.owner=q.name)∧∀x∈r.recs,x.name=q.name∧(x.typ=q.typ∨q.typ=255)∧{x with name:=r.owner}∈z.recs
 nothing:r.kind=6∨r.wild=true->∀x∈z.recs,under x.name q.name=false
 out:r.kind=0->under q.name z.origin=false
 nodata:r.kind=5->Qb z r.owner q.typ=0
 nx:r.kind=6->r.recs=[]∧r.wild=false
 ref:r.kind=4->under q.name r.owner=true∧r.owner≠z.origin∧r.recs.length=Qb z r.owner 2∧r.recs≠[]∧∀x∈r.recs,x.typ=2
 kinds:r.kind=0∨r.kind=1∨(r.kind=2∧r.recs≠[])∨(r.kind=3∧r.recs≠[])∨r.kind=4∨r.kind=5∨r.kind=6
def says_kind (l:List Rec) (t:Int):((saysM l t).kind=2∧(saysM l t).recs≠[])∨((saysM l t).kind=5∧typedR l t=[])∨((saysM l t).kind=1∧typedR l t≠[]∧(saysM l t).recs=typedR l t):=by
 unfold saysM;split
 .exact .inl ⟨rfl,by simp⟩
 .split
  .rename_i h;exact .inr (.inl ⟨rfl,h⟩)
  .rename_i h;exact .inr (.inr ⟨rfl,h,rfl⟩)
def bj (l:List Rec) (t:Int):(saysM l t).wild=false:=by
 unfold saysM;split
 .rfl
 .split<;>rfl
def Aw9 (z:Zone) (q:Ques) (ho:ZOk z):FindOk z q (findM z q):=by
 unfold findM;split
 .rename_i hu;split
  .rename_i hc;obtain⟨f1,f2,f3,_⟩:=Ay5 ho hc.1;refine⟨fun h=>by simp at h,fun h=>by simp at h,fun h=>by simp at h,fun h=>by simp at h,fun h=>by simp at h,fun _=>⟨f1,f2,(Cn1 z _).symm,fun e=>f3 (by have e':findR z.recs (cutN z q.name) 2=[]:=e;rw[e'];rfl),fun x hx=>(Nh.1 hx).2.2⟩,by simp⟩
  .rename_i hc;have hc':cutN z q.name=[]∨cutN z q.name=q.name:=by
    by_cases h0:cutN z q.name=[]
    .exact .inl h0
    .refine .inr (Classical.byContradiction fun h1=>hc ⟨h0,.inl h1⟩)
   unfold ql;cases hr:Bd6 z q.name with
   |some x=>
    simp only;unfold Bd6 at hr;cases hr2:Cy3 z q.name with
    |none=>rw[hr2] at hr;cases hr
    |some u=>
     rw[hr2] at hr;simp only[Cf,Bn] at hr;obtain⟨r0,rest,hf⟩:=Dr9 hr2;unfold X7 at hr;rw[hf] at hr;subst hr;exact⟨fun h=>by simp at h,fun h=>by simp at h,fun h=>by simp at h,fun h=>by simp at h,fun h=>by simp at h,fun h=>by simp at h,by simp⟩
   |none=>
    simp only;split
    .rename_i hex;rcases says_kind (allR z q.name) q.typ with⟨k,k'⟩|⟨k,kt⟩|⟨k,kt,kr⟩
     .refine⟨fun h=> ?_,fun h=> ?_,fun h=> ?_,fun h=> ?_,fun h=> ?_,fun h=> ?_,.inr (.inr (.inl ⟨k,k'⟩))⟩<;>simp[k,bj] at h
     .refine⟨fun h=> ?_,fun h=> ?_,fun h=> ?_,fun _=> ?_,fun h=> ?_,fun h=> ?_,by simp[k]⟩
      .simp[k] at h
      .simp[k,bj] at h
      .simp[k] at h
      .show Qb z q.name q.typ=0;rw[Ol,kt];rfl
      .simp[k] at h
      .simp[k] at h
     .refine⟨fun _=>⟨?_,?_,fun _=>rfl,?_⟩,fun h=> ?_,fun h=> ?_,fun h=> ?_,fun h=> ?_,fun h=> ?_,by simp[k]⟩
      .show (saysM (allR z q.name) q.typ).recs≠[];rw[kr];exact kt
      .show (saysM (allR z q.name) q.typ).recs.length=Qb z q.name q.typ;rw[kr,Ol]
      .intro x hx;change x∈(saysM (allR z q.name) q.typ).recs at hx;rw[kr] at hx;obtain⟨h1,h2⟩:=xw hx;obtain⟨h3,h4⟩:=Cs.1 h1;have h5:x.name=q.name:=by simpa using h4
       refine⟨h5,h2,?_⟩;show {x with name:=q.name}∈z.recs;rw[<-h5];exact h3
      .simp[k,bj] at h
      .simp[k] at h
      .simp[k] at h
      .simp[k] at h
      .simp[k] at h
    .rename_i hex;have hex':exB z q.name=false:=by simpa using hex
     have hno:=Cd9 ho hu hex' hc';unfold oq;split
     .simp only[Dm];generalize starN (encN z q.name)=s;rcases says_kind ((allR z s).map (Ns q.name)) q.typ with⟨k,k'⟩|⟨k,kt⟩|⟨k,kt,kr⟩
      .refine⟨fun h=> ?_,fun _=>hno,fun h=> ?_,fun h=> ?_,fun h=> ?_,fun h=> ?_,.inr (.inr (.inl ⟨k,k'⟩))⟩<;>simp[k] at h
      .refine⟨fun h=> ?_,fun _=>hno,fun h=> ?_,fun _=> ?_,fun h=> ?_,fun h=> ?_,by simp[k]⟩
       .simp[k] at h
       .simp[k] at h
       .show Qb z s q.typ=0;rw[Ol,<-xv (allR z s) q.name q.typ,kt];rfl
       .simp[k] at h
       .simp[k] at h
      .refine⟨fun _=>⟨?_,?_,fun h=> ?_,?_⟩,fun _=>hno,fun h=> ?_,fun h=> ?_,fun h=> ?_,fun h=> ?_,by simp[k]⟩
       .show (saysM ((allR z s).map (Ns q.name)) q.typ).recs≠[];rw[kr];exact kt
       .show (saysM ((allR z s).map (Ns q.name)) q.typ).recs.length=Qb z s q.typ;rw[kr,Ol,xv]
       .simp at h
       .intro x hx;change x∈(saysM ((allR z s).map (Ns q.name)) q.typ).recs at hx;rw[kr] at hx;obtain⟨h1,h2⟩:=xw hx;obtain⟨y,h3,rfl⟩:=Es.1 h1;obtain⟨h4,h5⟩:=Cs.1 h3;have h6:y.name=s:=by simpa using h5
        refine⟨rfl,h2,?_⟩;show {Ns q.name y with name:=s}∈z.recs;rw[<-h6];exact h4
       .simp[k] at h
       .simp[k] at h
       .simp[k] at h
       .simp[k] at h
     .simp only[Option.getD_none];refine⟨fun h=>by simp at h,fun _=>hno,fun h=>by simp at h,fun h=>by simp at h,fun _=>⟨rfl,rfl⟩,fun h=>by simp at h,by simp⟩
 .rename_i hu;have hu':under q.name z.origin=false:=by simpa using hu
  refine⟨fun h=>by simp at h,fun h=>by simp at h,fun _=>hu',fun h=>by simp at h,fun h=>by simp at h,fun h=>by simp at h,by simp⟩
def Hp4 (x y:Int):Fh4 (orB x y):=by have h:=(BitVec.ofInt IntKind.u64.bits x|||BitVec.ofInt IntKind.u64.bits y).isLt;have h2:(2:Nat) ^ IntKind.u64.bits=18446744073709551616:=rfl;unfold orB Fh4;rw[Gn4 (by omega) (by omega)];omega
def Gy3 {z:Zone} (hz:z.wf):Wy (minE z):=by
 unfold minE;cases e:findR z.recs z.origin 6 with
 |nil=>unfold Wy;simp
 |cons r l=>
  have:r∈findR z.recs z.origin 6:=by rw[e];exact .head _
  exact(hz.recs.2 r (Nh.1 this).1).data.e
def Az3 {z:Zone} (hz:z.wf):∀a∈chain0 z (minE z),a.wf:=fun a ha=>by obtain⟨n,hn,_,rfl⟩:=Cn6 ha;have hv:=Hs (C5.1 (Gd9 (z:=z) (n:=n) (by rw[<-Xj];simpa using hn))).1;exact⟨by unfold Mw;simp only;omega,by unfold Wy;simp,Gy3 hz,⟨by unfold Fh4;simp,by unfold Fh4;simp,hz.origin,by unfold Mw;simp,by unfold Mw;simp,by unfold Wy;simp,by unfold Wy;simp,by unfold Wy;simp,by unfold Wy;simp,by unfold Wy;simp,by unfold Wy;simp,Hp4 _ _⟩⟩
def Al7 {z:Zone} (hz:z.wf):∀a∈chainN z,a.wf:=fun b hb=>by
 obtain⟨j,hj⟩:=List.mem_iff_getElem?.1 hb;obtain⟨c,hc,rfl⟩:=Xm hj;have hw:=Az3 hz c (B8 hc);unfold nxt;split
 .rename_i d hd;have hd:=Az3 hz d (B8 hd);exact⟨hw.name,hw.typ,hw.ttl,⟨hw.data.hi,hw.data.lo,hd.name,hw.data.mail,hw.data.text,hw.data.a,hw.data.b,hw.data.c,hw.data.d,hw.data.e,hw.data.f,hw.data.bits⟩⟩
 .exact hw
def Tq (z:Zone) (name owner star:List UInt8) (r:Rec):Bool:=decide (r.name=owner)||Nw r z.origin name||(decide (star≠[]) && Nw r z.origin star)
def Aq7 (x:Res) (name:List UInt8):List UInt8:=if x.wild=true then x.owner else name
def Am6 (z:Zone) (x:Res) (name:List UInt8):List UInt8:=if x.kind=6 then starN (encN z name) else []
def neededN (z:Zone) (name:List UInt8):List Rec:=
 if Jk z=0 then
  if(findM z ⟨name,43⟩).kind=0∨(findM z ⟨name,43⟩).kind=4∨(findM z ⟨name,43⟩).kind=3 then []
  else(chainN z).filter (Tq z name (Aq7 (findM z ⟨name,43⟩) name) (Am6 z (findM z ⟨name,43⟩) name))
 else []
def xr (n:List UInt8):(starN n).length<=254:=by
 unfold starN;split
 .rename_i h;unfold starOk at h;simp only[Bs] at h;exact Hs h.2
 .simp
def Ed6 (z:Zone) (x:Res) (name:List UInt8):(Am6 z x name).length<=254:=by
 unfold Am6;split
 .exact xr _
 .simp
def Cp9 (z:Zone) (name owner star:List UInt8) (r:Rec) (hr:r.wf) (hz:z.wf) (hn:name.length<=9223372036854775807) (hs:star.length<=9223372036854775807):S Yj 1 [r.pv,.s owner,z.pv,.s name,.s star]=some [.b (!Tq z name owner star r)]:=by
 refine Jx5 (N:=1) rfl ?_;have g1:=hz.origin;unfold Mw at g1;have k1:=Ab9 r z.origin name hr g1 hn;have k2:=Ab9 r z.origin star hr g1 hs;unfold Tq;by_cases h1:r.name=owner
 .simp(disch:=omega)only[Bz8,h1,E4,Fc,Ax,simprocAttr]
  try simp
 .rcases Bl (Nw r z.origin name) with e1|e1
  .simp(disch:=omega)only[Bz8,h1,k1,e1,E4,Fc,Ax,simprocAttr]
   try simp
  .by_cases h2:star=[]
   .subst h2;simp(disch:=omega)only[Bz8,h1,k1,e1,E4,Fc,Ax,simprocAttr]
    try simp[h1]
   .rcases Bl (Nw r z.origin star) with e2|e2<;>simp(disch:=omega)only[Bz8,h1,h2,k1,k2,e1,e2,E4,Fc,Ax,simprocAttr]<;>simp[h1,h2]
def Xr (z:Zone) (name owner star:List UInt8) (hz:z.wf) (l:List Rec) (hw:∀r∈l,r.wf) (hl:l.length<=1000000) (hn:name.length<=9223372036854775807) (hs:star.length<=9223372036854775807):
  S Us 1048578 [B4 l,.f Yj [.s owner,z.pv,.s name,.s star]]=some [B4 (l.filter (Tq z name owner star))]:=by
 have:=Xt l Yj [.s owner,z.pv,.s name,.s star] (fun r=> !Tq z name owner star r) hl (fun r hr=>Cp9 z name owner star r (hw r hr) hz hn hs);simpa using this
def Az2 {z:Zone} (hl:z.recs.length<=1000):(chainN z).length<=1000000:=by have:=Rr z (minE z);have:=Jb z hl;rw[Xl];omega
def Cp8 (z:Zone) (name:List UInt8) (hz:z.wf) (hw:Jk z=0->∀a∈chainN z,a.wf) (hl:z.recs.length<=1000) (hn:name.length<=9223372036854775807):S Gv4 2 [z.pv,.s name]=some [B4 (neededN z name)]:=by
 refine Kz0 (N:=1) rfl ?_;have k1:=Fg9 z hz hl;unfold neededN;by_cases h:Jk z=0
 .rw[if_pos h] at k1 ⊢;have ho:=Qf h;have hw:=hw h;have hcl:=Az2 hl;have k2:=Et7 z ⟨name,43⟩ hz hl hn;have hx:=Aw9 z ⟨name,43⟩ ho;have k3:=Pg z name hz hl hn;have el:=Rh z name;have k4:=uh (encN z name) (by omega);have sl:=xr (encN z name);have d1:=Xr z name name (starN (encN z name)) hz (chainN z) hw hcl hn (by omega);generalize findM z ⟨name,43⟩=x at*;have d2:=Xr z name x.owner [] hz (chainN z) hw hcl hn (by simp);have d3:=Xr z name name [] hz (chainN z) hw hcl hn (by simp);generalize chainN z=l at*;unfold Aq7 Am6;by_cases h0:x.kind=0
  .simp(disch:=omega)only[Ad5,k1,k2,h0,Lw,E4,Fc,EVM,EVR,Ax,simprocAttr]
   try simp
  .by_cases h4:x.kind=4
   .simp(disch:=omega)only[Ad5,k1,k2,h0,h4,Lw,E4,Fc,EVM,EVR,Ax,simprocAttr]
    try simp
   .by_cases h3:x.kind=3
    .simp(disch:=omega)only[Ad5,k1,k2,h0,h4,h3,Lw,E4,Fc,EVM,EVR,Ax,simprocAttr]
     try simp
    .rw[if_neg (by simp[h0,h4,h3])];by_cases h6:x.kind=6
     .rw[if_pos h6,(hx.nx h6).2,if_neg (by simp)];generalize starN (encN z name)=st at*;generalize starOk (encN z name)=so at*;generalize List.filter (Tq z name name st) l=fl at*;simp(disch:=omega)only[Ad5,k1,k2,k3,k4,d1,h0,h4,h3,h6,Eg,Jr,Lw,E4,Fc,EVM,EVR,Ax,simprocAttr]
     .rw[if_neg h6];rcases Bl x.wild with e|e
      .rw[if_pos e];generalize List.filter (Tq z name x.owner []) l=fl at*;simp(disch:=omega)only[Ad5,k1,k2,d2,h0,h4,h3,h6,e,Eg,Jr,Lw,E4,Fc,EVM,EVR,Ax,simprocAttr]
      .rw[if_neg (by rw[e];simp)];generalize List.filter (Tq z name name []) l=fl at*;simp(disch:=omega)only[Ad5,k1,k2,d3,h0,h4,h3,h6,e,Eg,Jr,Lw,E4,Fc,EVM,EVR,Ax,simprocAttr]
 .rw[if_neg h] at k1 ⊢;simp(disch:=omega)only[Ad5,k1,Lw,E4,Fc,EVM,EVR,Ax,simprocAttr]
def Bx4 (z:Zone) (name owner star:List UInt8) (hz:z.wf) (l:List Rec) (hw:∀r∈l,r.wf) (hl:l.length<=1000000) (hn:name.length<=9223372036854775807) (hs:star.length<=9223372036854775807) (p3 p4:PV):
  Ap1.ev S (l.length+1) [z.pv,.s name,B4 l,p3,p4,.s owner,.s star]=some (.yld 0 [B4 (l.filter (Tq z name owner star))]):=by
 have g1:=hz.origin;unfold Mw at g1;have key:Ap1.ev S (l.length+1) [z.pv,.s name,B4 l,p3,p4,.s owner,.s star]=some (.yld 0 [B4 ([]++l.filter (Tq z name owner star))]):=by
  refine Dh l (fun i (g:List Rec)=>[B4 g,.i .i64 (i:Int)]) (fun i g r=> .yld 0 [B4 (g++r.filter (Tq z name owner star))]) (fun i g=>g.length<=i) [] rfl (C3 _) (by omega) (fun i g c r hd hi hc hI=> ?_) (fun g hI=> ?_)
  .left;have hcw:=hw c (B8 hc);have k1:=gk c z.origin name hcw g1 hn;have k2:=gk c z.origin star hcw g1 hs;have body:Bw4.ev S (l.length+1) ([z.pv,.s name,B4 l,p3,p4,.s owner,.s star]++[B4 g,.i .i64 (i:Int)])=some (.yld 1 [B4 (if Tq z name owner star c=true then g++[c] else g),.i .i64 ((i:Int)+1)]):=by
    unfold Tq;by_cases h1:c.name=owner
    .simp(disch:=omega)only[Nx,hc,h1,Ax,simprocAttr]
     try simp
    .rcases Bl (Nw c z.origin name) with e1|e1
     .simp(disch:=omega)only[Nx,hc,h1,k1,e1,Ax,simprocAttr]
      try simp
     .by_cases h2:star=[]
      .subst h2;simp(disch:=omega)only[Nx,hc,h1,k1,e1,Ax,simprocAttr]
       try simp[h1]
      .rcases Bl (Nw c z.origin star) with e2|e2<;>simp(disch:=omega)only[Nx,hc,h1,h2,k1,k2,e1,e2,Ax,simprocAttr]<;>simp[h1,h2]
   rcases Bl (Tq z name owner star c) with h|h
   .refine⟨g++[c],?_,by simp;omega,by rw[Er h,Cj];rfl⟩;rw[body,h,if_pos rfl];rfl
   .refine⟨g,?_,by omega,by rw[G9 (by rw[h];simp)]⟩;rw[body,h,if_neg (by simp)];rfl
  .simp(disch:=omega)only[Nx,Ax,simprocAttr]
   try simp[Out.goes]
 simpa using key
def Bx3 (z:Zone) (name:List UInt8) (hz:z.wf) (hw:Jk z=0->∀a∈chainN z,a.wf) (hl:z.recs.length<=1000) (hn:name.length<=9223372036854775807):S Bn0 2 [z.pv,.s name]=some [B4 (neededN z name)]:=by
 refine Jw6 (N:=(chainN z).length+1) rfl ?_;have k1:=Cr3 z hz hl;unfold neededN;by_cases h:Jk z=0
 .rw[if_pos h] at k1 ⊢;have ho:=Qf h;have hw:=hw h;have hcl:=Az2 hl;have k2:=Bd2 z ⟨name,43⟩ hz hl hn (fun u=>ho.single u 39 (by simp));have hx:=Aw9 z ⟨name,43⟩ ho;have k3:=P2 z name hz hl hn;have el:=Rh z name;have k4:=um (encN z name) (by omega);generalize findM z ⟨name,43⟩=x at*;have sl:=Ed6 z x name;have d:=fun p3 p4=>Bx4 z name (Aq7 x name) (Am6 z x name) hz (chainN z) hw hcl hn (by omega) p3 p4;generalize List.filter (Tq z name (Aq7 x name) (Am6 z x name)) (chainN z)=fl at*;generalize chainN z=l at*;by_cases h0:x.kind=0
  .simp(disch:=omega)only[Nx,k1,k2,h0,Lw,E4,Fc,EVM,EVR,Ax,simprocAttr]
   try simp
  .by_cases h4:x.kind=4
   .simp(disch:=omega)only[Nx,k1,k2,h0,h4,Lw,E4,Fc,EVM,EVR,Ax,simprocAttr]
    try simp
   .by_cases h3:x.kind=3
    .simp(disch:=omega)only[Nx,k1,k2,h0,h4,h3,Lw,E4,Fc,EVM,EVR,Ax,simprocAttr]
     try simp
    .rw[if_neg (by simp[h0,h4,h3])];unfold Aq7 Am6 at d;by_cases h6:x.kind=6
     .rw[if_pos h6] at d;generalize starN (encN z name)=st at*;generalize starOk (encN z name)=so at*;rcases Bl x.wild with e|e
      .rw[if_pos e] at d;simp(disch:=omega)only[Nx,k1,k2,k3,k4,d,h0,h4,h3,h6,e,Lw,E4,Fc,EVM,EVR,Ax,simprocAttr]
      .rw[if_neg (by rw[e];simp)] at d;simp(disch:=omega)only[Nx,k1,k2,k3,k4,d,h0,h4,h3,h6,e,Lw,E4,Fc,EVM,EVR,Ax,simprocAttr]
     .rw[if_neg h6] at d;rcases Bl x.wild with e|e
      .rw[if_pos e] at d;simp(disch:=omega)only[Nx,k1,k2,d,h0,h4,h3,h6,e,Lw,E4,Fc,EVM,EVR,Ax,simprocAttr]
      .rw[if_neg (by rw[e];simp)] at d;simp(disch:=omega)only[Nx,k1,k2,d,h0,h4,h3,h6,e,Lw,E4,Fc,EVM,EVR,Ax,simprocAttr]
 .rw[if_neg h] at k1 ⊢;simp(disch:=omega)only[Nx,k1,Lw,E4,Fc,EVM,EVR,Ax,simprocAttr]
end Go.X.G
/- Sets of records: what the program's and the reference's functions give. -/
namespace Go.X
open Go
structure SetR where
 name:List UInt8
 typ:Int
 ttl:Int
 data:List Dat
 deriving DecidableEq
def Gy (l:List Dat):PV:= .l 13 (l.map Dat.pv)
def SetR.pv (x:SetR):PV:= .a [.s x.name,.i .i64 x.typ,.i .i64 x.ttl,Gy x.data]
def Fz (l:List SetR):PV:= .l 4 (l.map SetR.pv)
def Gg0:PV.l 13 []=Gy []:=rfl
def Fr6:PV.l 4 []=Fz []:=rfl
def Eq0 (x:SetR):Dj 0 x.pv=some (.s x.name):=rfl
def Ek9 (x:SetR):Dj 1 x.pv=some (.i .i64 x.typ):=rfl
def Ek8 (x:SetR):Dj 2 x.pv=some (.i .i64 x.ttl):=rfl
def Ek7 (x:SetR):Dj 3 x.pv=some (Gy x.data):=rfl
def Ij3 (x:SetR):W9 4 x.pv=some x.pv:=rfl
def Hl6 (x:SetR):Mq 0 4 x.pv=some x.pv:=rfl
def Et5 (n:List UInt8) (t u:Int) (d:List Dat):PV.a [.s n,.i .i64 t,.i .i64 u,Gy d]=SetR.pv ⟨n,t,u,d⟩:=rfl
def Ik8 (x:SetR):(⟨x.name,x.typ,x.ttl,x.data⟩:SetR)=x:=rfl
def Hs9 (x:SetR):L4 4 [x.pv]=some (Fz [x]):=rfl
def Ht3 (x:Dat):L4 13 [x.pv]=some (Gy [x]):=rfl
def Br0 (l:List SetR):Hj (Fz l)=some (.i .i64 (l.length:Int)):=by simp[Fz,Hj]
def Gz4 (l:List Dat):Hj (Gy l)=some (.i .i64 (l.length:Int)):=by simp[Gy,Hj]
def Dn9 (l:List SetR):J8 (Fz l)=some (Fz l):=rfl
def Dp3 (l:List Dat):J8 (Gy l)=some (Gy l):=rfl
def Bs1 (l:List SetR) (k:IntKind) (z:Int) (h:0<=z):H3 4 (Fz l) (.i k z)=(l[z.toNat]?).map SetR.pv:=by simp[Fz,Yn _ _ _ _ h]
def Gc1 (l:List Dat) (k:IntKind) (z:Int) (h:0<=z):H3 13 (Gy l) (.i k z)=(l[z.toNat]?).map Dat.pv:=by simp[Gy,Yn _ _ _ _ h]
def Fd1 (l:List SetR) (x:SetR) (h:l.length+1<=1073741824):Jz 4 (Fz l) (Fz [x])=some (Fz (l++[x])):=by have:=V5 4 (l.map SetR.pv) [x.pv] (by simpa using h);simpa [Fz] using this
def Fd5 (l:List Dat) (x:Dat) (h:l.length+1<=1073741824):Jz 13 (Gy l) (Gy [x])=some (Gy (l++[x])):=by have:=V5 13 (l.map Dat.pv) [x.pv] (by simpa using h);simpa [Gy] using this
def ol {l:List SetR} {k:IntKind} {z:Int} {x y:SetR} {off:Nat} {vs:List PV} (h0:0<=z) (h3:l[z.toNat]? =some x) (h:P1 x.pv off vs=some y.pv):Mx 4 off vs (Fz l) (.i k z)=some (Fz (l.set z.toNat y)):=by
 have h4:(l.map SetR.pv)[z.toNat]? =some x.pv:=by rw[Dq,h3];rfl
 simp only[Mx,Fz,h0,h4,and_self,if_true,B3,h,Cf];simp[List.map_set]
set_option linter.defProp false in
def Wv:=(And.intro @Gg0 (And.intro @Fr6 (And.intro @Eq0 (And.intro @Ek9 (And.intro @Ek8 (And.intro @Ek7 (And.intro @Ij3 (And.intro @Hl6 (And.intro @Et5 (And.intro @Ik8 (And.intro @Hs9 (And.intro @Ht3 (And.intro @Br0 (And.intro @Gz4 (And.intro @Dn9 (And.intro @Dp3 (And.intro @Bs1 (And.intro @Gc1 (And.intro @Fd1 @Fd5)))))))))))))))))))
end Go.X
namespace Go.X.G
open Go Go.X
def addS (g:List SetR) (r:Rec):List SetR:=
 match g.getLast? with
 |some x=>if x.name=r.name∧x.typ=r.typ then g.dropLast++[⟨x.name,x.typ,if r.ttl<x.ttl then r.ttl else x.ttl,x.data++[r.data]⟩] else g++[⟨r.name,r.typ,r.ttl,[r.data]⟩]
 |none=>[⟨r.name,r.typ,r.ttl,[r.data]⟩]
def Fr7 (l:List Rec):List SetR:=l.foldl addS []
def setsR (l:List Rec):List SetR:=Fr7 (sortR l)
def Kl (g:List SetR):List Dat:=((g.getLast?).map SetR.data).getD []
def yx {g:List SetR} {x:SetR} (h:g.getLast? =some x) (y:SetR):g.set (g.length - 1) y=g.dropLast++[y]:=by obtain⟨a,rfl⟩:=List.getLast?_eq_some_iff.1 h;simp
def Cv5 (g:List SetR) (r:Rec):(addS g r).length<=g.length+1:=by
 unfold addS;split
 .split
  .simp
  .simp
 .simp
def Dn6 (x:SetR) (g:List SetR) (c:Rec) (s:List Rec) (i:Nat) (p0 p2 p3:PV) (d:List Dat) (N:Nat) (hc:s[i]? =some c) (hg:g.getLast? =some x) (hl:g.length<=1000000) (hd:d.length<=1000000) (hi:i<=1000000) (hxd:x.data=d):
  Fx3.ev S N [p0,B4 s,p2,p3,.i .i64 (i:Int),Fz g,Gy d,.i .i64 (g.length:Int)]=some (.yld 1 [Fz (g.dropLast++[⟨x.name,x.typ,if c.ttl<x.ttl then c.ttl else x.ttl,d++[c.data]⟩]),Gy (d++[c.data]),.i .i64 ((i+1:Nat):Int)]):=by
 have hpos:0<g.length:=by cases g<;>simp at hg ⊢
 have e1:((g.length:Int) - 1).toNat=g.length - 1:=by omega
 have hx:g[((g.length:Int) - 1).toNat]? =some x:=by rw[e1,<-H1];exact hg
 have hw:IntKind.i64.wrap ((g.length:Int) - 1)=(g.length:Int) - 1:=w64 (by omega) (by omega);let y:SetR:=⟨x.name,x.typ,if c.ttl<x.ttl then c.ttl else x.ttl,x.data⟩;let z:SetR:=⟨x.name,x.typ,if c.ttl<x.ttl then c.ttl else x.ttl,d++[c.data]⟩;have s1:Mx 4 2 [.i .i64 (if c.ttl<x.ttl then c.ttl else x.ttl)] (Fz g) (.i .i64 ((g.length:Int) - 1))=some (Fz (g.set (g.length - 1) y)):=by rw[<-e1];exact ol (by omega) hx rfl
 have hl2:(g.set (g.length - 1) y).length=g.length:=by simp
 have hx2:(g.set (g.length - 1) y)[((g.length:Int) - 1).toNat]? =some y:=by rw[e1,N1 (by omega)]
 have s2:Mx 4 3 [Gy (d++[c.data])] (Fz (g.set (g.length - 1) y)) (.i .i64 ((g.length:Int) - 1))=some (Fz (g.dropLast++[z])):=by rw[ol (x:=y) (y:=z) (by omega) hx2 rfl,e1,List.set_set,yx hg]
 have hmn:Gy2 (.i .i64 x.ttl) (.i .i64 c.ttl)=some (.i .i64 (if c.ttl<x.ttl then c.ttl else x.ttl)):=by simp[Gy2]
 have hy3:Dj 3 y.pv=some (Gy x.data):=rfl;have i1:H3 4 (Fz (g.set (g.length - 1) y)) (.i .i64 ((g.length:Int) - 1))=some y.pv:=by rw[Bs1 _ _ _ (by omega),hx2];rfl
 have n1:Hj (Fz (g.set (g.length - 1) y))=some (.i .i64 (g.length:Int)):=by rw[Br0,hl2]
 generalize hG:Fz (g.set (g.length - 1) y)=G at*;generalize hY:y.pv=Y at*;simp(disch:=omega)only[Ad6,hc,hx,hw,hmn,s1,s2,i1,n1,hy3,Wv,Ay,simprocAttr]
 try rfl
structure SetsIn (g:List SetR) (i:Nat):Prop where
 len:g.length<=i
 each:∀x∈g,x.data.length<=i
def Fd8 {g:List SetR} {i:Nat} (h:SetsIn g i) (c:Rec):SetsIn (addS g c) (i+1):=by
 refine⟨D4 (Cv5 g c) (by have:=h.len;omega),fun x hx=> ?_⟩;unfold addS at hx;split at hx
 .rename_i y hy;have hym:y∈g:=I5 hy;split at hx
  .rcases Ct.1 hx with hx|hx
   .have:=h.each x (List.dropLast_subset _ hx);omega
   .rw[C6.1 hx];have:=h.each y hym;simp;omega
  .rcases Ct.1 hx with hx|hx
   .have:=h.each x hx;omega
   .rw[C6.1 hx];simp
 .rw[C6.1 hx];simp
def Ry (g:List SetR) (c:Rec):Kl (addS g c)=match g.getLast? with
  |some x=>if x.name=c.name∧x.typ=c.typ then x.data++[c.data] else [c.data]
  |none=>[c.data]:=by
 unfold addS Kl;split
 .split<;>simp
 .simp
def Bc5:∀(l acc:List Rec),(l.foldl (fun a x=>Ym x a) acc).length<=acc.length+l.length
 |[],acc=>by simp
 |x::l,acc=>by have h1:=Bc5 l (Ym x acc);have h2:=qg x acc;simp only[Jr9,B9];omega
def oc (l:List Rec):(sortR l).length<=l.length:=by simpa [sortR] using Bc5 l []
def Gl1 (l:List Rec) (hw:∀r∈l,r.wf) (hl:l.length<=100000):S Gv6 1 [B4 l]=some [Fz (setsR l)]:=by
 have hs:=Cv9 l hw (by omega);have hsl:(sortR l).length<=1000000:=by have:=oc l;omega
 generalize hsd:sortR l=s at*;obtain⟨N,hN⟩:∃N,N=s.length+1:=⟨_,rfl⟩;refine Kz3 (N:=N) rfl ?_;have key:Gt2.ev S N [B4 l,B4 s]=some (.yld 0 [Fz (s.foldl addS []),Gy (Kl (s.foldl addS []))]):=by
  refine Dh s (fun i (g:List SetR)=>[Fz g,Gy (Kl g),.i .i64 (i:Int)]) (fun i g r=> .yld 0 [Fz (r.foldl addS g),Gy (Kl (r.foldl addS g))]) (fun i g=>SetsIn g i) [] rfl ⟨B7 _,fun x hx=>by cases hx⟩ (by omega) (fun i g c r hd hi hc hI=> ?_) (fun g hI=> ?_)
  .left;refine⟨addS g c,?_,Fd8 hI c,rfl⟩;have hgl:=hI.len;have hilt:(i:Int)<(s.length:Int):=by omega
   cases hg:g.getLast? with
   |none=>
    have hg0:g=[]:=List.getLast?_eq_none_iff.1 hg;subst hg0;have k:=Dn6 ⟨c.name,c.typ,c.ttl,[]⟩ [⟨c.name,c.typ,c.ttl,[]⟩] c s i (B4 l) (Fz []) (Gy (Kl [])) [] N hc rfl (by simp) (by simp) (by omega) rfl;have e1:(([⟨c.name,c.typ,c.ttl,[]⟩]:List SetR).length:Int)=1:=rfl;have e2:([⟨c.name,c.typ,c.ttl,[]⟩]:List SetR).dropLast++[⟨c.name,c.typ,if c.ttl<c.ttl then c.ttl else c.ttl,[]++[c.data]⟩]=addS [] c:=by simp[addS]
    have e3:([]++[c.data]:List Dat)=Kl (addS [] c):=by simp[addS,Kl]
    rw[e1,e2,e3] at k;generalize addS [] c=G at*;simp(disch:=omega)only[Ad6,hc,hilt,k,Wv,Ay,simprocAttr]
   |some x=>
    have hpos:0<g.length:=by cases g<;>simp at hg ⊢
    have hx:g[((g.length:Int) - 1).toNat]? =some x:=by rw[show ((g.length:Int) - 1).toNat=g.length - 1 by omega,<-H1];exact hg
    have hxm:x∈g:=I5 hg;have hxd:=hI.each x hxm;have hn0:¬(g.length:Int)=0:=by omega
    have hld:Kl g=x.data:=by simp[Kl,hg]
    by_cases hk:x.name=c.name∧x.typ=c.typ
    .have k:=Dn6 x g c s i (B4 l) (Fz g) (Gy (Kl g)) x.data N hc hg (by omega) (by omega) (by omega) rfl;have e2:g.dropLast++[⟨x.name,x.typ,if c.ttl<x.ttl then c.ttl else x.ttl,x.data++[c.data]⟩]=addS g c:=by simp[addS,hg,hk]
     have e3:x.data++[c.data]=Kl (addS g c):=by rw[Ry,hg];simp[hk]
     rw[e2,e3,hld] at k;rw[hld];generalize addS g c=G at*;simp(disch:=omega)only[Ad6,hc,hilt,hx,hn0,hk.1,hk.2,k,Wv,Ay,simprocAttr]
    .have k:=Dn6 ⟨c.name,c.typ,c.ttl,[]⟩ (g++[⟨c.name,c.typ,c.ttl,[]⟩]) c s i (B4 l) (Fz g) (Gy (Kl g)) [] N hc (by simp) (by simp;omega) (by simp) (by omega) rfl;have e1:((g++[⟨c.name,c.typ,c.ttl,[]⟩]:List SetR).length:Int)=(g.length:Int)+1:=by simp
     have e2:(g++[⟨c.name,c.typ,c.ttl,[]⟩]:List SetR).dropLast++[⟨c.name,c.typ,if c.ttl<c.ttl then c.ttl else c.ttl,[]++[c.data]⟩]=addS g c:=by simp[addS,hg,hk]
     have e3:([]++[c.data]:List Dat)=Kl (addS g c):=by rw[Ry,hg];simp[hk]
     rw[e1,e2,e3,hld] at k;rw[hld];generalize addS g c=G at*;by_cases h1:x.name=c.name
     .have h2:¬x.typ=c.typ:=fun h=>hk ⟨h1,h⟩;simp(disch:=omega)only[Ad6,hc,hilt,hx,hn0,h1,h2,k,Wv,Ay,simprocAttr]
     .simp(disch:=omega)only[Ad6,hc,hilt,hx,hn0,h1,k,Wv,Ay,simprocAttr]
  .simp(disch:=omega)only[Ad6,Wv,Ay,simprocAttr];simp[Out.goes]
 simp(disch:=omega)only[Ad6,hs,key,Wv,Ay,simprocAttr];simp[setsR,Fr7,hsd]
end Go.X.G
namespace Go.X.G
open Go Go.X
def Ag6 (x:SetR) (g:List SetR) (c:Rec) (s:List Rec) (i:Nat) (p0 p2 p3:PV) (d:List Dat) (N:Nat) (hc:s[i]? =some c) (hg:g.getLast? =some x) (hl:g.length<=1000000) (hd:d.length<=1000000) (hi:i<=1000000) (hxd:x.data=d):
  mz.ev S N [p0,B4 s,p2,p3,.i .i64 (i:Int),Fz g,Gy d,.i .i64 (g.length:Int)]=some (.yld 1 [Fz (g.dropLast++[⟨x.name,x.typ,if c.ttl<x.ttl then c.ttl else x.ttl,d++[c.data]⟩]),Gy (d++[c.data]),.i .i64 ((i+1:Nat):Int)]):=by
 have hpos:0<g.length:=by cases g<;>simp at hg ⊢
 have e1:((g.length:Int) - 1).toNat=g.length - 1:=by omega
 have hx:g[((g.length:Int) - 1).toNat]? =some x:=by rw[e1,<-H1];exact hg
 have hw:IntKind.i64.wrap ((g.length:Int) - 1)=(g.length:Int) - 1:=w64 (by omega) (by omega);have s2:∀u:Int,Mx 4 0 [.s x.name,.i .i64 x.typ,.i .i64 u,Gy (d++[c.data])] (Fz g) (.i .i64 ((g.length:Int) - 1))=some (Fz (g.dropLast++[⟨x.name,x.typ,u,d++[c.data]⟩])):=fun u=>by rw[ol (x:=x) (y:=⟨x.name,x.typ,u,d++[c.data]⟩) (by omega) hx rfl,e1,yx hg]
 by_cases ht:c.ttl<x.ttl
 .rw[if_pos ht];simp(disch:=omega)only[v7,hc,hx,hw,ht,s2,Wv,Ay,simprocAttr]
  try rfl
 .rw[if_neg ht];simp(disch:=omega)only[v7,hc,hx,hw,ht,s2,Wv,Ay,simprocAttr]
  try rfl
def Gl2 (l:List Rec) (hw:∀r∈l,r.wf) (hl:l.length<=100000):S Gq8 1 [B4 l]=some [Fz (setsR l)]:=by
 have hs:=V7 l hw (by omega);have hsl:(sortR l).length<=1000000:=by have:=oc l;omega
 generalize hsd:sortR l=s at*;obtain⟨N,hN⟩:∃N,N=s.length+1:=⟨_,rfl⟩;refine Ky1 (N:=N) rfl ?_;have key:Gs4.ev S N [B4 l,B4 s]=some (.yld 0 [Fz (s.foldl addS []),Gy (Kl (s.foldl addS []))]):=by
  refine Dh s (fun i (g:List SetR)=>[Fz g,Gy (Kl g),.i .i64 (i:Int)]) (fun i g r=> .yld 0 [Fz (r.foldl addS g),Gy (Kl (r.foldl addS g))]) (fun i g=>SetsIn g i) [] rfl ⟨B7 _,fun x hx=>by cases hx⟩ (by omega) (fun i g c r hd hi hc hI=> ?_) (fun g hI=> ?_)
  .left;refine⟨addS g c,?_,Fd8 hI c,rfl⟩;have hgl:=hI.len;have hilt:(i:Int)<(s.length:Int):=by omega
   cases hg:g.getLast? with
   |none=>
    have hg0:g=[]:=List.getLast?_eq_none_iff.1 hg;subst hg0;have k:=Ag6 ⟨c.name,c.typ,c.ttl,[]⟩ [⟨c.name,c.typ,c.ttl,[]⟩] c s i (B4 l) (Fz []) (Gy (Kl [])) [] N hc rfl (by simp) (by simp) (by omega) rfl;have e1:(([⟨c.name,c.typ,c.ttl,[]⟩]:List SetR).length:Int)=1:=rfl;have e2:([⟨c.name,c.typ,c.ttl,[]⟩]:List SetR).dropLast++[⟨c.name,c.typ,if c.ttl<c.ttl then c.ttl else c.ttl,[]++[c.data]⟩]=addS [] c:=by simp[addS]
    have e3:([]++[c.data]:List Dat)=Kl (addS [] c):=by simp[addS,Kl]
    rw[e1,e2,e3] at k;generalize addS [] c=G at*;generalize hC7:mz=C7 at*;simp(disch:=omega)only[v7,hC7,hc,hilt,k,Wv,Ay,simprocAttr]
   |some x=>
    have hpos:0<g.length:=by cases g<;>simp at hg ⊢
    have hx:g[((g.length:Int) - 1).toNat]? =some x:=by rw[show ((g.length:Int) - 1).toNat=g.length - 1 by omega,<-H1];exact hg
    have hxm:x∈g:=I5 hg;have hxd:=hI.each x hxm;have hn0:¬(g.length:Int)=0:=by omega
    have hld:Kl g=x.data:=by simp[Kl,hg]
    by_cases hk:x.name=c.name∧x.typ=c.typ
    .have k:=Ag6 x g c s i (B4 l) (Fz g) (Gy (Kl g)) x.data N hc hg (by omega) (by omega) (by omega) rfl;have e2:g.dropLast++[⟨x.name,x.typ,if c.ttl<x.ttl then c.ttl else x.ttl,x.data++[c.data]⟩]=addS g c:=by simp[addS,hg,hk]
     have e3:x.data++[c.data]=Kl (addS g c):=by rw[Ry,hg];simp[hk]
     rw[e2,e3,hld] at k;rw[hld];generalize addS g c=G at*;generalize hC7:mz=C7 at*;simp(disch:=omega)only[v7,hC7,hc,hilt,hx,hn0,hk.1,hk.2,k,Wv,Ay,simprocAttr]
    .have k:=Ag6 ⟨c.name,c.typ,c.ttl,[]⟩ (g++[⟨c.name,c.typ,c.ttl,[]⟩]) c s i (B4 l) (Fz g) (Gy (Kl g)) [] N hc (by simp) (by simp;omega) (by simp) (by omega) rfl;have e1:((g++[⟨c.name,c.typ,c.ttl,[]⟩]:List SetR).length:Int)=(g.length:Int)+1:=by simp
     have e2:(g++[⟨c.name,c.typ,c.ttl,[]⟩]:List SetR).dropLast++[⟨c.name,c.typ,if c.ttl<c.ttl then c.ttl else c.ttl,[]++[c.data]⟩]=addS g c:=by simp[addS,hg,hk]
     have e3:([]++[c.data]:List Dat)=Kl (addS g c):=by rw[Ry,hg];simp[hk]
     rw[e1,e2,e3,hld] at k;rw[hld];generalize addS g c=G at*;generalize hC7:mz=C7 at*;by_cases h1:x.name=c.name
     .have h2:¬x.typ=c.typ:=fun h=>hk ⟨h1,h⟩;simp(disch:=omega)only[v7,hC7,hc,hilt,hx,hn0,h1,h2,k,Wv,Ay,simprocAttr]
     .simp(disch:=omega)only[v7,hC7,hc,hilt,hx,hn0,h1,k,Wv,Ay,simprocAttr]
  .simp(disch:=omega)only[v7,Fq,Wv,Ay,simprocAttr];simp[Out.goes]
 simp(disch:=omega)only[v7,hs,key,Wv,Ay,simprocAttr]
 try simp[setsR,Fr7,hsd]
def covR (z:Zone) (n:List UInt8) (t:Int):List Rec:=z.recs.filter fun r=>decide (r.name=n) && decide (r.typ=46) && decide (r.data.a=t)
def Fq5 (z:Zone) (n:List UInt8) (t:Int):(findR z.recs n 46).filter (fun r=> !decide (r.data.a≠t))=covR z n t:=by unfold findR covR;rw[List.filter_filter];refine List.filter_congr fun r _=> ?_;unfold isK;by_cases h1:r.name=n<;>by_cases h2:r.typ=46<;>by_cases h3:r.data.a=t<;>simp[h1,h2,h3]
def Zg (z:Zone) (n:List UInt8) (t:Int):(covR z n t).length<=z.recs.length:=Dr _ _
def sigsOf (z:Zone) (n:List UInt8) (t:Int):List Rec:=
 if under n z.origin=false∨exB z n=true then covR z n t
 else if starOk (encN z n)=true then(covR z (starN (encN z n)) t).map (Ns n) else []
def Ny (z:Zone) (n:List UInt8) (t:Int):(sigsOf z n t).length<=z.recs.length:=by
 unfold sigsOf;split
 .exact Zg z n t
 .split
  .rw[Dt];exact Zg z _ t
  .simp
def u9 (z:Zone) (x:SetR):List Rec:=if x.typ=46 then [] else sigsOf z x.name x.typ
def sigsR (z:Zone) (l:List Rec):List Rec:=(setsR l).flatMap (u9 z)
def Fr2 (r:Rec) (t:Int):S Aj2 1 [r.pv,.i .i64 t]=some [.b (decide (r.data.a≠t))]:=by refine Jj9 (N:=1) rfl ?_;by_cases h:r.data.a=t<;>simp(disch:=omega)only[Id3,h,Ax,simprocAttr]<;>simp
def Bc6 (z:Zone) (n:List UInt8) (t:Int) (hl:z.recs.length<=1000):S Ak6 3 [z.pv,.s n,.i .i64 t]=some [B4 (covR z n t)]:=by refine Jx7 (N:=1) rfl ?_;have k1:=Kb z n 46 (by omega);have hl2:=Gx z n 46;have k2:=Q0 (findR z.recs n 46) (by omega);have k3:=Xt (findR z.recs n 46) Aj2 [.i .i64 t] (fun r=>decide (r.data.a≠t)) (by omega) (fun r _=>Fr2 r t);rw[Fq5] at k3;generalize findR z.recs n 46=fl at*;generalize covR z n t=cv at*;simp(disch:=omega)only[If9,k1,k2,k3,Eg,Jr,Ax,simprocAttr]
def Kh6 (z:Zone) (x:SetR) (l:List Rec) (p2 p3 p4 p5 p6 p7:PV) (N:Nat) (hN:l.length<N) (hl:l.length<=1000000):
  Gt1.ev S N [z.pv,x.pv,p2,p3,p4,p5,p6,p7,B4 l]=some (.yld 0 [B4 (l.map (Ns x.name))]):=by
 refine Dh l (fun i (g:List Rec)=>[B4 g,.i .i64 (i:Int)]) (fun i g r=> .yld 0 [B4 (l.map (Ns x.name))]) (fun i g=>g=(l.take i).map (Ns x.name)++l.drop i) l rfl (by simp) hN (fun i g c r hd hi hc hI=> ?_) (fun g hI=> ?_)
 .left;obtain⟨h1,h2,h3⟩:=Zk l x.name i c r g hd hi hc hI;refine⟨g.set i {c with name:=x.name},?_,h3,rfl⟩;have hs:Mx 16 0 [.s x.name] (B4 g) (.i .i64 (i:Int))=some (B4 (g.set i {c with name:=x.name})):=by have:=Uz g .i64 (i:Int) x.name c (by omega) (by rw[Ef];exact h1);rwa[Ef] at this
  have hil:(i:Int)<(l.length:Int):=by omega
  generalize g.set i {c with name:=x.name}=g' at*;simp(disch:=omega)only[Cw5,h1,hs,hil,Wv,Ax,simprocAttr]
 .have e:g=l.map (Ns x.name):=by rw[hI];simp
  rw[<-e];simp(disch:=omega)only[Cw5,Fq,Wv,Ax,simprocAttr]
  try simp[Out.goes]
def Kh5 (z:Zone) (x:SetR) (hz:z.wf) (hl:z.recs.length<=1000) (hn:x.name.length<=9223372036854775807):S Gv5 2 [z.pv,x.pv]=some [B4 (sigsOf z x.name x.typ)]:=by
 refine Kz2 (N:=2000) rfl ?_;have g1:=hz.origin;unfold Mw at g1;have k1:=F9 x.name z.origin hn g1;have k2:=ic z x.name hz hl;have k3:=Pg z x.name hz hl hn;have el:=Rh z x.name;have k4:=uh (encN z x.name) (by omega);have k5:=Bc6 z x.name x.typ hl;have k6:=Bc6 z (starN (encN z x.name)) x.typ hl;have cl:=Zg z (starN (encN z x.name)) x.typ;have k7:=fun p2 p3 p4 p5 p6 p7=>Kh6 z x (covR z (starN (encN z x.name)) x.typ) p2 p3 p4 p5 p6 p7 2000 (by omega) (by omega);unfold sigsOf;generalize covR z (starN (encN z x.name)) x.typ=cs at*;generalize covR z x.name x.typ=cn at*;rcases Bl (under x.name z.origin) with h1|h1
 .rcases Bl (exB z x.name) with h2|h2
  .rw[if_pos (.inr h2)];simp(disch:=omega)only[Cw5,k1,k2,k5,h1,h2,Wv,Ax,simprocAttr]
  .rw[if_neg (by simp[h1,h2])];generalize starN (encN z x.name)=st at*;rcases Bl (starOk (encN z x.name)) with h3|h3
   .rw[if_pos h3];generalize cs.map (Ns x.name)=cm at*;simp(disch:=omega)only[Cw5,k1,k2,k3,k4,k6,k7,h1,h2,h3,Wv,Ax,simprocAttr]
   .rw[if_neg (by simp[h3])];simp(disch:=omega)only[Cw5,k1,k2,k3,k4,h1,h2,h3,Wv,Ax,simprocAttr]
 .rw[if_pos (.inl h1)];simp(disch:=omega)only[Cw5,k1,k5,h1,Wv,Ax,simprocAttr]
def Bc8:∀(l:List Rec) (g:List SetR),(l.foldl addS g).length<=g.length+l.length
 |[],_=>B7 _
 |r::l,g=>by have h1:=Bc8 l (addS g r);have h2:=Cv5 g r;rw[Jr9,B9];omega
def oh (l:List Rec):(setsR l).length<=l.length:=by have h1:=Bc8 (sortR l) [];have h2:=oc l;unfold setsR Fr7;rw[C1] at h1;omega
def Iy7 {P:List UInt8->Prop} {g:List SetR} {r:Rec} (hg:∀x∈g,P x.name) (hr:P r.name):∀x∈addS g r,P x.name:=by
 intro x hx;unfold addS at hx;split at hx
 .rename_i y hy;split at hx
  .rcases Ct.1 hx with h|h
   .exact hg x (List.dropLast_subset _ h)
   .rw[C6.1 h];exact hg y (I5 hy)
  .rcases Ct.1 hx with h|h
   .exact hg x h
   .rw[C6.1 h];exact hr
 .rw[C6.1 hx];exact hr
def Bc7 {P:List UInt8->Prop}:∀(l:List Rec) (g:List SetR),(∀x∈g,P x.name)->(∀r∈l,P r.name)->∀x∈l.foldl addS g,P x.name
 |[],_,hg,_=>hg
 |r::l,g,hg,hl=>Bc7 l (addS g r) (Iy7 hg (hl r (.head _))) (fun y hy=>hl y (.tail _ hy))
def og (l:List Rec) (hw:∀r∈l,r.wf):∀x∈setsR l,x.name.length<=9223372036854775807:=
 Bc7 (P:=fun n=>n.length<=9223372036854775807) (sortR l) [] (by simp) (fun r hr=>by have:=(hw r (((jb l).2 r).1 hr).mem).name;unfold Mw at this;exact this)
def Zr (z:Zone) (l:List Rec) (hz:z.wf) (hl:z.recs.length<=60) (hw:∀r∈l,r.wf) (hll:l.length<=100000):S Cf5 2 [z.pv,B4 l]=some [B4 (sigsR z l)]:=by
 have k1:=Gl1 l hw (by omega);have hn:=og l hw;have hs:=oh l;unfold sigsR;generalize setsR l=s at*;refine Kf5 (N:=s.length+1) rfl ?_;have key:Hk5.ev S (s.length+1) [z.pv,B4 l,Fz s]=some (.yld 0 [B4 ([]++s.flatMap (u9 z))]):=by
  refine Dh s (fun i (g:List Rec)=>[B4 g,.i .i64 (i:Int)]) (fun i g r=> .yld 0 [B4 (g++r.flatMap (u9 z))]) (fun i g=>g.length<=i*60) [] rfl (C3 _) (by omega) (fun i g c r hd hi hc hI=> ?_) (fun g hI=> ?_)
  .left;refine⟨g++u9 z c,?_,?_,by rw[Fy,Cj]⟩
   .have ko:=Kh5 z c hz (by omega) (hn c (B8 hc));have sl:=Ny z c.name c.typ;have hil:(i:Int)<(s.length:Int):=by omega
    unfold u9;generalize sigsOf z c.name c.typ=so at*;by_cases h:c.typ=46
    .rw[if_pos h,Eb];simp(disch:=omega)only[Fm2,hc,hil,h,Wv,Ax,simprocAttr]
    .rw[if_neg h];simp(disch:=omega)only[Fm2,hc,hil,h,ko,Wv,Ax,simprocAttr]
   .have sl:=Ny z c.name c.typ;unfold u9;rw[Br];split
    .exact D4 hI (C0 _ (Nat.le_succ i))
    .omega
  .simp(disch:=omega)only[Fm2,Fq,Wv,Ax,simprocAttr];simp[Out.goes]
 rw[C8] at key;generalize s.flatMap (u9 z)=out at*;simp(disch:=omega)only[Fm2,k1,key,Wv,Ax,simprocAttr]
def Vt (z:Zone) (n:List UInt8) (t:Int) (hl:z.recs.length<=1000):S Ak3 3 [z.pv,.s n,.i .i64 t]=some [B4 (covR z n t)]:=by
 refine Jx0 (N:=z.recs.length+1) rfl ?_;have key:En9.ev S (z.recs.length+1) [z.pv,.s n,.i .i64 t]=some (.yld 0 [B4 ([]++covR z n t)]):=by
  refine Dh z.recs (fun i (g:List Rec)=>[B4 g,.i .i64 (i:Int)]) (fun i g r=> .yld 0 [B4 (g++r.filter fun r=>decide (r.name=n) && decide (r.typ=46) && decide (r.data.a=t))]) (fun i g=>g.length<=i) [] rfl (C3 _) (by omega) (fun i g c r hd hi hc hI=> ?_) (fun g hI=> ?_)
  .left;have hil:(i:Int)<(z.recs.length:Int):=by omega
   by_cases h1:c.name=n
   .by_cases h2:c.typ=46
    .by_cases h3:c.data.a=t
     .refine⟨g++[c],?_,by simp;omega,by rw[Er (by simp[h1,h2,h3]),Cj];rfl⟩;simp(disch:=omega)only[i6,hc,hil,h1,h2,h3,Ax,simprocAttr]
     .refine⟨g,?_,by omega,by rw[G9 (by simp[h3])]⟩;simp(disch:=omega)only[i6,hc,hil,h1,h2,h3,Ax,simprocAttr]
    .refine⟨g,?_,by omega,by rw[G9 (by simp[h2])]⟩;simp(disch:=omega)only[i6,hc,hil,h1,h2,Ax,simprocAttr]
   .refine⟨g,?_,by omega,by rw[G9 (by simp[h1])]⟩;simp(disch:=omega)only[i6,hc,hil,h1,Ax,simprocAttr]
  .simp(disch:=omega)only[i6,Fq,Ax,simprocAttr];simp[Out.goes,covR]
 rw[C8] at key;generalize covR z n t=out at*;simp(disch:=omega)only[i6,key,Ax,simprocAttr]
def Fr4 (z:Zone) (n:List UInt8) (t:Int) (l:List Rec) (p3 p4 p5 p6 p7 p8:PV) (N:Nat) (hN:l.length<N) (hl:l.length<=1000000):
  Gs3.ev S N [z.pv,.s n,.i .i64 t,p3,p4,p5,p6,p7,p8,B4 l]=some (.yld 0 [B4 (l.map (Ns n))]):=by
 refine Dh l (fun i (g:List Rec)=>[B4 g,.i .i64 (i:Int)]) (fun i g r=> .yld 0 [B4 (l.map (Ns n))]) (fun i g=>g=(l.take i).map (Ns n)++l.drop i) l rfl (by simp) hN (fun i g c r hd hi hc hI=> ?_) (fun g hI=> ?_)
 .left;obtain⟨h1,h2,h3⟩:=Zk l n i c r g hd hi hc hI;refine⟨g.set i {c with name:=n},?_,h3,rfl⟩;have hs:Mx 16 0 [.s n] (B4 g) (.i .i64 (i:Int))=some (B4 (g.set i {c with name:=n})):=by have:=Uz g .i64 (i:Int) n c (by omega) (by rw[Ef];exact h1);rwa[Ef] at this
  have hil:(i:Int)<(g.length:Int):=by omega
  generalize g.set i {c with name:=n}=g' at*;simp(disch:=omega)only[Cw4,h1,hs,hil,Ax,simprocAttr]
 .have e:g=l.map (Ns n):=by rw[hI];simp
  have hgl:g.length=l.length:=by rw[e,Dt]
  rw[<-e];have hil:¬(l.length:Int)<(g.length:Int):=by omega
  simp(disch:=omega)only[Cw4,hil,Ax,simprocAttr]
  try simp[Out.goes]
def Fr3 (z:Zone) (n:List UInt8) (t:Int) (hz:z.wf) (hl:z.recs.length<=1000) (hn:n.length<=9223372036854775807):S Gq7 3 [z.pv,.s n,.i .i64 t]=some [B4 (sigsOf z n t)]:=by
 refine Ky0 (N:=2000) rfl ?_;have g1:=hz.origin;unfold Mw at g1;have k1:=Gj n z.origin hn g1;have k2:=jl z n hz hl;have k3:=P2 z n hz hl hn;have el:=Rh z n;have k4:=um (encN z n) (by omega);have k5:=Vt z n t hl;have k6:=Vt z (starN (encN z n)) t hl;have cl:=Zg z (starN (encN z n)) t;have k7:=fun p3 p4 p5 p6 p7 p8=>Fr4 z n t (covR z (starN (encN z n)) t) p3 p4 p5 p6 p7 p8 2000 (by omega) (by omega);unfold sigsOf;generalize covR z (starN (encN z n)) t=cs at*;generalize covR z n t=cn at*;rcases Bl (exB z n) with h2|h2
 .rw[if_pos (.inr h2)];simp(disch:=omega)only[Cw4,k2,k5,h2,Ax,simprocAttr]
 .rcases Bl (under n z.origin) with h1|h1
  .rw[if_neg (by simp[h1,h2])];generalize starN (encN z n)=st at*;rcases Bl (starOk (encN z n)) with h3|h3
   .rw[if_pos h3];generalize cs.map (Ns n)=cm at*;simp(disch:=omega)only[Cw4,k1,k2,k3,k4,k6,k7,h1,h2,h3,Ax,simprocAttr]
   .rw[if_neg (by simp[h3])];simp(disch:=omega)only[Cw4,k1,k2,k3,k4,h1,h2,h3,Ax,simprocAttr]
  .rw[if_pos (.inl h1)];simp(disch:=omega)only[Cw4,k1,k2,k5,h1,h2,Ax,simprocAttr]
def V8 (z:Zone) (l:List Rec) (hz:z.wf) (hl:z.recs.length<=60) (hw:∀r∈l,r.wf) (hll:l.length<=100000):S Am5 2 [z.pv,B4 l]=some [B4 (sigsR z l)]:=by
 have k1:=Gl2 l hw (by omega);have hn:=og l hw;have hs:=oh l;unfold sigsR;generalize setsR l=s at*;refine Kf0 (N:=s.length+1) rfl ?_;have key:Hk1.ev S (s.length+1) [z.pv,B4 l,Fz s]=some (.yld 0 [B4 ([]++s.flatMap (u9 z))]):=by
  refine Dh s (fun i (g:List Rec)=>[B4 g,.i .i64 (i:Int)]) (fun i g r=> .yld 0 [B4 (g++r.flatMap (u9 z))]) (fun i g=>g.length<=i*60) [] rfl (C3 _) (by omega) (fun i g c r hd hi hc hI=> ?_) (fun g hI=> ?_)
  .left;refine⟨g++u9 z c,?_,?_,by rw[Fy,Cj]⟩
   .have ko:=Fr3 z c.name c.typ hz (by omega) (hn c (B8 hc));have sl:=Ny z c.name c.typ;have hil:(i:Int)<(s.length:Int):=by omega
    unfold u9;generalize sigsOf z c.name c.typ=so at*;by_cases h:c.typ=46
    .rw[if_pos h,Eb];simp(disch:=omega)only[Fl9,hc,hil,h,Wv,Ax,simprocAttr]
    .rw[if_neg h];simp(disch:=omega)only[Fl9,hc,hil,h,ko,Wv,Ax,simprocAttr]
   .have sl:=Ny z c.name c.typ;unfold u9;rw[Br];split
    .exact D4 hI (C0 _ (Nat.le_succ i))
    .omega
  .simp(disch:=omega)only[Fl9,Fq,Wv,Ax,simprocAttr];simp[Out.goes]
 rw[C8] at key;generalize s.flatMap (u9 z)=out at*;simp(disch:=omega)only[Fl9,k1,key,Wv,Ax,simprocAttr]
def H5 (z:Zone) (l:List Rec) (hl:z.recs.length<=60):(sigsR z l).length<=l.length*60:=by
 have h:∀s:List SetR,(s.flatMap (u9 z)).length<=s.length*60:=fun s=>by
  induction s with
  |nil=>simp
  |cons x s ih=>
   rw[Fy,Br,B9];have:(u9 z x).length<=60:=by
    unfold u9;split
    .simp
    .exact D4 (Ny z _ _) hl
   omega
 have h1:=h (setsR l);have h2:=oh l;unfold sigsR;omega
def yk (z:Zone) (l:List Rec) (hl:z.recs.length<=60) (hll:l.length<=16000):(sigsR z l).length<=960000:=by have:=H5 z l hl;omega
def J0:Zone:=⟨[120,46],[⟨[120,46],2,9,⟨false,0,0,[110,46],[],[],0,0,0,0,0,0,0⟩⟩,
 ⟨[120,46],6,9,⟨false,0,0,[110,46],[109,46],[],3,0,0,0,5,0,0⟩⟩,
 ⟨[120,46],47,5,⟨false,0,0,[42,46,120,46],[],[],0,0,0,0,0,0,211106232533060⟩⟩,
 ⟨[42,46,120,46],1,9,⟨false,0,1,[],[],[],0,0,0,0,0,0,0⟩⟩,
 ⟨[42,46,120,46],46,9,⟨false,0,0,[120,46],[],[115],1,1,9,9,0,0,0⟩⟩,
 ⟨[42,46,120,46],47,5,⟨false,0,0,[120,46],[],[],0,0,0,0,0,0,211106232532994⟩⟩]⟩
def In1:Rec:=⟨[97,46,120,46],46,9,⟨false,0,0,[120,46],[],[115],1,1,9,9,0,0,0⟩⟩
def Ag8:S Hr9 0 []=some [J0.pv]:=(S2 ext_mono).2 ⟨3,by kernel_rfl⟩
def Fp8:J0.wf:=by refine⟨by unfold Mw;decide,by decide,fun r hr=> ?_⟩;simp only[J0,Cq,List.mem_nil_iff,or_false] at hr;rcases hr with rfl|rfl|rfl|rfl|rfl|rfl<;>(constructor<;>(try constructor))<;>simp[Fh4,Wy,Mw]
def M9 (a:List Rec) (ha:a.length<=100000000):S Cf6 2 [B4 a,B4 a]=some [.b true]:=by
 refine Kg1 (N:=a.length+1) rfl ?_;have key:Hk9.ev S (a.length+1) [B4 a,B4 a]=some (.yld 0 []):=by
  refine Et a (fun i=>[.i .i64 (i:Int)]) (fun _ _=> .yld 0 []) rfl (by omega) (fun i c r hd hi hc=> ?_) ?_
  .left;simp(disch:=omega)only[Hw9,hc,Ax,simprocAttr]
   try simp
  .simp(disch:=omega)only[Hw9,Ax,simprocAttr];simp[Out.goes]
 simp(disch:=omega)only[Hw9,key,Ax,simprocAttr]
def Cy0 (z:Zone) (hz:z.wf):S Js4 1 [z.pv]=some [.b (decide (z.recs.length<=60) && decide (Jk z=0))]:=by
 refine Kr6 (N:=1) rfl ?_;by_cases hl:z.recs.length<=60
 .have hl':(z.recs.length:Int)<=60:=by omega
  have k:=m7 z hz;by_cases h:Jk z=0
  .rw[h] at k ⊢;simp(disch:=omega)only[Kj4,k,hl',Ax,simprocAttr];simp[hl]
  .simp(disch:=omega)only[Kj4,k,hl',h,Ax,simprocAttr];simp[h]
 .have hl':¬(z.recs.length:Int)<=60:=by omega
  simp(disch:=omega)only[Kj4,hl',Ax,simprocAttr];simp[hl]
end Go.X.G
