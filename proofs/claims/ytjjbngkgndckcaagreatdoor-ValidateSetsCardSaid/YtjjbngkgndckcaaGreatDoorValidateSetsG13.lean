/- Merging in place: the library's function. -/
import Derived.Test.YtjjbngkgndckcaaGreatDoorValidateSetsG12
import Derived.Test.YtjjbngkgndckcaaGreatDoorValidateSetsG8
import Derived.Test.YtjjbngkgndckcaaGreatDoorValidateSetsG11
import Derived.Test.YtjjbngkgndckcaaGreatDoorValidateSetsG10
import Derived.Test.YtjjbngkgndckcaaGreatDoorValidateSetsG9
open Bool renaming and_eq_true->Bt,eq_false_or_eq_true->B0,false_eq_true->B5,or_eq_true->Cq,true_and->Ew9
open Int renaming toNat_natCast->Es,lt_irrefl->E2,le_refl->Ud
open List renaming getElem?_eq_some_iff->Bn,length_append->Br,getElem?_eq_getElem->B4,append_assoc->Ck,length_take->Cv,getElem?_append_right->Cw,mem_of_getElem?->Cy,length_cons->Cz,getElem?_append_left->Cd,mem_cons->Cg,getElem?_drop->Cl,length_nil->Cm,eq_nil_of_length_eq_zero->Cp,length_drop->C1,length_pos_iff->C2,mem_append_right->C6,take_append_drop->Dk,cons_append->Dq,all_eq_true->Db,mem_append->Dp,take_length->D7,getElem?_cons_succ->Ec,drop_eq_getElem_cons->Eg,nil_append->Em,take_add_one->Ep,mem_of_mem_take->Er,append_nil->Fz,mem_of_mem_drop->F6,drop_drop->F7,length_map->Gv,drop_zero->Gt,getElem_mem->Hj,flatMap_cons->Hs,length_set->H9,mem_cons_self->Im,mem_cons_of_mem->Jv,all_cons->Km,pairwise_append->Nq,set_append_right->d9,take_take->y4,take_left->y5,getElem?_set_ne->y6,mem_map->Bm8
open Nat renaming le_refl->B7,mul_le_mul_right->Cn,zero_le->D9,le_trans->En,add_zero->E5,sub_self->Nk,add_sub_cancel->V4,min_eq_left->Yn
set_option maxHeartbeats 1000000
set_option linter.defProp false
set_option linter.unusedVariables false
set_option linter.unusedSimpArgs false
namespace Go.X.G
open Go Go.X
def Az:=And.intro xe<|And.intro EVP EV
def Ay:=And.intro EVC<|And.intro xe<|And.intro EVP EV
def Ax:=And.intro EVM<|And.intro EVC<|And.intro xe<|And.intro EVP EV
def Fb (x:Int):bin .shr (.i .u64 x) (.i .u64 1)=some (.i .u64 (x / 2)):=by
 simp only[bin,Md];rw[if_neg (by decide)];have:(2:Int) ^ min (1:Int).toNat IntKind.u64.bits=2:=by decide
 rw[this,Int.fdiv_eq_ediv_of_nonneg _ (by decide)]
def Dz4 {α:Type} (P Q:List α) (x y:α):((P++x::y::Q).set P.length y).set (P.length+1) x=P++y::x::Q:=by rw[d9 _ _ (B7 _),Nk,List.set_cons_zero,d9 _ _ (by omega),show P.length+1 - P.length=1 by omega];rfl
def cz {α:Type} (P Q:List α) (x:α):(P++x::Q)[P.length]? =some x:=by simp
def ic {α:Type} (P Q:List α) (x y:α):(P++x::y::Q)[P.length+1]? =some y:=by simp
structure Cmp (g:Nat) (caps:List PV) (c:Rec->Rec->Int) (P:Rec->Prop):Prop where
 ok:∀x y,P x->P y->S g 2 (x.pv::y.pv::caps)=some [.i .i64 (c x y)]
def leC (c:Rec->Rec->Int) (x y:Rec):Bool:= !decide (c y x<0)
def Cx3 {c:Rec->Rec->Int} {x y:Rec}:leC c x y=true↔¬c y x<0:=by simp[leC]
def Cx4 {c:Rec->Rec->Int} {x y:Rec}:leC c x y=false↔c y x<0:=by simp[leC]
section
variable {g:Nat} {caps:List PV} {c:Rec->Rec->Int} {P:Rec->Prop}
def Gq5 (h:Cmp g caps c P) (X B Y:List Rec) (x:Rec) (s:List Rec) (hsd:s=X++x::(B++Y)) (a m b:Int) (ha:a=X.length) (hm:m=a+1) (hb:b=m+B.length) (hs:s.length<=1000000) (hP:∀y∈s,P y) (N:Nat) (hN:B.length<N):
  ∃p:Nat,Bw1.ev S N [B9 s,.i .i64 a,.i .i64 m,.i .i64 b,.f g caps]=some (.yld 0 [.i .i64 (m+p)])∧p<=B.length∧(∀y,p≠0->B[p - 1]? =some y->c y x<0)∧∀y,B[p]? =some y->¬c y x<0:=by
 have hl:s.length=X.length+1+B.length+Y.length:=by rw[hsd];simp;omega
 have hx:s[X.length]? =some x:=by rw[hsd];exact cz _ _ _
 have hB:∀k y,B[k]? =some y->s[X.length+1+k]? =some y:=fun k y hk=>by have:=(Bn.1 hk).1;rw[hsd,Cw (by omega),show X.length+1+k - X.length=k+1 by omega,Ec,Cd this,hk]
 have hPx:P x:=hP x (by rw[hsd];simp);have key:=Ir (fn:=S) (N:=N) (J:=[B9 s,.i .i64 a,.i .i64 m,.i .i64 b,.f g caps]) (id:=1) (init:=[.v 2,.v 3]) (body:=j6) (α:=Nat×Nat)
  (fun w=>[.i .i64 (m+w.1),.i .i64 (m+w.2)])
  (fun o=>∃p:Nat,o= .yld 0 [.i .i64 (m+p)]∧p<=B.length∧(∀y,p≠0->B[p - 1]? =some y->c y x<0)∧∀y,B[p]? =some y->¬c y x<0)
  (fun w=>w.1<=w.2∧w.2<=B.length∧(∀y,w.1≠0->B[w.1 - 1]? =some y->c y x<0)∧∀y,B[w.2]? =some y->¬c y x<0)
  (fun w=>w.2 - w.1) (0,B.length) ?_ ?_ (by simp only;omega) ?_
 .obtain⟨o,h1,p,rfl,h2⟩:=key;exact⟨p,h1,h2⟩
 .subst hb;simp(disch:=omega)only[EVT,Ax,simprocAttr];simp
 .refine⟨by simp,by simp,fun y h0=>absurd rfl h0,fun y hy=> ?_⟩;simp at hy
 .rintro⟨p,q⟩ ⟨h1,h2,h3,h4⟩;simp only at h1 h2 h3 h4;by_cases hpq:p<q
  .left;have hk:(p+q) / 2<B.length:=by omega
   have hy:=B4 hk;generalize B[(p+q) / 2]=y at hy;have hsy:=hB _ y hy;have hPy:P y:=hP y (Cy hsy);have hc:=h.ok y x hPy hPx;have hlt:m+(p:Int)<m+(q:Int):=by omega
   have e1:(m+(p:Int)+(m+(q:Int))) / 2=m+(((p+q) / 2:Nat):Int):=by omega
   have e2:(m+(((p+q) / 2:Nat):Int)).toNat=X.length+1+(p+q) / 2:=by omega
   have e3:a.toNat=X.length:=by omega
   by_cases hcy:c y x<0
   .refine⟨((p+q) / 2+1,q),?_,⟨by simp only;omega,h2,fun z _ hz=> ?_,h4⟩,by simp only;omega⟩
    .have e4:m+(((p+q) / 2+1:Nat):Int)=m+(((p+q) / 2:Nat):Int)+1:=by omega
     simp only[e4];generalize (p+q) / 2=k at*;simp(disch:=omega)only[F8,hlt,Fb,e1,e2,e3,hsy,hx,hc,hcy,EVT,Ax,simprocAttr]
    .simp only[V4] at hz;rw[hy] at hz;injection hz with hz;subst hz;exact hcy
   .refine⟨(p,(p+q) / 2),?_,⟨by simp only;omega,by simp only;omega,h3,fun z hz=> ?_⟩,by simp only;omega⟩
    .simp only;generalize (p+q) / 2=k at*;simp(disch:=omega)only[F8,hlt,Fb,e1,e2,e3,hsy,hx,hc,hcy,EVT,Ax,simprocAttr]
    .simp only at hz;rw[hy] at hz;injection hz with hz;subst hz;exact hcy
  .right;have e:p=q:=by omega
   subst e;have hlt:¬m+(p:Int)<m+(p:Int):=by omega
   refine⟨.yld 0 [.i .i64 (m+p)],?_,rfl,p,rfl,h2,h3,h4⟩;simp(disch:=omega)only[F8,hlt,EVT,Ax,simprocAttr]
def Gq7 (L L':List Rec) (i:Nat) (x y:Rec) (g0:L[i]? =some x) (g1:L[i+1]? =some y) (sw:(L.set i y).set (i+1) x=L') (k e:Int) (hk:k=i) (he:k<e - 1) (he2:e<=1000000) (hL:L.length<=1000000) (w0 w1 w2 w3 w4:PV) (N:Nat):
  X6.ev S N [w0,w1,w2,w3,w4,.i .i64 e,.i .i64 k,B9 L]=some (.yld 1 [.i .i64 (k+1),B9 L']):=by
 have hi:=(Bn.1 g1).1;have ti0:k.toNat=i:=by omega
 have ti1:(k+1).toNat=i+1:=by omega
 have g2:(L.set i y)[i+1]? =some y:=by rw[y6 (by omega)];exact g1
 simp(disch:=first|omega|(rw[H9];omega))only[F8,he,ti0,ti1,g0,g1,g2,sw,EVT,Ax,simprocAttr]
def Gq6 (L L':List Rec) (i:Nat) (x y:Rec) (g0:L[i]? =some x) (g1:L[i+1]? =some y) (sw:(L.set (i+1) x).set i y=L') (k e:Int) (hk:k=i+1) (he:e<k) (he2:0<=e) (hL:L.length<=1000000) (w0 w1 w2 w3 w4:PV) (N:Nat):
  X5.ev S N [w0,w1,w2,w3,w4,.i .i64 e,.i .i64 k,B9 L]=some (.yld 1 [.i .i64 (k - 1),B9 L']):=by
 have hi:=(Bn.1 g1).1;have ti0:(k - 1).toNat=i:=by omega
 have ti1:k.toNat=i+1:=by omega
 have g2:(L.set (i+1) x)[i]? =some x:=by rw[y6 (by omega)];exact g0
 simp(disch:=first|omega|(rw[H9];omega))only[F8,he,ti0,ti1,g0,g1,g2,sw,EVT,Ax,simprocAttr]
def Gq4 (X B Y:List Rec) (x:Rec) (s:List Rec) (hsd:s=X++x::(B++Y)) (a m b:Int) (w:PV) (p:Nat) (ha:a=X.length) (hm:m=a+1) (hp:p<=B.length) (hs:s.length<=1000000) (N:Nat) (hN:B.length<N) (w1 w2 w3:PV):
  Bq9.ev S N [B9 s,.i .i64 a,w1,w2,w3,.i .i64 (m+p)]=some (.yld 0 [B9 (X++(B.take p++x::B.drop p)++Y)]):=by
 have hl:s.length=X.length+1+B.length+Y.length:=by rw[hsd];simp;omega
 refine Ft p (fun t=>[.i .i64 (a+t),B9 ((X++B.take t)++x::(B.drop t++Y))]) (fun _=> .yld 0 [B9 (X++(B.take p++x::B.drop p)++Y)]) ?_ (by omega) (fun t ht=> ?_) ?_
 .simp(disch:=omega)only[EVT,Ax,simprocAttr];rw[hsd];simp
 .left;refine⟨?_,rfl⟩;have hlt:t<B.length:=by omega
  have hy:=B4 hlt;have hd:B.drop t=B[t]::B.drop (t+1):=Eg hlt;have htk:B.take (t+1)=B.take t++[B[t]]:=by rw[Ep,hy];rfl
  have e0:X++B.take (t+1)++x::(B.drop (t+1)++Y)=X++B.take t++B[t]::x::(B.drop (t+1)++Y):=by rw[htk];simp only[Ck,Dq,Em]
  show X6.ev S N ([B9 s,.i .i64 a,w1,w2,w3,.i .i64 (m+p)]++[.i .i64 (a+t),B9 ((X++B.take t)++x::(B.drop t++Y))])=some (.yld 1 [.i .i64 (a+((t+1:Nat):Int)),B9 ((X++B.take (t+1))++x::(B.drop (t+1)++Y))]);rw[e0,hd,Dq];generalize B[t]=y at*;have lP:(X++B.take t).length=X.length+t:=by rw[Br,Cv];omega
  have sw:=Dz4 (X++B.take t) (B.drop (t+1)++Y) x y;have g0:=cz (X++B.take t) (y::(B.drop (t+1)++Y)) x;have g1:=ic (X++B.take t) (B.drop (t+1)++Y) x y;have lL:(X++B.take t++x::y::(B.drop (t+1)++Y)).length=s.length:=by rw[hl];simp only[Br,Cz,Cv,C1];omega
  rw[lP] at sw g0 g1;have e5:a+((t+1:Nat):Int)=a+(t:Int)+1:=by omega
  rw[e5];exact Gq7 _ _ (X.length+t) x y g0 g1 sw (a+t) (m+p) (by omega) (by omega) (by omega) (by omega) _ _ _ _ _ N
 .refine⟨?_,rfl⟩;have hlt2:¬a+(p:Int)<m+(p:Int) - 1:=by omega
  have e0:X++B.take p++x::(B.drop p++Y)=X++(B.take p++x::B.drop p)++Y:=by simp
  rw[e0];simp(disch:=omega)only[F8,hlt2,EVT,Ax,simprocAttr]
def Gq3 (h:Cmp g caps c P) (X A Y:List Rec) (x:Rec) (s:List Rec) (hsd:s=X++(A++x::Y)) (a m:Int) (w:PV) (ha:a=X.length) (hm:m=a+A.length) (hs:s.length<=1000000) (hP:∀y∈s,P y) (N:Nat) (hN:A.length<N):
  ∃p:Nat,Bq5.ev S N [B9 s,.i .i64 a,.i .i64 m,w,.f g caps]=some (.yld 0 [.i .i64 (a+p)])∧p<=A.length∧(∀y,p≠0->A[p - 1]? =some y->¬c x y<0)∧∀y,A[p]? =some y->c x y<0:=by
 have hl:s.length=X.length+A.length+1+Y.length:=by rw[hsd];simp;omega
 have hx:s[X.length+A.length]? =some x:=by rw[hsd,<-Ck,<-Br];exact cz _ _ _
 have hA:∀k y,A[k]? =some y->s[X.length+k]? =some y:=fun k y hk=>by have:=(Bn.1 hk).1;rw[hsd,Cw (by omega),show X.length+k - X.length=k by omega,Cd this,hk]
 have hPx:P x:=hP x (by rw[hsd];simp);have key:=Ir (fn:=S) (N:=N) (J:=[B9 s,.i .i64 a,.i .i64 m,w,.f g caps]) (id:=1) (init:=[.v 1,.v 2]) (body:=jm) (α:=Nat×Nat)
  (fun w=>[.i .i64 (a+w.1),.i .i64 (a+w.2)])
  (fun o=>∃p:Nat,o= .yld 0 [.i .i64 (a+p)]∧p<=A.length∧(∀y,p≠0->A[p - 1]? =some y->¬c x y<0)∧∀y,A[p]? =some y->c x y<0)
  (fun w=>w.1<=w.2∧w.2<=A.length∧(∀y,w.1≠0->A[w.1 - 1]? =some y->¬c x y<0)∧∀y,A[w.2]? =some y->c x y<0)
  (fun w=>w.2 - w.1) (0,A.length) ?_ ?_ (by simp only;omega) ?_
 .obtain⟨o,h1,p,rfl,h2⟩:=key;exact⟨p,h1,h2⟩
 .subst hm;simp(disch:=omega)only[EVT,Ax,simprocAttr];simp
 .refine⟨by simp,by simp,fun y h0=>absurd rfl h0,fun y hy=> ?_⟩;simp at hy
 .rintro⟨p,q⟩ ⟨h1,h2,h3,h4⟩;simp only at h1 h2 h3 h4;by_cases hpq:p<q
  .left;have hk:(p+q) / 2<A.length:=by omega
   have hy:=B4 hk;generalize A[(p+q) / 2]=y at hy;have hsy:=hA _ y hy;have hPy:P y:=hP y (Cy hsy);have hc:=h.ok x y hPx hPy;have hlt:a+(p:Int)<a+(q:Int):=by omega
   have e1:(a+(p:Int)+(a+(q:Int))) / 2=a+(((p+q) / 2:Nat):Int):=by omega
   have e2:(a+(((p+q) / 2:Nat):Int)).toNat=X.length+(p+q) / 2:=by omega
   have e3:m.toNat=X.length+A.length:=by omega
   by_cases hcy:c x y<0
   .refine⟨(p,(p+q) / 2),?_,⟨by simp only;omega,by simp only;omega,h3,fun z hz=> ?_⟩,by simp only;omega⟩
    .simp only;generalize (p+q) / 2=k at*;simp(disch:=omega)only[F8,hlt,Fb,e1,e2,e3,hsy,hx,hc,hcy,EVT,Ax,simprocAttr]
    .simp only at hz;rw[hy] at hz;injection hz with hz;subst hz;exact hcy
   .refine⟨((p+q) / 2+1,q),?_,⟨by simp only;omega,h2,fun z _ hz=> ?_,h4⟩,by simp only;omega⟩
    .have e4:a+(((p+q) / 2+1:Nat):Int)=a+(((p+q) / 2:Nat):Int)+1:=by omega
     simp only[e4];generalize (p+q) / 2=k at*;simp(disch:=omega)only[F8,hlt,Fb,e1,e2,e3,hsy,hx,hc,hcy,EVT,Ax,simprocAttr]
    .simp only[V4] at hz;rw[hy] at hz;injection hz with hz;subst hz;exact hcy
  .right;have e:p=q:=by omega
   subst e;have hlt:¬a+(p:Int)<a+(p:Int):=by omega
   refine⟨.yld 0 [.i .i64 (a+p)],?_,rfl,p,rfl,h2,h3,h4⟩;simp(disch:=omega)only[F8,hlt,EVT,Ax,simprocAttr]
def Gq2 (X A Y:List Rec) (x:Rec) (s:List Rec) (hsd:s=X++(A++x::Y)) (a m:Int) (p:Nat) (ha:a=X.length) (hm:m=a+A.length) (hp:p<=A.length) (hs:s.length<=1000000) (N:Nat) (hN:A.length<N) (w1 w2 w3:PV):
  Bq4.ev S N [B9 s,w1,.i .i64 m,w2,w3,.i .i64 (a+p)]=some (.yld 0 [B9 (X++(A.take p++x::A.drop p)++Y)]):=by
 have hl:s.length=X.length+A.length+1+Y.length:=by rw[hsd];simp;omega
 refine Ft (A.length - p) (fun t=>[.i .i64 (m - t),B9 ((X++A.take (A.length - t))++x::(A.drop (A.length - t)++Y))]) (fun _=> .yld 0 [B9 (X++(A.take p++x::A.drop p)++Y)]) ?_ (by omega) (fun t ht=> ?_) ?_
 .simp(disch:=omega)only[EVT,Ax,simprocAttr];rw[hsd];simp
 .left;refine⟨?_,rfl⟩;obtain⟨u,hu⟩:∃u,A.length - t=u+1:=⟨A.length - t - 1,by omega⟩;have hlt:u<A.length:=by omega
  have hy:=B4 hlt;have hd:A.drop u=A[u]::A.drop (u+1):=Eg hlt;have htk:A.take (u+1)=A.take u++[A[u]]:=by rw[Ep,hy];rfl
  have e1:A.length - (t+1)=u:=by omega
  have e0:X++A.take (u+1)++x::(A.drop (u+1)++Y)=X++A.take u++A[u]::x::(A.drop (u+1)++Y):=by rw[htk];simp only[Ck,Dq,Em]
  show X5.ev S N ([B9 s,w1,.i .i64 m,w2,w3,.i .i64 (a+p)]++[.i .i64 (m - t),B9 ((X++A.take (A.length - t))++x::(A.drop (A.length - t)++Y))])=some (.yld 1 [.i .i64 (m - ((t+1:Nat):Int)),B9 ((X++A.take (A.length - (t+1)))++x::(A.drop (A.length - (t+1))++Y))]);rw[hu,e1,e0,hd,Dq];generalize A[u]=y at*;have lP:(X++A.take u).length=X.length+u:=by rw[Br,Cv];omega
  have sw0:((X++A.take u++y::x::(A.drop (u+1)++Y)).set (X.length+u+1) y).set (X.length+u) x=X++A.take u++x::y::(A.drop (u+1)++Y):=by rw[<-lP,List.set_comm _ _ (by omega)];exact Dz4 (X++A.take u) (A.drop (u+1)++Y) y x
  have g0:=cz (X++A.take u) (x::(A.drop (u+1)++Y)) y;have g1:=ic (X++A.take u) (A.drop (u+1)++Y) y x;have lL:(X++A.take u++y::x::(A.drop (u+1)++Y)).length=s.length:=by rw[hl];simp only[Br,Cz,Cv,C1];omega
  rw[lP] at g0 g1;have e5:m - ((t+1:Nat):Int)=m - (t:Int) - 1:=by omega
  rw[e5];exact Gq6 _ _ (X.length+u) y x g0 g1 sw0 (m - t) (a+p) (by omega) (by omega) (by omega) (by omega) _ _ _ _ _ N
 .refine⟨?_,rfl⟩;have hlt2:¬a+(p:Int)<m - ((A.length - p:Nat):Int):=by omega
  have e1:A.length - (A.length - p)=p:=by omega
  have e0:X++A.take p++x::(A.drop p++Y)=X++(A.take p++x::A.drop p)++Y:=by simp
  rw[e1,e0];simp(disch:=omega)only[F8,hlt2,EVT,Ax,simprocAttr]
end
section
variable {g:Nat} {caps:List PV} {c:Rec->Rec->Int} {P:Rec->Prop}
def Gq1 (hC:Cmp g caps c P) (X A B Y:List Rec) (s:List Rec) (hsd:s=X++(A++(B++Y))) (a m b mid:Int) (h i0 j0:Nat) (ha:a=X.length) (hm:m=a+A.length) (hb:b=m+B.length) (hM:(a+b) / 2=mid) (hmid:mid=a+h)
  (h1:i0<=j0) (h2:j0<=A.length) (h3:j0<=h) (h4:h<=i0+B.length) (hs:s.length<=1000000) (hP:∀y∈s,P y) (N:Nat) (hN:A.length<N):
  ∃i:Nat,Bq3.ev S N [B9 s,.i .i64 a,.i .i64 m,.i .i64 b,.f g caps,.i .i64 (a+i0),.i .i64 (a+j0)]=some (.yld 0 [.i .i64 (a+i)])∧i0<=i∧i<=j0∧
   (∀x y,i≠i0->A[i - 1]? =some x->B[h - i]? =some y->¬c y x<0)∧∀x y,i≠j0->A[i]? =some x->B[h - 1 - i]? =some y->c y x<0:=by
 have hl:s.length=X.length+A.length+B.length+Y.length:=by rw[hsd];simp;omega
 have hA:∀k y,A[k]? =some y->s[X.length+k]? =some y:=fun k y hk=>by have:=(Bn.1 hk).1;rw[hsd,Cw (by omega),show X.length+k - X.length=k by omega,Cd this,hk]
 have hB:∀k y,B[k]? =some y->s[X.length+A.length+k]? =some y:=fun k y hk=>by have:=(Bn.1 hk).1;rw[hsd,Cw (by omega),Cw (by omega),show X.length+A.length+k - X.length - A.length=k by omega,Cd this,hk]
 have key:=Ir (fn:=S) (N:=N) (J:=[B9 s,.i .i64 a,.i .i64 m,.i .i64 b,.f g caps,.i .i64 (a+i0),.i .i64 (a+j0)]) (id:=1) (init:=[.v 5,.v 6]) (body:=jl) (α:=Nat×Nat)
  (fun w=>[.i .i64 (a+w.1),.i .i64 (a+w.2)])
  (fun o=>∃i:Nat,o= .yld 0 [.i .i64 (a+i)]∧i0<=i∧i<=j0∧(∀x y,i≠i0->A[i - 1]? =some x->B[h - i]? =some y->¬c y x<0)∧∀x y,i≠j0->A[i]? =some x->B[h - 1 - i]? =some y->c y x<0)
  (fun w=>w.1<=w.2∧i0<=w.1∧w.2<=j0∧(∀x y,w.1≠i0->A[w.1 - 1]? =some x->B[h - w.1]? =some y->¬c y x<0)∧∀x y,w.2≠j0->A[w.2]? =some x->B[h - 1 - w.2]? =some y->c y x<0)
  (fun w=>w.2 - w.1) (i0,j0) ?_ ?_ (by simp only;omega) ?_
 .obtain⟨o,h1,p,rfl,h2⟩:=key;exact⟨p,h1,h2⟩
 .simp(disch:=omega)only[EVT,Ax,simprocAttr]
 .exact⟨h1,B7 _,B7 _,fun x y h0=>absurd rfl h0,fun x y h0=>absurd rfl h0⟩
 .rintro⟨p,q⟩ ⟨g1,g2,g3,g4,g5⟩;simp only at g1 g2 g3 g4 g5;by_cases hpq:p<q
  .left;have hk:(p+q) / 2<A.length:=by omega
   have hx:=B4 hk;have hk2:h - 1 - (p+q) / 2<B.length:=by omega
   have hy:=B4 hk2;generalize A[(p+q) / 2]=x at hx;generalize B[h - 1 - (p+q) / 2]=y at hy;have hsx:=hA _ x hx;have hsy:=hB _ y hy;have hPx:P x:=hP x (Cy hsx);have hPy:P y:=hP y (Cy hsy);have hc:=hC.ok y x hPy hPx;have hlt:a+(p:Int)<a+(q:Int):=by omega
   have e1:(a+(p:Int)+(a+(q:Int))) / 2=a+(((p+q) / 2:Nat):Int):=by omega
   have e2:(a+(((p+q) / 2:Nat):Int)).toNat=X.length+(p+q) / 2:=by omega
   have e3:(mid+m - 1 - (a+(((p+q) / 2:Nat):Int))).toNat=X.length+A.length+(h - 1 - (p+q) / 2):=by omega
   have hkh:(p+q) / 2<h:=by omega
   by_cases hcy:c y x<0
   .refine⟨(p,(p+q) / 2),?_,⟨by simp only;omega,g2,by simp only;omega,g4,fun u v _ hu hv=> ?_⟩,by simp only;omega⟩
    .simp only;generalize (p+q) / 2=k at*;simp(disch:=omega)only[F8,hlt,Fb,hM,e1,e2,e3,hsy,hsx,hc,hcy,EVT,Ax,simprocAttr]
    .simp only at hu hv;rw[hx] at hu;injection hu with hu;subst hu;rw[hy] at hv;injection hv with hv;subst hv;exact hcy
   .refine⟨((p+q) / 2+1,q),?_,⟨by simp only;omega,by simp only;omega,g3,fun u v _ hu hv=> ?_,g5⟩,by simp only;omega⟩
    .have e4:a+(((p+q) / 2+1:Nat):Int)=a+(((p+q) / 2:Nat):Int)+1:=by omega
     simp only[e4];generalize (p+q) / 2=k at*;simp(disch:=omega)only[F8,hlt,Fb,hM,e1,e2,e3,hsy,hsx,hc,hcy,EVT,Ax,simprocAttr]
    .simp only[V4] at hu hv;rw[show h - ((p+q) / 2+1)=h - 1 - (p+q) / 2 by omega] at hv;rw[hx] at hu;injection hu with hu;subst hu;rw[hy] at hv;injection hv with hv;subst hv;exact hcy
  .right;have e:p=q:=by omega
   subst e;have hlt:¬a+(p:Int)<a+(p:Int):=by omega
   refine⟨.yld 0 [.i .i64 (a+p)],?_,rfl,p,rfl,g2,g3,g4,g5⟩;simp(disch:=omega)only[F8,hlt,EVT,Ax,simprocAttr]
def Dg2 {le:Rec->Rec->Bool} (ht:TP le) {B:List Rec} (hB:B.Pairwise fun x y=>le x y=true) (x:Rec) (p:Nat) (hp:p<=B.length) (h1:∀y,p≠0->B[p - 1]? =some y->le x y=false) (h2:∀y,B[p]? =some y->le x y=true):mrg le [x] B=B.take p++x::B.drop p:=by have e1:=Sg ht (A:=[x]) (B:=B) (by simp) hB 0 p (fun u v h=>absurd rfl h) (fun u v h0 hu hv=>by simp at hu;subst hu;exact h1 v h0 hv) (by simp) hp;have e2:=Sg ht (A:=[x]) (B:=B.drop p) (by simp) (hB.sublist (List.drop_sublist p B)) 1 0 (fun u v _ hu hv=>by simp at hu;subst hu;rw[Cl] at hv;exact h2 v hv) (fun u v h=>absurd rfl h) (by simp) (by simp);rw[e1];simp only[List.take_zero,Gt,List.take_succ_cons,List.drop_succ_cons,Lb] at e2 ⊢;rw[e2];simp[mrg]
def Dg1 {le:Rec->Rec->Bool} (ht:TP le) {A:List Rec} (hA:A.Pairwise fun x y=>le x y=true) (x:Rec) (p:Nat) (hp:p<=A.length) (h1:∀y,p≠0->A[p - 1]? =some y->le y x=true) (h2:∀y,A[p]? =some y->le y x=false):mrg le A [x]=A.take p++x::A.drop p:=by have e1:=Sg ht (A:=A) (B:=[x]) hA (by simp) p 0 (fun u v h0 hu hv=>by simp at hv;subst hv;exact h1 u h0 hu) (fun u v h=>absurd rfl h) hp (by simp);have e2:=Sg ht (A:=A.drop p) (B:=[x]) (hA.sublist (List.drop_sublist p A)) (by simp) 0 1 (fun u v h=>absurd rfl h) (fun u v _ hu hv=>by simp at hv;subst hv;rw[Cl] at hu;exact h2 u hu) (by simp) (by simp);rw[e1];simp only[List.take_zero,Gt,List.take_succ_cons,List.drop_succ_cons,Lb] at e2 ⊢;rw[e2];simp[mrg]
set_option maxHeartbeats 2000000 in
def Kq (hC:Cmp g caps c P) (ht:TP (leC c)):∀(n:Nat) (X A B Y:List Rec) (a m b:Int),A.length+B.length<=n->A≠[]->B≠[]->(A.Pairwise fun x y=>leC c x y=true)->(B.Pairwise fun x y=>leC c x y=true)->
  a=X.length->m=a+A.length->b=m+B.length->(X++A++B++Y).length<=1000000->(∀y∈X++A++B++Y,P y)->
  S Sx 1048581 [B9 (X++A++B++Y),.i .i64 a,.i .i64 m,.i .i64 b,.f g caps]=some [B9 (X++mrg (leC c) A B++Y)]
 |0,X,A,B,Y,a,m,b,hn,hA,_,_,_,_,_,_,_,_=>absurd (Cp (by omega)) hA
 |n+1,X,A,B,Y,a,m,b,hn,hA,hB,sA,sB,ha,hm,hb,hs,hP=>by
  have hA':0<A.length:=C2.2 hA;have hB':0<B.length:=C2.2 hB;have hs2:=hs;simp only[Br] at hs2;obtain⟨N,hN⟩:∃N,N=A.length+B.length+1:=⟨_,rfl⟩;refine En4 (N:=N) rfl ?_;by_cases c1:A.length=1
  ·-- one ahead
   obtain⟨x,rfl⟩:=List.length_eq_one_iff.1 c1;have hsd:X++[x]++B++Y=X++x::(B++Y):=by simp
   obtain⟨p,k1,k2,k3,k4⟩:=Gq5 hC X B Y x (X++[x]++B++Y) hsd a m b ha (by simpa using hm) hb hs hP N (by omega);have k5:=Gq4 X B Y x (X++[x]++B++Y) hsd a m b .u p ha (by simpa using hm) k2 hs N (by omega) (.i .i64 m) (.i .i64 b) (.f g caps);have e:=Dg2 ht sB x p k2 (fun y h0 hy=>Cx4.2 (k3 y h0 hy)) (fun y hy=>Cx3.2 (k4 y hy));rw[e];have q1:m - a=1:=by simp at hm;omega
   generalize X++[x]++B++Y=s at*;generalize X++(List.take p B++x::List.drop p B)++Y=u at*;simp(disch:=omega)only[F8,q1,k1,k5,EVT,Ax,simprocAttr]
  .by_cases c2:B.length=1
   .obtain⟨x,rfl⟩:=List.length_eq_one_iff.1 c2;have hsd:X++A++[x]++Y=X++(A++x::Y):=by simp
    obtain⟨p,k1,k2,k3,k4⟩:=Gq3 hC X A Y x (X++A++[x]++Y) hsd a m (.i .i64 b) ha hm hs hP N (by omega);have k5:=Gq2 X A Y x (X++A++[x]++Y) hsd a m p ha hm k2 hs N (by omega) (.i .i64 a) (.i .i64 b) (.f g caps);have e:=Dg1 ht sA x p k2 (fun y h0 hy=>Cx3.2 (k3 y h0 hy)) (fun y hy=>Cx4.2 (k4 y hy));rw[e];have q1:¬m - a=1:=by omega
    have q2:b - m=1:=by simp at hb;omega
    generalize X++A++[x]++Y=s at*;generalize X++(List.take p A++x::List.drop p A)++Y=u at*;simp(disch:=omega)only[F8,q1,q2,k1,k5,EVT,Ax,simprocAttr]
   ·-- two parts of more
    have q1:¬m - a=1:=by omega
    have q2:¬b - m=1:=by omega
    obtain⟨h,hh⟩:∃h,h=(A.length+B.length) / 2:=⟨_,rfl⟩;obtain⟨mid,hM⟩:∃mid,(a+b) / 2=mid:=⟨_,rfl⟩;have hmid:mid=a+h:=by omega
    obtain⟨i0,j0,hc15,h1,h2,h3,h4,hi0,hj0⟩:∃i0 j0:Nat,X3.ev S N [B9 (X++A++B++Y),.i .i64 a,.i .i64 m,.i .i64 b,.f g caps]=some (.yld 0 [.i .i64 (a+i0),.i .i64 (a+j0)])∧i0<=j0∧j0<=A.length∧j0<=h∧h<=i0+B.length∧(i0=0∨h - i0=B.length)∧(j0=h∨j0=A.length):=by
     by_cases hgt:h<A.length
     .refine⟨h - B.length,h,?_,by omega,by omega,by omega,by omega,by omega,.inl rfl⟩;have t1:mid<m:=by omega
      have t2:mid+m - b=a+((h - B.length:Nat):Int):=by omega
      rw[<-t2,<-hmid];generalize X++A++B++Y=s at*;simp(disch:=omega)only[F8,Fb,hM,t1,EVT,Ax,simprocAttr]
     .refine⟨0,A.length,?_,by omega,by omega,by omega,by omega,.inl rfl,.inr rfl⟩;have t1:¬mid<m:=by omega
      generalize X++A++B++Y=s at*;simp(disch:=omega)only[F8,Fb,hM,t1,hm,EVT,Ax,simprocAttr];simp
    have hsd:X++A++B++Y=X++(A++(B++Y)):=by simp
    obtain⟨i,k1,k2,k3,k4,k5⟩:=Gq1 hC X A B Y (X++A++B++Y) hsd a m b mid h i0 j0 ha hm hb hM hmid h1 h2 h3 h4 hs hP N (by omega);have cut:=Sg ht sA sB i (h - i) (fun x y h0 hx hy=>Cx3.2 (k4 x y (fun e=>by
      rcases hi0 with q|q
      .omega
      .have:=(Bn.1 hy).1;omega) hx hy)) (fun x y h0 hx hy=>Cx4.2 (k5 x y (fun e=>by
      rcases hj0 with q|q
      .omega
      .have:=(Bn.1 hx).1;omega) hx (by rw[show h - 1 - i=h - i - 1 by omega];exact hy))) (by omega) (by omega)
    have eA:A.take i++A.drop i=A:=Dk _ _;have eB:B.take (h - i)++B.drop (h - i)=B:=Dk _ _;have lA1:(A.take i).length=i:=by rw[Cv];omega
    have lA2:(A.drop i).length=A.length - i:=C1;have lB1:(B.take (h - i)).length=h - i:=by rw[Cv];omega
    have lB2:(B.drop (h - i)).length=B.length - (h - i):=C1;have sA1:=sA.sublist (List.take_sublist i A);have sA2:=sA.sublist (List.drop_sublist i A);have sB1:=sB.sublist (List.take_sublist (h - i) B);have sB2:=sB.sublist (List.drop_sublist (h - i) B);generalize A.take i=A1 at*;generalize A.drop i=A2 at*;generalize B.take (h - i)=B1 at*;generalize B.drop (h - i)=B2 at*;have e0:X++A++B++Y=X++A1++A2++B1++(B2++Y):=by rw[<-eA,<-eB];simp
    have mem1:∀y,y∈X++A1++B1++(A2++B2++Y)->P y:=fun y hy=>hP y (by rw[e0];simp only[Dp] at hy ⊢;grind);have len1:(X++A1++B1++(A2++B2++Y)).length<=1000000:=by simp only[Br] at hs2 ⊢;omega
    have lm1:=Sf (leC c) A1 B1;have mem2:∀y,y∈(X++mrg (leC c) A1 B1)++A2++B2++Y->P y:=fun y hy=>mem1 y (by simp only[Dp,mrg_mem] at hy ⊢;grind)
    have len2:((X++mrg (leC c) A1 B1)++A2++B2++Y).length<=1000000:=by simp only[Br,lm1] at hs2 ⊢;omega
    have s1:(T.blk 0 X2 Of).ev S N [B9 (X++A++B++Y),.i .i64 a,.i .i64 m,.i .i64 b,.f g caps,.i .i64 (a+i0),.i .i64 (a+j0),.i .i64 (a+i)]=
      Of.ev S N [B9 (X++A++B++Y),.i .i64 a,.i .i64 m,.i .i64 b,.f g caps,.i .i64 (a+i0),.i .i64 (a+j0),.i .i64 (a+i),B9 (X++A1++B1++(A2++B2++Y))]:=by
     by_cases t:A2=[]∨B1=[]
     .have t1:¬(a+(i:Int)<m∧m<mid+m - (a+i)):=by
       rcases t with t|t
       .rw[t] at lA2;simp at lA2;omega
       .rw[t] at lB1;simp at lB1;omega
      have e1:X++A++B++Y=X++A1++B1++(A2++B2++Y):=by rw[e0];rcases t with t|t<;>subst t<;>simp
      rw[<-e1];generalize X++A++B++Y=s at*;by_cases t2:a+(i:Int)<m
      .have t3:¬m<mid+m - (a+i):=fun q=>t1 ⟨t2,q⟩;simp(disch:=omega)only[F8,Fb,hM,t2,t3,EVT,Ax,simprocAttr]
      .simp(disch:=omega)only[F8,Fb,hM,t2,EVT,Ax,simprocAttr]
     .have t':A2≠[]∧B1≠[]:=by grind
      have p1:=C2.2 t'.1;have p2:=C2.2 t'.2;have hr:=Af1 (X++A1) A2 B1 (B2++Y) (a+i) m (mid+m - (a+i)) g caps (by simp only[Br];omega) (by simp only[Br];omega) (by simp only[Br];omega) t'.1 t'.2 (by rw[<-e0];exact hs);have t2:a+(i:Int)<m:=by omega
      have t3:m<mid+m - (a+i):=by omega
      rw[<-e0] at hr;have e1:X++A1++B1++A2++(B2++Y)=X++A1++B1++(A2++B2++Y):=by simp
      rw[e1] at hr;generalize X++A1++B1++(A2++B2++Y)=s1 at*;generalize X++A++B++Y=s at*;simp(disch:=omega)only[F8,Fb,hM,t2,t3,hr,Gf,Qb,EVT,Ax,simprocAttr]
    have s2:(T.blk 0 X1 Og).ev S N [B9 (X++A++B++Y),.i .i64 a,.i .i64 m,.i .i64 b,.f g caps,.i .i64 (a+i0),.i .i64 (a+j0),.i .i64 (a+i),B9 (X++A1++B1++(A2++B2++Y))]=
      Og.ev S N [B9 (X++A++B++Y),.i .i64 a,.i .i64 m,.i .i64 b,.f g caps,.i .i64 (a+i0),.i .i64 (a+j0),.i .i64 (a+i),B9 (X++A1++B1++(A2++B2++Y)),B9 ((X++mrg (leC c) A1 B1)++A2++B2++Y)]:=by
     by_cases t:A1=[]∨B1=[]
     .have t1:¬(a<a+(i:Int)∧a+(i:Int)<mid):=by
       rcases t with t|t
       .rw[t] at lA1;simp at lA1;omega
       .rw[t] at lB1;simp at lB1;omega
      have e1:X++A1++B1++(A2++B2++Y)=(X++mrg (leC c) A1 B1)++A2++B2++Y:=by rcases t with t|t<;>subst t<;>simp[mrg,Lb]
      rw[<-e1];generalize X++A1++B1++(A2++B2++Y)=s1 at*;generalize X++A++B++Y=s at*;by_cases t2:a<a+(i:Int)
      .have t3:¬a+(i:Int)<mid:=fun q=>t1 ⟨t2,q⟩;simp(disch:=omega)only[F8,Fb,hM,t2,t3,EVT,Ax,simprocAttr]
      .simp(disch:=omega)only[F8,Fb,hM,t2,EVT,Ax,simprocAttr]
     .have t':A1≠[]∧B1≠[]:=by grind
      have p1:=C2.2 t'.1;have p2:=C2.2 t'.2;have hr:=Kq hC ht n X A1 B1 (A2++B2++Y) a (a+i) mid (by omega) t'.1 t'.2 sA1 sB1 ha (by omega) (by omega) len1 mem1;have t2:a<a+(i:Int):=by omega
      have t3:a+(i:Int)<mid:=by omega
      have e1:X++mrg (leC c) A1 B1++(A2++B2++Y)=(X++mrg (leC c) A1 B1)++A2++B2++Y:=by simp
      rw[e1] at hr;generalize (X++mrg (leC c) A1 B1)++A2++B2++Y=s2 at*;generalize X++A1++B1++(A2++B2++Y)=s1 at*;generalize X++A++B++Y=s at*;simp(disch:=omega)only[F8,Fb,hM,t2,t3,hr,Gf,Qb,EVT,Ax,simprocAttr]
    have s3:Og.ev S N [B9 (X++A++B++Y),.i .i64 a,.i .i64 m,.i .i64 b,.f g caps,.i .i64 (a+i0),.i .i64 (a+j0),.i .i64 (a+i),B9 (X++A1++B1++(A2++B2++Y)),B9 ((X++mrg (leC c) A1 B1)++A2++B2++Y)]=
      some (.ret [B9 (X++mrg (leC c) A B++Y)]):=by
     have e9:X++mrg (leC c) A B++Y=(X++mrg (leC c) A1 B1)++mrg (leC c) A2 B2++Y:=by rw[cut];simp
     rw[e9];by_cases t:A2=[]∨B2=[]
     .have t1:¬(mid<mid+m - (a+i)∧mid+m - (a+(i:Int))<b):=by
       rcases t with t|t
       .rw[t] at lA2;simp at lA2;omega
       .rw[t] at lB2;simp at lB2;omega
      have e1:(X++mrg (leC c) A1 B1)++A2++B2++Y=(X++mrg (leC c) A1 B1)++mrg (leC c) A2 B2++Y:=by rcases t with t|t<;>subst t<;>simp[mrg,Lb]
      rw[<-e1];generalize (X++mrg (leC c) A1 B1)++A2++B2++Y=s2 at*;generalize X++A1++B1++(A2++B2++Y)=s1 at*;generalize X++A++B++Y=s at*;by_cases t2:mid<mid+m - (a+(i:Int))
      .have t3:¬mid+m - (a+(i:Int))<b:=fun q=>t1 ⟨t2,q⟩;simp(disch:=omega)only[F8,Fb,hM,t2,t3,EVT,Ax,simprocAttr]
      .simp(disch:=omega)only[F8,Fb,hM,t2,EVT,Ax,simprocAttr]
     .have t':A2≠[]∧B2≠[]:=by grind
      have p1:=C2.2 t'.1;have p2:=C2.2 t'.2;have hr:=Kq hC ht n (X++mrg (leC c) A1 B1) A2 B2 Y mid (mid+m - (a+i)) b (by omega) t'.1 t'.2 sA2 sB2 (by simp only[Br,lm1];omega) (by omega) (by omega) len2 mem2;have t2:mid<mid+m - (a+(i:Int)):=by omega
      have t3:mid+m - (a+(i:Int))<b:=by omega
      generalize (X++mrg (leC c) A1 B1)++mrg (leC c) A2 B2++Y=s3 at*;generalize (X++mrg (leC c) A1 B1)++A2++B2++Y=s2 at*;generalize X++A1++B1++(A2++B2++Y)=s1 at*;generalize X++A++B++Y=s at*;simp(disch:=omega)only[F8,Fb,hM,t2,t3,hr,Gf,Qb,EVT,Ax,simprocAttr]
    have f2:Of.ev S N [B9 (X++A++B++Y),.i .i64 a,.i .i64 m,.i .i64 b,.f g caps,.i .i64 (a+i0),.i .i64 (a+j0),.i .i64 (a+i),B9 (X++A1++B1++(A2++B2++Y))]=some (.ret [B9 (X++mrg (leC c) A B++Y)]):=s2.trans s3;have f1:=s1.trans f2;clear s1 s2 s3 f2 mem1 mem2 cut k4 k5;generalize X++mrg (leC c) A B++Y=s3 at*;generalize X++A++B++Y=s at*;simp(disch:=omega)only[F8,q1,q2,Fb,hM,hc15,k1,f1,EVT,Ax,simprocAttr]
end
section
variable {g:Nat} {caps:List PV} {c:Rec->Rec->Int} {P:Rec->Prop}
def Gz8 (hC:Cmp g caps c P) (L L':List Rec) (i:Nat) (x y:Rec) (g0:L[i]? =some y) (g1:L[i+1]? =some x) (sw:(L.set (i+1) y).set i x=L') (k e:Int) (hk:k=i+1) (he:e<k) (he2:0<=e) (hx:P x) (hy:P y) (hlt:c x y<0) (hL:L.length<=1000000) (w0 w2 w4 w5:PV) (N:Nat):
  L1.ev S N [w0,.i .i64 e,w2,.f g caps,w4,w5,.i .i64 k,B9 L]=some (.yld 3 [.i .i64 (k - 1),B9 L']):=by
 have hi:=(Bn.1 g1).1;have ti0:(k - 1).toNat=i:=by omega
 have ti1:k.toNat=i+1:=by omega
 have g2:(L.set (i+1) y)[i]? =some y:=by rw[y6 (by omega)];exact g0
 have hc:=hC.ok x y hx hy;simp(disch:=first|omega|(rw[H9];omega))only[Pr,Jn,Lt,he,ti0,ti1,g0,g1,g2,sw,hc,hlt,EVT,Ax,simprocAttr]
def By7 (hC:Cmp g caps c P) (L:List Rec) (i:Nat) (x y:Rec) (g0:L[i]? =some y) (g1:L[i+1]? =some x) (k e:Int) (hk:k=i+1) (he:e<k) (hx:P x) (hy:P y) (hlt:¬c x y<0) (hL:L.length<=1000000) (w0 w2 w4 w5:PV) (N:Nat):
  L1.ev S N [w0,.i .i64 e,w2,.f g caps,w4,w5,.i .i64 k,B9 L]=some (.yld 2 [B9 L]):=by
 have hi:=(Bn.1 g1).1;have ti0:(k - 1).toNat=i:=by omega
 have ti1:k.toNat=i+1:=by omega
 have hc:=hC.ok x y hx hy;simp(disch:=omega)only[Pr,Jn,Lt,he,ti0,ti1,g0,g1,hc,hlt,EVT,Ax,simprocAttr]
def Cy2 (L:List Rec) (k e:Int) (he:¬e<k) (w0 w2 w3 w4 w5:PV) (N:Nat):
  L1.ev S N [w0,.i .i64 e,w2,w3,w4,w5,.i .i64 k,B9 L]=some (.yld 2 [B9 L]):=by
 simp(disch:=omega)only[Pr,Jn,Lt,he,EVT,Ax,simprocAttr]
def Gz7 (hC:Cmp g caps c P) (ht:TP (leC c)) (X R Y:List Rec) (x:Rec) (hR:R.Pairwise fun a b=>leC c a b=true) (hP:∀y∈X++R++x::Y,P y) (hs:(X++R++x::Y).length<=1000000) (a k:Int) (ha:a=X.length) (hk:k=a+R.length) (w0 w2:PV) (N:Nat) (hN:R.length<N):
  ∃R1 R2,R=R1++R2∧(∀y∈R1,leC c y x=true)∧(∀y∈R2,leC c y x=false)∧
   Bv0.ev S N [w0,.i .i64 a,w2,.f g caps,.i .i64 k,B9 (X++R++x::Y)]=some (.yld 2 [B9 (X++(R1++x::R2)++Y)]):=by
 have hx:P x:=hP x (by simp);have hs2:=hs;simp only[Br,Cz] at hs2;have key:=Ir (fn:=S) (N:=N) (J:=[w0,.i .i64 a,w2,.f g caps,.i .i64 k,B9 (X++R++x::Y)]) (id:=3) (init:=[.v 4,.v 5]) (body:=L1) (α:=List Rec×List Rec)
  (fun w=>[.i .i64 (a+w.1.length),B9 (X++w.1++x::(w.2++Y))])
  (fun o=>∃R1 R2,R=R1++R2∧(∀y∈R1,leC c y x=true)∧(∀y∈R2,leC c y x=false)∧o= .yld 2 [B9 (X++(R1++x::R2)++Y)])
  (fun w=>R=w.1++w.2∧∀y∈w.2,leC c y x=false) (fun w=>w.1.length) (R,[]) ?_ ⟨by simp,by simp⟩ hN ?_
 .obtain⟨o,h1,R1,R2,h2,h3,h4,rfl⟩:=key;exact⟨R1,R2,h2,h3,h4,h1⟩
 .subst hk;simp only[Em];generalize X++R++x::Y=s at*;simp(disch:=omega)only[EVT,Ax,simprocAttr]
 .rintro⟨R1,R2⟩ ⟨h1,h2⟩;simp only at h1 h2;have hlen:=congrArg List.length h1;simp only[Br] at hlen;rcases List.eq_nil_or_concat R1 with rfl|⟨R0,y,rfl⟩
  .right;refine⟨_,Cy2 _ _ a (by simp) _ _ _ _ _ N,rfl,[],R2,h1,by simp,h2,?_⟩;simp
  .rw[List.concat_eq_append] at*;simp only[Br,Cz,Cm] at hlen;have hy:P y:=hP y (by rw[h1];simp);have lP:(X++R0).length=X.length+R0.length:=Br;have g0:=cz (X++R0) (x::(R2++Y)) y;have g1:=ic (X++R0) (R2++Y) y x;rw[lP] at g0 g1;have e0:X++(R0++[y])++x::(R2++Y)=X++R0++y::x::(R2++Y):=by simp
   have lL:(X++R0++y::x::(R2++Y)).length<=1000000:=by simp only[Br,Cz];omega
   by_cases hlt:c x y<0
   .left;have sw0:((X++R0++y::x::(R2++Y)).set (X.length+R0.length+1) y).set (X.length+R0.length) x=X++R0++x::(y::R2++Y):=by rw[<-lP,List.set_comm _ _ (by omega)];exact Dz4 (X++R0) (R2++Y) y x
    refine⟨(R0,y::R2),?_,⟨by simp only;rw[h1];simp,fun w hw=> ?_⟩,by simp⟩
    .have:=Gz8 hC _ _ (X.length+R0.length) x y g0 g1 sw0 (a+((R0++[y]).length:Nat)) a (by simp;omega) (by simp;omega) (by omega) hx hy hlt lL w0 w2 (.i .i64 k) (B9 (X++R++x::Y)) N;have e1:a+((R0++[y]).length:Nat) - 1=a+(R0.length:Int):=by simp;omega
     rw[e1] at this;show L1.ev S N [w0,.i .i64 a,w2,.f g caps,.i .i64 k,B9 (X++R++x::Y),.i .i64 (a+((R0++[y]).length:Nat)),B9 (X++(R0++[y])++x::(R2++Y))]=_;rw[e0];exact this
    .rcases Cg.1 hw with rfl|hw
     .exact Cx4.2 hlt
     .exact h2 w hw
   .right;have hle:leC c y x=true:=Cx3.2 hlt;refine⟨_,?_,rfl,R0++[y],R2,h1,fm ht (by rw[h1] at hR;exact(Nq.1 hR).1) hle,h2,rfl⟩;have:=By7 hC _ (X.length+R0.length) x y g0 g1 (a+((R0++[y]).length:Nat)) a (by simp;omega) (by simp;omega) hx hy hlt lL w0 w2 (.i .i64 k) (B9 (X++R++x::Y)) N;show L1.ev S N [w0,.i .i64 a,w2,.f g caps,.i .i64 k,B9 (X++R++x::Y),.i .i64 (a+((R0++[y]).length:Nat)),B9 (X++(R0++[y])++x::(R2++Y))]=_;rw[e0,this,<-e0];simp
def Vz (hC:Cmp g caps c P) (ht:TP (leC c)) (X A Y:List Rec) (a b:Int) (ha:a=X.length) (hb:b=a+A.length) (hP:∀y∈X++A++Y,P y) (hs:(X++A++Y).length<=1000000):
  ∃R,Stab (leC c) R A∧R.length=A.length∧S Z8 1048580 [B9 (X++A++Y),.i .i64 a,.i .i64 b,.f g caps]=some [B9 (X++R++Y)]:=by
 have hs2:=hs;simp only[Br] at hs2;cases A with
 |nil=>
  refine⟨[],Q0 _,rfl,?_⟩;refine Cm1 (N:=2) rfl ?_;simp only[Cm] at hb;have h1:¬a+1<b:=by omega
  have key:g8.ev S 2 [B9 (X++[]++Y),.i .i64 a,.i .i64 b,.f g caps]=some (.yld 0 [B9 (X++[]++Y)]):=by
   generalize X++[]++Y=s at*;refine Ft 0 (fun _=>[.i .i64 (a+1),B9 s]) (fun _=> .yld 0 [B9 s]) ?_ (by omega) (fun i hi=>absurd hi (by omega)) ⟨?_,rfl⟩
   .simp(disch:=omega)only[EVT,Ax,simprocAttr]
   .simp(disch:=omega)only[Pr,Jn,Lt,h1,EVT,Ax,simprocAttr]
  generalize X++[]++Y=s at*;simp(disch:=omega)only[Pr,Jn,Lt,key,EVT,Ax,simprocAttr]
 |cons x0 A=>
  obtain⟨N,hN⟩:∃N,N=A.length+3:=⟨_,rfl⟩;simp only[Cz] at hb hs2;have key:=Ir (fn:=S) (N:=N) (J:=[B9 (X++x0::A++Y),.i .i64 a,.i .i64 b,.f g caps]) (id:=1) (init:=[.bin .add (.v 1) (.c (.i .i64 1)),.v 0]) (body:=X8) (α:=List Rec×List Rec×List Rec)
   (fun w=>[.i .i64 (a+w.1.length),B9 (X++w.1++(w.2.2++Y))])
   (fun o=>∃R,Stab (leC c) R (x0::A)∧R.length=(x0::A).length∧o= .yld 0 [B9 (X++R++Y)])
   (fun w=>x0::A=w.2.1++w.2.2∧Stab (leC c) w.1 w.2.1∧w.1.length=w.2.1.length) (fun w=>w.2.2.length) ([x0],[x0],A) ?_ ⟨rfl,ff _ _,rfl⟩ (by simp only;omega) ?_
  .obtain⟨o,h1,R,h2,h3,rfl⟩:=key;refine⟨R,h2,h3,?_⟩;refine Cm1 (N:=N) rfl ?_;have h4:g8.ev S N [B9 (X++x0::A++Y),.i .i64 a,.i .i64 b,.f g caps]=_:=h1;clear h1;generalize X++x0::A++Y=s at*;generalize X++R++Y=u at*;simp(disch:=omega)only[Pr,Jn,Lt,h4,EVT,Ax,simprocAttr]
  .simp only[Cz,Cm];have e:X++[x0]++(A++Y)=X++x0::A++Y:=by simp
   rw[e];have e1:a+((0+1:Nat):Int)=a+1:=by omega
   rw[e1];generalize X++x0::A++Y=s at*;simp(disch:=omega)only[EVT,Ax,simprocAttr]
  .rintro⟨R,D,Z⟩ ⟨h1,h2,h3⟩;simp only at h1 h2 h3;have hlen:=congrArg List.length h1;simp only[Br,Cz] at hlen;cases Z with
   |nil=>
    right;rw[Fz] at h1;subst h1;refine⟨_,?_,rfl,R,h2,h3,rfl⟩;have hlt:¬a+(R.length:Int)<b:=by simp only[Cz] at h3;omega
    simp only[Em];generalize X++x0::A++Y=s at*;have hu:(X++R++Y).length<=1000000:=by simp only[Br];omega
    generalize X++R++Y=u at*;simp(disch:=omega)only[Pr,Jn,Lt,hlt,EVT,Ax,simprocAttr]
   |cons x Z=>
    left;simp only[Cz] at hlen;have hmem:∀y∈X++R++x::(Z++Y),P y:=fun y hy=>hP y (by
     rw[h1];have:=h2.mem ht y;simp only[Dp,Cg] at hy ⊢
     grind)
    have hlen2:(X++R++x::(Z++Y)).length<=1000000:=by simp only[Br,Cz];omega
    obtain⟨R1,R2,rfl,k1,k2,k3⟩:=Gz7 hC ht X R (Z++Y) x h2.sorted hmem hlen2 a (a+R.length) ha rfl (B9 (X++x0::A++Y)) (.i .i64 b) N (by omega);refine⟨(R1++x::R2,D++[x],Z),?_,⟨by simp only;rw[h1];simp,Br5 ht h2 k1 k2,by simp at h3 ⊢;omega⟩,by simp⟩;have e1:a+((R1++x::R2).length:Nat)=a+((R1++R2).length:Nat)+1:=by simp;omega
    have hlt:a+((R1++R2).length:Nat)<b:=by omega
    show X8.ev S N [B9 (X++x0::A++Y),.i .i64 a,.i .i64 b,.f g caps,.i .i64 (a+((R1++R2).length:Nat)),B9 (X++(R1++R2)++x::(Z++Y))]=some (.yld 1 [.i .i64 (a+((R1++x::R2).length:Nat)),B9 (X++(R1++x::R2)++(Z++Y))]);rw[e1];have hb2:(R1++R2).length<=1000000:=by simp only[Br] at hlen2 ⊢;omega
    generalize (R1++R2).length=n at*;generalize X++(R1++R2)++x::(Z++Y)=s1 at*;generalize X++(R1++x::R2)++(Z++Y)=s2 at*;generalize X++x0::A++Y=s at*;simp(disch:=omega)only[Pr,Jn,Lt,hlt,k3,EVT,Ax,simprocAttr]
end
def dx {α:Type} {le:α->α->Bool} (ht:TP le) {bs:Nat} {Y LY:List α} (h:Blk le bs Y LY) (hl:Y.length<=2*bs) (hb:bs<Y.length):Stab le (mrg le (Y.take bs) (Y.drop bs)) LY:=by have h1:=h.head;have h2:=(h.tail).all (by rw[C1];omega);have:=Stab.mrg ht h1 h2;rwa[Dk] at this
def Blk.pre {α:Type} {le:α->α->Bool} {bs k:Nat} {Y LY:List α} (h:Blk le bs Y LY):Blk le bs (Y.take (k*bs)) (LY.take (k*bs)):=by
 refine⟨by simp[h.len],fun j=> ?_⟩;rw[List.drop_take,List.drop_take,y4,y4];by_cases hj:j<k
 .have e:(j+1)*bs<=k*bs:=Cn _ hj;rw[Nat.succ_mul] at e;rw[Yn (by omega)];exact h.st j
 .have e:k*bs<=j*bs:=Cn _ (by omega);rw[show k*bs - j*bs=0 by omega,Nat.min_eq_right (by omega),List.take_zero,List.take_zero];exact Q0 le
section
variable {g:Nat} {caps:List PV} {c:Rec->Rec->Int} {P:Rec->Prop}
def Gk9 (hC:Cmp g caps c P) (ht:TP (leC c)) (l:List Rec) (hP:∀y∈l,P y) (hs:l.length<=1000000) (N:Nat) (hN:l.length+2<N):
  ∃(X LX Y:List Rec) (q:Nat),Bw4.ev S N [B9 l,.i .i64 l.length,.f g caps]=some (.yld 0 [.i .i64 X.length,B9 (X++Y)])∧l=LX++Y∧X.length=q*20∧Y.length<20∧Blk (leC c) 20 X LX∧∀y∈X++Y,P y:=by
 have key:=Ir (fn:=S) (N:=N) (J:=[B9 l,.i .i64 l.length,.f g caps]) (id:=1) (init:=[.c (.i .i64 0),.c (.i .i64 20),.v 0]) (body:=j9) (α:=List Rec×List Rec×List Rec×Nat)
  (fun w=>[.i .i64 (w.1.length:Int),.i .i64 ((w.1.length:Int)+20),B9 (w.1++w.2.2.1)])
  (fun o=>∃(X LX Y:List Rec) (q:Nat),o= .yld 0 [.i .i64 X.length,B9 (X++Y)]∧l=LX++Y∧X.length=q*20∧Y.length<20∧Blk (leC c) 20 X LX∧∀y∈X++Y,P y)
  (fun w=>l=w.2.1++w.2.2.1∧w.1.length=w.2.2.2*20∧Blk (leC c) 20 w.1 w.2.1∧∀y∈w.1++w.2.2.1,P y) (fun w=>w.2.2.1.length) ([],[],l,0) ?_ ⟨rfl,by simp,Blk.nil _ _,by simpa using hP⟩ (by simp only;omega) ?_
 .obtain⟨o,h1,X,LX,Y,q,rfl,h2⟩:=key;exact⟨X,LX,Y,q,h1,h2⟩
 .simp(disch:=omega)only[EVT,Ax,simprocAttr]
  try simp
 .rintro⟨X,LX,Y,q⟩ ⟨h1,h2,h3,h4⟩;simp only at h1 h2 h3 h4;have hlen:=congrArg List.length h1;simp only[Br] at hlen;have hXL:=h3.len;by_cases hge:20<=Y.length
  .left;have eY:Y.take 20++Y.drop 20=Y:=Dk _ _;have l1:(Y.take 20).length=20:=by rw[Cv];omega
   have l2:(Y.drop 20).length=Y.length - 20:=C1;have eXY:X++Y.take 20++Y.drop 20=X++Y:=by rw[Ck,eY]
   obtain⟨R,k1,k2,k3⟩:=Vz hC ht X (Y.take 20) (Y.drop 20) (X.length:Int) ((X.length:Int)+20) rfl (by omega) (by rw[eXY];exact h4) (by rw[eXY,Br];omega);rw[eXY] at k3;refine⟨(X++R,LX++Y.take 20,Y.drop 20,q+1),?_,⟨by simp only;rw[h1,Ck,eY],by simp only[Br];omega,Blk.app h2 h3 (Blk.one k1 k2 (by omega)),fun y hy=>h4 y ?_⟩,by simp only;omega⟩
   .have e1:((X++R).length:Int)=(X.length:Int)+20:=by simp only[Br];omega
    have hge':(X.length:Int)+20<=(l.length:Int):=by omega
    simp only;rw[e1];generalize X++R++Y.drop 20=s1 at*;generalize X++Y=s0 at*;simp(disch:=omega)only[Ps,hge',k3,Gf,Qb,EVT,Ax,simprocAttr]
   .have:=k1.mem ht y;simp only[Dp] at hy;rcases hy with(hy|hy)|hy
    .simp[hy]
    .exact C6 _ (Er (this.1 hy))
    .exact C6 _ (F6 hy)
  .right;have hge':¬(X.length:Int)+20<=(l.length:Int):=by omega
   refine⟨.yld 0 [.i .i64 X.length,B9 (X++Y)],?_,rfl,X,LX,Y,q,rfl,h1,h2,by omega,h3,h4⟩;simp only;generalize X++Y=s0 at*;simp(disch:=omega)only[Ps,hge',EVT,Ax,simprocAttr]
def Gk8 (hC:Cmp g caps c P) (ht:TP (leC c)) (l r:List Rec) (bs:Nat) (hbs:0<bs) (hbs2:bs<l.length) (hr:Blk (leC c) bs r l) (hP:∀y∈r,P y) (hs:l.length<=1000000) (w0:PV) (w3 w4 w5:PV) (N:Nat) (hN:l.length+2<N):
  ∃(X LX Y LY:List Rec) (q:Nat),Bq6.ev S N [w0,.i .i64 l.length,.f g caps,w3,w4,w5,.i .i64 bs,B9 r]=some (.yld 2 [.i .i64 X.length,B9 (X++Y)])∧l=LX++LY∧X.length=q*(2*bs)∧Y.length<2*bs∧Blk (leC c) (2*bs) X LX∧Blk (leC c) bs Y LY∧∀y∈X++Y,P y:=by
 have key:=Ir (fn:=S) (N:=N) (J:=[w0,.i .i64 l.length,.f g caps,w3,w4,w5,.i .i64 bs,B9 r]) (id:=3) (init:=[.c (.i .i64 0),.bin .mul (.c (.i .i64 2)) (.v 6),.v 7]) (body:=jp) (α:=(List Rec×List Rec)×(List Rec×List Rec)×Nat)
  (fun w=>[.i .i64 (w.1.1.length:Int),.i .i64 ((w.1.1.length:Int)+2*bs),B9 (w.1.1++w.2.1.1)])
  (fun o=>∃(X LX Y LY:List Rec) (q:Nat),o= .yld 2 [.i .i64 X.length,B9 (X++Y)]∧l=LX++LY∧X.length=q*(2*bs)∧Y.length<2*bs∧Blk (leC c) (2*bs) X LX∧Blk (leC c) bs Y LY∧∀y∈X++Y,P y)
  (fun w=>l=w.1.2++w.2.1.2∧w.1.1.length=w.2.2*(2*bs)∧Blk (leC c) (2*bs) w.1.1 w.1.2∧Blk (leC c) bs w.2.1.1 w.2.1.2∧∀y∈w.1.1++w.2.1.1,P y) (fun w=>w.2.1.1.length) (([],[]),(r,l),0) ?_ ⟨rfl,by simp,Blk.nil _ _,hr,by simpa using hP⟩ (by have:=hr.len;simp only;omega) ?_
 .obtain⟨o,h1,X,LX,Y,LY,q,rfl,h2⟩:=key;exact⟨X,LX,Y,LY,q,h1,h2⟩
 .simp(disch:=omega)only[EVT,Ax,simprocAttr];simp
 .rintro⟨⟨X,LX⟩,⟨Y,LY⟩,q⟩ ⟨h1,h2,h3,h4,h5⟩;simp only at h1 h2 h3 h4 h5;have hlen:=congrArg List.length h1;simp only[Br] at hlen;have hXL:=h3.len;have hYL:=h4.len;by_cases hge:2*bs<=Y.length
  .left;have eY:Y.take (2*bs)++Y.drop (2*bs)=Y:=Dk _ _;have l1:(Y.take (2*bs)).length=2*bs:=by rw[Cv];omega
   have l2:(Y.drop (2*bs)).length=Y.length - 2*bs:=C1;have hp:=h4.pre (k:=2);have hz:Blk (leC c) bs (Y.drop (2*bs)) (LY.drop (2*bs)):=by have:=h4.tail.tail;rwa[F7,F7,show bs+bs=2*bs by omega] at this
   have hst:=dx ht hp (by omega) (by omega);have sA:((Y.take (2*bs)).take bs).Pairwise fun x y=>leC c x y=true:=hp.head.sorted;have sB:((Y.take (2*bs)).drop bs).Pairwise fun x y=>leC c x y=true:=(hp.tail.all (by rw[C1];omega)).sorted;have lA:((Y.take (2*bs)).take bs).length=bs:=by rw[Cv];omega
   have lB:((Y.take (2*bs)).drop bs).length=bs:=by rw[C1];omega
   have eAB:(Y.take (2*bs)).take bs++(Y.take (2*bs)).drop bs=Y.take (2*bs):=Dk _ _;generalize (Y.take (2*bs)).take bs=A at*;generalize (Y.take (2*bs)).drop bs=B at*;have eXY:X++A++B++Y.drop (2*bs)=X++Y:=by rw[Ck X,eAB,Ck,eY]
   have hm:=Kq hC ht (A.length+B.length) X A B (Y.drop (2*bs)) (X.length:Int) ((X.length:Int)+bs) ((X.length:Int)+2*bs) (B7 _) (by intro e;rw[e] at lA;simp at lA;omega) (by intro e;rw[e] at lB;simp at lB;omega) sA sB rfl (by omega) (by omega) (by rw[eXY,Br];omega) (by rw[eXY];exact h5);rw[eXY] at hm;have lM:=Sf (leC c) A B;have eL:LY.take (2*bs)++LY.drop (2*bs)=LY:=Dk _ _;refine⟨((X++mrg (leC c) A B,LX++LY.take (2*bs)),(Y.drop (2*bs),LY.drop (2*bs)),q+1),?_,⟨by simp only;rw[h1,Ck,eL],by simp only[Br];rw[Nat.succ_mul];omega,Blk.app h2 h3 (Blk.one hst (by rw[lM,Cv];omega) (by omega)),hz,fun y hy=>h5 y ?_⟩,by simp only;omega⟩
   .have e1:((X++mrg (leC c) A B).length:Int)=(X.length:Int)+2*bs:=by simp only[Br];omega
    have hge':(X.length:Int)+2*(bs:Int)<=(l.length:Int):=by omega
    simp only;rw[e1];generalize X++mrg (leC c) A B++Y.drop (2*bs)=s1 at*;generalize X++Y=s0 at*;simp(disch:=omega)only[Ps,hge',hm,Gf,Qb,EVT,Ax,simprocAttr]
   .rw[<-eXY];simp only[Dp,mrg_mem] at hy ⊢
    grind
  .right;have hge':¬(X.length:Int)+2*(bs:Int)<=(l.length:Int):=by omega
   refine⟨.yld 2 [.i .i64 X.length,B9 (X++Y)],?_,rfl,X,LX,Y,LY,q,rfl,h1,h2,by omega,h3,h4,h5⟩;simp only;generalize X++Y=s0 at*;simp(disch:=omega)only[Ps,hge',EVT,Ax,simprocAttr]
def Gq0 (hC:Cmp g caps c P) (ht:TP (leC c)) (l r:List Rec) (bs:Nat) (hbs:0<bs) (hbs2:bs<l.length) (hr:Blk (leC c) bs r l) (hP:∀y∈r,P y) (hs:l.length<=1000000) (w0 w3 w4 w5:PV) (N:Nat) (hN:l.length+2<N):
  ∃r',Blk (leC c) (2*bs) r' l∧(∀y∈r',P y)∧X7.ev S N [w0,.i .i64 l.length,.f g caps,w3,w4,w5,.i .i64 bs,B9 r]=some (.yld 1 [.i .i64 ((2*bs:Nat):Int),B9 r']):=by
 obtain⟨X,LX,Y,LY,q,k,h1,h2,h3,h4,h5,h6⟩:=Gk8 hC ht l r bs hbs hbs2 hr hP hs w0 w3 w4 w5 N hN;have hlen:=congrArg List.length h1;simp only[Br] at hlen;have hXL:=h4.len;have hYL:=h5.len;have hlt:(bs:Int)<(l.length:Int):=by omega
 have e2:((2*bs:Nat):Int)=(bs:Int)*2:=by omega
 rw[e2];by_cases hge:bs<Y.length
 .have eY:Y.take bs++Y.drop bs=Y:=Dk _ _;have hst:=dx ht h5 (by omega) hge;have sA:=h5.head.sorted;have sB:=(h5.tail.all (by rw[C1];omega)).sorted;have lA:(Y.take bs).length=bs:=by rw[Cv];omega
  have lB:(Y.drop bs).length=Y.length - bs:=C1;generalize Y.take bs=A at*;generalize Y.drop bs=B at*;have eXY:X++A++B++[]=X++Y:=by rw[Fz,Ck,eY]
  have hm:=Kq hC ht (A.length+B.length) X A B [] (X.length:Int) ((X.length:Int)+bs) (l.length:Int) (B7 _) (by intro e;rw[e] at lA;simp at lA;omega) (by intro e;rw[e] at lB;simp at lB;omega) sA sB rfl (by omega) (by omega) (by rw[eXY,Br];omega) (by rw[eXY];exact h6);rw[eXY,Fz] at hm;have lM:=Sf (leC c) A B;refine⟨X++mrg (leC c) A B,by rw[h1];exact Blk.app h2 h4 (Blk.one hst (by omega) (by omega)),fun y hy=>h6 y (by
   rw[<-eXY];simp only[Dp,mrg_mem] at hy ⊢
   grind),?_⟩
  have hge':(X.length:Int)+(bs:Int)<(l.length:Int):=by omega
  generalize X++mrg (leC c) A B=s1 at*;generalize X++Y=s0 at*;simp(disch:=omega)only[Ps,hlt,hge',k,hm,Gf,Qb,EVT,Ax,simprocAttr]
 .refine⟨X++Y,by rw[h1];exact Blk.app h2 h4 (Blk.one (h5.all (by omega)) hYL (by omega)),h6,?_⟩;have hge':¬(X.length:Int)+(bs:Int)<(l.length:Int):=by omega
  generalize X++Y=s0 at*;simp(disch:=omega)only[Ps,hlt,hge',k,EVT,Ax,simprocAttr]
def Ac4 (hC:Cmp g caps c P) (ht:TP (leC c)) (l:List Rec) (hP:∀y∈l,P y) (hs:l.length<=1000000):
  ∃r,Stab (leC c) r l∧r.length=l.length∧S nd 1048579 [B9 l,.i .i64 l.length,.f g caps]=some [B9 r]:=by
 obtain⟨N,hN⟩:∃N,N=l.length+3:=⟨_,rfl⟩;obtain⟨X,LX,Y,q,k0,h1,h2,h3,h4,h5⟩:=Gk9 hC ht l hP hs N (by omega);have hlen:=congrArg List.length h1;simp only[Br] at hlen;have hXL:=h4.len;obtain⟨R,i1,i2,i3⟩:=Vz hC ht X Y [] (X.length:Int) (l.length:Int) rfl (by omega) (by simpa using h5) (by simp;omega);simp only[Fz] at i3;have hB:Blk (leC c) 20 (X++R) l:=by rw[h1];exact Blk.app h2 h4 (Blk.one i1 i2 (by omega))
 have hP':∀y∈X++R,P y:=fun y hy=>h5 y (by
  have:=i1.mem ht y;simp only[Dp] at hy ⊢
  grind)
 have key:=Ir (fn:=S) (N:=N) (J:=[B9 l,.i .i64 l.length,.f g caps,.i .i64 X.length,B9 (X++Y),B9 (X++R)]) (id:=1) (init:=[.c (.i .i64 20),.v 5]) (body:=X7) (α:=Nat×List Rec)
  (fun w=>[.i .i64 (w.1:Int),B9 w.2])
  (fun o=>∃r,Stab (leC c) r l∧r.length=l.length∧o= .yld 0 [B9 r])
  (fun w=>0<w.1∧Blk (leC c) w.1 w.2 l∧∀y∈w.2,P y) (fun w=>l.length - w.1) (20,X++R) ?_ ⟨by simp,hB,hP'⟩ (by simp only;omega) ?_
 .obtain⟨o,k1,r,k2,k3,rfl⟩:=key;refine⟨r,k2,k3,?_⟩;refine Er1 (N:=N) rfl ?_;have k4:Bv3.ev S N [B9 l,.i .i64 l.length,.f g caps,.i .i64 X.length,B9 (X++Y),B9 (X++R)]=_:=k1;clear k1;generalize X++Y=s0 at*;generalize X++R=s1 at*;simp(disch:=omega)only[Ps,k0,i3,k4,Gf,Qb,EVT,Ax,simprocAttr]
 .generalize X++Y=s0 at*;generalize X++R=s1 at*;simp(disch:=omega)only[EVT,Ax,simprocAttr]
 .rintro⟨bs,r⟩ ⟨g1,g2,g3⟩;simp only at g1 g2 g3;have hr:=g2.len;by_cases hlt:bs<l.length
  .left;obtain⟨r',k1,k2,k3⟩:=Gq0 hC ht l r bs g1 hlt g2 g3 hs (B9 l) (.i .i64 X.length) (B9 (X++Y)) (B9 (X++R)) N (by omega);exact⟨(2*bs,r'),k3,⟨by simp only;omega,k1,k2⟩,by simp only;omega⟩
  .right;have hlt':¬(bs:Int)<(l.length:Int):=by omega
   refine⟨.yld 0 [B9 r],?_,rfl,r,g2.all (by omega),hr,rfl⟩;generalize X++Y=s0 at*;generalize X++R=s1 at*;simp(disch:=omega)only[Ps,hlt',EVT,Ax,simprocAttr]
def Yk (hC:Cmp g caps c P) (ht:TP (leC c)) (l:List Rec) (hP:∀y∈l,P y) (hs:l.length<=1000000):
  ∃r,Stab (leC c) r l∧r.length=l.length∧S ol 1048578 [B9 l,.f g caps]=some [B9 r]:=by
 obtain⟨r,h1,h2,h3⟩:=Ac4 hC ht l hP hs;refine⟨r,h1,h2,?_⟩;refine Fk0 (N:=1) rfl ?_;simp(disch:=omega)only[Ez4,h3,Gf,Qb,EVT,Ax,simprocAttr]
end
def lw (l:List Rec) (g:Nat) (caps:List PV) (eq2:Rec->Rec->Bool) (h:∀x∈l,∀y∈l,S g 2 (x.pv::y.pv::caps)=some [.b (eq2 x y)]) (hl:l.length<=1000000):S oh 1048578 [B9 l,.f g caps]=some [B9 (cpt eq2 l)]:=by
 refine Fj8 (N:=l.length+2) rfl ?_;by_cases h2:(l.length:Int)<2
 .have e:cpt eq2 l=l:=by
   match l,h2 with
   |[],_=>rfl
   |[x],_=>rfl
   |_::_::_,h=>simp at h;omega
  rw[e];simp(disch:=omega)only[Nz,h2,EVT,Ax,simprocAttr]
 ·-- the inner Hq, from a place where two neighbours are equal
  have inner:∀k:Nat,1<=k->k<l.length->cpt eq2 (l.take (k+1))=l.take k->∃s:List Rec,s.length=l.length∧s.take (cpt eq2 l).length=cpt eq2 l∧Bv5.ev S (l.length+2) [B9 l,.f g caps,.i .i64 (k:Int),B9 l,.b true]=some (.yld 2 [.i .i64 ((cpt eq2 l).length:Int),B9 s]):=by
   intro k hk1 hk hcp;have key:=Ir (fn:=S) (N:=l.length+2) (J:=[B9 l,.f g caps,.i .i64 (k:Int),B9 l,.b true]) (id:=3) (init:=[(.v 2),(.c (.i .i64 (1))),(.v 3)]) (body:=jr) (α:=Nat×Nat×List Rec)
    (fun a=>[.i .i64 (a.1:Int),.i .i64 (a.2.1:Int),B9 a.2.2])
    (fun o=>∃s:List Rec,s.length=l.length∧s.take (cpt eq2 l).length=cpt eq2 l∧o= .yld 2 [.i .i64 ((cpt eq2 l).length:Int),B9 s])
    (fun a=>1<=a.2.1∧k+a.2.1<=l.length∧a.1<k+a.2.1∧a.2.2.length=l.length∧a.2.2.take a.1=cpt eq2 (l.take (k+a.2.1))∧(cpt eq2 (l.take (k+a.2.1))).length=a.1∧a.2.2.drop (k+a.2.1 - 1)=l.drop (k+a.2.1 - 1))
    (fun a=>l.length - a.2.1) (k,1,l) (by simp(disch:=omega)only[EVT,Ax,simprocAttr])
    ⟨by simp,by simp;omega,by simp,rfl,by simp only;rw[hcp],by simp only;rw[hcp,Cv];omega,rfl⟩ (by simp only;omega) ?_
   .obtain⟨o,h3,s,h4,h5,rfl⟩:=key;exact⟨s,h4,h5,h3⟩
   .rintro⟨i,j,s⟩ ⟨a1,a2,a3,a4,a5,a6,a7⟩;simp only at a1 a2 a3 a4 a5 a6 a7;by_cases hj:k+j<l.length
    .left;have c1:s[k+j]? =l[k+j]? :=by have:=congrArg (fun q=>q[1]?) a7;simp only[Cl] at this;rwa[show k+j - 1+1=k+j by omega] at this
     have c0:s[k+j - 1]? =l[k+j - 1]? :=by have:=congrArg (fun q=>q[0]?) a7;simpa only[Cl,E5] using this
     have g1:l[k+j]? =some (l[k+j]'hj):=B4 hj;have g0:l[k+j - 1]? =some (l[k+j - 1]'(by omega)):=B4 (by omega);have tk:l.take (k+(j+1))=l.take (k+j)++[l[k+j]'hj]:=by rw[show k+(j+1)=(k+j)+1 by omega,Ep,g1];rfl
     have ne:l.take (k+j)≠[]:=by intro h;have:=congrArg List.length h;rw[Cv,Cm] at this;omega
     have gl:(l.take (k+j)).getLast ne=l[k+j - 1]'(by omega):=by rw[List.getLast_eq_getElem];simp only[List.getElem_take,Cv];congr 1;omega
     have cs:=Xp eq2 (l[k+j]'hj) (l.take (k+j)) ne;rw[<-tk,gl] at cs;have hc:=h (l[k+j]'hj) (Hj _) (l[k+j - 1]'(by omega)) (Hj _);generalize l[k+j]'hj=x at*;generalize l[k+j - 1]'(by omega)=y at*;have hjj:(j:Int)<(s.length:Int) - (k:Int):=by omega
     have i1:Kf 16 (B9 s) (.i .i64 ((k:Int)+(j:Int)))=some x.pv:=by rw[N7 _ _ _ (by omega),show ((k:Int)+(j:Int)).toNat=k+j by omega,c1,g1];rfl
     have i0:Kf 16 (B9 s) (.i .i64 ((k:Int)+((j:Int) - 1)))=some y.pv:=by rw[N7 _ _ _ (by omega),show ((k:Int)+((j:Int) - 1)).toNat=k+j - 1 by omega,c0,g0];rfl
     have ls:J3 16 (B9 s) (.i .i64 (k:Int)) (.i .i64 (s.length:Int))=some (B9 (s.drop k)):=by rw[My _ _ _ _ _ (by omega) (by omega) (by omega)];simp
     have e1:(s.drop k)[j]? =some x:=by rw[Cl,c1,g1]
     have e0:(s.drop k)[j - 1]? =some y:=by rw[Cl,show k+(j - 1)=k+j - 1 by omega,c0,g0]
     have si:∃w,s[i]? =some w:=⟨_,B4 (by omega)⟩;obtain⟨w,si⟩:=si;have ej:((j:Int) - 1).toNat=j - 1:=by omega
     by_cases hxy:eq2 x y=true
     .refine⟨(i,j+1,s),?_,⟨by simp,by simp only;omega,by simp only;omega,a4,?_,?_,?_⟩,by simp only;omega⟩
      .simp(disch:=omega)only[Nz,hjj,i1,i0,ls,e1,e0,ej,hc,hxy,EVT,Ax,simprocAttr]
      .simp only;rw[cs,a5];simp[hxy]
      .simp only;rw[cs,Br,a6];simp[hxy]
      .simp only;rw[show k+(j+1) - 1=(k+j - 1)+1 by omega,<-F7,<-F7,a7]
     .refine⟨(i+1,j+1,s.set i x),?_,⟨by simp,by simp only;omega,by simp only;omega,by simpa using a4,?_,?_,?_⟩,by simp only;omega⟩
      .simp(disch:=omega)only[Nz,hjj,i1,i0,ls,e1,e0,ej,si,hc,hxy,EVT,Ax,simprocAttr]
      .simp only;rw[cs,Ep,List.getElem?_set_self (by omega),List.take_set_of_le (by omega),a5];simp[hxy]
      .simp only;rw[cs,Br,a6];simp[hxy]
      .simp only;rw[show k+(j+1) - 1=(k+j - 1)+1 by omega,List.drop_set_of_lt (by omega),<-F7,<-F7,a7]
    .right;have ek:k+j=l.length:=by omega
     rw[ek,D7] at a5 a6;have hjj:¬(j:Int)<(s.length:Int) - (k:Int):=by omega
     refine⟨.yld 2 [.i .i64 (i:Int),B9 s],?_,rfl,s,a4,by rw[a6];exact a5,by rw[a6]⟩;simp(disch:=omega)only[Nz,hjj,EVT,Ax,simprocAttr]
  have key:Bx7.ev S (l.length+2) [B9 l,.f g caps]=some (if cpt eq2 l=l then .yld 0 [B9 l] else .ret [B9 (cpt eq2 l)]):=by
   have:=Ir (fn:=S) (N:=l.length+2) (J:=[B9 l,.f g caps]) (id:=1) (init:=[(.c (.i .i64 (1))),(.v 0)]) (body:=kq) (α:=Nat)
    (fun k=>[.i .i64 (k:Int),B9 l]) (fun o=>o=if cpt eq2 l=l then .yld 0 [B9 l] else .ret [B9 (cpt eq2 l)])
    (fun k=>1<=k∧k<=l.length∧cpt eq2 (l.take k)=l.take k) (fun k=>l.length - k) 1 (by simp(disch:=omega)only[EVT,Ax,simprocAttr])
    ⟨B7 1,by omega,by cases l with
     |nil=>simp at h2
     |cons x r=>rfl⟩ (by omega) ?_
   .obtain⟨o,h3,h4⟩:=this;rw[<-h4];exact h3
   .rintro k ⟨k1,k2,k3⟩;by_cases hk:k<l.length
    .have g1:l[k]? =some l[k]:=B4 hk;have g0:l[k - 1]? =some (l[k - 1]'(by omega)):=B4 (by omega);have tk:l.take (k+1)=l.take k++[l[k]]:=by rw[Ep,g1];rfl
     have ne:l.take k≠[]:=by intro h;have:=congrArg List.length h;rw[Cv,Cm] at this;omega
     have gl:(l.take k).getLast ne=l[k - 1]'(by omega):=by rw[List.getLast_eq_getElem];simp only[List.getElem_take,Cv];congr 1;omega
     have cs:=Xp eq2 l[k] (l.take k) ne;rw[<-tk,gl,k3] at cs;have hkk:(k:Int)<(l.length:Int):=by omega
     have i1:Kf 16 (B9 l) (.i .i64 (k:Int))=some (l[k]).pv:=by rw[N7 _ _ _ (by omega),show ((k:Int)).toNat=k by omega,g1];rfl
     have i0:Kf 16 (B9 l) (.i .i64 ((k:Int) - 1))=some (l[k - 1]'(by omega)).pv:=by rw[N7 _ _ _ (by omega),show ((k:Int) - 1).toNat=k - 1 by omega,g0];rfl
     have hc:=h l[k] (Hj _) (l[k - 1]'(by omega)) (Hj _);by_cases hxy:eq2 l[k] (l[k - 1]'(by omega))=true
     .right;have cs':cpt eq2 (l.take (k+1))=l.take k:=by rw[cs];simp[hxy]
      obtain⟨s,s1,s2,s3⟩:=inner k k1 hk cs';have hlt:cpt eq2 l≠l:=by
       intro h;have q:(cpt eq2 l).length<=(cpt eq2 (l.take (k+1))).length+(l.drop (k+1)).length:=by
        have:∀(b a:List Rec),a≠[]->(cpt eq2 (a++b)).length<=(cpt eq2 a).length+b.length:=by
         intro b
         induction b with
         |nil=>intro a _;simp
         |cons x r ih=>
          intro a ha;have h1:=ih (a++[x]) (by simp);rw[Xp _ _ _ ha] at h1;rw[show a++x::r=a++[x]++r by simp];refine En h1 ?_;rw[Br];split<;>simp<;>omega
        have h3:=this (l.drop (k+1)) (l.take (k+1)) (by intro h;have:=congrArg List.length h;rw[Cv,Cm] at this;omega);rwa[Dk] at h3
       rw[h,cs',Cv,C1] at q;omega
      have hlen:=Dr9 eq2 l;refine⟨.ret [B9 (cpt eq2 l)],?_,rfl,by rw[if_neg hlt]⟩;generalize cpt eq2 l=fl at*;have ls:J3 16 (B9 l) (.i .i64 (k:Int)) (.i .i64 (l.length:Int))=some (B9 (l.drop k)):=by rw[My _ _ _ _ _ (by omega) (by omega) (by omega)];simp
      have hsl1:J3 16 (B9 s) (.i .i64 ((fl.length:Nat):Int)) (.i .i64 (s.length:Int))=some (B9 (s.drop fl.length)):=by rw[My _ _ _ _ _ (by omega) (by omega) (by omega)];simp
      have hsl2:J3 16 (B9 s) (.i .i64 0) (.i .i64 ((fl.length:Nat):Int))=some (B9 fl):=by rw[My _ _ _ _ _ (by omega) (by omega) (by omega)];simp[s2]
      have hrep:Lx 16 (.i .i64 ((s.length:Int) - (fl.length:Int))) y9=some (B9 (List.replicate (s.length - fl.length) zr)):=by rw[Bt0 _ (by omega) (by omega)];congr 3;omega
      have happ:I0 16 (B9 fl) (B9 (List.replicate (s.length - fl.length) zr))=some (B9 (fl++List.replicate (s.length - fl.length) zr)):=X9 _ _ (by simp;omega);have hsl3:J3 16 (B9 (fl++List.replicate (s.length - fl.length) zr)) (.i .i64 0) (.i .i64 ((fl.length:Nat):Int))=some (B9 fl):=by rw[My _ _ _ _ _ (by omega) (by omega) (by simp;omega)];simp
      simp(disch:=omega)only[Nz,hkk,i1,i0,hc,hxy,ls,s3,hsl1,hsl2,hrep,happ,hsl3,EVT,Ax,simprocAttr]
     .left;refine⟨k+1,?_,⟨by omega,by omega,?_⟩,by omega⟩
      .simp(disch:=omega)only[Nz,hkk,i1,i0,hc,hxy,EVT,Ax,simprocAttr]
      .rw[cs,tk];simp[hxy]
    .right;have e:k=l.length:=by omega
     subst e;rw[D7] at k3;refine⟨_,?_,?_,rfl⟩
     .rw[if_pos k3];simp(disch:=omega)only[Nz,EVT,Ax,simprocAttr]
     .rw[if_pos k3];rfl
  by_cases hh:cpt eq2 l=l
  .rw[if_pos hh] at key;rw[hh];simp(disch:=omega)only[Nz,h2,key,EVT,Ax,simprocAttr]
  .rw[if_neg hh] at key;simp(disch:=omega)only[Nz,h2,key,EVT,Ax,simprocAttr]
def Bh9 (r:Rec) (h:r.wf):S Cq9 1 [r.pv]=some [.b (Yx r)]:=by
 refine Gv2 (N:=1) rfl ?_;have g:r.name.length<=9223372036854775807:=h.name;have h1:=C7 r.name g;have h2:=D1 r.typ;have h3:=Pk r.typ r.data h.data;unfold Yx;by_cases k0:0<=r.ttl<;>by_cases k1:r.ttl<=2147483647
 all_goals rcases ch3 (vld r.name) (knw r.typ) (Ew r.typ r.data) with e0|⟨e0,e1⟩|⟨e0,e1,e2⟩|⟨e0,e1,e2⟩
 all_goals simp only[*] at h1 h2 h3
 all_goals simp(disch:=omega)only[Fp5,Xc,Gj,h1,h2,h3,EVC,xe,EVP,EV,simprocAttr, *]
 all_goals simp
def Dk5 (x:Int):S Z7 1 [.i .i64 x]=some [.b false]:=by refine En3 (N:=1) rfl ?_;simp(disch:=omega)only[Ex5,Ay,simprocAttr]
def Bm0 (a b:Int):S ak 2 [.i .i64 a,.i .i64 b]=some [.i .i64 (jz a b)]:=by
 refine Er0 (N:=1) rfl ?_;have h1:=Dk5 a;have h2:=Dk5 b;unfold jz;by_cases k1:a<b
 .simp(disch:=omega)only[zy,h1,h2,k1,Ay,simprocAttr]
 .by_cases k2:b<a
  .simp(disch:=omega)only[zy,h1,h2,k1,k2,Ay,simprocAttr]
  .simp(disch:=omega)only[zy,h1,h2,k1,k2,Ay,simprocAttr]
def md (a b:Rec) (ha:a.wf) (hb:b.wf):S al 2 [a.pv,b.pv]=some [.i .i64 (Qp a b)]:=by
 refine Fj6 (N:=1) rfl ?_;have g1:a.name.length<=9223372036854775807:=ha.name;have g2:b.name.length<=9223372036854775807:=hb.name;have h1:=km a.name b.name g1 g2;have h2:=Bm0 a.typ b.typ;have h3:=lj a.typ a.data b.data ha.data hb.data;unfold Qp;by_cases k1:Qv a.name b.name=0
 .by_cases k2:jz a.typ b.typ=0
  .rw[k1] at h1;rw[k2] at h2;simp(disch:=omega)only[zn,Xc,Gj,h1,h2,h3,Ay,simprocAttr];simp[k1,k2]
  .rw[k1] at h1;simp(disch:=omega)only[zn,h1,h2,k2,Ay,simprocAttr];simp[k1,k2]
 .simp(disch:=omega)only[zn,h1,k1,Ay,simprocAttr]
def kg (a b:Rec) (ha:a.wf) (hb:b.wf):S bj 2 [a.pv,b.pv]=some [.i .i64 (Ds2 a b)]:=by
 refine Fj9 (N:=1) rfl ?_;have h1:=md a b ha hb;have h2:=Bm0 a.ttl b.ttl;unfold Ds2;by_cases k1:Qp a b=0
 .rw[k1] at h1;simp(disch:=omega)only[Cl1,h1,h2,Ay,simprocAttr];simp[k1]
 .simp(disch:=omega)only[Cl1,h1,k1,Ay,simprocAttr]
def Gc5:Cmp bj [] Ds2 Rec.wf:=⟨fun x y hx hy=>kg x y hx hy⟩
def Fz1:leC Ds2=leR:=rfl
def Cg1 (a b:Rec) (ha:a.wf) (hb:b.wf):S am 2 [a.pv,b.pv]=some [.b (eqF a b)]:=by refine Fj7 (N:=1) rfl ?_;have h1:=md a b ha hb;simp(disch:=omega)only[Ez3,h1,Ay,simprocAttr]
def Cf9 (l:List Rec) (hw:∀r∈l,r.wf) (hl:l.length<=1000000):S At8 1 [B9 l]=some [B9 (sortR l)]:=by refine Gv3 (N:=1) rfl ?_;have h0:=Bm1 l hl;obtain⟨r,h1,h2,h3⟩:=Yk Gc5 (by rw[Fz1];exact Fs7) l hw hl;rw[Fz1] at h1;have hm:=h1.mem Fs7;have h4:=lw r am [] eqF (fun x hx y hy=>Cg1 x y (hw x ((hm x).1 hx)) (hw y ((hm y).1 hy))) (by omega);rw[Br8 h1] at h4;simp(disch:=omega)only[Fp6,h0,h3,h4,Gf,Qb,EVT,Ax,simprocAttr]
end Go.X.G
/- Sets of records: what the program's and the reference's functions give. -/
namespace Go.X
open Go
structure SetR where
 name:List UInt8
 typ:Int
 ttl:Int
 data:List Dat
 deriving DecidableEq
def Gb (l:List Dat):PV:= .l 13 (l.map Dat.pv)
def SetR.pv (x:SetR):PV:= .a [.s x.name,.i .i64 x.typ,.i .i64 x.ttl,Gb x.data]
def Kn (l:List SetR):PV:= .l 4 (l.map SetR.pv)
def Cc6:PV.l 13 []=Gb []:=rfl
def Bs2:PV.l 4 []=Kn []:=rfl
def Am1 (x:SetR):C0 0 x.pv=some (.s x.name):=rfl
def Am0 (x:SetR):C0 1 x.pv=some (.i .i64 x.typ):=rfl
def Al9 (x:SetR):C0 2 x.pv=some (.i .i64 x.ttl):=rfl
def Al8 (x:SetR):C0 3 x.pv=some (Gb x.data):=rfl
def Dm3 (x:SetR):Pb 4 x.pv=some x.pv:=rfl
def Dz6 (x:SetR):J6 0 4 x.pv=some x.pv:=rfl
def Bz6 (n:List UInt8) (t u:Int) (d:List Dat):PV.a [.s n,.i .i64 t,.i .i64 u,Gb d]=SetR.pv ⟨n,t,u,d⟩:=rfl
def Dn8 (x:SetR):(⟨x.name,x.typ,x.ttl,x.data⟩:SetR)=x:=rfl
def Dg8 (x:SetR):K1 4 [x.pv]=some (Kn [x]):=rfl
def Dh1 (x:Dat):K1 13 [x.pv]=some (Gb [x]):=rfl
def Cw9 (l:List SetR):Hg (Kn l)=some (.i .i64 (l.length:Int)):=by simp[Kn,Hg]
def Cx1 (l:List Dat):Hg (Gb l)=some (.i .i64 (l.length:Int)):=by simp[Gb,Hg]
def Ad5 (l:List SetR):I3 (Kn l)=some (Kn l):=rfl
def Ad7 (l:List Dat):I3 (Gb l)=some (Gb l):=rfl
def Cy8 (l:List SetR) (k:IntKind) (z:Int) (h:0<=z):Kf 4 (Kn l) (.i k z)=(l[z.toNat]?).map SetR.pv:=by simp[Kn,iy _ _ _ _ h]
def Cy9 (l:List Dat) (k:IntKind) (z:Int) (h:0<=z):Kf 13 (Gb l) (.i k z)=(l[z.toNat]?).map Dat.pv:=by simp[Gb,iy _ _ _ _ h]
def Bh4 (l:List SetR) (x:SetR) (h:l.length+1<=1073741824):I0 4 (Kn l) (Kn [x])=some (Kn (l++[x])):=by have:=Qr 4 (l.map SetR.pv) [x.pv] (by simpa using h);simpa [Kn] using this
def Bh6 (l:List Dat) (x:Dat) (h:l.length+1<=1073741824):I0 13 (Gb l) (Gb [x])=some (Gb (l++[x])):=by have:=Qr 13 (l.map Dat.pv) [x.pv] (by simpa using h);simpa [Gb] using this
set_option linter.defProp false in
def Gq:=(And.intro @Cc6 (And.intro @Bs2 (And.intro @Am1 (And.intro @Am0 (And.intro @Al9 (And.intro @Al8 (And.intro @Dm3 (And.intro @Dz6 (And.intro @Bz6 (And.intro @Dn8 (And.intro @Dg8 (And.intro @Dh1 (And.intro @Cw9 (And.intro @Cx1 (And.intro @Ad5 (And.intro @Ad7 (And.intro @Cy8 (And.intro @Cy9 (And.intro @Bh4 @Bh6)))))))))))))))))))
end Go.X
namespace Go.X.G
open Go Go.X
structure SetsIn (g:List SetR) (i:Nat):Prop where
 len:g.length<=i
 each:∀x∈g,x.data.length<=i
def mw:∀(l acc:List Rec),(l.foldl (fun a x=>Xy x a) acc).length<=acc.length+l.length
 |[],acc=>by simp
 |x::l,acc=>by have h1:=mw l (Xy x acc);have h2:=Xx x acc;simp only[List.foldl_cons,Cz];omega
def Wg (l:List Rec):(sortR l).length<=l.length:=by simpa [sortR] using mw l []
end Go.X.G
namespace Go.X.G
open Go Go.X
def c3 (s:List UInt8):List UInt8:=s.take 300
def unsetR (x:SetR):List Rec:=x.data.map fun d=>⟨x.name,x.typ,x.ttl,d⟩
def Tc (x:SetR) (hl:x.data.length<=1000000):S gh 1 [x.pv]=some [B9 (unsetR x)]:=by
 refine Gx8 (N:=x.data.length+1) rfl ?_;have key:Dj0.ev S (x.data.length+1) [x.pv]=some (.yld 0 [B9 ([]++unsetR x)]):=by
  refine G5 (N:=x.data.length+1) x.data (fun i (g:List Rec)=>[B9 g,.i .i64 (i:Int)]) (fun i g r=> .yld 0 [B9 (g++r.map fun d=>(⟨x.name,x.typ,x.ttl,d⟩:Rec))]) (fun i g=>g.length<=i) [] rfl (D9 _) (Nat.lt_succ_self _) (fun i g c r hd hi hc hI=> ?_) (fun g hI=> ?_)
  .left;refine⟨g++[⟨x.name,x.typ,x.ttl,c⟩],?_,by simp;omega,by simp⟩;have hil:(i:Int)<(x.data.length:Int):=by omega
   simp(disch:=omega)only[Dq4,hc,hil,Gq,Az,simprocAttr]
  .simp(disch:=omega)only[Dq4,E2,Gq,Az,simprocAttr];simp[Out.goes]
 simp(disch:=omega)only[Dq4,key,Gq,Az,simprocAttr]
 try simp
def Td (x:SetR) (hl:x.data.length<=1000000):S Bj3 1 [x.pv]=some [B9 (unsetR x)]:=by
 refine Gw2 (N:=x.data.length+1) rfl ?_;have key:Ct3.ev S (x.data.length+1) [x.pv]=some (.yld 0 [B9 ([]++unsetR x)]):=by
  refine G5 (N:=x.data.length+1) x.data (fun i (g:List Rec)=>[B9 g,.i .i64 (i:Int)]) (fun i g r=> .yld 0 [B9 (g++r.map fun d=>(⟨x.name,x.typ,x.ttl,d⟩:Rec))]) (fun i g=>g.length<=i) [] rfl (D9 _) (Nat.lt_succ_self _) (fun i g c r hd hi hc hI=> ?_) (fun g hI=> ?_)
  .left;refine⟨g++[⟨x.name,x.typ,x.ttl,c⟩],?_,by simp;omega,by simp⟩;have hil:(i:Int)<(x.data.length:Int):=by omega
   simp(disch:=omega)only[Dq0,hc,hil,Gq,Az,simprocAttr]
  .simp(disch:=omega)only[Dq0,E2,Gq,Az,simprocAttr];simp[Out.goes]
 simp(disch:=omega)only[Dq0,key,Gq,Az,simprocAttr]
 try simp
end Go.X.G
namespace Go.X
structure Begin where
 q:Ques
 zone:List UInt8
 hosts:List (List UInt8)
 addrs:List Adr
structure Actn where
 kind:Int
 n:Int
 odd:Bool
 m:Msg
 host:List UInt8
 addrs:List Adr
def u8r (x:Int):Prop:=0<=x∧x<=255
structure Begin.wf (b:Begin):Prop where
 q:b.q.wf
 zone:d4 b.zone
 hosts:b.hosts.length<=9223372036854775807∧∀h∈b.hosts,d4 h
 addrs:b.addrs.length<=9223372036854775807
structure Actn.wf (a:Actn):Prop where
 kind:u8r a.kind
 n:u8r a.n
 m:a.m.wf
 host:d4 a.host
 addrs:a.addrs.length<=9223372036854775807
def Begin.cells (b:Begin):List PV:=[.s b.q.name,.i .i64 b.q.typ,.s b.zone,Dv b.hosts,F0 b.addrs]
def Begin.pv (b:Begin):PV:= .a b.cells
def Actn.cells (a:Actn):List PV:=[.i .u8 a.kind,.i .u8 a.n,.b a.odd,.i .i64 a.m.id,.i .i64 a.m.op,.i .i64 a.m.code,.b a.m.resp,.b a.m.aa,.b a.m.tc,.b a.m.rd,.b a.m.ra,.b a.m.ad,.b a.m.cd,.b a.m.dok,.i .i64 a.m.size,.s a.m.q.name,.i .i64 a.m.q.typ,B9 a.m.ans,B9 a.m.auth,B9 a.m.ext,.s a.host,F0 a.addrs]
def Actn.pv (a:Actn):PV:= .a a.cells
def Dd4 {e:Sh} {α:Type} (W:α->Prop) (pv:α->PV) (hag:e.agg=true) (h1:∀ds,e.okC ds->∃x,W x∧PV.a ds=pv x) {cs:List PV} (h:(Sh.l e).okC cs):∃l:List α,l.length<=9223372036854775807∧(∀x∈l,W x)∧cs=[.l e.size (l.map pv)]:=by
 simp only[Sh.okC,hag,if_true] at h;obtain⟨xs,rfl,hl,hx⟩:=h;have go:∀xs:List PV,(∀x,x∈xs->∃ds,x= .a ds∧e.okC ds)->∃l:List α,(∀r∈l,W r)∧xs=l.map pv:=by
  intro xs
  induction xs with
  |nil=>exact fun _=>⟨[],fun r h=>(by cases h),rfl⟩
  |cons x xs ih=>
   intro hx;obtain⟨l,g1,rfl⟩:=ih (fun y hy=>hx y (Jv _ hy));obtain⟨ds,rfl,hd⟩:=hx x (Im ..);obtain⟨r,hr,hpv⟩:=h1 ds hd;refine⟨r::l,fun y hy=> ?_,by rw[hpv];rfl⟩;rcases Cg.1 hy with rfl|hy
   .exact hr
   .exact g1 y hy
 obtain⟨l,g1,rfl⟩:=go xs hx;exact⟨l,by simpa [maxLen] using hl,g1,rfl⟩
open Go
structure Ask where
 zone:List UInt8
 keys:List Dat
 now:Int
 deriving DecidableEq
def Ask.cells (x:Ask):List PV:=[.s x.zone,Gb x.keys,.i .i64 x.now]
def Ask.pv (x:Ask):PV:= .a x.cells
structure Ask.wf (x:Ask):Prop where
 zone:d4 x.zone
 keys:∀d∈x.keys,d.wf
 now:cw x.now
structure SetW (s:SetR):Prop where
 name:d4 s.name
 typ:cw s.typ
 ttl:cw s.ttl
 data:∀d∈s.data,d.wf
def Ar5 (x:Ask):C0 0 x.pv=some (.s x.zone):=rfl
def Ar4 (x:Ask):C0 1 x.pv=some (Gb x.keys):=rfl
def Ar3 (x:Ask):C0 2 x.pv=some (.i .i64 x.now):=rfl
def Dm7 (x:Ask):Pb 3 x.pv=some x.pv:=rfl
def Db0 (x:Ask):J6 0 3 x.pv=some x.pv:=rfl
set_option linter.defProp false in
def Fm2:=(And.intro @Ar5 (And.intro @Ar4 (And.intro @Ar3 (And.intro @Dm7 @Db0))))
def Bs1:Sh:= .st [.s,.l Ad0,.i .i64]
def Bs0:Sh:= .st [.s,.i .i64,.i .i64,.l Ad0]
def At5 {cs:List PV} (h:(Sh.l Ad0).okC cs):∃l:List Dat,(∀d∈l,d.wf)∧cs=[Gb l]:=by obtain⟨l,_,h2,rfl⟩:=Dd4 (fun d:Dat=>d.wf) Dat.pv rfl (fun ds h=>by obtain⟨d,hd,rfl⟩:=Cm7 h;exact⟨d,hd,rfl⟩) h;exact⟨l,h2,rfl⟩
def Dd6 {p:PV} (h:Bs1.ok p):∃x:Ask,x.wf∧p=x.pv:=by obtain⟨ds,rfl,h⟩:∃ds,p= .a ds∧Bs1.okC ds:=h;obtain⟨a0,r0,rfl,h0,h⟩:=Ek (Z2 h);obtain⟨a1,r1,rfl,h1,h⟩:=Ek h;obtain⟨a2,r2,rfl,h2,h⟩:=Ek h;obtain rfl:=Ns h;obtain⟨x0,rfl,k0⟩:=wk h0;obtain⟨x1,k1,rfl⟩:=At5 h1;obtain⟨x2,rfl,k2⟩:=Jb h2;exact⟨⟨x0,x1,x2⟩,⟨k0,k1,k2⟩,rfl⟩
def Dd5 {p:PV} (h:Bs0.ok p):∃x:SetR,SetW x∧p=x.pv:=by obtain⟨ds,rfl,h⟩:∃ds,p= .a ds∧Bs0.okC ds:=h;obtain⟨a0,r0,rfl,h0,h⟩:=Ek (Z2 h);obtain⟨a1,r1,rfl,h1,h⟩:=Ek h;obtain⟨a2,r2,rfl,h2,h⟩:=Ek h;obtain⟨a3,r3,rfl,h3,h⟩:=Ek h;obtain rfl:=Ns h;obtain⟨x0,rfl,k0⟩:=wk h0;obtain⟨x1,rfl,k1⟩:=Jb h1;obtain⟨x2,rfl,k2⟩:=Jb h2;obtain⟨x3,k3,rfl⟩:=At5 h3;exact⟨⟨x0,x1,x2,x3⟩,⟨k0,k1,k2,k3⟩,rfl⟩
end Go.X
namespace Go.X.G
open Go Go.X
def labK (n:List UInt8):List (List UInt8):=if(lbl n)[0]? =some [42] then(lbl n).drop 1 else lbl n
def Q3 (n:List UInt8):(labK n).length<=254:=by
 have:=G8 n;unfold labK;split
 .rw[C1];omega
 .exact this
def Bq2 (n:List UInt8) (b:Nat) (hb:b<=(labK n).length):(labK n).drop ((labK n).length - b)=(lbl n).drop ((lbl n).length - b):=by
 unfold labK at hb ⊢;split at hb
 .rename_i h;rw[if_pos h];rw[C1] at hb ⊢;rw[F7];have h1:=(Bn.1 h).1;congr 1;omega
 .rename_i h;rw[if_neg h]
def Cx6 (n:List UInt8):∀x∈labK n,If x=true:=fun x hx=>by
 unfold labK at hx;split at hx
 .exact H3 n x (F6 hx)
 .exact H3 n x hx
def Vv (n:List UInt8) (hn:n.length<=9223372036854775807):S wx 1 [.s n]=some [Dv (labK n)]:=by
 refine Gx0 (N:=1) rfl ?_;have k1:=J9 n hn;have hl:=G8 n;unfold labK;generalize lbl n=l at*;cases l with
 |nil=>simp(disch:=omega)only[Dq2,k1,Ay,simprocAttr];try simp
 |cons c r=>
  have hc:(c::r)[0]? =some c:=rfl;have hp:(0:Int)<((c::r).length:Int):=by rw[Cz];omega
  have hl1:(1:Int)<=((c::r).length:Int):=by rw[Cz];omega
  have ht:(c::r).take (c::r).length=c::r:=D7;have hd:(c::r).drop 1=r:=rfl;by_cases h:c=[42]
  .rw[if_pos (by rw[hc,h])];have ls:J3 1 (Dv (c::r)) (.i .i64 1) (.i .i64 ((c::r).length:Int))=some (Dv r):=by have e:=Xv (c::r) .i64 .i64 1 ((c::r).length:Int) (by omega) hl1 (Ud _);rw[e,Es,ht];rfl
   rw[hd];generalize hg:c::r=l at*;simp(disch:=omega)only[Dq2,k1,hc,hp,h,ls,Ay,simprocAttr]
  .rw[if_neg (by rw[hc];simpa using h)];generalize hg:c::r=l at*;simp(disch:=omega)only[Dq2,k1,hc,hp,h,Ay,simprocAttr]
def yv (n:List UInt8) (hn:n.length<=9223372036854775807):S ax 1 [.s n]=some [.i .i64 ((labK n).length:Int)]:=by
 refine Es2 (N:=1) rfl ?_;have k1:=Mh n hn;have hl:=G8 n;unfold labK;generalize lbl n=l at*;cases l with
 |nil=>simp(disch:=omega)only[zd,k1,Ay,simprocAttr];try simp
 |cons c r=>
  have hc:(c::r)[0]? =some c:=rfl;have hp:(0:Int)<((c::r).length:Int):=by rw[Cz];omega
  have hd:(((c::r).drop 1).length:Int)=((c::r).length:Int) - 1:=by rw[C1,Cz];omega
  by_cases h:c=[42]
  .rw[if_pos (by rw[hc,h]),hd];generalize hg:c::r=l at*;simp(disch:=omega)only[zd,k1,hc,hp,h,Ay,simprocAttr]
  .rw[if_neg (by rw[hc];simpa using h)];generalize hg:c::r=l at*;simp(disch:=omega)only[zd,k1,hc,hp,h,Ay,simprocAttr]
def joinL (l:List (List UInt8)):List UInt8×Int:=if l=[] then([46],0) else if vld (flat l)=true then(flat l,0) else([],2)
def Ov:∀(l:List (List UInt8)),(∀x∈l,If x=true)->(flat l).length<=64*l.length
 |[],_=>by simp[flat]
 |x::l,h=>by have h1:=H4 (h x (.head _));have h2:=Ov l fun y hy=>h y (.tail _ hy);simp only[flat,Hs,Br,Cz,Cm] at h2 ⊢;omega
def Cz8 {l:List (List UInt8)} (h:l≠[]):0<(flat l).length:=by
 cases l with
 |nil=>exact absurd rfl h
 |cons x r=>simp only[flat,Hs,Br,List.length_singleton];omega
def Cx9 (l:List (List UInt8)) (hl:l.length<=255) (hw:∀x∈l,If x=true) (N:Nat) (hN:l.length<N):
  Ct4.ev S N [Dv l]=some (.yld 0 [.l 1 (bytesPV (flat l))]):=by
 refine E8 l (fun i=>[.i .i64 (i:Int),.l 1 (bytesPV (flat (l.take i)))]) (fun i r=> .yld 0 [.l 1 (bytesPV (flat l))]) rfl hN (fun i c r hd hi hc=> ?_) ?_
 .left;refine⟨?_,rfl⟩;have hlab:=hw c (Cy hc);have hc63:=H4 hlab;have hfl:=Ov (l.take i) fun x hx=>hw x (Er hx);have htl:(l.take i).length<=255:=by rw[Cv];omega
  have e1:flat (l.take (i+1))=flat (l.take i)++c++[46]:=by rw[Ep,hc];simp[flat]
  have g1:(bytesPV (flat (l.take i))).length<=64*255:=by rw[Gk];omega
  have g2:(bytesPV c).length<=63:=by rw[Gk];omega
  have g3:(bytesPV (flat (l.take i))++bytesPV c).length<=20000:=by rw[Br];omega
  have hord:=Jy c (by omega);have e2:bytesPV (flat (l.take i))++bytesPV c++[.i .u8 46]=bytesPV (flat (l.take (i+1))):=by rw[e1];simp[bytesPV]
  have hb:Ub (.l 1 [.i .u8 46])=some (.s [46]):=Hy [46];rw[cj] at hlab;by_cases h42:c=[42]
  .subst h42;have hos:ord [42]=false:=by decide
   rw[hos] at hord;simp(disch:=omega)only[tz,hc,hord,hb,e2,Ay,simprocAttr]
  .have h1:ord c=true:=by simpa [h42] using hlab
   rw[h1] at hord;simp(disch:=omega)only[tz,hc,hord,hb,e2,Ay,simprocAttr]
 .have e:l.take l.length=l:=D7;simp(disch:=omega)only[tz,e,Ay,simprocAttr]
  try simp[Out.goes]
def Cg5 (l:List (List UInt8)) (hl:l.length<=255) (hw:∀x∈l,If x=true):S Bj4 1 [Dv l]=some [.s (joinL l).1,.i .i64 (joinL l).2]:=by
 refine Gw3 (N:=300) rfl ?_;unfold joinL;by_cases h:l=[]
 .subst h;simp(disch:=omega)only[tz,Ay,simprocAttr]
  try simp
 .have hp:=C2.2 h;have key:=Cx9 l hl hw 300 (by omega);have hfl:=Ov l hw;have hval:=C7 (flat l) (by omega);obtain⟨c,hc⟩:∃c,(flat l)[0]? =some c:=⟨_,B4 (Cz8 h)⟩;have e0:¬((l.length:Int)=0):=by omega
  have e1:¬(255<(l.length:Int)):=by omega
  rw[if_neg h];rcases B0 (vld (flat l)) with hv|hv
  .rw[hv] at hval;simp only[hv,if_true];simp(disch:=omega)only[tz,key,hval,hc,e0,e1,Ay,simprocAttr]
  .rw[hv] at hval;simp only[hv,B5,if_false];simp(disch:=omega)only[tz,key,hval,hc,e0,e1,Ay,simprocAttr]
def Cg4 (l:List (List UInt8)) (hl:l.length<=255) (hne:l≠[]) (hw:∀x∈l,If x=true):S Cv0 1 [Dv l]=some [.s (joinL l).1,.i .i64 (joinL l).2]:=by
 refine Gv7 (N:=300) rfl ?_;have key:Ct0.ev S 300 [Dv l]=some (.yld 0 []):=by
  refine E8 l (fun i=>[.i .i64 (i:Int)]) (fun _ _=> .yld 0 []) rfl (by omega) (fun i c r hd hi hc=> ?_) ?_
  .left;refine⟨?_,rfl⟩;have hlab:=hw c (Cy hc);have hc63:=H4 hlab;have k:=Vy c (by omega);rw[hlab] at k;simp(disch:=omega)only[Bn5,hc,k,Ay,simprocAttr]
  .simp(disch:=omega)only[Bn5,Ay,simprocAttr]
   try simp[Out.goes]
 have k1:=Df0 l (by omega) (fun x hx=>by have:=H4 (hw x hx);omega);have hfl:=Ov l hw;have hj:jn l=flat l:=by unfold jn;rw[if_neg hne]
 rw[hj] at k1;have hval:=L2 (flat l) (by omega);have e1:¬(255<(l.length:Int)):=by omega
 unfold joinL;rw[if_neg hne];rcases B0 (vld (flat l)) with hv|hv
 .rw[hv] at hval;simp only[hv,if_true];simp(disch:=omega)only[Bn5,key,k1,hval,e1,Ay,simprocAttr]
 .rw[hv] at hval;simp only[hv,B5,if_false];simp(disch:=omega)only[Bn5,key,k1,hval,e1,Ay,simprocAttr]
def starK (n:List UInt8) (b:Nat):List (List UInt8):=[42]::(labK n).drop ((labK n).length - b)
def Rf (n:List UInt8) (b:Nat):∀x∈starK n b,If x=true:=fun x hx=>by
 unfold starK at hx;rcases Cg.1 hx with rfl|hx
 .decide
 .exact Cx6 n x (F6 hx)
def Rc (n:List UInt8) (b:Nat):(starK n b).length<=255:=by have:=Q3 n;unfold starK;rw[Cz,C1];omega
def ownK (n:List UInt8) (b:Int):List UInt8:=if b=((labK n).length:Int) then n else(joinL (starK n b.toNat)).1
def mc (n:List UInt8) (b:Int) (hn:n.length<=9223372036854775807):(ownK n b).length<=9223372036854775807:=by
 unfold ownK;split
 .exact hn
 .have h1:=Ov (starK n b.toNat) (Rf n _);have h2:=Rc n b.toNat;unfold joinL;split
  .simp
  .split
   .simp only;omega
   .simp
def Bc5 (l:List (List UInt8)) (b:Nat) (hb:b<=l.length) (hl:l.length<=1000):J3 1 (Dv l) (.i .i64 ((l.length:Int) - (b:Int))) (.i .i64 (l.length:Int))=some (Dv (l.drop (l.length - b))):=by have e:=Xv l .i64 .i64 ((l.length:Int) - (b:Int)) (l.length:Int) (by omega) (by omega) (Ud _);rw[e,Es,D7,show ((l.length:Int) - (b:Int)).toNat=l.length - b by omega]
def s6 (l:List (List UInt8)) (hl:l.length<=1000):I0 1 (.l 1 [.s [42]]) (Dv l)=some (Dv ([42]::l)):=by have:=Qr 1 [.s [42]] (l.map .s) (by simp;omega);simpa [Dv] using this
def Ck4 (n:List UInt8) (b:Int) (hn:n.length<=9223372036854775807) (h0:0<=b) (h1:b<=((labK n).length:Int)):S o8 2 [.s n,.i .i64 b]=some [.s (ownK n b)]:=by
 refine Fq5 (N:=1) rfl ?_;have k1:=Vv n hn;have hl:=Q3 n;unfold ownK;by_cases h:b=((labK n).length:Int)
 .rw[if_pos h];simp(disch:=omega)only[Cl4,k1,h,Ay,simprocAttr]
 .rw[if_neg h];obtain⟨m,rfl⟩:∃m:Nat,b=(m:Int):=⟨b.toNat,by omega⟩;rw[Es];have ls:=Bc5 (labK n) m (by omega) (by omega);have hdl:((labK n).drop ((labK n).length - m)).length<=1000:=by rw[C1];omega
  have ap:=s6 _ hdl;have k2:=Cg5 (starK n m) (Rc n m) (Rf n m);have e:starK n m=[42]::(labK n).drop ((labK n).length - m):=rfl;rw[<-e] at ap;have hlt:K1 1 [.s [42]]=some (.l 1 [.s [42]]):=rfl;generalize joinL (starK n m)=j at*;generalize starK n m=st at*;generalize (labK n).drop ((labK n).length - m)=dr at*;generalize labK n=lk at*;simp(disch:=omega)only[Cl4,k1,k2,h,ls,ap,hlt,Ay,simprocAttr]
def L8 {s:SetR} (h:SetW s):∀r∈unsetR s,r.wf:=fun r hr=>by unfold unsetR at hr;obtain⟨d,hd,rfl⟩:=Bm8.1 hr;exact⟨h.name,h.typ,h.ttl,h.data d hd⟩
def f4 (s:SetR):Bool:=decide (1<=s.data.length) && decide (s.data.length<=64) && decide (s.typ≠46) && (unsetR s).all Yx
def fr (s:SetR) (h:SetW s) (hd:s.data.length<=1000000):S Bj7 1 [s.pv]=some [.b (f4 s)]:=by
 have k1:=Tc s hd;have hul:(unsetR s).length=s.data.length:=by unfold unsetR;rw[Gv]
 refine Gx1 (N:=s.data.length+1) rfl ?_;have key:Ct6.ev S (s.data.length+1) [s.pv,B9 (unsetR s)]=some (if(unsetR s).all Yx=true then .yld 0 [] else .ret [.b false]):=by
  refine E8 (unsetR s) (fun i=>[.i .i64 (i:Int)]) (fun i r=>if r.all Yx=true then .yld 0 [] else .ret [.b false]) rfl (by omega) (fun i c r hd hi hc=> ?_) ?_
  .have k:=Bh9 c (L8 h c (Cy hc));have hil:(i:Int)<((unsetR s).length:Int):=by omega
   rcases B0 (Yx c) with hv|hv
   .left;rw[hv] at k;refine⟨?_,by rw[Km,hv,Ew9]⟩;simp(disch:=omega)only[ed,hc,hil,k,Gq,Ay,simprocAttr]
   .right;rw[hv] at k;rw[Km,hv,Bool.false_and];simp(disch:=omega)only[ed,hc,hil,k,Gq,Ay,simprocAttr];simp[Out.goes]
  .simp(disch:=omega)only[ed,E2,Gq,Ay,simprocAttr];simp[Out.goes]
 unfold f4;by_cases h1:1<=s.data.length
 .have h1':¬(s.data.length:Int)<1:=by omega
  by_cases h2:s.data.length<=64
  .have h2':¬(64:Int)<(s.data.length:Int):=by omega
   by_cases h3:s.typ=46
   .simp(disch:=omega)only[ed,h1',h2',h3,Gq,Ay,simprocAttr]
    try simp
   .rcases B0 ((unsetR s).all Yx) with hv|hv<;>rw[hv] at key ⊢<;>simp(disch:=omega)only[ed,k1,key,h1',h2',h3,Gq,Ay,simprocAttr]<;>simp[h1,h2]
  .have h2':(64:Int)<(s.data.length:Int):=by omega
   simp(disch:=omega)only[ed,h1',h2',Gq,Ay,simprocAttr]
   try simp[h2]
 .have h1':(s.data.length:Int)<1:=by omega
  simp(disch:=omega)only[ed,h1',Gq,Ay,simprocAttr]
  try simp[h1]
def Wl (s:SetR) (h:SetW s) (hd:s.data.length<=1000000):S oq 1 [s.pv]=some [.b (f4 s)]:=by
 have k1:=Td s hd;have hul:(unsetR s).length=s.data.length:=by unfold unsetR;rw[Gv]
 refine Es3 (N:=s.data.length+1) rfl ?_;have key:Bw9.ev S (s.data.length+1) [s.pv,B9 (unsetR s)]=some (if(unsetR s).all Yx=true then .yld 0 [] else .ret [.b false]):=by
  refine E8 (unsetR s) (fun i=>[.i .i64 (i:Int)]) (fun i r=>if r.all Yx=true then .yld 0 [] else .ret [.b false]) rfl (by omega) (fun i c r hd hi hc=> ?_) ?_
  .have k:=Bl1 c (L8 h c (Cy hc));have hil:(i:Int)<((unsetR s).length:Int):=by omega
   rcases B0 (Yx c) with hv|hv
   .left;rw[hv] at k;refine⟨?_,by rw[Km,hv,Ew9]⟩;simp(disch:=omega)only[Rv,hc,hil,k,Gq,Ay,simprocAttr]
   .right;rw[hv] at k;rw[Km,hv,Bool.false_and];simp(disch:=omega)only[Rv,hc,hil,k,Gq,Ay,simprocAttr];simp[Out.goes]
  .simp(disch:=omega)only[Rv,E2,Gq,Ay,simprocAttr];simp[Out.goes]
 unfold f4;by_cases h1:1<=s.data.length
 .have h1':¬(s.data.length:Int)<1:=by omega
  by_cases h2:s.data.length<=64
  .have h2':¬(64:Int)<(s.data.length:Int):=by omega
   by_cases h3:s.typ=46
   .simp(disch:=omega)only[Rv,h1',h2',h3,Gq,Ay,simprocAttr]
    try simp
   .rcases B0 ((unsetR s).all Yx) with hv|hv<;>rw[hv] at key ⊢<;>simp(disch:=omega)only[Rv,k1,key,h1',h2',h3,Gq,Ay,simprocAttr]<;>simp[h1,h2]
  .have h2':(64:Int)<(s.data.length:Int):=by omega
   simp(disch:=omega)only[Rv,h1',h2',Gq,Ay,simprocAttr]
   try simp[h2]
 .have h1':(s.data.length:Int)<1:=by omega
  simp(disch:=omega)only[Rv,h1',Gq,Ay,simprocAttr]
  try simp[h1]
def Ix {t:Int} {d:Dat} (h:Ew t d=true):(wireD t d).length<=50000:=by
 have hn:=M2 h;have h1:=H0 d.host;have h2:=H0 d.mail;have h3:=Q8 d.bits;have h4:=hn.text;have h5:(Ml d).length<=16:=by unfold Ml;split<;>simp[Ds]
 unfold wireD
 repeat' split
 all_goals try simp only[Br,Ds,Cm]
 all_goals omega
def Y6 (d:Dat):∃x,wireD 46 d=x++d.text∧0<x.length:=by refine⟨be d.a 2++be 253 1++be d.b 1++be d.c 4++be d.d 4++be d.e 4++be d.f 2++wireN d.host,rfl,?_⟩;simp only[Br,Ds];omega
def Qg (s:SetR) (g:Dat):List UInt8:=wireN (ownK s.name g.b)++be s.typ 2++be 1 2++be g.c 4
def Qc (h:List UInt8) (r:Rec):List UInt8:=h++be ((wireD r.typ r.data).length:Int) 2++wireD r.typ r.data
def preK (g:Dat):List UInt8:=(wireD 46 g).take ((wireD 46 g).length - g.text.length)
def bodyK (s:SetR) (g:Dat):List UInt8:=preK g++(sortR (unsetR s)).flatMap (Qc (Qg s g))
def signedM (s:SetR) (g:Dat):List UInt8×Int:=
 if Ew 46 g=false∨f4 s=false then([],5)
 else if g.a≠s.typ∨((labK s.name).length:Int)<g.b then([],1)
 else(bodyK s g,0)
def Cj3 (g:Dat):0<(preK g).length:=by obtain⟨x,hx,hp⟩:=Y6 g;unfold preK;rw[hx,Br,V4,y5];exact hp
def S1 (s:SetR) (g:Dat):(Qg s g).length<=20008:=by have:=H0 (ownK s.name g.b);unfold Qg;simp only[Br,Ds];omega
def Rm {h:List UInt8} {r:Rec} (hh:h.length<=20008) (hv:Ew r.typ r.data=true):(Qc h r).length<=70010:=by have:=Ix hv;unfold Qc;simp only[Br,Ds];omega
def O7 {s:SetR} (h:f4 s=true):1<=s.data.length∧s.data.length<=64∧∀r∈unsetR s,Yx r=true:=by unfold f4 at h;simp only[Bt,decide_eq_true_eq,Db] at h;exact⟨h.1.1.1,h.1.1.2,h.2⟩
def Aj2 {r:Rec} (h:Yx r=true):Ew r.typ r.data=true:=by unfold Yx at h;simp only[Bt] at h;exact h.2
def Fb6 {t:Int} (h:knw t=true):0<=t:=by unfold knw at h;simp only[Cq,decide_eq_true_eq] at h;omega
def Ad1 {s:SetR} (h:f4 s=true):0<=s.typ:=by
 obtain⟨h1,_,h3⟩:=O7 h;cases hd:s.data with
 |nil=>rw[hd] at h1;simp at h1
 |cons d r=>
  have:=h3 ⟨s.name,s.typ,s.ttl,d⟩ (by unfold unsetR;rw[hd];exact .head _);unfold Yx at this;simp only[Bt] at this;exact Fb6 this.1.1.1.2
def Nc {w t:List UInt8} (h:t.length<=w.length):tp (.s w) (.i .i64 0) (.i .i64 ((w.length:Int) - (t.length:Int)))=some (.s (w.take (w.length - t.length))):=by rw[El5 w .i64 .i64 0 _ (by omega) (by omega) (by omega),show ((w.length:Int) - (t.length:Int)).toNat=w.length - t.length by omega];rfl
def Oh (a b:List UInt8) (h:a.length+b.length<=1073741824):I0 1 (.l 1 (bytesPV a)) (.l 1 (bytesPV b))=some (.l 1 (bytesPV (a++b))):=by have:=Qr 1 (bytesPV a) (bytesPV b) (by rw[Gk,Gk];exact h);rw[this];simp[bytesPV]
def V1 (b:List UInt8) (h:b.length<=1073741824):I0 1 (Dv []) (.l 1 (bytesPV b))=some (.l 1 (bytesPV b)):=by have:=Oh [] b (by simpa using h);simpa [bytesPV,Dv] using this
def fg {s:SetR} {r:Rec} (h:r∈sortR (unsetR s)):r∈unsetR s:=(((Ur (unsetR s)).2 r).1 h).mem
def Ac8 (s:SetR) (g:Dat) (hw:SetW s) (hg:Ew 46 g=true) (hs:f4 s=true) (p4 p5 p6 p11:PV) (w1 w2 w3 w4:List UInt8) (hh:Qg s g=w1++w2++w3++w4) (h1:w1.length<=20000) (h2:w2.length=2) (h3:w3.length=2) (h4:w4.length=4) (N:Nat) (hN:70<N):
  Ct5.ev S N [s.pv,g.pv,.s (wireD 46 g),.i .i64 0,p4,p5,p6,.s w1,.s w2,.s w3,.s w4,p11,B9 (sortR (unsetR s))]=some (.yld 0 [.l 1 (bytesPV (bodyK s g))]):=by
 obtain⟨_,hsl,hall⟩:=O7 hs;have hul:(unsetR s).length=s.data.length:=by unfold unsetR;rw[Gv]
 have hrl:=Wg (unsetR s);have hwl:=Ix hg;have htl:g.text.length<=(wireD 46 g).length:=by obtain⟨x,hx,_⟩:=Y6 g;rw[hx,Br];omega
 have hpl:(preK g).length<=50000:=by unfold preK;rw[Cv];omega
 have ht:=Nc htl;have hp0:=V1 (preK g) (by omega);have e0:(wireD 46 g).take ((wireD 46 g).length - g.text.length)=preK g:=rfl;rw[e0] at ht;unfold bodyK;have hmem:∀r∈sortR (unsetR s),r∈unsetR s:=fun r hr=>fg hr;generalize sortR (unsetR s)=L at*;refine G5 L (fun i (b:List UInt8)=>[.i .i64 (i:Int),.l 1 (bytesPV b)]) (fun _ b r=> .yld 0 [.l 1 (bytesPV (b++r.flatMap (Qc (Qg s g))))]) (fun i b=>b.length<=70010*(i+1)) (preK g) ?_ (by omega) (by omega) (fun i b c r hd hi hc hI=> ?_) (fun b _=> ?_)
 .generalize preK g=pk at*;generalize wireD 46 g=wd at*;simp(disch:=omega)only[ht,hp0,Gq,Ay,simprocAttr]
  try simp
 .left;have hil:(i:Int)<(L.length:Int):=by omega
  have hcm:=hmem c (Cy hc);have hcw:=L8 hw c hcm;have hcv:=Aj2 (hall c hcm);have k1:=Ol c.typ c.data hcw.data;rw[if_pos hcv] at k1;have hdl:=Ix hcv;have k2:=W8 ((wireD c.typ c.data).length:Int) 2 (by omega) (by omega) (by omega);have h22:((2:Nat):Int)=2:=rfl;rw[h22] at k2;have hbl:=Ds ((wireD c.typ c.data).length:Int) 2;refine⟨b++Qc (Qg s g) c,?_,?_,by simp⟩
  .have e:b++Qc (Qg s g) c=b++(w1++w2++w3++w4)++be ((wireD c.typ c.data).length:Int) 2++wireD c.typ c.data:=by unfold Qc;rw[hh];simp
   rw[e];have a1:=Oh b (w1++w2++w3++w4) (by simp only[Br];omega);have a2:=Oh (b++(w1++w2++w3++w4)) (be ((wireD c.typ c.data).length:Int) 2) (by simp only[Br];omega);have a3:=Oh (b++(w1++w2++w3++w4)++be ((wireD c.typ c.data).length:Int) 2) (wireD c.typ c.data) (by simp only[Br];omega);have l1:(w1++w2).length<=20002:=by rw[Br];omega
   have l2:(w1++w2++w3).length<=20004:=by rw[Br];omega
   have l3:(w1++w2++w3++w4).length<=20008:=by rw[Br];omega
   generalize be ((wireD c.typ c.data).length:Int) 2=nb at*;generalize wireD c.typ c.data=wd at*;simp(disch:=omega)only[ez,hc,hil,k1,k2,a1,a2,a3,Gq,Ay,simprocAttr]
  .have:=Rm (S1 s g) hcv;rw[Br];omega
 .simp(disch:=omega)only[ez,E2,Gq,Ay,simprocAttr];simp[Out.goes]
def Dq9 {g:Dat} (h:Ew 46 g=true):0<=g.b∧0<=g.c∧g.text.length<=255:=⟨(M2 h).b,(M2 h).c,(M2 h).text⟩
def sb {s:SetR} {g:Dat} (hg:Ew 46 g=true) (hs:f4 s=true):(bodyK s g).length<=10000000∧0<(bodyK s g).length:=by
 obtain⟨_,hsl,hall⟩:=O7 hs;have hul:(unsetR s).length=s.data.length:=by unfold unsetR;rw[Gv]
 have hrl:=Wg (unsetR s);have hwl:=Ix hg;have hpl:(preK g).length<=50000:=by unfold preK;rw[Cv];omega
 have hpp:=Cj3 g;have hf:∀l:List Rec,(∀r∈l,Ew r.typ r.data=true)->(l.flatMap (Qc (Qg s g))).length<=70010*l.length:=by
  intro l
  induction l with
  |nil=>intro _;simp
  |cons r l ih=>
   intro h;have h1:=Rm (S1 s g) (h r (.head _));have h2:=ih fun x hx=>h x (.tail _ hx);rw[Hs,Br,Cz];omega
 have:=hf (sortR (unsetR s)) fun r hr=>Aj2 (hall r (fg hr));unfold bodyK;rw[Br];omega
def ym (s:SetR) (g:Dat) (hw:SetW s) (hgw:g.wf) (hd:s.data.length<=1000000):S Bj5 2 [s.pv,g.pv]=some [.s (signedM s g).1,.i .i64 (signedM s g).2]:=by
 have k1:=Ol 46 g hgw;have k2:=fr s hw hd;have k3:=Vv s.name hw.name;have hlk:=Q3 s.name;unfold signedM;refine Gw8 (N:=100) rfl ?_;rcases B0 (Ew 46 g) with hg|hg
 .rw[if_pos hg] at k1;rcases B0 (f4 s) with hs|hs
  .rw[hs] at k2;rw[if_neg (by simp[hg,hs])];by_cases ha:g.a=s.typ
   .by_cases hb:((labK s.name).length:Int)<g.b
    .rw[if_pos (.inr hb)];generalize wireD 46 g=wd at*;generalize labK s.name=lk at*;simp(disch:=omega)only[ez,k1,k2,k3,ha,hb,Gq,Ay,simprocAttr]
    .rw[if_neg (fun q=>q.elim (fun q=>q ha) hb)];obtain⟨hb0,hc0,_⟩:=Dq9 hg;obtain⟨_,hsl,hall⟩:=O7 hs;have hul:(unsetR s).length=s.data.length:=by unfold unsetR;rw[Gv]
     have k4:=Ck4 s.name g.b hw.name hb0 (by omega);have k5:=Bp0 (ownK s.name g.b) (mc s.name g.b hw.name);have k6:=W8 s.typ 2 (by omega) (Ad1 hs) hw.typ.2;have k7:=W8 1 2 (by omega) (by omega) (by omega);have k8:=W8 g.c 4 (by omega) hc0 hgw.c.2;have k9:=Tc s hd;have k10:=Cf9 (unsetR s) (L8 hw) (by omega);have c2:((2:Nat):Int)=2:=rfl;have c4:((4:Nat):Int)=4:=rfl;rw[c2] at k6 k7;rw[c4] at k8;have n1:=H0 (ownK s.name g.b);have n2:=Ds s.typ 2;have n3:=Ds 1 2;have n4:=Ds g.c 4;have key:=fun p4 p5 p6 p11=>Ac8 s g hw hg hs p4 p5 p6 p11 _ _ _ _ rfl n1 n2 n3 n4 100 (by omega);have l1:(wireN (ownK s.name g.b)++be s.typ 2).length<=20002:=by rw[Br];omega
     have l2:(wireN (ownK s.name g.b)++be s.typ 2++be 1 2).length<=20004:=by rw[Br];omega
     obtain⟨hbl,hbp⟩:=sb hg hs;have hwl:=Ix hg;have htl:g.text.length<=(wireD 46 g).length:=by obtain⟨x,hx,_⟩:=Y6 g;rw[hx,Br];omega
     have ht:=Nc htl;have hp0:=V1 ((wireD 46 g).take ((wireD 46 g).length - g.text.length)) (by rw[Cv];omega);have htk:((wireD 46 g).take ((wireD 46 g).length - g.text.length)).length<=50000:=by rw[Cv];omega
     obtain⟨c0,hc00⟩:∃c0,(bodyK s g)[0]? =some c0:=⟨_,B4 hbp⟩;generalize bodyK s g=bd at*;generalize (wireD 46 g).take ((wireD 46 g).length - g.text.length)=tk at*;generalize wireD 46 g=wd at*;generalize sortR (unsetR s)=sr at*;generalize unsetR s=us at*;generalize be s.typ 2=b2 at*;generalize be 1 2=b3 at*;generalize be g.c 4=b4 at*;generalize wireN (ownK s.name g.b)=b1 at*;generalize ownK s.name g.b=ow at*;generalize labK s.name=lk at*;simp(disch:=omega)only[ez,k1,k2,k3,k4,k5,k6,k7,k8,k9,k10,key,ha,hb,ht,hp0,hc00,Gq,Ay,simprocAttr]
   .rw[if_pos (.inl ha)];generalize wireD 46 g=wd at*;simp(disch:=omega)only[ez,k1,k2,ha,Gq,Ay,simprocAttr]
  .rw[hs] at k2;rw[if_pos (.inr hs)];generalize wireD 46 g=wd at*;simp(disch:=omega)only[ez,k1,k2,Gq,Ay,simprocAttr]
 .rw[if_pos (.inl hg)];rw[if_neg (by simp[hg]),if_pos (by decide)] at k1;simp(disch:=omega)only[ez,k1,Gq,Ay,simprocAttr]
def fp (s:SetR) (g:Dat) (hw:SetW s) (hgw:g.wf) (hg:Ew 46 g=true) (hs:f4 s=true) (p2 p3 p4 p5 p8 p9:PV) (hown:(ownK s.name g.b).length<=9223372036854775807) (N:Nat) (hN:70<N):
  Bx9.ev S N [s.pv,g.pv,p2,p3,p4,p5,.s (ownK s.name g.b),.s (wireD 46 g),p8,p9,B9 (sortR (unsetR s))]=some (.yld 0 [.s (bodyK s g)]):=by
 obtain⟨_,hsl,hall⟩:=O7 hs;obtain⟨hb0,hc0,_⟩:=Dq9 hg;have hul:(unsetR s).length=s.data.length:=by unfold unsetR;rw[Gv]
 have hrl:=Wg (unsetR s);have hwl:=Ix hg;have htl:g.text.length<=(wireD 46 g).length:=by obtain⟨x,hx,_⟩:=Y6 g;rw[hx,Br];omega
 have hpl:(preK g).length<=50000:=by unfold preK;rw[Cv];omega
 have ht:=Nc htl;have e0:(wireD 46 g).take ((wireD 46 g).length - g.text.length)=preK g:=rfl;rw[e0] at ht;have k3:=z9 (ownK s.name g.b) hown;have k6:=Mc s.typ 2 (by omega) (Ad1 hs) hw.typ.2;have k7:=Mc 1 2 (by omega) (by omega) (by omega);have k8:=Mc g.c 4 (by omega) hc0 hgw.c.2;have c2:((2:Nat):Int)=2:=rfl;have c4:((4:Nat):Int)=4:=rfl;rw[c2] at k6 k7;rw[c4] at k8;have n1:=H0 (ownK s.name g.b);have n2:=Ds s.typ 2;have n3:=Ds 1 2;have n4:=Ds g.c 4;unfold bodyK;have hmem:∀r∈sortR (unsetR s),r∈unsetR s:=fun r hr=>fg hr;generalize sortR (unsetR s)=L at*;refine G5 L (fun i (b:List UInt8)=>[.s b,.i .i64 (i:Int)]) (fun _ b r=> .yld 0 [.s (b++r.flatMap (Qc (Qg s g)))]) (fun i b=>b.length<=70010*(i+1)) (preK g) ?_ (by omega) (by omega) (fun i b c r hd hi hc hI=> ?_) (fun b _=> ?_)
 .generalize preK g=pk at*;generalize wireD 46 g=wd at*;simp(disch:=omega)only[ht,Gq,Ay,simprocAttr]
  try simp
 .left;have hil:(i:Int)<(L.length:Int):=by omega
  have hcm:=hmem c (Cy hc);have hcw:=L8 hw c hcm;have hcv:=Aj2 (hall c hcm);have k1:=Kh c.typ c.data hcw.data;rw[if_pos hcv] at k1;have hdl:=Ix hcv;have k2:=Mc ((wireD c.typ c.data).length:Int) 2 (by omega) (by omega) (by omega);rw[c2] at k2;have hbl:=Ds ((wireD c.typ c.data).length:Int) 2;refine⟨b++Qc (Qg s g) c,?_,?_,by simp⟩
  .have e:b++Qc (Qg s g) c=b++wireN (ownK s.name g.b)++be s.typ 2++be 1 2++be g.c 4++be ((wireD c.typ c.data).length:Int) 2++wireD c.typ c.data:=by unfold Qc Qg;simp
   rw[e];generalize be ((wireD c.typ c.data).length:Int) 2=nb at*;generalize wireD c.typ c.data=wd at*;generalize be s.typ 2=b2 at*;generalize be 1 2=b3 at*;generalize be g.c 4=b4 at*;generalize wireN (ownK s.name g.b)=b1 at*;have l1:(b++b1).length<=5000000:=by rw[Br];omega
   have l2:(b++b1++b2).length<=5000002:=by rw[Br];omega
   have l3:(b++b1++b2++b3).length<=5000004:=by rw[Br];omega
   have l4:(b++b1++b2++b3++b4).length<=5000008:=by rw[Br];omega
   have l5:(b++b1++b2++b3++b4++nb).length<=5000010:=by rw[Br];omega
   simp(disch:=omega)only[Pt,hc,hil,k1,k2,k3,k6,k7,k8,Gq,Ay,simprocAttr]
  .have:=Rm (S1 s g) hcv;rw[Br];omega
 .simp(disch:=omega)only[Pt,E2,Gq,Ay,simprocAttr];simp[Out.goes]
def kc (s:SetR) (g:Dat) (hw:SetW s) (hgw:g.wf) (hd:s.data.length<=1000000):S o5 2 [s.pv,g.pv]=some [.s (signedM s g).1,.i .i64 (signedM s g).2]:=by
 have k1:=Et 46 g hgw;have k1w:=Kh 46 g hgw;have k2:=Wl s hw hd;have k3:=yv s.name hw.name;have hlk:=Q3 s.name;unfold signedM;refine Fk9 (N:=100) rfl ?_;rcases B0 (Ew 46 g) with hg|hg
 .rw[hg] at k1;rw[if_pos hg] at k1w;rcases B0 (f4 s) with hs|hs
  .rw[hs] at k2;rw[if_neg (by simp[hg,hs])];by_cases ha:g.a=s.typ
   .by_cases hb:((labK s.name).length:Int)<g.b
    .rw[if_pos (.inr hb)];generalize wireD 46 g=wd at*;generalize (labK s.name).length=lk at*;simp(disch:=omega)only[Pt,k1,k2,k3,ha,hb,Gq,Ay,simprocAttr]
    .rw[if_neg (fun q=>q.elim (fun q=>q ha) hb)];obtain⟨hb0,hc0,_⟩:=Dq9 hg;obtain⟨_,hsl,hall⟩:=O7 hs;have hul:(unsetR s).length=s.data.length:=by unfold unsetR;rw[Gv]
     have hown:=mc s.name g.b hw.name;have k9:=Td s hd;have k10:=Cg0 (unsetR s) (L8 hw) (by omega);have key:=fun p2 p3 p4 p5 p8 p9=>fp s g hw hgw hg hs p2 p3 p4 p5 p8 p9 hown 100 (by omega);have hwl:=Ix hg;have htl:g.text.length<=(wireD 46 g).length:=by obtain⟨x,hx,_⟩:=Y6 g;rw[hx,Br];omega
     have ht:=Nc htl;by_cases hbl:g.b=((labK s.name).length:Int)
     .have ho:ownK s.name g.b=s.name:=by unfold ownK;rw[if_pos hbl]
      rw[ho] at key;have hbl':((labK s.name).length:Int)=g.b:=hbl.symm;rw[hbl'] at k3;generalize (wireD 46 g).take ((wireD 46 g).length - g.text.length)=tk at*;generalize bodyK s g=bd at*;generalize wireD 46 g=wd at*;generalize sortR (unsetR s)=sr at*;generalize unsetR s=us at*;simp(disch:=omega)only[Pt,k1,k1w,k2,k3,k9,k10,key,ha,ht,E2,Gq,Ay,simprocAttr]
     .have k4:=Mh s.name hw.name;have hll:=G8 s.name;obtain⟨m,hm⟩:∃m:Nat,g.b=(m:Int):=⟨g.b.toNat,by omega⟩;have hlab:(labK s.name).length<=(lbl s.name).length:=by
       unfold labK;split
       .rw[C1];omega
       .exact B7 _
      have ls:=Bc5 (lbl s.name) m (by omega) (by omega);rw[<-Bq2 s.name m (by omega),<-hm] at ls;have hdl:((labK s.name).drop ((labK s.name).length - m)).length<=1000:=by rw[C1];omega
      have ap:=s6 _ hdl;have k5:=Cg4 (starK s.name m) (Rc s.name m) (by unfold starK;simp) (Rf s.name m);have e:starK s.name m=[42]::(labK s.name).drop ((labK s.name).length - m):=rfl;rw[<-e] at ap;have ho:ownK s.name g.b=(joinL (starK s.name m)).1:=by unfold ownK;rw[if_neg hbl,hm,Es]
      rw[ho] at key;have hlt:K1 1 [.s [42]]=some (.l 1 [.s [42]]):=rfl;have hbl':¬((labK s.name).length:Int)=g.b:=fun q=>hbl q.symm;generalize joinL (starK s.name m)=j at*;generalize starK s.name m=st at*;generalize (labK s.name).drop ((labK s.name).length - m)=dr at*;generalize lbl s.name=lb at*;generalize (labK s.name).length=lk at*;generalize (wireD 46 g).take ((wireD 46 g).length - g.text.length)=tk at*;generalize bodyK s g=bd at*;generalize wireD 46 g=wd at*;generalize sortR (unsetR s)=sr at*;generalize unsetR s=us at*;simp(disch:=omega)only[Pt,k1,k1w,k2,k3,k4,k5,k9,k10,key,ha,hb,hbl',ht,ls,ap,hlt,Gq,Ay,simprocAttr]
   .rw[if_pos (.inl ha)];simp(disch:=omega)only[Pt,k1,k2,ha,Gq,Ay,simprocAttr]
  .rw[hs] at k2;rw[if_pos (.inr hs)];simp(disch:=omega)only[Pt,k1,k2,Gq,Ay,simprocAttr]
 .rw[hg] at k1;rw[if_pos (.inl hg)];simp(disch:=omega)only[Pt,k1,Gq,Ay,simprocAttr]
def tagK (d:Dat):Int:=if Ew 48 d=true then Ec6 (wireD 48 d) else 0
def Ev1 (d:Dat) (h:d.wf):S Bj6 1 [d.pv]=some [.i .i64 (tagK d)]:=by
 have k1:=Ol 48 d h;unfold tagK;refine Gw9 (N:=1) rfl ?_;rcases B0 (Ew 48 d) with hv|hv
 .have hl:=Ix hv;have k2:=Eq9 (wireD 48 d) (by omega);rw[if_pos hv] at k1 ⊢;generalize wireD 48 d=w at*;simp(disch:=omega)only[Ex2,k1,k2,Ay,simprocAttr]
 .rw[if_neg (by simp[hv]),if_pos (by decide)] at k1;rw[if_neg (by simp[hv])];simp(disch:=omega)only[Ex2,k1,Ay,simprocAttr]
def Cf5 (d:Dat) (h:d.wf):S o6 1 [d.pv]=some [.i .i64 (tagK d)]:=by
 have k0:=Et 48 d h;have k1:=Kh 48 d h;unfold tagK;refine Fq1 (N:=1) rfl ?_;rcases B0 (Ew 48 d) with hv|hv
 .have hl:=Ix hv;have k2:=Cf6 (wireD 48 d) (by omega);rw[hv] at k0;rw[if_pos hv] at k1 ⊢;generalize wireD 48 d=w at*;simp(disch:=omega)only[Cl3,k0,k1,k2,Ay,simprocAttr]
 .rw[hv] at k0;rw[if_neg (by simp[hv])];simp(disch:=omega)only[Cl3,k0,Ay,simprocAttr]
def Bp2 (zone:List UInt8) (key:Dat) (s:SetR) (g:Dat) (now:Int):Int:=
 if g.host≠zone∨under s.name zone=false∨g.f≠tagK key then 18
 else if Ew 48 key=false then 5
 else if(signedM s g).2≠0 then(signedM s g).2
 else if now<g.e∨g.d<now then 20
 else if g.text≠macM key.text (signedM s g).1 then 19
 else 0
def Us (s:SetR) (g:Dat):(signedM s g).1.length<=10000000:=by
 unfold signedM;split
 .simp
 .rename_i h;split
  .simp
  .have hg:Ew 46 g=true:=by
    rcases B0 (Ew 46 g) with q|q
    .exact q
    .exact absurd (.inl q) h
   have hs:f4 s=true:=by
    rcases B0 (f4 s) with q|q
    .exact q
    .exact absurd (.inr q) h
   exact(sb hg hs).1
def yl (zone:List UInt8) (key:Dat) (s:SetR) (g:Dat) (now:Int) (hz:zone.length<=9223372036854775807) (hk:key.wf) (hw:SetW s) (hgw:g.wf) (hd:s.data.length<=1000000):
  S Cv4 5 [.s zone,key.pv,s.pv,g.pv,.i .i64 now]=some [.i .i64 (Bp2 zone key s g now)]:=by
 have k1:=Bl3 s.name zone hw.name hz;have k2:=Ev1 key hk;have k3:=Pk 48 key hk;have k4:=ym s g hw hgw hd;have hsl:=Us s g;unfold Bp2;refine Gw6 (N:=1) rfl ?_;generalize tagK key=tk at*;by_cases h1:g.host=zone
 .rcases B0 (under s.name zone) with h2|h2
  .rw[h2] at k1;by_cases h3:g.f=tk
   .rw[if_neg (by simp[h1,h2,h3])];rcases B0 (Ew 48 key) with h4|h4
    .have h4t:key.text.length<=255:=(M2 h4).text;have k5:=Ev6 key.text (signedM s g).1 (by omega) (by omega);rw[h4] at k3;rw[if_neg (by simp[h4])];generalize macM key.text (signedM s g).1=mm at*;generalize signedM s g=sm at*;by_cases h5:sm.2=0
     .rw[if_neg (by simp[h5])];by_cases h6:now<g.e
      .rw[if_pos (.inl h6)];simp(disch:=omega)only[Wj,k1,k2,k3,k4,h1,h3,h5,h6,Gq,Ay,simprocAttr]
      .by_cases h7:g.d<now
       .rw[if_pos (.inr h7)];simp(disch:=omega)only[Wj,k1,k2,k3,k4,h1,h3,h5,h6,h7,Gq,Ay,simprocAttr]
       .rw[if_neg (fun q=>q.elim h6 h7)];by_cases h8:g.text=mm
        .rw[if_neg (by simp[h8])];simp(disch:=omega)only[Wj,k1,k2,k3,k4,k5,h1,h3,h5,h6,h7,h8,Gq,Ay,simprocAttr]
        .rw[if_pos h8];simp(disch:=omega)only[Wj,k1,k2,k3,k4,k5,h1,h3,h5,h6,h7,h8,Gq,Ay,simprocAttr]
     .rw[if_pos h5];simp(disch:=omega)only[Wj,k1,k2,k3,k4,h1,h3,h5,Gq,Ay,simprocAttr]
    .rw[h4] at k3;rw[if_pos h4];simp(disch:=omega)only[Wj,k1,k2,k3,h1,h3,Gq,Ay,simprocAttr]
   .rw[if_pos (.inr (.inr h3))];simp(disch:=omega)only[Wj,k1,k2,h1,h3,Gq,Ay,simprocAttr]
  .rw[h2] at k1;rw[if_pos (.inr (.inl h2))];simp(disch:=omega)only[Wj,k1,h1,Gq,Ay,simprocAttr]
 .rw[if_pos (.inl h1)];simp(disch:=omega)only[Wj,h1,Gq,Ay,simprocAttr]
def kz (zone:List UInt8) (key:Dat) (s:SetR) (g:Dat) (now:Int) (hz:zone.length<=9223372036854775807) (hk:key.wf) (hw:SetW s) (hgw:g.wf) (hd:s.data.length<=1000000):
  S Cv3 5 [.s zone,key.pv,s.pv,g.pv,.i .i64 now]=some [.i .i64 (Bp2 zone key s g now)]:=by
 have k1:=Bl4 s.name zone hw.name hz;have k2:=Cf5 key hk;have k3:=Et 48 key hk;have k4:=kc s g hw hgw hd;have hsl:=Us s g;unfold Bp2;refine Gw5 (N:=1) rfl ?_;generalize tagK key=tk at*;by_cases h1:g.host=zone
 .rcases B0 (under s.name zone) with h2|h2
  .rw[h2] at k1;by_cases h3:g.f=tk
   .rw[if_neg (by simp[h1,h2,h3])];rcases B0 (Ew 48 key) with h4|h4
    .have h4t:key.text.length<=255:=(M2 h4).text;have k5:=Cg3 key.text (signedM s g).1 (by omega) (by omega);rw[h4] at k3;rw[if_neg (by simp[h4])];generalize macM key.text (signedM s g).1=mm at*;generalize signedM s g=sm at*;by_cases h5:sm.2=0
     .rw[if_neg (by simp[h5])];by_cases h6:now<g.e
      .rw[if_pos (.inl h6)];simp(disch:=omega)only[V9,k1,k2,k3,k4,h1,h3,h5,h6,Gq,Ay,simprocAttr]
      .by_cases h7:g.d<now
       .rw[if_pos (.inr h7)];simp(disch:=omega)only[V9,k1,k2,k3,k4,h1,h3,h5,h6,h7,Gq,Ay,simprocAttr]
       .rw[if_neg (fun q=>q.elim h6 h7)];by_cases h8:g.text=mm
        .rw[if_neg (by simp[h8])];simp(disch:=omega)only[V9,k1,k2,k3,k4,k5,h1,h3,h5,h6,h7,h8,Gq,Ay,simprocAttr]
        .rw[if_pos h8];simp(disch:=omega)only[V9,k1,k2,k3,k4,k5,h1,h3,h5,h6,h7,h8,Gq,Ay,simprocAttr]
     .rw[if_pos h5];simp(disch:=omega)only[V9,k1,k2,k3,k4,h1,h3,h5,Gq,Ay,simprocAttr]
    .rw[h4] at k3;rw[if_pos h4];simp(disch:=omega)only[V9,k1,k2,k3,h1,h3,Gq,Ay,simprocAttr]
   .rw[if_pos (.inr (.inr h3))];simp(disch:=omega)only[V9,k1,k2,h1,h3,Gq,Ay,simprocAttr]
  .rw[h2] at k1;rw[if_pos (.inr (.inl h2))];simp(disch:=omega)only[V9,k1,h1,Gq,Ay,simprocAttr]
 .rw[if_pos (.inl h1)];simp(disch:=omega)only[V9,h1,Gq,Ay,simprocAttr]
set_option maxRecDepth 100000 in
def yd:S Cw1 0 []=some [.b true]:=(Rr ext_mono).2 ⟨400,by kernel_rfl⟩
end Go.X.G
