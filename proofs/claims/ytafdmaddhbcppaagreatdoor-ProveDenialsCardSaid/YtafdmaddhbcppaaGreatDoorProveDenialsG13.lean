/- Merging in place: the library's function. -/
import Derived.Test.YtafdmaddhbcppaaGreatDoorProveDenialsG12
import Derived.Test.YtafdmaddhbcppaaGreatDoorProveDenialsG11
open Bool renaming eq_false_or_eq_true→Bm,and_eq_true→Br,false_eq_true→B5,or_eq_true→Cy,not_eq_true'→Cm,eq_iff_iff→D5,not_eq_false→H1
open Classical renaming not_not→H0
open List renaming getElem?_eq_some_iff→Bp,getElem?_eq_getElem→Bs,length_append→B0,length_cons→Cj,mem_cons→Ck,mem_of_getElem?→Cq,append_assoc→Cv,length_take→Cw,getElem?_append_right→Cc,pairwise_cons→Cf,length_pos_iff→Ch,getElem?_drop→Cl,getElem?_append_left→Cp,all_eq_true→C0,eq_nil_of_length_eq_zero→C1,length_nil→C2,mem_filter→C5,mem_append→C8,length_drop→Dj,take_append_drop→Dq,mem_append_right→Dv,nil_append→Dw,any_eq_true→Dd,drop_eq_getElem_cons→Df,length_filter_le→Dh,cons_append→Dl,take_add_one→Dm,length_map→D2,mem_append_left→D6,drop_drop→Ew,append_nil→Eg,take_length→E3,getElem_mem→E4,getElem?_cons_succ→E6,take_of_length_le→Fq,mem_map→Fl,flatMap_cons→F3,drop_zero→F4,pairwise_append→G8,mem_of_mem_drop→Hj,count_cons_of_ne→H7,map_cons→Ij,length_set→Iw,mem_of_mem_take→It,count_cons_self→I1,drop_append_of_le_length→Ly,getLast_eq_getElem→L1,getElem?_set_self→M1,filter_cons→N3,findIdx?_cons→Ov,set_append_right→Pl,getElem?_set_ne→R7,drop_set_of_lt→W8,length_eq_one_iff→jv,length_mergeSort→Ak4,getElem_take→Ar3,take_take→Ch7,map_mergeSort→Jw4,count_eq_zero→Jw5
open Nat renaming le_refl→B7,mul_le_mul_right→Cs,zero_le→Dy,le_trans→Dt,add_zero→Fj,add_sub_cancel→Kl,min_eq_left→Mw,sub_self→jq
set_option maxHeartbeats 1000000
set_option linter.defProp false
set_option linter.unusedVariables false
set_option linter.unusedSimpArgs false
namespace Go.X.G
open Go Go.X
def Az:=And.intro EVC<|And.intro xe<|And.intro EVP EV
def Ay:=And.intro EVM<|And.intro EVC<|And.intro xe<|And.intro EVP EV
def Gl (x:Int):bin .shr (.i .u64 x) (.i .u64 1)=some (.i .u64 (x / 2)):=by
 simp only[bin,Qy];rw[if_neg (by decide)];have:(2:Int) ^ min (1:Int).toNat IntKind.u64.bits=2:=by decide
 rw[this,Int.fdiv_eq_ediv_of_nonneg _ (by decide)]
def Gh7 {α:Type} (P Q:List α) (x y:α):((P++x::y::Q).set P.length y).set (P.length+1) x=P++y::x::Q:=by rw[Pl _ _ (B7 _),jq,List.set_cons_zero,Pl _ _ (by omega),show P.length+1 - P.length=1 by omega];rfl
def yq {α:Type} (P Q:List α) (x:α):(P++x::Q)[P.length]? =some x:=by simp
def Ac6 {α:Type} (P Q:List α) (x y:α):(P++x::y::Q)[P.length+1]? =some y:=by simp
structure Cmp (g:Nat) (caps:List PV) (c:Rec→Rec→Int) (P:Rec→Prop):Prop where
 ok:∀x y,P x→P y→S g 2 (x.pv::y.pv::caps)=some [.i .i64 (c x y)]
def leC (c:Rec→Rec→Int) (x y:Rec):Bool:= !decide (c y x<0)
def Fh1 {c:Rec→Rec→Int} {x y:Rec}:leC c x y=true↔¬c y x<0:=by simp[leC]
def Fh2 {c:Rec→Rec→Int} {x y:Rec}:leC c x y=false↔c y x<0:=by simp[leC]
section
variable {g:Nat} {caps:List PV} {c:Rec→Rec→Int} {P:Rec→Prop}
def Jc4 (h:Cmp g caps c P) (X B Y:List Rec) (x:Rec) (s:List Rec) (hsd:s=X++x::(B++Y)) (a m b:Int) (ha:a=X.length) (hm:m=a+1) (hb:b=m+B.length) (hs:s.length≤1000000) (hP:∀y∈s,P y) (N:Nat) (hN:B.length<N):
  ∃p:Nat,Ds6.ev S N [B6 s,.i .i64 a,.i .i64 m,.i .i64 b,.f g caps]=some (.yld 0 [.i .i64 (m+p)])∧p≤B.length∧(∀y,p≠0→B[p - 1]? =some y→c y x<0)∧∀y,B[p]? =some y→¬c y x<0:=by
 have hl:s.length=X.length+1+B.length+Y.length:=by rw[hsd];simp;omega
 have hx:s[X.length]? =some x:=by rw[hsd];exact yq _ _ _
 have hB:∀k y,B[k]? =some y→s[X.length+1+k]? =some y:=fun k y hk=>by have:=(Bp.1 hk).1;rw[hsd,Cc (by omega),show X.length+1+k - X.length=k+1 by omega,E6,Cp this,hk]
 have hPx:P x:=hP x (by rw[hsd];simp);have key:=Jg (fn:=S) (N:=N) (η:=[B6 s,.i .i64 a,.i .i64 m,.i .i64 b,.f g caps]) (id:=1) (init:=[.v 2,.v 3]) (body:=An1) (α:=Nat×Nat)
  (fun w=>[.i .i64 (m+w.1),.i .i64 (m+w.2)])
  (fun o=>∃p:Nat,o= .yld 0 [.i .i64 (m+p)]∧p≤B.length∧(∀y,p≠0→B[p - 1]? =some y→c y x<0)∧∀y,B[p]? =some y→¬c y x<0)
  (fun w=>w.1≤w.2∧w.2≤B.length∧(∀y,w.1≠0→B[w.1 - 1]? =some y→c y x<0)∧∀y,B[w.2]? =some y→¬c y x<0)
  (fun w=>w.2 - w.1) (0,B.length) ?_ ?_ (by simp only;omega) ?_
 ·obtain⟨o,h1,p,rfl,h2⟩:=key;exact⟨p,h1,h2⟩
 ·subst hb;simp(disch:=omega)only[EVT,Ay,simprocAttr];simp
 ·refine⟨by simp,by simp,fun y h0=>absurd rfl h0,fun y hy=> ?_⟩;simp at hy
 ·rintro⟨p,q⟩ ⟨h1,h2,h3,h4⟩;simp only at h1 h2 h3 h4;by_cases hpq:p<q
  ·left;have hk:(p+q) / 2<B.length:=by omega
   have hy:=Bs hk;generalize B[(p+q) / 2]=y at hy;have hsy:=hB _ y hy;have hPy:P y:=hP y (Cq hsy);have hc:=h.ok y x hPy hPx;have hlt:m+(p:Int)<m+(q:Int):=by omega
   have e1:(m+(p:Int)+(m+(q:Int))) / 2=m+(((p+q) / 2:Nat):Int):=by omega
   have e2:(m+(((p+q) / 2:Nat):Int)).toNat=X.length+1+(p+q) / 2:=by omega
   have e3:a.toNat=X.length:=by omega
   by_cases hcy:c y x<0
   ·refine⟨((p+q) / 2+1,q),?_,⟨by simp only;omega,h2,fun z _ hz=> ?_,h4⟩,by simp only;omega⟩
    ·have e4:m+(((p+q) / 2+1:Nat):Int)=m+(((p+q) / 2:Nat):Int)+1:=by omega
     simp only[e4];generalize (p+q) / 2=k at*;simp(disch:=omega)only[Hv,hlt,Gl,e1,e2,e3,hsy,hx,hc,hcy,EVT,Ay,simprocAttr]
    ·simp only[Kl] at hz;rw[hy] at hz;injection hz with hz;subst hz;exact hcy
   ·refine⟨(p,(p+q) / 2),?_,⟨by simp only;omega,by simp only;omega,h3,fun z hz=> ?_⟩,by simp only;omega⟩
    ·simp only;generalize (p+q) / 2=k at*;simp(disch:=omega)only[Hv,hlt,Gl,e1,e2,e3,hsy,hx,hc,hcy,EVT,Ay,simprocAttr]
    ·simp only at hz;rw[hy] at hz;injection hz with hz;subst hz;exact hcy
  ·right;have e:p=q:=by omega
   subst e;have hlt:¬m+(p:Int)<m+(p:Int):=by omega
   refine⟨.yld 0 [.i .i64 (m+p)],?_,rfl,p,rfl,h2,h3,h4⟩;simp(disch:=omega)only[Hv,hlt,EVT,Ay,simprocAttr]
def Jc6 (L L':List Rec) (i:Nat) (x y:Rec) (g0:L[i]? =some x) (g1:L[i+1]? =some y) (sw:(L.set i y).set (i+1) x=L') (k e:Int) (hk:k=i) (he:k<e - 1) (he2:e≤1000000) (hL:L.length≤1000000) (w0 w1 w2 w3 w4:PV) (N:Nat):
  oz.ev S N [w0,w1,w2,w3,w4,.i .i64 e,.i .i64 k,B6 L]=some (.yld 1 [.i .i64 (k+1),B6 L']):=by
 have hi:=(Bp.1 g1).1;have ti0:k.toNat=i:=by omega
 have ti1:(k+1).toNat=i+1:=by omega
 have g2:(L.set i y)[i+1]? =some y:=by rw[R7 (by omega)];exact g1
 simp(disch:=first|omega|(rw[Iw];omega))only[Hv,he,ti0,ti1,g0,g1,g2,sw,EVT,Ay,simprocAttr]
def Jc5 (L L':List Rec) (i:Nat) (x y:Rec) (g0:L[i]? =some x) (g1:L[i+1]? =some y) (sw:(L.set (i+1) x).set i y=L') (k e:Int) (hk:k=i+1) (he:e<k) (he2:0≤e) (hL:L.length≤1000000) (w0 w1 w2 w3 w4:PV) (N:Nat):
  oy.ev S N [w0,w1,w2,w3,w4,.i .i64 e,.i .i64 k,B6 L]=some (.yld 1 [.i .i64 (k - 1),B6 L']):=by
 have hi:=(Bp.1 g1).1;have ti0:(k - 1).toNat=i:=by omega
 have ti1:k.toNat=i+1:=by omega
 have g2:(L.set (i+1) x)[i]? =some x:=by rw[R7 (by omega)];exact g0
 simp(disch:=first|omega|(rw[Iw];omega))only[Hv,he,ti0,ti1,g0,g1,g2,sw,EVT,Ay,simprocAttr]
def Jc3 (X B Y:List Rec) (x:Rec) (s:List Rec) (hsd:s=X++x::(B++Y)) (a m b:Int) (w:PV) (p:Nat) (ha:a=X.length) (hm:m=a+1) (hp:p≤B.length) (hs:s.length≤1000000) (N:Nat) (hN:B.length<N) (w1 w2 w3:PV):
  Dr0.ev S N [B6 s,.i .i64 a,w1,w2,w3,.i .i64 (m+p)]=some (.yld 0 [B6 (X++(B.take p++x::B.drop p)++Y)]):=by
 have hl:s.length=X.length+1+B.length+Y.length:=by rw[hsd];simp;omega
 refine Gk p (fun t=>[.i .i64 (a+t),B6 ((X++B.take t)++x::(B.drop t++Y))]) (fun _=> .yld 0 [B6 (X++(B.take p++x::B.drop p)++Y)]) ?_ (by omega) (fun t ht=> ?_) ?_
 ·simp(disch:=omega)only[EVT,Ay,simprocAttr];rw[hsd];simp
 ·left;refine⟨?_,rfl⟩;have hlt:t<B.length:=by omega
  have hy:=Bs hlt;have hd:B.drop t=B[t]::B.drop (t+1):=Df hlt;have htk:B.take (t+1)=B.take t++[B[t]]:=by rw[Dm,hy];rfl
  have e0:X++B.take (t+1)++x::(B.drop (t+1)++Y)=X++B.take t++B[t]::x::(B.drop (t+1)++Y):=by rw[htk];simp only[Cv,Dl,Dw]
  show oz.ev S N ([B6 s,.i .i64 a,w1,w2,w3,.i .i64 (m+p)]++[.i .i64 (a+t),B6 ((X++B.take t)++x::(B.drop t++Y))])=some (.yld 1 [.i .i64 (a+((t+1:Nat):Int)),B6 ((X++B.take (t+1))++x::(B.drop (t+1)++Y))]);rw[e0,hd,Dl];generalize B[t]=y at*;have lP:(X++B.take t).length=X.length+t:=by rw[B0,Cw];omega
  have sw:=Gh7 (X++B.take t) (B.drop (t+1)++Y) x y;have g0:=yq (X++B.take t) (y::(B.drop (t+1)++Y)) x;have g1:=Ac6 (X++B.take t) (B.drop (t+1)++Y) x y;have lL:(X++B.take t++x::y::(B.drop (t+1)++Y)).length=s.length:=by rw[hl];simp only[B0,Cj,Cw,Dj];omega
  rw[lP] at sw g0 g1;have e5:a+((t+1:Nat):Int)=a+(t:Int)+1:=by omega
  rw[e5];exact Jc6 _ _ (X.length+t) x y g0 g1 sw (a+t) (m+p) (by omega) (by omega) (by omega) (by omega) _ _ _ _ _ N
 ·refine⟨?_,rfl⟩;have hlt2:¬a+(p:Int)<m+(p:Int) - 1:=by omega
  have e0:X++B.take p++x::(B.drop p++Y)=X++(B.take p++x::B.drop p)++Y:=by simp
  rw[e0];simp(disch:=omega)only[Hv,hlt2,EVT,Ay,simprocAttr]
def Jc2 (h:Cmp g caps c P) (X A Y:List Rec) (x:Rec) (s:List Rec) (hsd:s=X++(A++x::Y)) (a m:Int) (w:PV) (ha:a=X.length) (hm:m=a+A.length) (hs:s.length≤1000000) (hP:∀y∈s,P y) (N:Nat) (hN:A.length<N):
  ∃p:Nat,Dp2.ev S N [B6 s,.i .i64 a,.i .i64 m,w,.f g caps]=some (.yld 0 [.i .i64 (a+p)])∧p≤A.length∧(∀y,p≠0→A[p - 1]? =some y→¬c x y<0)∧∀y,A[p]? =some y→c x y<0:=by
 have hl:s.length=X.length+A.length+1+Y.length:=by rw[hsd];simp;omega
 have hx:s[X.length+A.length]? =some x:=by rw[hsd,←Cv,←B0];exact yq _ _ _
 have hA:∀k y,A[k]? =some y→s[X.length+k]? =some y:=fun k y hk=>by have:=(Bp.1 hk).1;rw[hsd,Cc (by omega),show X.length+k - X.length=k by omega,Cp this,hk]
 have hPx:P x:=hP x (by rw[hsd];simp);have key:=Jg (fn:=S) (N:=N) (η:=[B6 s,.i .i64 a,.i .i64 m,w,.f g caps]) (id:=1) (init:=[.v 1,.v 2]) (body:=Am3) (α:=Nat×Nat)
  (fun w=>[.i .i64 (a+w.1),.i .i64 (a+w.2)])
  (fun o=>∃p:Nat,o= .yld 0 [.i .i64 (a+p)]∧p≤A.length∧(∀y,p≠0→A[p - 1]? =some y→¬c x y<0)∧∀y,A[p]? =some y→c x y<0)
  (fun w=>w.1≤w.2∧w.2≤A.length∧(∀y,w.1≠0→A[w.1 - 1]? =some y→¬c x y<0)∧∀y,A[w.2]? =some y→c x y<0)
  (fun w=>w.2 - w.1) (0,A.length) ?_ ?_ (by simp only;omega) ?_
 ·obtain⟨o,h1,p,rfl,h2⟩:=key;exact⟨p,h1,h2⟩
 ·subst hm;simp(disch:=omega)only[EVT,Ay,simprocAttr];simp
 ·refine⟨by simp,by simp,fun y h0=>absurd rfl h0,fun y hy=> ?_⟩;simp at hy
 ·rintro⟨p,q⟩ ⟨h1,h2,h3,h4⟩;simp only at h1 h2 h3 h4;by_cases hpq:p<q
  ·left;have hk:(p+q) / 2<A.length:=by omega
   have hy:=Bs hk;generalize A[(p+q) / 2]=y at hy;have hsy:=hA _ y hy;have hPy:P y:=hP y (Cq hsy);have hc:=h.ok x y hPx hPy;have hlt:a+(p:Int)<a+(q:Int):=by omega
   have e1:(a+(p:Int)+(a+(q:Int))) / 2=a+(((p+q) / 2:Nat):Int):=by omega
   have e2:(a+(((p+q) / 2:Nat):Int)).toNat=X.length+(p+q) / 2:=by omega
   have e3:m.toNat=X.length+A.length:=by omega
   by_cases hcy:c x y<0
   ·refine⟨(p,(p+q) / 2),?_,⟨by simp only;omega,by simp only;omega,h3,fun z hz=> ?_⟩,by simp only;omega⟩
    ·simp only;generalize (p+q) / 2=k at*;simp(disch:=omega)only[Hv,hlt,Gl,e1,e2,e3,hsy,hx,hc,hcy,EVT,Ay,simprocAttr]
    ·simp only at hz;rw[hy] at hz;injection hz with hz;subst hz;exact hcy
   ·refine⟨((p+q) / 2+1,q),?_,⟨by simp only;omega,h2,fun z _ hz=> ?_,h4⟩,by simp only;omega⟩
    ·have e4:a+(((p+q) / 2+1:Nat):Int)=a+(((p+q) / 2:Nat):Int)+1:=by omega
     simp only[e4];generalize (p+q) / 2=k at*;simp(disch:=omega)only[Hv,hlt,Gl,e1,e2,e3,hsy,hx,hc,hcy,EVT,Ay,simprocAttr]
    ·simp only[Kl] at hz;rw[hy] at hz;injection hz with hz;subst hz;exact hcy
  ·right;have e:p=q:=by omega
   subst e;have hlt:¬a+(p:Int)<a+(p:Int):=by omega
   refine⟨.yld 0 [.i .i64 (a+p)],?_,rfl,p,rfl,h2,h3,h4⟩;simp(disch:=omega)only[Hv,hlt,EVT,Ay,simprocAttr]
def Jc1 (X A Y:List Rec) (x:Rec) (s:List Rec) (hsd:s=X++(A++x::Y)) (a m:Int) (p:Nat) (ha:a=X.length) (hm:m=a+A.length) (hp:p≤A.length) (hs:s.length≤1000000) (N:Nat) (hN:A.length<N) (w1 w2 w3:PV):
  Dp1.ev S N [B6 s,w1,.i .i64 m,w2,w3,.i .i64 (a+p)]=some (.yld 0 [B6 (X++(A.take p++x::A.drop p)++Y)]):=by
 have hl:s.length=X.length+A.length+1+Y.length:=by rw[hsd];simp;omega
 refine Gk (A.length - p) (fun t=>[.i .i64 (m - t),B6 ((X++A.take (A.length - t))++x::(A.drop (A.length - t)++Y))]) (fun _=> .yld 0 [B6 (X++(A.take p++x::A.drop p)++Y)]) ?_ (by omega) (fun t ht=> ?_) ?_
 ·simp(disch:=omega)only[EVT,Ay,simprocAttr];rw[hsd];simp
 ·left;refine⟨?_,rfl⟩;obtain⟨u,hu⟩:∃u,A.length - t=u+1:=⟨A.length - t - 1,by omega⟩;have hlt:u<A.length:=by omega
  have hy:=Bs hlt;have hd:A.drop u=A[u]::A.drop (u+1):=Df hlt;have htk:A.take (u+1)=A.take u++[A[u]]:=by rw[Dm,hy];rfl
  have e1:A.length - (t+1)=u:=by omega
  have e0:X++A.take (u+1)++x::(A.drop (u+1)++Y)=X++A.take u++A[u]::x::(A.drop (u+1)++Y):=by rw[htk];simp only[Cv,Dl,Dw]
  show oy.ev S N ([B6 s,w1,.i .i64 m,w2,w3,.i .i64 (a+p)]++[.i .i64 (m - t),B6 ((X++A.take (A.length - t))++x::(A.drop (A.length - t)++Y))])=some (.yld 1 [.i .i64 (m - ((t+1:Nat):Int)),B6 ((X++A.take (A.length - (t+1)))++x::(A.drop (A.length - (t+1))++Y))]);rw[hu,e1,e0,hd,Dl];generalize A[u]=y at*;have lP:(X++A.take u).length=X.length+u:=by rw[B0,Cw];omega
  have sw0:((X++A.take u++y::x::(A.drop (u+1)++Y)).set (X.length+u+1) y).set (X.length+u) x=X++A.take u++x::y::(A.drop (u+1)++Y):=by rw[←lP,List.set_comm _ _ (by omega)];exact Gh7 (X++A.take u) (A.drop (u+1)++Y) y x
  have g0:=yq (X++A.take u) (x::(A.drop (u+1)++Y)) y;have g1:=Ac6 (X++A.take u) (A.drop (u+1)++Y) y x;have lL:(X++A.take u++y::x::(A.drop (u+1)++Y)).length=s.length:=by rw[hl];simp only[B0,Cj,Cw,Dj];omega
  rw[lP] at g0 g1;have e5:m - ((t+1:Nat):Int)=m - (t:Int) - 1:=by omega
  rw[e5];exact Jc5 _ _ (X.length+u) y x g0 g1 sw0 (m - t) (a+p) (by omega) (by omega) (by omega) (by omega) _ _ _ _ _ N
 ·refine⟨?_,rfl⟩;have hlt2:¬a+(p:Int)<m - ((A.length - p:Nat):Int):=by omega
  have e1:A.length - (A.length - p)=p:=by omega
  have e0:X++A.take p++x::(A.drop p++Y)=X++(A.take p++x::A.drop p)++Y:=by simp
  rw[e1,e0];simp(disch:=omega)only[Hv,hlt2,EVT,Ay,simprocAttr]
end
end Go.X.G
/- Merging in place: the library's function, the Rk. -/
namespace Go.X.G
open Go Go.X
section
variable {g:Nat} {caps:List PV} {c:Rec→Rec→Int} {P:Rec→Prop}
def Jc0 (hC:Cmp g caps c P) (X A B Y:List Rec) (s:List Rec) (hsd:s=X++(A++(B++Y))) (a m b mid:Int) (h i0 j0:Nat) (ha:a=X.length) (hm:m=a+A.length) (hb:b=m+B.length) (hM:(a+b) / 2=mid) (hmid:mid=a+h)
  (h1:i0≤j0) (h2:j0≤A.length) (h3:j0≤h) (h4:h≤i0+B.length) (hs:s.length≤1000000) (hP:∀y∈s,P y) (N:Nat) (hN:A.length<N):
  ∃i:Nat,Dp0.ev S N [B6 s,.i .i64 a,.i .i64 m,.i .i64 b,.f g caps,.i .i64 (a+i0),.i .i64 (a+j0)]=some (.yld 0 [.i .i64 (a+i)])∧i0≤i∧i≤j0∧
   (∀x y,i≠i0→A[i - 1]? =some x→B[h - i]? =some y→¬c y x<0)∧∀x y,i≠j0→A[i]? =some x→B[h - 1 - i]? =some y→c y x<0:=by
 have hl:s.length=X.length+A.length+B.length+Y.length:=by rw[hsd];simp;omega
 have hA:∀k y,A[k]? =some y→s[X.length+k]? =some y:=fun k y hk=>by have:=(Bp.1 hk).1;rw[hsd,Cc (by omega),show X.length+k - X.length=k by omega,Cp this,hk]
 have hB:∀k y,B[k]? =some y→s[X.length+A.length+k]? =some y:=fun k y hk=>by have:=(Bp.1 hk).1;rw[hsd,Cc (by omega),Cc (by omega),show X.length+A.length+k - X.length - A.length=k by omega,Cp this,hk]
 have key:=Jg (fn:=S) (N:=N) (η:=[B6 s,.i .i64 a,.i .i64 m,.i .i64 b,.f g caps,.i .i64 (a+i0),.i .i64 (a+j0)]) (id:=1) (init:=[.v 5,.v 6]) (body:=Am1) (α:=Nat×Nat)
  (fun w=>[.i .i64 (a+w.1),.i .i64 (a+w.2)])
  (fun o=>∃i:Nat,o= .yld 0 [.i .i64 (a+i)]∧i0≤i∧i≤j0∧(∀x y,i≠i0→A[i - 1]? =some x→B[h - i]? =some y→¬c y x<0)∧∀x y,i≠j0→A[i]? =some x→B[h - 1 - i]? =some y→c y x<0)
  (fun w=>w.1≤w.2∧i0≤w.1∧w.2≤j0∧(∀x y,w.1≠i0→A[w.1 - 1]? =some x→B[h - w.1]? =some y→¬c y x<0)∧∀x y,w.2≠j0→A[w.2]? =some x→B[h - 1 - w.2]? =some y→c y x<0)
  (fun w=>w.2 - w.1) (i0,j0) ?_ ?_ (by simp only;omega) ?_
 ·obtain⟨o,h1,p,rfl,h2⟩:=key;exact⟨p,h1,h2⟩
 ·simp(disch:=omega)only[EVT,Ay,simprocAttr]
 ·exact⟨h1,B7 _,B7 _,fun x y h0=>absurd rfl h0,fun x y h0=>absurd rfl h0⟩
 ·rintro⟨p,q⟩ ⟨g1,g2,g3,g4,g5⟩;simp only at g1 g2 g3 g4 g5;by_cases hpq:p<q
  ·left;have hk:(p+q) / 2<A.length:=by omega
   have hx:=Bs hk;have hk2:h - 1 - (p+q) / 2<B.length:=by omega
   have hy:=Bs hk2;generalize A[(p+q) / 2]=x at hx;generalize B[h - 1 - (p+q) / 2]=y at hy;have hsx:=hA _ x hx;have hsy:=hB _ y hy;have hPx:P x:=hP x (Cq hsx);have hPy:P y:=hP y (Cq hsy);have hc:=hC.ok y x hPy hPx;have hlt:a+(p:Int)<a+(q:Int):=by omega
   have e1:(a+(p:Int)+(a+(q:Int))) / 2=a+(((p+q) / 2:Nat):Int):=by omega
   have e2:(a+(((p+q) / 2:Nat):Int)).toNat=X.length+(p+q) / 2:=by omega
   have e3:(mid+m - 1 - (a+(((p+q) / 2:Nat):Int))).toNat=X.length+A.length+(h - 1 - (p+q) / 2):=by omega
   have hkh:(p+q) / 2<h:=by omega
   by_cases hcy:c y x<0
   ·refine⟨(p,(p+q) / 2),?_,⟨by simp only;omega,g2,by simp only;omega,g4,fun u v _ hu hv=> ?_⟩,by simp only;omega⟩
    ·simp only;generalize (p+q) / 2=k at*;simp(disch:=omega)only[Hv,hlt,Gl,hM,e1,e2,e3,hsy,hsx,hc,hcy,EVT,Ay,simprocAttr]
    ·simp only at hu hv;rw[hx] at hu;injection hu with hu;subst hu;rw[hy] at hv;injection hv with hv;subst hv;exact hcy
   ·refine⟨((p+q) / 2+1,q),?_,⟨by simp only;omega,by simp only;omega,g3,fun u v _ hu hv=> ?_,g5⟩,by simp only;omega⟩
    ·have e4:a+(((p+q) / 2+1:Nat):Int)=a+(((p+q) / 2:Nat):Int)+1:=by omega
     simp only[e4];generalize (p+q) / 2=k at*;simp(disch:=omega)only[Hv,hlt,Gl,hM,e1,e2,e3,hsy,hsx,hc,hcy,EVT,Ay,simprocAttr]
    ·simp only[Kl] at hu hv;rw[show h - ((p+q) / 2+1)=h - 1 - (p+q) / 2 by omega] at hv;rw[hx] at hu;injection hu with hu;subst hu;rw[hy] at hv;injection hv with hv;subst hv;exact hcy
  ·right;have e:p=q:=by omega
   subst e;have hlt:¬a+(p:Int)<a+(p:Int):=by omega
   refine⟨.yld 0 [.i .i64 (a+p)],?_,rfl,p,rfl,g2,g3,g4,g5⟩;simp(disch:=omega)only[Hv,hlt,EVT,Ay,simprocAttr]
def Gr8 {le:Rec→Rec→Bool} (ht:TP le) {B:List Rec} (hB:B.Pairwise fun x y=>le x y=true) (x:Rec) (p:Nat) (hp:p≤B.length) (h1:∀y,p≠0→B[p - 1]? =some y→le x y=false) (h2:∀y,B[p]? =some y→le x y=true):mrg le [x] B=B.take p++x::B.drop p:=by have e1:=Zw ht (A:=[x]) (B:=B) (by simp) hB 0 p (fun u v h=>absurd rfl h) (fun u v h0 hu hv=>by simp at hu;subst hu;exact h1 v h0 hv) (by simp) hp;have e2:=Zw ht (A:=[x]) (B:=B.drop p) (by simp) (hB.sublist (List.drop_sublist p B)) 1 0 (fun u v _ hu hv=>by simp at hu;subst hu;rw[Cl] at hv;exact h2 v hv) (fun u v h=>absurd rfl h) (by simp) (by simp);rw[e1];simp only[List.take_zero,F4,List.take_succ_cons,List.drop_succ_cons,O0] at e2 ⊢;rw[e2];simp[mrg]
def Gr7 {le:Rec→Rec→Bool} (ht:TP le) {A:List Rec} (hA:A.Pairwise fun x y=>le x y=true) (x:Rec) (p:Nat) (hp:p≤A.length) (h1:∀y,p≠0→A[p - 1]? =some y→le y x=true) (h2:∀y,A[p]? =some y→le y x=false):mrg le A [x]=A.take p++x::A.drop p:=by have e1:=Zw ht (A:=A) (B:=[x]) hA (by simp) p 0 (fun u v h0 hu hv=>by simp at hv;subst hv;exact h1 u h0 hu) (fun u v h=>absurd rfl h) hp (by simp);have e2:=Zw ht (A:=A.drop p) (B:=[x]) (hA.sublist (List.drop_sublist p A)) (by simp) 0 1 (fun u v h=>absurd rfl h) (fun u v _ hu hv=>by simp at hv;subst hv;rw[Cl] at hu;exact h2 u hu) (by simp) (by simp);rw[e1];simp only[List.take_zero,F4,List.take_succ_cons,List.drop_succ_cons,O0] at e2 ⊢;rw[e2];simp[mrg]
set_option maxHeartbeats 2000000 in
def M5 (hC:Cmp g caps c P) (ht:TP (leC c)):∀(n:Nat) (X A B Y:List Rec) (a m b:Int),A.length+B.length≤n→A≠[]→B≠[]→(A.Pairwise fun x y=>leC c x y=true)→(B.Pairwise fun x y=>leC c x y=true)→
  a=X.length→m=a+A.length→b=m+B.length→(X++A++B++Y).length≤1000000→(∀y∈X++A++B++Y,P y)→
  S Wk 1048581 [B6 (X++A++B++Y),.i .i64 a,.i .i64 m,.i .i64 b,.f g caps]=some [B6 (X++mrg (leC c) A B++Y)]
 |0,X,A,B,Y,a,m,b,hn,hA,_,_,_,_,_,_,_,_=>absurd (C1 (by omega)) hA
 |n+1,X,A,B,Y,a,m,b,hn,hA,hB,sA,sB,ha,hm,hb,hs,hP=>by
  have hA':0<A.length:=Ch.2 hA;have hB':0<B.length:=Ch.2 hB;have hs2:=hs;simp only[B0] at hs2;obtain⟨N,hN⟩:∃N,N=A.length+B.length+1:=⟨_,rfl⟩;refine Hp5 (N:=N) rfl ?_;by_cases c1:A.length=1
  ·-- one ahead
   obtain⟨x,rfl⟩:=jv.1 c1;have hsd:X++[x]++B++Y=X++x::(B++Y):=by simp
   obtain⟨p,k1,k2,k3,k4⟩:=Jc4 hC X B Y x (X++[x]++B++Y) hsd a m b ha (by simpa using hm) hb hs hP N (by omega);have k5:=Jc3 X B Y x (X++[x]++B++Y) hsd a m b .u p ha (by simpa using hm) k2 hs N (by omega) (.i .i64 m) (.i .i64 b) (.f g caps);have e:=Gr8 ht sB x p k2 (fun y h0 hy=>Fh2.2 (k3 y h0 hy)) (fun y hy=>Fh1.2 (k4 y hy));rw[e];have q1:m - a=1:=by simp at hm;omega
   generalize X++[x]++B++Y=s at*;generalize X++(List.take p B++x::List.drop p B)++Y=u at*;simp(disch:=omega)only[Hv,q1,k1,k5,EVT,Ay,simprocAttr]
  ·by_cases c2:B.length=1
   ·obtain⟨x,rfl⟩:=jv.1 c2;have hsd:X++A++[x]++Y=X++(A++x::Y):=by simp
    obtain⟨p,k1,k2,k3,k4⟩:=Jc2 hC X A Y x (X++A++[x]++Y) hsd a m (.i .i64 b) ha hm hs hP N (by omega);have k5:=Jc1 X A Y x (X++A++[x]++Y) hsd a m p ha hm k2 hs N (by omega) (.i .i64 a) (.i .i64 b) (.f g caps);have e:=Gr7 ht sA x p k2 (fun y h0 hy=>Fh1.2 (k3 y h0 hy)) (fun y hy=>Fh2.2 (k4 y hy));rw[e];have q1:¬m - a=1:=by omega
    have q2:b - m=1:=by simp at hb;omega
    generalize X++A++[x]++Y=s at*;generalize X++(List.take p A++x::List.drop p A)++Y=u at*;simp(disch:=omega)only[Hv,q1,q2,k1,k5,EVT,Ay,simprocAttr]
   ·-- two parts of more
    have q1:¬m - a=1:=by omega
    have q2:¬b - m=1:=by omega
    obtain⟨h,hh⟩:∃h,h=(A.length+B.length) / 2:=⟨_,rfl⟩;obtain⟨mid,hM⟩:∃mid,(a+b) / 2=mid:=⟨_,rfl⟩;have hmid:mid=a+h:=by omega
    obtain⟨i0,j0,hc15,h1,h2,h3,h4,hi0,hj0⟩:∃i0 j0:Nat,oq.ev S N [B6 (X++A++B++Y),.i .i64 a,.i .i64 m,.i .i64 b,.f g caps]=some (.yld 0 [.i .i64 (a+i0),.i .i64 (a+j0)])∧i0≤j0∧j0≤A.length∧j0≤h∧h≤i0+B.length∧(i0=0∨h - i0=B.length)∧(j0=h∨j0=A.length):=by
     by_cases hgt:h<A.length
     ·refine⟨h - B.length,h,?_,by omega,by omega,by omega,by omega,by omega,.inl rfl⟩;have t1:mid<m:=by omega
      have t2:mid+m - b=a+((h - B.length:Nat):Int):=by omega
      rw[←t2,←hmid];generalize X++A++B++Y=s at*;simp(disch:=omega)only[Hv,Gl,hM,t1,EVT,Ay,simprocAttr]
     ·refine⟨0,A.length,?_,by omega,by omega,by omega,by omega,.inl rfl,.inr rfl⟩;have t1:¬mid<m:=by omega
      generalize X++A++B++Y=s at*;simp(disch:=omega)only[Hv,Gl,hM,t1,hm,EVT,Ay,simprocAttr];simp
    have hsd:X++A++B++Y=X++(A++(B++Y)):=by simp
    obtain⟨i,k1,k2,k3,k4,k5⟩:=Jc0 hC X A B Y (X++A++B++Y) hsd a m b mid h i0 j0 ha hm hb hM hmid h1 h2 h3 h4 hs hP N (by omega);have cut:=Zw ht sA sB i (h - i) (fun x y h0 hx hy=>Fh1.2 (k4 x y (fun e=>by
      rcases hi0 with q|q
      ·omega
      ·have:=(Bp.1 hy).1;omega) hx hy)) (fun x y h0 hx hy=>Fh2.2 (k5 x y (fun e=>by
      rcases hj0 with q|q
      ·omega
      ·have:=(Bp.1 hx).1;omega) hx (by rw[show h - 1 - i=h - i - 1 by omega];exact hy))) (by omega) (by omega)
    have eA:A.take i++A.drop i=A:=Dq _ _;have eB:B.take (h - i)++B.drop (h - i)=B:=Dq _ _;have lA1:(A.take i).length=i:=by rw[Cw];omega
    have lA2:(A.drop i).length=A.length - i:=Dj;have lB1:(B.take (h - i)).length=h - i:=by rw[Cw];omega
    have lB2:(B.drop (h - i)).length=B.length - (h - i):=Dj;have sA1:=sA.sublist (List.take_sublist i A);have sA2:=sA.sublist (List.drop_sublist i A);have sB1:=sB.sublist (List.take_sublist (h - i) B);have sB2:=sB.sublist (List.drop_sublist (h - i) B);generalize A.take i=A1 at*;generalize A.drop i=A2 at*;generalize B.take (h - i)=B1 at*;generalize B.drop (h - i)=B2 at*;have e0:X++A++B++Y=X++A1++A2++B1++(B2++Y):=by rw[←eA,←eB];simp
    have mem1:∀y,y∈X++A1++B1++(A2++B2++Y)→P y:=fun y hy=>hP y (by rw[e0];simp only[C8] at hy ⊢;grind);have len1:(X++A1++B1++(A2++B2++Y)).length≤1000000:=by simp only[B0] at hs2 ⊢;omega
    have lm1:=Zv (leC c) A1 B1;have mem2:∀y,y∈(X++mrg (leC c) A1 B1)++A2++B2++Y→P y:=fun y hy=>mem1 y (by simp only[C8,mrg_mem] at hy ⊢;grind)
    have len2:((X++mrg (leC c) A1 B1)++A2++B2++Y).length≤1000000:=by simp only[B0,lm1] at hs2 ⊢;omega
    have s1:(T.blk 0 oj T4).ev S N [B6 (X++A++B++Y),.i .i64 a,.i .i64 m,.i .i64 b,.f g caps,.i .i64 (a+i0),.i .i64 (a+j0),.i .i64 (a+i)]=
      T4.ev S N [B6 (X++A++B++Y),.i .i64 a,.i .i64 m,.i .i64 b,.f g caps,.i .i64 (a+i0),.i .i64 (a+j0),.i .i64 (a+i),B6 (X++A1++B1++(A2++B2++Y))]:=by
     by_cases t:A2=[]∨B1=[]
     ·have t1:¬(a+(i:Int)<m∧m<mid+m - (a+i)):=by
       rcases t with t|t
       ·rw[t] at lA2;simp at lA2;omega
       ·rw[t] at lB1;simp at lB1;omega
      have e1:X++A++B++Y=X++A1++B1++(A2++B2++Y):=by rw[e0];rcases t with t|t<;>subst t<;>simp
      rw[←e1];generalize X++A++B++Y=s at*;by_cases t2:a+(i:Int)<m
      ·have t3:¬m<mid+m - (a+i):=fun q=>t1 ⟨t2,q⟩;simp(disch:=omega)only[Hv,Gl,hM,t2,t3,EVT,Ay,simprocAttr]
      ·simp(disch:=omega)only[Hv,Gl,hM,t2,EVT,Ay,simprocAttr]
     ·have t':A2≠[]∧B1≠[]:=by grind
      have p1:=Ch.2 t'.1;have p2:=Ch.2 t'.2;have hr:=Dj3 (X++A1) A2 B1 (B2++Y) (a+i) m (mid+m - (a+i)) g caps (by simp only[B0];omega) (by simp only[B0];omega) (by simp only[B0];omega) t'.1 t'.2 (by rw[←e0];exact hs);have t2:a+(i:Int)<m:=by omega
      have t3:m<mid+m - (a+i):=by omega
      rw[←e0] at hr;have e1:X++A1++B1++A2++(B2++Y)=X++A1++B1++(A2++B2++Y):=by simp
      rw[e1] at hr;generalize X++A1++B1++(A2++B2++Y)=s1 at*;generalize X++A++B++Y=s at*;simp(disch:=omega)only[Hv,Gl,hM,t2,t3,hr,Fx,Ln,EVT,Ay,simprocAttr]
    have s2:(T.blk 0 n0 T5).ev S N [B6 (X++A++B++Y),.i .i64 a,.i .i64 m,.i .i64 b,.f g caps,.i .i64 (a+i0),.i .i64 (a+j0),.i .i64 (a+i),B6 (X++A1++B1++(A2++B2++Y))]=
      T5.ev S N [B6 (X++A++B++Y),.i .i64 a,.i .i64 m,.i .i64 b,.f g caps,.i .i64 (a+i0),.i .i64 (a+j0),.i .i64 (a+i),B6 (X++A1++B1++(A2++B2++Y)),B6 ((X++mrg (leC c) A1 B1)++A2++B2++Y)]:=by
     by_cases t:A1=[]∨B1=[]
     ·have t1:¬(a<a+(i:Int)∧a+(i:Int)<mid):=by
       rcases t with t|t
       ·rw[t] at lA1;simp at lA1;omega
       ·rw[t] at lB1;simp at lB1;omega
      have e1:X++A1++B1++(A2++B2++Y)=(X++mrg (leC c) A1 B1)++A2++B2++Y:=by rcases t with t|t<;>subst t<;>simp[mrg,O0]
      rw[←e1];generalize X++A1++B1++(A2++B2++Y)=s1 at*;generalize X++A++B++Y=s at*;by_cases t2:a<a+(i:Int)
      ·have t3:¬a+(i:Int)<mid:=fun q=>t1 ⟨t2,q⟩;simp(disch:=omega)only[Hv,Gl,hM,t2,t3,EVT,Ay,simprocAttr]
      ·simp(disch:=omega)only[Hv,Gl,hM,t2,EVT,Ay,simprocAttr]
     ·have t':A1≠[]∧B1≠[]:=by grind
      have p1:=Ch.2 t'.1;have p2:=Ch.2 t'.2;have hr:=M5 hC ht n X A1 B1 (A2++B2++Y) a (a+i) mid (by omega) t'.1 t'.2 sA1 sB1 ha (by omega) (by omega) len1 mem1;have t2:a<a+(i:Int):=by omega
      have t3:a+(i:Int)<mid:=by omega
      have e1:X++mrg (leC c) A1 B1++(A2++B2++Y)=(X++mrg (leC c) A1 B1)++A2++B2++Y:=by simp
      rw[e1] at hr;generalize (X++mrg (leC c) A1 B1)++A2++B2++Y=s2 at*;generalize X++A1++B1++(A2++B2++Y)=s1 at*;generalize X++A++B++Y=s at*;simp(disch:=omega)only[Hv,Gl,hM,t2,t3,hr,Fx,Ln,EVT,Ay,simprocAttr]
    have s3:T5.ev S N [B6 (X++A++B++Y),.i .i64 a,.i .i64 m,.i .i64 b,.f g caps,.i .i64 (a+i0),.i .i64 (a+j0),.i .i64 (a+i),B6 (X++A1++B1++(A2++B2++Y)),B6 ((X++mrg (leC c) A1 B1)++A2++B2++Y)]=
      some (.ret [B6 (X++mrg (leC c) A B++Y)]):=by
     have e9:X++mrg (leC c) A B++Y=(X++mrg (leC c) A1 B1)++mrg (leC c) A2 B2++Y:=by rw[cut];simp
     rw[e9];by_cases t:A2=[]∨B2=[]
     ·have t1:¬(mid<mid+m - (a+i)∧mid+m - (a+(i:Int))<b):=by
       rcases t with t|t
       ·rw[t] at lA2;simp at lA2;omega
       ·rw[t] at lB2;simp at lB2;omega
      have e1:(X++mrg (leC c) A1 B1)++A2++B2++Y=(X++mrg (leC c) A1 B1)++mrg (leC c) A2 B2++Y:=by rcases t with t|t<;>subst t<;>simp[mrg,O0]
      rw[←e1];generalize (X++mrg (leC c) A1 B1)++A2++B2++Y=s2 at*;generalize X++A1++B1++(A2++B2++Y)=s1 at*;generalize X++A++B++Y=s at*;by_cases t2:mid<mid+m - (a+(i:Int))
      ·have t3:¬mid+m - (a+(i:Int))<b:=fun q=>t1 ⟨t2,q⟩;simp(disch:=omega)only[Hv,Gl,hM,t2,t3,EVT,Ay,simprocAttr]
      ·simp(disch:=omega)only[Hv,Gl,hM,t2,EVT,Ay,simprocAttr]
     ·have t':A2≠[]∧B2≠[]:=by grind
      have p1:=Ch.2 t'.1;have p2:=Ch.2 t'.2;have hr:=M5 hC ht n (X++mrg (leC c) A1 B1) A2 B2 Y mid (mid+m - (a+i)) b (by omega) t'.1 t'.2 sA2 sB2 (by simp only[B0,lm1];omega) (by omega) (by omega) len2 mem2;have t2:mid<mid+m - (a+(i:Int)):=by omega
      have t3:mid+m - (a+(i:Int))<b:=by omega
      generalize (X++mrg (leC c) A1 B1)++mrg (leC c) A2 B2++Y=s3 at*;generalize (X++mrg (leC c) A1 B1)++A2++B2++Y=s2 at*;generalize X++A1++B1++(A2++B2++Y)=s1 at*;generalize X++A++B++Y=s at*;simp(disch:=omega)only[Hv,Gl,hM,t2,t3,hr,Fx,Ln,EVT,Ay,simprocAttr]
    have f2:T4.ev S N [B6 (X++A++B++Y),.i .i64 a,.i .i64 m,.i .i64 b,.f g caps,.i .i64 (a+i0),.i .i64 (a+j0),.i .i64 (a+i),B6 (X++A1++B1++(A2++B2++Y))]=some (.ret [B6 (X++mrg (leC c) A B++Y)]):=s2.trans s3;have f1:=s1.trans f2;clear s1 s2 s3 f2 mem1 mem2 cut k4 k5;generalize X++mrg (leC c) A B++Y=s3 at*;generalize X++A++B++Y=s at*;simp(disch:=omega)only[Hv,q1,q2,Gl,hM,hc15,k1,f1,EVT,Ay,simprocAttr]
end
end Go.X.G
/- Stable sorting: the library's functions. -/
namespace Go.X.G
open Go Go.X
section
variable {g:Nat} {caps:List PV} {c:Rec→Rec→Int} {P:Rec→Prop}
def Kb5 (hC:Cmp g caps c P) (L L':List Rec) (i:Nat) (x y:Rec) (g0:L[i]? =some y) (g1:L[i+1]? =some x) (sw:(L.set (i+1) y).set i x=L') (k e:Int) (hk:k=i+1) (he:e<k) (he2:0≤e) (hx:P x) (hy:P y) (hlt:c x y<0) (hL:L.length≤1000000) (w0 w2 w4 w5:PV) (N:Nat):
  Pd.ev S N [w0,.i .i64 e,w2,.f g caps,w4,w5,.i .i64 k,B6 L]=some (.yld 3 [.i .i64 (k - 1),B6 L']):=by
 have hi:=(Bp.1 g1).1;have ti0:(k - 1).toNat=i:=by omega
 have ti1:k.toNat=i+1:=by omega
 have g2:(L.set (i+1) y)[i]? =some y:=by rw[R7 (by omega)];exact g0
 have hc:=hC.ok x y hx hy;simp(disch:=first|omega|(rw[Iw];omega))only[V2,L3,Pw,he,ti0,ti1,g0,g1,g2,sw,hc,hlt,EVT,Ay,simprocAttr]
def Ej6 (hC:Cmp g caps c P) (L:List Rec) (i:Nat) (x y:Rec) (g0:L[i]? =some y) (g1:L[i+1]? =some x) (k e:Int) (hk:k=i+1) (he:e<k) (hx:P x) (hy:P y) (hlt:¬c x y<0) (hL:L.length≤1000000) (w0 w2 w4 w5:PV) (N:Nat):
  Pd.ev S N [w0,.i .i64 e,w2,.f g caps,w4,w5,.i .i64 k,B6 L]=some (.yld 2 [B6 L]):=by
 have hi:=(Bp.1 g1).1;have ti0:(k - 1).toNat=i:=by omega
 have ti1:k.toNat=i+1:=by omega
 have hc:=hC.ok x y hx hy;simp(disch:=omega)only[V2,L3,Pw,he,ti0,ti1,g0,g1,hc,hlt,EVT,Ay,simprocAttr]
def Fh9 (L:List Rec) (k e:Int) (he:¬e<k) (w0 w2 w3 w4 w5:PV) (N:Nat):
  Pd.ev S N [w0,.i .i64 e,w2,w3,w4,w5,.i .i64 k,B6 L]=some (.yld 2 [B6 L]):=by
 simp(disch:=omega)only[V2,L3,Pw,he,EVT,Ay,simprocAttr]
def Kb4 (hC:Cmp g caps c P) (ht:TP (leC c)) (X R Y:List Rec) (x:Rec) (hR:R.Pairwise fun a b=>leC c a b=true) (hP:∀y∈X++R++x::Y,P y) (hs:(X++R++x::Y).length≤1000000) (a k:Int) (ha:a=X.length) (hk:k=a+R.length) (w0 w2:PV) (N:Nat) (hN:R.length<N):
  ∃R1 R2,R=R1++R2∧(∀y∈R1,leC c y x=true)∧(∀y∈R2,leC c y x=false)∧
   Dr1.ev S N [w0,.i .i64 a,w2,.f g caps,.i .i64 k,B6 (X++R++x::Y)]=some (.yld 2 [B6 (X++(R1++x::R2)++Y)]):=by
 have hx:P x:=hP x (by simp);have hs2:=hs;simp only[B0,Cj] at hs2;have key:=Jg (fn:=S) (N:=N) (η:=[w0,.i .i64 a,w2,.f g caps,.i .i64 k,B6 (X++R++x::Y)]) (id:=3) (init:=[.v 4,.v 5]) (body:=Pd) (α:=List Rec×List Rec)
  (fun w=>[.i .i64 (a+w.1.length),B6 (X++w.1++x::(w.2++Y))])
  (fun o=>∃R1 R2,R=R1++R2∧(∀y∈R1,leC c y x=true)∧(∀y∈R2,leC c y x=false)∧o= .yld 2 [B6 (X++(R1++x::R2)++Y)])
  (fun w=>R=w.1++w.2∧∀y∈w.2,leC c y x=false) (fun w=>w.1.length) (R,[]) ?_ ⟨by simp,by simp⟩ hN ?_
 ·obtain⟨o,h1,R1,R2,h2,h3,h4,rfl⟩:=key;exact⟨R1,R2,h2,h3,h4,h1⟩
 ·subst hk;simp only[Dw];generalize X++R++x::Y=s at*;simp(disch:=omega)only[EVT,Ay,simprocAttr]
 ·rintro⟨R1,R2⟩ ⟨h1,h2⟩;simp only at h1 h2;have hlen:=congrArg List.length h1;simp only[B0] at hlen;rcases List.eq_nil_or_concat R1 with rfl|⟨R0,y,rfl⟩
  ·right;refine⟨_,Fh9 _ _ a (by simp) _ _ _ _ _ N,rfl,[],R2,h1,by simp,h2,?_⟩;simp
  ·rw[List.concat_eq_append] at*;simp only[B0,Cj,C2] at hlen;have hy:P y:=hP y (by rw[h1];simp);have lP:(X++R0).length=X.length+R0.length:=B0;have g0:=yq (X++R0) (x::(R2++Y)) y;have g1:=Ac6 (X++R0) (R2++Y) y x;rw[lP] at g0 g1;have e0:X++(R0++[y])++x::(R2++Y)=X++R0++y::x::(R2++Y):=by simp
   have lL:(X++R0++y::x::(R2++Y)).length≤1000000:=by simp only[B0,Cj];omega
   by_cases hlt:c x y<0
   ·left;have sw0:((X++R0++y::x::(R2++Y)).set (X.length+R0.length+1) y).set (X.length+R0.length) x=X++R0++x::(y::R2++Y):=by rw[←lP,List.set_comm _ _ (by omega)];exact Gh7 (X++R0) (R2++Y) y x
    refine⟨(R0,y::R2),?_,⟨by simp only;rw[h1];simp,fun w hw=> ?_⟩,by simp⟩
    ·have:=Kb5 hC _ _ (X.length+R0.length) x y g0 g1 sw0 (a+((R0++[y]).length:Nat)) a (by simp;omega) (by simp;omega) (by omega) hx hy hlt lL w0 w2 (.i .i64 k) (B6 (X++R++x::Y)) N;have e1:a+((R0++[y]).length:Nat) - 1=a+(R0.length:Int):=by simp;omega
     rw[e1] at this;show Pd.ev S N [w0,.i .i64 a,w2,.f g caps,.i .i64 k,B6 (X++R++x::Y),.i .i64 (a+((R0++[y]).length:Nat)),B6 (X++(R0++[y])++x::(R2++Y))]=_;rw[e0];exact this
    ·rcases Ck.1 hw with rfl|hw
     ·exact Fh2.2 hlt
     ·exact h2 w hw
   ·right;have hle:leC c y x=true:=Fh1.2 hlt;refine⟨_,?_,rfl,R0++[y],R2,h1,Av9 ht (by rw[h1] at hR;exact(G8.1 hR).1) hle,h2,rfl⟩;have:=Ej6 hC _ (X.length+R0.length) x y g0 g1 (a+((R0++[y]).length:Nat)) a (by simp;omega) (by simp;omega) hx hy hlt lL w0 w2 (.i .i64 k) (B6 (X++R++x::Y)) N;show Pd.ev S N [w0,.i .i64 a,w2,.f g caps,.i .i64 k,B6 (X++R++x::Y),.i .i64 (a+((R0++[y]).length:Nat)),B6 (X++(R0++[y])++x::(R2++Y))]=_;rw[e0,this,←e0];simp
def gn (hC:Cmp g caps c P) (ht:TP (leC c)) (X A Y:List Rec) (a b:Int) (ha:a=X.length) (hb:b=a+A.length) (hP:∀y∈X++A++Y,P y) (hs:(X++A++Y).length≤1000000):
  ∃R,Stab (leC c) R A∧R.length=A.length∧S fk 1048580 [B6 (X++A++Y),.i .i64 a,.i .i64 b,.f g caps]=some [B6 (X++R++Y)]:=by
 have hs2:=hs;simp only[B0] at hs2;cases A with
 |nil=>
  refine⟨[],Xq _,rfl,?_⟩;refine Gk4 (N:=2) rfl ?_;simp only[C2] at hb;have h1:¬a+1<b:=by omega
  have key:Ab7.ev S 2 [B6 (X++[]++Y),.i .i64 a,.i .i64 b,.f g caps]=some (.yld 0 [B6 (X++[]++Y)]):=by
   generalize X++[]++Y=s at*;refine Gk 0 (fun _=>[.i .i64 (a+1),B6 s]) (fun _=> .yld 0 [B6 s]) ?_ (by omega) (fun i hi=>absurd hi (by omega)) ⟨?_,rfl⟩
   ·simp(disch:=omega)only[EVT,Ay,simprocAttr]
   ·simp(disch:=omega)only[V2,L3,Pw,h1,EVT,Ay,simprocAttr]
  generalize X++[]++Y=s at*;simp(disch:=omega)only[V2,L3,Pw,key,EVT,Ay,simprocAttr]
 |cons x0 A=>
  obtain⟨N,hN⟩:∃N,N=A.length+3:=⟨_,rfl⟩;simp only[Cj] at hb hs2;have key:=Jg (fn:=S) (N:=N) (η:=[B6 (X++x0::A++Y),.i .i64 a,.i .i64 b,.f g caps]) (id:=1) (init:=[.bin .add (.v 1) (.c (.i .i64 1)),.v 0]) (body:=oc) (α:=List Rec×List Rec×List Rec)
   (fun w=>[.i .i64 (a+w.1.length),B6 (X++w.1++(w.2.2++Y))])
   (fun o=>∃R,Stab (leC c) R (x0::A)∧R.length=(x0::A).length∧o= .yld 0 [B6 (X++R++Y)])
   (fun w=>x0::A=w.2.1++w.2.2∧Stab (leC c) w.1 w.2.1∧w.1.length=w.2.1.length) (fun w=>w.2.2.length) ([x0],[x0],A) ?_ ⟨rfl,Av7 _ _,rfl⟩ (by simp only;omega) ?_
  ·obtain⟨o,h1,R,h2,h3,rfl⟩:=key;refine⟨R,h2,h3,?_⟩;refine Gk4 (N:=N) rfl ?_;have h4:Ab7.ev S N [B6 (X++x0::A++Y),.i .i64 a,.i .i64 b,.f g caps]=_:=h1;clear h1;generalize X++x0::A++Y=s at*;generalize X++R++Y=u at*;simp(disch:=omega)only[V2,L3,Pw,h4,EVT,Ay,simprocAttr]
  ·simp only[Cj,C2];have e:X++[x0]++(A++Y)=X++x0::A++Y:=by simp
   rw[e];have e1:a+((0+1:Nat):Int)=a+1:=by omega
   rw[e1];generalize X++x0::A++Y=s at*;simp(disch:=omega)only[EVT,Ay,simprocAttr]
  ·rintro⟨R,D,Z⟩ ⟨h1,h2,h3⟩;simp only at h1 h2 h3;have hlen:=congrArg List.length h1;simp only[B0,Cj] at hlen;cases Z with
   |nil=>
    right;rw[Eg] at h1;subst h1;refine⟨_,?_,rfl,R,h2,h3,rfl⟩;have hlt:¬a+(R.length:Int)<b:=by simp only[Cj] at h3;omega
    simp only[Dw];generalize X++x0::A++Y=s at*;have hu:(X++R++Y).length≤1000000:=by simp only[B0];omega
    generalize X++R++Y=u at*;simp(disch:=omega)only[V2,L3,Pw,hlt,EVT,Ay,simprocAttr]
   |cons x Z=>
    left;simp only[Cj] at hlen;have hmem:∀y∈X++R++x::(Z++Y),P y:=fun y hy=>hP y (by
     rw[h1];have:=h2.mem ht y;simp only[C8,Ck] at hy ⊢
     grind)
    have hlen2:(X++R++x::(Z++Y)).length≤1000000:=by simp only[B0,Cj];omega
    obtain⟨R1,R2,rfl,k1,k2,k3⟩:=Kb4 hC ht X R (Z++Y) x h2.sorted hmem hlen2 a (a+R.length) ha rfl (B6 (X++x0::A++Y)) (.i .i64 b) N (by omega);refine⟨(R1++x::R2,D++[x],Z),?_,⟨by simp only;rw[h1];simp,Fy1 ht h2 k1 k2,by simp at h3 ⊢;omega⟩,by simp⟩;have e1:a+((R1++x::R2).length:Nat)=a+((R1++R2).length:Nat)+1:=by simp;omega
    have hlt:a+((R1++R2).length:Nat)<b:=by omega
    show oc.ev S N [B6 (X++x0::A++Y),.i .i64 a,.i .i64 b,.f g caps,.i .i64 (a+((R1++R2).length:Nat)),B6 (X++(R1++R2)++x::(Z++Y))]=some (.yld 1 [.i .i64 (a+((R1++x::R2).length:Nat)),B6 (X++(R1++x::R2)++(Z++Y))]);rw[e1];have hb2:(R1++R2).length≤1000000:=by simp only[B0] at hlen2 ⊢;omega
    generalize (R1++R2).length=n at*;generalize X++(R1++R2)++x::(Z++Y)=s1 at*;generalize X++(R1++x::R2)++(Z++Y)=s2 at*;generalize X++x0::A++Y=s at*;simp(disch:=omega)only[V2,L3,Pw,hlt,k3,EVT,Ay,simprocAttr]
end
end Go.X.G
/- Stable sorting: the Rk. -/
namespace Go.X.G
open Go Go.X
def zc {α:Type} {le:α→α→Bool} (ht:TP le) {bs:Nat} {Y LY:List α} (h:Blk le bs Y LY) (hl:Y.length≤2*bs) (hb:bs<Y.length):Stab le (mrg le (Y.take bs) (Y.drop bs)) LY:=by have h1:=h.head;have h2:=(h.tail).all (by rw[Dj];omega);have:=Stab.mrg ht h1 h2;rwa[Dq] at this
def Blk.pre {α:Type} {le:α→α→Bool} {bs k:Nat} {Y LY:List α} (h:Blk le bs Y LY):Blk le bs (Y.take (k*bs)) (LY.take (k*bs)):=by
 refine⟨by simp[h.len],fun j=> ?_⟩;rw[List.drop_take,List.drop_take,Ch7,Ch7];by_cases hj:j<k
 ·have e:(j+1)*bs≤k*bs:=Cs _ hj;rw[Nat.succ_mul] at e;rw[Mw (by omega)];exact h.st j
 ·have e:k*bs≤j*bs:=Cs _ (by omega);rw[show k*bs - j*bs=0 by omega,Nat.min_eq_right (by omega),List.take_zero,List.take_zero];exact Xq le
section
variable {g:Nat} {caps:List PV} {c:Rec→Rec→Int} {P:Rec→Prop}
def Jb8 (hC:Cmp g caps c P) (ht:TP (leC c)) (l:List Rec) (hP:∀y∈l,P y) (hs:l.length≤1000000) (N:Nat) (hN:l.length+2<N):
  ∃(X LX Y:List Rec) (q:Nat),Ds8.ev S N [B6 l,.i .i64 l.length,.f g caps]=some (.yld 0 [.i .i64 X.length,B6 (X++Y)])∧l=LX++Y∧X.length=q*20∧Y.length<20∧Blk (leC c) 20 X LX∧∀y∈X++Y,P y:=by
 have key:=Jg (fn:=S) (N:=N) (η:=[B6 l,.i .i64 l.length,.f g caps]) (id:=1) (init:=[.c (.i .i64 0),.c (.i .i64 20),.v 0]) (body:=An2) (α:=List Rec×List Rec×List Rec×Nat)
  (fun w=>[.i .i64 (w.1.length:Int),.i .i64 ((w.1.length:Int)+20),B6 (w.1++w.2.2.1)])
  (fun o=>∃(X LX Y:List Rec) (q:Nat),o= .yld 0 [.i .i64 X.length,B6 (X++Y)]∧l=LX++Y∧X.length=q*20∧Y.length<20∧Blk (leC c) 20 X LX∧∀y∈X++Y,P y)
  (fun w=>l=w.2.1++w.2.2.1∧w.1.length=w.2.2.2*20∧Blk (leC c) 20 w.1 w.2.1∧∀y∈w.1++w.2.2.1,P y) (fun w=>w.2.2.1.length) ([],[],l,0) ?_ ⟨rfl,by simp,Blk.nil _ _,by simpa using hP⟩ (by simp only;omega) ?_
 ·obtain⟨o,h1,X,LX,Y,q,rfl,h2⟩:=key;exact⟨X,LX,Y,q,h1,h2⟩
 ·simp(disch:=omega)only[EVT,Ay,simprocAttr]
  try simp
 ·rintro⟨X,LX,Y,q⟩ ⟨h1,h2,h3,h4⟩;simp only at h1 h2 h3 h4;have hlen:=congrArg List.length h1;simp only[B0] at hlen;have hXL:=h3.len;by_cases hge:20≤Y.length
  ·left;have eY:Y.take 20++Y.drop 20=Y:=Dq _ _;have l1:(Y.take 20).length=20:=by rw[Cw];omega
   have l2:(Y.drop 20).length=Y.length - 20:=Dj;have eXY:X++Y.take 20++Y.drop 20=X++Y:=by rw[Cv,eY]
   obtain⟨R,k1,k2,k3⟩:=gn hC ht X (Y.take 20) (Y.drop 20) (X.length:Int) ((X.length:Int)+20) rfl (by omega) (by rw[eXY];exact h4) (by rw[eXY,B0];omega);rw[eXY] at k3;refine⟨(X++R,LX++Y.take 20,Y.drop 20,q+1),?_,⟨by simp only;rw[h1,Cv,eY],by simp only[B0];omega,Blk.app h2 h3 (Blk.one k1 k2 (by omega)),fun y hy=>h4 y ?_⟩,by simp only;omega⟩
   ·have e1:((X++R).length:Int)=(X.length:Int)+20:=by simp only[B0];omega
    have hge':(X.length:Int)+20≤(l.length:Int):=by omega
    simp only;rw[e1];generalize X++R++Y.drop 20=s1 at*;generalize X++Y=s0 at*;simp(disch:=omega)only[V3,hge',k3,Fx,Ln,EVT,Ay,simprocAttr]
   ·have:=k1.mem ht y;simp only[C8] at hy;rcases hy with(hy|hy)|hy
    ·simp[hy]
    ·exact Dv _ (It (this.1 hy))
    ·exact Dv _ (Hj hy)
  ·right;have hge':¬(X.length:Int)+20≤(l.length:Int):=by omega
   refine⟨.yld 0 [.i .i64 X.length,B6 (X++Y)],?_,rfl,X,LX,Y,q,rfl,h1,h2,by omega,h3,h4⟩;simp only;generalize X++Y=s0 at*;simp(disch:=omega)only[V3,hge',EVT,Ay,simprocAttr]
def Jb7 (hC:Cmp g caps c P) (ht:TP (leC c)) (l r:List Rec) (bs:Nat) (hbs:0<bs) (hbs2:bs<l.length) (hr:Blk (leC c) bs r l) (hP:∀y∈r,P y) (hs:l.length≤1000000) (w0:PV) (w3 w4 w5:PV) (N:Nat) (hN:l.length+2<N):
  ∃(X LX Y LY:List Rec) (q:Nat),Dp3.ev S N [w0,.i .i64 l.length,.f g caps,w3,w4,w5,.i .i64 bs,B6 r]=some (.yld 2 [.i .i64 X.length,B6 (X++Y)])∧l=LX++LY∧X.length=q*(2*bs)∧Y.length<2*bs∧Blk (leC c) (2*bs) X LX∧Blk (leC c) bs Y LY∧∀y∈X++Y,P y:=by
 have key:=Jg (fn:=S) (N:=N) (η:=[w0,.i .i64 l.length,.f g caps,w3,w4,w5,.i .i64 bs,B6 r]) (id:=3) (init:=[.c (.i .i64 0),.bin .mul (.c (.i .i64 2)) (.v 6),.v 7]) (body:=Am4) (α:=(List Rec×List Rec)×(List Rec×List Rec)×Nat)
  (fun w=>[.i .i64 (w.1.1.length:Int),.i .i64 ((w.1.1.length:Int)+2*bs),B6 (w.1.1++w.2.1.1)])
  (fun o=>∃(X LX Y LY:List Rec) (q:Nat),o= .yld 2 [.i .i64 X.length,B6 (X++Y)]∧l=LX++LY∧X.length=q*(2*bs)∧Y.length<2*bs∧Blk (leC c) (2*bs) X LX∧Blk (leC c) bs Y LY∧∀y∈X++Y,P y)
  (fun w=>l=w.1.2++w.2.1.2∧w.1.1.length=w.2.2*(2*bs)∧Blk (leC c) (2*bs) w.1.1 w.1.2∧Blk (leC c) bs w.2.1.1 w.2.1.2∧∀y∈w.1.1++w.2.1.1,P y) (fun w=>w.2.1.1.length) (([],[]),(r,l),0) ?_ ⟨rfl,by simp,Blk.nil _ _,hr,by simpa using hP⟩ (by have:=hr.len;simp only;omega) ?_
 ·obtain⟨o,h1,X,LX,Y,LY,q,rfl,h2⟩:=key;exact⟨X,LX,Y,LY,q,h1,h2⟩
 ·simp(disch:=omega)only[EVT,Ay,simprocAttr];simp
 ·rintro⟨⟨X,LX⟩,⟨Y,LY⟩,q⟩ ⟨h1,h2,h3,h4,h5⟩;simp only at h1 h2 h3 h4 h5;have hlen:=congrArg List.length h1;simp only[B0] at hlen;have hXL:=h3.len;have hYL:=h4.len;by_cases hge:2*bs≤Y.length
  ·left;have eY:Y.take (2*bs)++Y.drop (2*bs)=Y:=Dq _ _;have l1:(Y.take (2*bs)).length=2*bs:=by rw[Cw];omega
   have l2:(Y.drop (2*bs)).length=Y.length - 2*bs:=Dj;have hp:=h4.pre (k:=2);have hz:Blk (leC c) bs (Y.drop (2*bs)) (LY.drop (2*bs)):=by have:=h4.tail.tail;rwa[Ew,Ew,show bs+bs=2*bs by omega] at this
   have hst:=zc ht hp (by omega) (by omega);have sA:((Y.take (2*bs)).take bs).Pairwise fun x y=>leC c x y=true:=hp.head.sorted;have sB:((Y.take (2*bs)).drop bs).Pairwise fun x y=>leC c x y=true:=(hp.tail.all (by rw[Dj];omega)).sorted;have lA:((Y.take (2*bs)).take bs).length=bs:=by rw[Cw];omega
   have lB:((Y.take (2*bs)).drop bs).length=bs:=by rw[Dj];omega
   have eAB:(Y.take (2*bs)).take bs++(Y.take (2*bs)).drop bs=Y.take (2*bs):=Dq _ _;generalize (Y.take (2*bs)).take bs=A at*;generalize (Y.take (2*bs)).drop bs=B at*;have eXY:X++A++B++Y.drop (2*bs)=X++Y:=by rw[Cv X,eAB,Cv,eY]
   have hm:=M5 hC ht (A.length+B.length) X A B (Y.drop (2*bs)) (X.length:Int) ((X.length:Int)+bs) ((X.length:Int)+2*bs) (B7 _) (by intro e;rw[e] at lA;simp at lA;omega) (by intro e;rw[e] at lB;simp at lB;omega) sA sB rfl (by omega) (by omega) (by rw[eXY,B0];omega) (by rw[eXY];exact h5);rw[eXY] at hm;have lM:=Zv (leC c) A B;have eL:LY.take (2*bs)++LY.drop (2*bs)=LY:=Dq _ _;refine⟨((X++mrg (leC c) A B,LX++LY.take (2*bs)),(Y.drop (2*bs),LY.drop (2*bs)),q+1),?_,⟨by simp only;rw[h1,Cv,eL],by simp only[B0];rw[Nat.succ_mul];omega,Blk.app h2 h3 (Blk.one hst (by rw[lM,Cw];omega) (by omega)),hz,fun y hy=>h5 y ?_⟩,by simp only;omega⟩
   ·have e1:((X++mrg (leC c) A B).length:Int)=(X.length:Int)+2*bs:=by simp only[B0];omega
    have hge':(X.length:Int)+2*(bs:Int)≤(l.length:Int):=by omega
    simp only;rw[e1];generalize X++mrg (leC c) A B++Y.drop (2*bs)=s1 at*;generalize X++Y=s0 at*;simp(disch:=omega)only[V3,hge',hm,Fx,Ln,EVT,Ay,simprocAttr]
   ·rw[←eXY];simp only[C8,mrg_mem] at hy ⊢
    grind
  ·right;have hge':¬(X.length:Int)+2*(bs:Int)≤(l.length:Int):=by omega
   refine⟨.yld 2 [.i .i64 X.length,B6 (X++Y)],?_,rfl,X,LX,Y,LY,q,rfl,h1,h2,by omega,h3,h4,h5⟩;simp only;generalize X++Y=s0 at*;simp(disch:=omega)only[V3,hge',EVT,Ay,simprocAttr]
def Jb9 (hC:Cmp g caps c P) (ht:TP (leC c)) (l r:List Rec) (bs:Nat) (hbs:0<bs) (hbs2:bs<l.length) (hr:Blk (leC c) bs r l) (hP:∀y∈r,P y) (hs:l.length≤1000000) (w0 w3 w4 w5:PV) (N:Nat) (hN:l.length+2<N):
  ∃r',Blk (leC c) (2*bs) r' l∧(∀y∈r',P y)∧ob.ev S N [w0,.i .i64 l.length,.f g caps,w3,w4,w5,.i .i64 bs,B6 r]=some (.yld 1 [.i .i64 ((2*bs:Nat):Int),B6 r']):=by
 obtain⟨X,LX,Y,LY,q,k,h1,h2,h3,h4,h5,h6⟩:=Jb7 hC ht l r bs hbs hbs2 hr hP hs w0 w3 w4 w5 N hN;have hlen:=congrArg List.length h1;simp only[B0] at hlen;have hXL:=h4.len;have hYL:=h5.len;have hlt:(bs:Int)<(l.length:Int):=by omega
 have e2:((2*bs:Nat):Int)=(bs:Int)*2:=by omega
 rw[e2];by_cases hge:bs<Y.length
 ·have eY:Y.take bs++Y.drop bs=Y:=Dq _ _;have hst:=zc ht h5 (by omega) hge;have sA:=h5.head.sorted;have sB:=(h5.tail.all (by rw[Dj];omega)).sorted;have lA:(Y.take bs).length=bs:=by rw[Cw];omega
  have lB:(Y.drop bs).length=Y.length - bs:=Dj;generalize Y.take bs=A at*;generalize Y.drop bs=B at*;have eXY:X++A++B++[]=X++Y:=by rw[Eg,Cv,eY]
  have hm:=M5 hC ht (A.length+B.length) X A B [] (X.length:Int) ((X.length:Int)+bs) (l.length:Int) (B7 _) (by intro e;rw[e] at lA;simp at lA;omega) (by intro e;rw[e] at lB;simp at lB;omega) sA sB rfl (by omega) (by omega) (by rw[eXY,B0];omega) (by rw[eXY];exact h6);rw[eXY,Eg] at hm;have lM:=Zv (leC c) A B;refine⟨X++mrg (leC c) A B,by rw[h1];exact Blk.app h2 h4 (Blk.one hst (by omega) (by omega)),fun y hy=>h6 y (by
   rw[←eXY];simp only[C8,mrg_mem] at hy ⊢
   grind),?_⟩
  have hge':(X.length:Int)+(bs:Int)<(l.length:Int):=by omega
  generalize X++mrg (leC c) A B=s1 at*;generalize X++Y=s0 at*;simp(disch:=omega)only[V3,hlt,hge',k,hm,Fx,Ln,EVT,Ay,simprocAttr]
 ·refine⟨X++Y,by rw[h1];exact Blk.app h2 h4 (Blk.one (h5.all (by omega)) hYL (by omega)),h6,?_⟩;have hge':¬(X.length:Int)+(bs:Int)<(l.length:Int):=by omega
  generalize X++Y=s0 at*;simp(disch:=omega)only[V3,hlt,hge',k,EVT,Ay,simprocAttr]
def Cs2 (hC:Cmp g caps c P) (ht:TP (leC c)) (l:List Rec) (hP:∀y∈l,P y) (hs:l.length≤1000000):
  ∃r,Stab (leC c) r l∧r.length=l.length∧S vw 1048579 [B6 l,.i .i64 l.length,.f g caps]=some [B6 r]:=by
 obtain⟨N,hN⟩:∃N,N=l.length+3:=⟨_,rfl⟩;obtain⟨X,LX,Y,q,k0,h1,h2,h3,h4,h5⟩:=Jb8 hC ht l hP hs N (by omega);have hlen:=congrArg List.length h1;simp only[B0] at hlen;have hXL:=h4.len;obtain⟨R,i1,i2,i3⟩:=gn hC ht X Y [] (X.length:Int) (l.length:Int) rfl (by omega) (by simpa using h5) (by simp;omega);simp only[Eg] at i3;have hB:Blk (leC c) 20 (X++R) l:=by rw[h1];exact Blk.app h2 h4 (Blk.one i1 i2 (by omega))
 have hP':∀y∈X++R,P y:=fun y hy=>h5 y (by
  have:=i1.mem ht y;simp only[C8] at hy ⊢
  grind)
 have key:=Jg (fn:=S) (N:=N) (η:=[B6 l,.i .i64 l.length,.f g caps,.i .i64 X.length,B6 (X++Y),B6 (X++R)]) (id:=1) (init:=[.c (.i .i64 20),.v 5]) (body:=ob) (α:=Nat×List Rec)
  (fun w=>[.i .i64 (w.1:Int),B6 w.2])
  (fun o=>∃r,Stab (leC c) r l∧r.length=l.length∧o= .yld 0 [B6 r])
  (fun w=>0<w.1∧Blk (leC c) w.1 w.2 l∧∀y∈w.2,P y) (fun w=>l.length - w.1) (20,X++R) ?_ ⟨by simp,hB,hP'⟩ (by simp only;omega) ?_
 ·obtain⟨o,k1,r,k2,k3,rfl⟩:=key;refine⟨r,k2,k3,?_⟩;refine Hs4 (N:=N) rfl ?_;have k4:Dr2.ev S N [B6 l,.i .i64 l.length,.f g caps,.i .i64 X.length,B6 (X++Y),B6 (X++R)]=_:=k1;clear k1;generalize X++Y=s0 at*;generalize X++R=s1 at*;simp(disch:=omega)only[V3,k0,i3,k4,Fx,Ln,EVT,Ay,simprocAttr]
 ·generalize X++Y=s0 at*;generalize X++R=s1 at*;simp(disch:=omega)only[EVT,Ay,simprocAttr]
 ·rintro⟨bs,r⟩ ⟨g1,g2,g3⟩;simp only at g1 g2 g3;have hr:=g2.len;by_cases hlt:bs<l.length
  ·left;obtain⟨r',k1,k2,k3⟩:=Jb9 hC ht l r bs g1 hlt g2 g3 hs (B6 l) (.i .i64 X.length) (B6 (X++Y)) (B6 (X++R)) N (by omega);exact⟨(2*bs,r'),k3,⟨by simp only;omega,k1,k2⟩,by simp only;omega⟩
  ·right;have hlt':¬(bs:Int)<(l.length:Int):=by omega
   refine⟨.yld 0 [B6 r],?_,rfl,r,g2.all (by omega),hr,rfl⟩;generalize X++Y=s0 at*;generalize X++R=s1 at*;simp(disch:=omega)only[V3,hlt',EVT,Ay,simprocAttr]
def T7 (hC:Cmp g caps c P) (ht:TP (leC c)) (l:List Rec) (hP:∀y∈l,P y) (hs:l.length≤1000000):
  ∃r,Stab (leC c) r l∧r.length=l.length∧S wg 1048578 [B6 l,.f g caps]=some [B6 r]:=by
 obtain⟨r,h1,h2,h3⟩:=Cs2 hC ht l hP hs;refine⟨r,h1,h2,?_⟩;refine Ik8 (N:=1) rfl ?_;simp(disch:=omega)only[Hd5,h3,Fx,Ln,EVT,Ay,simprocAttr]
end
end Go.X.G
/- Records compacted: the library's function. -/
namespace Go.X.G
open Go Go.X
def Ar0 (l:List Rec) (g:Nat) (caps:List PV) (eq2:Rec→Rec→Bool) (h:∀x∈l,∀y∈l,S g 2 (x.pv::y.pv::caps)=some [.b (eq2 x y)]) (hl:l.length≤1000000):S wb 1048578 [B6 l,.f g caps]=some [B6 (cpt eq2 l)]:=by
 refine Ik6 (N:=l.length+2) rfl ?_;by_cases h2:(l.length:Int)<2
 ·have e:cpt eq2 l=l:=by
   match l,h2 with
   |[],_=>rfl
   |[x],_=>rfl
   |_::_::_,h=>simp at h;omega
  rw[e];simp(disch:=omega)only[Sv,h2,EVT,Ay,simprocAttr]
 ·-- the inner If, from a place where two neighbours are equal
  have inner:∀k:Nat,1≤k→k<l.length→cpt eq2 (l.take (k+1))=l.take k→∃s:List Rec,s.length=l.length∧s.take (cpt eq2 l).length=cpt eq2 l∧Dr3.ev S (l.length+2) [B6 l,.f g caps,.i .i64 (k:Int),B6 l,.b true]=some (.yld 2 [.i .i64 ((cpt eq2 l).length:Int),B6 s]):=by
   intro k hk1 hk hcp;have key:=Jg (fn:=S) (N:=l.length+2) (η:=[B6 l,.f g caps,.i .i64 (k:Int),B6 l,.b true]) (id:=3) (init:=[(.v 2),(.c (.i .i64 (1))),(.v 3)]) (body:=Am5) (α:=Nat×Nat×List Rec)
    (fun a=>[.i .i64 (a.1:Int),.i .i64 (a.2.1:Int),B6 a.2.2])
    (fun o=>∃s:List Rec,s.length=l.length∧s.take (cpt eq2 l).length=cpt eq2 l∧o= .yld 2 [.i .i64 ((cpt eq2 l).length:Int),B6 s])
    (fun a=>1≤a.2.1∧k+a.2.1≤l.length∧a.1<k+a.2.1∧a.2.2.length=l.length∧a.2.2.take a.1=cpt eq2 (l.take (k+a.2.1))∧(cpt eq2 (l.take (k+a.2.1))).length=a.1∧a.2.2.drop (k+a.2.1 - 1)=l.drop (k+a.2.1 - 1))
    (fun a=>l.length - a.2.1) (k,1,l) (by simp(disch:=omega)only[EVT,Ay,simprocAttr])
    ⟨by simp,by simp;omega,by simp,rfl,by simp only;rw[hcp],by simp only;rw[hcp,Cw];omega,rfl⟩ (by simp only;omega) ?_
   ·obtain⟨o,h3,s,h4,h5,rfl⟩:=key;exact⟨s,h4,h5,h3⟩
   ·rintro⟨i,j,s⟩ ⟨a1,a2,a3,a4,a5,a6,a7⟩;simp only at a1 a2 a3 a4 a5 a6 a7;by_cases hj:k+j<l.length
    ·left;have c1:s[k+j]? =l[k+j]? :=by have:=congrArg (fun q=>q[1]?) a7;simp only[Cl] at this;rwa[show k+j - 1+1=k+j by omega] at this
     have c0:s[k+j - 1]? =l[k+j - 1]? :=by have:=congrArg (fun q=>q[0]?) a7;simpa only[Cl,Fj] using this
     have g1:l[k+j]? =some (l[k+j]'hj):=Bs hj;have g0:l[k+j - 1]? =some (l[k+j - 1]'(by omega)):=Bs (by omega);have tk:l.take (k+(j+1))=l.take (k+j)++[l[k+j]'hj]:=by rw[show k+(j+1)=(k+j)+1 by omega,Dm,g1];rfl
     have ne:l.take (k+j)≠[]:=by intro h;have:=congrArg List.length h;rw[Cw,C2] at this;omega
     have gl:(l.take (k+j)).getLast ne=l[k+j - 1]'(by omega):=by rw[L1];simp only[Ar3,Cw];congr 1;omega
     have cs:=Qv eq2 (l[k+j]'hj) (l.take (k+j)) ne;rw[←tk,gl] at cs;have hc:=h (l[k+j]'hj) (E4 _) (l[k+j - 1]'(by omega)) (E4 _);generalize l[k+j]'hj=x at*;generalize l[k+j - 1]'(by omega)=y at*;have hjj:(j:Int)<(s.length:Int) - (k:Int):=by omega
     have i1:I7 16 (B6 s) (.i .i64 ((k:Int)+(j:Int)))=some x.pv:=by rw[L9 _ _ _ (by omega),show ((k:Int)+(j:Int)).toNat=k+j by omega,c1,g1];rfl
     have i0:I7 16 (B6 s) (.i .i64 ((k:Int)+((j:Int) - 1)))=some y.pv:=by rw[L9 _ _ _ (by omega),show ((k:Int)+((j:Int) - 1)).toNat=k+j - 1 by omega,c0,g0];rfl
     have ls:Jv 16 (B6 s) (.i .i64 (k:Int)) (.i .i64 (s.length:Int))=some (B6 (s.drop k)):=by rw[Jf _ _ _ _ _ (by omega) (by omega) (by omega)];simp
     have e1:(s.drop k)[j]? =some x:=by rw[Cl,c1,g1]
     have e0:(s.drop k)[j - 1]? =some y:=by rw[Cl,show k+(j - 1)=k+j - 1 by omega,c0,g0]
     have si:∃w,s[i]? =some w:=⟨_,Bs (by omega)⟩;obtain⟨w,si⟩:=si;have ej:((j:Int) - 1).toNat=j - 1:=by omega
     by_cases hxy:eq2 x y=true
     ·refine⟨(i,j+1,s),?_,⟨by simp,by simp only;omega,by simp only;omega,a4,?_,?_,?_⟩,by simp only;omega⟩
      ·simp(disch:=omega)only[Sv,hjj,i1,i0,ls,e1,e0,ej,hc,hxy,EVT,Ay,simprocAttr]
      ·simp only;rw[cs,a5];simp[hxy]
      ·simp only;rw[cs,B0,a6];simp[hxy]
      ·simp only;rw[show k+(j+1) - 1=(k+j - 1)+1 by omega,←Ew,←Ew,a7]
     ·refine⟨(i+1,j+1,s.set i x),?_,⟨by simp,by simp only;omega,by simp only;omega,by simpa using a4,?_,?_,?_⟩,by simp only;omega⟩
      ·simp(disch:=omega)only[Sv,hjj,i1,i0,ls,e1,e0,ej,si,hc,hxy,EVT,Ay,simprocAttr]
      ·simp only;rw[cs,Dm,M1 (by omega),List.take_set_of_le (by omega),a5];simp[hxy]
      ·simp only;rw[cs,B0,a6];simp[hxy]
      ·simp only;rw[show k+(j+1) - 1=(k+j - 1)+1 by omega,W8 (by omega),←Ew,←Ew,a7]
    ·right;have ek:k+j=l.length:=by omega
     rw[ek,E3] at a5 a6;have hjj:¬(j:Int)<(s.length:Int) - (k:Int):=by omega
     refine⟨.yld 2 [.i .i64 (i:Int),B6 s],?_,rfl,s,a4,by rw[a6];exact a5,by rw[a6]⟩;simp(disch:=omega)only[Sv,hjj,EVT,Ay,simprocAttr]
  have key:Dt7.ev S (l.length+2) [B6 l,.f g caps]=some (if cpt eq2 l=l then .yld 0 [B6 l] else .ret [B6 (cpt eq2 l)]):=by
   have:=Jg (fn:=S) (N:=l.length+2) (η:=[B6 l,.f g caps]) (id:=1) (init:=[(.c (.i .i64 (1))),(.v 0)]) (body:=An5) (α:=Nat)
    (fun k=>[.i .i64 (k:Int),B6 l]) (fun o=>o=if cpt eq2 l=l then .yld 0 [B6 l] else .ret [B6 (cpt eq2 l)])
    (fun k=>1≤k∧k≤l.length∧cpt eq2 (l.take k)=l.take k) (fun k=>l.length - k) 1 (by simp(disch:=omega)only[EVT,Ay,simprocAttr])
    ⟨B7 1,by omega,by cases l with
     |nil=>simp at h2
     |cons x r=>rfl⟩ (by omega) ?_
   ·obtain⟨o,h3,h4⟩:=this;rw[←h4];exact h3
   ·rintro k ⟨k1,k2,k3⟩;by_cases hk:k<l.length
    ·have g1:l[k]? =some l[k]:=Bs hk;have g0:l[k - 1]? =some (l[k - 1]'(by omega)):=Bs (by omega);have tk:l.take (k+1)=l.take k++[l[k]]:=by rw[Dm,g1];rfl
     have ne:l.take k≠[]:=by intro h;have:=congrArg List.length h;rw[Cw,C2] at this;omega
     have gl:(l.take k).getLast ne=l[k - 1]'(by omega):=by rw[L1];simp only[Ar3,Cw];congr 1;omega
     have cs:=Qv eq2 l[k] (l.take k) ne;rw[←tk,gl,k3] at cs;have hkk:(k:Int)<(l.length:Int):=by omega
     have i1:I7 16 (B6 l) (.i .i64 (k:Int))=some (l[k]).pv:=by rw[L9 _ _ _ (by omega),show ((k:Int)).toNat=k by omega,g1];rfl
     have i0:I7 16 (B6 l) (.i .i64 ((k:Int) - 1))=some (l[k - 1]'(by omega)).pv:=by rw[L9 _ _ _ (by omega),show ((k:Int) - 1).toNat=k - 1 by omega,g0];rfl
     have hc:=h l[k] (E4 _) (l[k - 1]'(by omega)) (E4 _);by_cases hxy:eq2 l[k] (l[k - 1]'(by omega))=true
     ·right;have cs':cpt eq2 (l.take (k+1))=l.take k:=by rw[cs];simp[hxy]
      obtain⟨s,s1,s2,s3⟩:=inner k k1 hk cs';have hlt:cpt eq2 l≠l:=by
       intro h;have q:(cpt eq2 l).length≤(cpt eq2 (l.take (k+1))).length+(l.drop (k+1)).length:=by
        have:∀(b a:List Rec),a≠[]→(cpt eq2 (a++b)).length≤(cpt eq2 a).length+b.length:=by
         intro b
         induction b with
         |nil=>intro a _;simp
         |cons x r ih=>
          intro a ha;have h1:=ih (a++[x]) (by simp);rw[Qv _ _ _ ha] at h1;rw[show a++x::r=a++[x]++r by simp];refine Dt h1 ?_;rw[B0];split<;>simp<;>omega
        have h3:=this (l.drop (k+1)) (l.take (k+1)) (by intro h;have:=congrArg List.length h;rw[Cw,C2] at this;omega);rwa[Dq] at h3
       rw[h,cs',Cw,Dj] at q;omega
      have hlen:=ny eq2 l;refine⟨.ret [B6 (cpt eq2 l)],?_,rfl,by rw[if_neg hlt]⟩;generalize cpt eq2 l=fl at*;have ls:Jv 16 (B6 l) (.i .i64 (k:Int)) (.i .i64 (l.length:Int))=some (B6 (l.drop k)):=by rw[Jf _ _ _ _ _ (by omega) (by omega) (by omega)];simp
      have hsl1:Jv 16 (B6 s) (.i .i64 ((fl.length:Nat):Int)) (.i .i64 (s.length:Int))=some (B6 (s.drop fl.length)):=by rw[Jf _ _ _ _ _ (by omega) (by omega) (by omega)];simp
      have hsl2:Jv 16 (B6 s) (.i .i64 0) (.i .i64 ((fl.length:Nat):Int))=some (B6 fl):=by rw[Jf _ _ _ _ _ (by omega) (by omega) (by omega)];simp[s2]
      have hrep:N4 16 (.i .i64 ((s.length:Int) - (fl.length:Int))) Ar5=some (B6 (List.replicate (s.length - fl.length) zr)):=by rw[Bc1 _ (by omega) (by omega)];congr 3;omega
      have happ:Jn 16 (B6 fl) (B6 (List.replicate (s.length - fl.length) zr))=some (B6 (fl++List.replicate (s.length - fl.length) zr)):=Xr _ _ (by simp;omega);have hsl3:Jv 16 (B6 (fl++List.replicate (s.length - fl.length) zr)) (.i .i64 0) (.i .i64 ((fl.length:Nat):Int))=some (B6 fl):=by rw[Jf _ _ _ _ _ (by omega) (by omega) (by simp;omega)];simp
      simp(disch:=omega)only[Sv,hkk,i1,i0,hc,hxy,ls,s3,hsl1,hsl2,hrep,happ,hsl3,EVT,Ay,simprocAttr]
     ·left;refine⟨k+1,?_,⟨by omega,by omega,?_⟩,by omega⟩
      ·simp(disch:=omega)only[Sv,hkk,i1,i0,hc,hxy,EVT,Ay,simprocAttr]
      ·rw[cs,tk];simp[hxy]
    ·right;have e:k=l.length:=by omega
     subst e;rw[E3] at k3;refine⟨_,?_,?_,rfl⟩
     ·rw[if_pos k3];simp(disch:=omega)only[Sv,EVT,Ay,simprocAttr]
     ·rw[if_pos k3];rfl
  by_cases hh:cpt eq2 l=l
  ·rw[if_pos hh] at key;rw[hh];simp(disch:=omega)only[Sv,h2,key,EVT,Ay,simprocAttr]
  ·rw[if_neg hh] at key;simp(disch:=omega)only[Sv,h2,key,EVT,Ay,simprocAttr]
end Go.X.G
/- Lists of records in the program: which are valid, their order, their sorting. -/
namespace Go.X.G
open Go Go.X
def Eg0 (r:Rec) (h:r.wf):S Dg0 1 [r.pv]=some [.b (Qf r)]:=by
 refine Jd6 (N:=1) rfl ?_;have g:r.name.length≤9223372036854775807:=h.name;have h1:=Dc r.name g;have h2:=Ey r.typ;have h3:=d5 r.typ r.data h.data;unfold Qf;by_cases k0:0≤r.ttl<;>by_cases k1:r.ttl≤2147483647
 all_goals rcases ch3 (vld r.name) (knw r.typ) (Fg r.typ r.data) with e0|⟨e0,e1⟩|⟨e0,e1,e2⟩|⟨e0,e1,e2⟩
 all_goals simp only[*] at h1 h2 h3
 all_goals simp(disch:=omega)only[Jw8,md,Hy,h1,h2,h3,EVC,xe,EVP,EV,simprocAttr, *]
 all_goals simp
def Gd8 (x:Int):S fj 1 [.i .i64 x]=some [.b false]:=by refine Hp4 (N:=1) rfl ?_;simp(disch:=omega)only[Hb1,Az,simprocAttr]
def Eh8 (a b:Int):S fb 2 [.i .i64 a,.i .i64 b]=some [.i .i64 (zx a b)]:=by
 refine Hs3 (N:=1) rfl ?_;have h1:=Gd8 a;have h2:=Gd8 b;unfold zx;by_cases k1:a<b
 ·simp(disch:=omega)only[Cn7,h1,h2,k1,Az,simprocAttr]
 ·by_cases k2:b<a
  ·simp(disch:=omega)only[Cn7,h1,h2,k1,k2,Az,simprocAttr]
  ·simp(disch:=omega)only[Cn7,h1,h2,k1,k2,Az,simprocAttr]
def Bc5 (a b:Rec) (ha:a.wf) (hb:b.wf):S f9 2 [a.pv,b.pv]=some [.i .i64 (Rs a b)]:=by
 refine Ik4 (N:=1) rfl ?_;have g1:a.name.length≤9223372036854775807:=ha.name;have g2:b.name.length≤9223372036854775807:=hb.name;have h1:=J3 a.name b.name g1 g2;have h2:=Eh8 a.typ b.typ;have h3:=Ap8 a.typ a.data b.data ha.data hb.data;unfold Rs;by_cases k1:Jp a.name b.name=0
 ·by_cases k2:zx a.typ b.typ=0
  ·rw[k1] at h1;rw[k2] at h2;simp(disch:=omega)only[Cp2,md,Hy,h1,h2,h3,Az,simprocAttr];simp[k1,k2]
  ·rw[k1] at h1;simp(disch:=omega)only[Cp2,h1,h2,k2,Az,simprocAttr];simp[k1,k2]
 ·simp(disch:=omega)only[Cp2,h1,k1,Az,simprocAttr]
def Ap5 (a b:Rec) (ha:a.wf) (hb:b.wf):S gk 2 [a.pv,b.pv]=some [.i .i64 (Hv2 a b)]:=by
 refine Ik7 (N:=1) rfl ?_;have h1:=Bc5 a b ha hb;have h2:=Eh8 a.ttl b.ttl;unfold Hv2;by_cases k1:Rs a b=0
 ·rw[k1] at h1;simp(disch:=omega)only[Gj6,h1,h2,Az,simprocAttr];simp[k1]
 ·simp(disch:=omega)only[Gj6,h1,k1,Az,simprocAttr]
def Jj5:Cmp gk [] Hv2 Rec.wf:=⟨fun x y hx hy=>Ap5 x y hx hy⟩
def Fh3:leC Hv2=leR:=rfl
def Fs3 (a b:Rec) (ha:a.wf) (hb:b.wf):S gj 2 [a.pv,b.pv]=some [.b (eqF a b)]:=by refine Ik5 (N:=1) rfl ?_;have h1:=Bc5 a b ha hb;simp(disch:=omega)only[Hd4,h1,Az,simprocAttr]
def Bp9 (l:List Rec) (hw:∀r∈l,r.wf) (hl:l.length≤1000000):S Cx3 1 [B6 l]=some [B6 (sortR l)]:=by refine Jh3 (N:=1) rfl ?_;have h0:=bq l hl;obtain⟨r,h1,h2,h3⟩:=T7 Jj5 (by rw[Fh3];exact Jq3) l hw hl;rw[Fh3] at h1;have hm:=h1.mem Jq3;have h4:=Ar0 r gj [] eqF (fun x hx y hy=>Fs3 x y (hw x ((hm x).1 hx)) (hw y ((hm y).1 hy))) (by omega);rw[Bb0 h1] at h4;simp(disch:=omega)only[Jx9,h0,h3,h4,Fx,Ln,EVT,Ay,simprocAttr]
end Go.X.G
/- Delegations and names of a zone, as the program finds them. -/
namespace Go.X.G
open Go Go.X
def Ew4 {z:Zone} {n b:List UInt8} {c:Rec} (hI:b=[]∨under n b=true):(if(Ep z c && under n c.name && (decide (b=[])||decide ((lbl c.name).length<(lbl b).length)))=true then c.name else b)=[]∨under n (if(Ep z c && under n c.name && (decide (b=[])||decide ((lbl c.name).length<(lbl b).length)))=true then c.name else b)=true:=by
 split
 ·rename_i h;simp only[Br] at h;exact .inr h.1.2
 ·exact hI
def Gf2 (z:Zone) (n:List UInt8) (hz:z.wf) (hl:z.recs.length≤1000000) (hn:n.length≤9223372036854775807):S Dh2 2 [z.pv,.s n]=some [.s (cutN z n),.b (decide (cutN z n≠[]))]:=by
 refine Jl5 (N:=z.recs.length+1) rfl ?_;have g1:=hz.origin;unfold My at g1;have key:Gx5.ev S (z.recs.length+1) [z.pv,.s n]=some (.yld 0 [.s (dj z n [] z.recs)]):=by
  refine D7 z.recs (fun i (b:List UInt8)=>[.s b,.i .i64 (i:Int)]) (fun i b r=> .yld 0 [.s (dj z n b r)]) (fun i b=>b=[]∨under n b=true) [] rfl (.inl rfl) (by omega) (fun i b c r hd hi hc hI=> ?_) (fun b hI=> ?_)
  ·left;have g2:=(hz.recs.2 c (Cq hc)).name;unfold My at g2;refine⟨if Ep z c && under n c.name && (decide (b=[])||decide ((lbl c.name).length<(lbl b).length)) then c.name else b,?_,Ew4 hI,rfl⟩;by_cases h1:c.typ=2
   ·by_cases h2:c.name=z.origin
    ·simp(disch:=omega)only[jh,hc,h1,h2,Ay,simprocAttr];simp[Ep,Ft,h2]
    ·have k1:=Gv c.name z.origin g2 g1;have k2:=Gv n c.name hn g2;rcases Bm (under c.name z.origin) with h3|h3
     ·rcases Bm (under n c.name) with h4|h4
      ·by_cases h5:b=[]
       ·rw[h3] at k1;rw[h4] at k2;simp(disch:=omega)only[jh,hc,h1,h2,h3,h4,h5,k1,k2,Ay,simprocAttr];simp[Ep,Ft,h1,h2,h3,h4,h5]
       ·have hb:=hI.resolve_left h5;have e:=Ef9 h4 hb;rw[h3] at k1;rw[h4] at k2;by_cases h6:c.name.length<b.length
        ·have h7:=e.1 h6;have h8:(c.name.length:Int)<(b.length:Int):=by omega
         simp(disch:=omega)only[jh,hc,h1,h2,h3,h4,h5,h8,k1,k2,Ay,simprocAttr];simp[Ep,Ft,h1,h2,h3,h4,h5,h7]
        ·have h7:¬(lbl c.name).length<(lbl b).length:=fun q=>h6 (e.2 q);have h8:¬(c.name.length:Int)<(b.length:Int):=by omega
         simp(disch:=omega)only[jh,hc,h1,h2,h3,h4,h5,h8,k1,k2,Ay,simprocAttr];simp[Ep,Ft,h1,h2,h3,h4,h5,h7]
      ·rw[h3] at k1;rw[h4] at k2;simp(disch:=omega)only[jh,hc,h1,h2,h3,h4,k1,k2,Ay,simprocAttr];simp[Ep,Ft,h1,h2,h3,h4]
     ·rw[h3] at k1;simp(disch:=omega)only[jh,hc,h1,h2,h3,k1,Ay,simprocAttr];simp[Ep,Ft,h1,h2,h3]
   ·simp(disch:=omega)only[jh,hc,h1,Ay,simprocAttr];simp[Ep,h1]
  ·simp(disch:=omega)only[jh,Ay,simprocAttr];simp[dj,Out.goes]
 rw[show dj z n [] z.recs=cutN z n from rfl] at key;simp(disch:=omega)only[jh,key,Ay,simprocAttr]
 try simp
def cutsN (z:Zone):List (List UInt8):=setN ((z.recs.filter (Ep z)).map Rec.name)
def Z9 (z:Zone) (x:List UInt8):x∈cutsN z↔∃r∈z.recs,Ep z r=true∧r.name=x:=by unfold cutsN;rw[M7,Fl];simp only[C5,and_assoc]
def Fz3 {l:List (List UInt8)} (h:∀x∈l,x.length≤9223372036854775807):∀x∈setN l,x.length≤9223372036854775807:=fun x hx=>h x ((M7 l x).1 hx)
def Ar6 (z:Zone) (hz:z.wf) (hl:z.recs.length≤1000000):S Cx7 1 [z.pv]=some [Cn (cutsN z)]:=by
 refine Jl9 (N:=z.recs.length+1) rfl ?_;have g1:=hz.origin;unfold My at g1;have key:Gx8.ev S (z.recs.length+1) [z.pv]=some (.yld 0 [Cn ([]++(z.recs.filter (Ep z)).map Rec.name)]):=by
  refine D7 z.recs (fun i (b:List (List UInt8))=>[Cn b,.i .i64 (i:Int)]) (fun i b r=> .yld 0 [Cn (b++(r.filter (Ep z)).map Rec.name)]) (fun i b=>b.length≤i) [] rfl (Dy _) (by omega) (fun i b c r hd hi hc hI=> ?_) (fun b hI=> ?_)
  ·left;have g2:=(hz.recs.2 c (Cq hc)).name;unfold My at g2;refine⟨if Ep z c then b++[c.name] else b,?_,by split<;>(try rw[B0,List.length_singleton])<;>omega,by rcases Bm (Ep z c) with q|q<;>simp[q]⟩;by_cases h1:c.typ=2
   ·by_cases h2:c.name=z.origin
    ·simp(disch:=omega)only[Br5,hc,h1,h2,Ay,simprocAttr];simp[Ep,Ft,h2]
    ·have k1:=Gv c.name z.origin g2 g1;rcases Bm (under c.name z.origin) with h3|h3
     ·rw[h3] at k1;simp(disch:=omega)only[Br5,hc,h1,h2,h3,k1,Ay,simprocAttr];simp[Ep,Ft,h1,h2,h3]
     ·rw[h3] at k1;simp(disch:=omega)only[Br5,hc,h1,h2,h3,k1,Ay,simprocAttr];simp[Ep,Ft,h1,h2,h3]
   ·simp(disch:=omega)only[Br5,hc,h1,Ay,simprocAttr];simp[Ep,h1]
  ·simp(disch:=omega)only[Br5,Ay,simprocAttr];simp[Out.goes]
 rw[Dw] at key;have hlen:((z.recs.filter (Ep z)).map Rec.name).length≤1000000:=by rw[D2];exact Dt (Dh _ _) hl
 have hw:∀x∈(z.recs.filter (Ep z)).map Rec.name,x.length≤9223372036854775807:=fun x hx=>by obtain⟨r,hr,rfl⟩:=Fl.1 hx;exact(hz.recs.2 r (C5.1 hr).1).name
 have k1:=ot _ hlen hw;have k2:=Rt (((z.recs.filter (Ep z)).map Rec.name).mergeSort fun x y=> !decide (Jp y x<0)) (by rw[Ak4];exact hlen);rw[show cpt eqs (((z.recs.filter (Ep z)).map Rec.name).mergeSort fun x y=> !decide (Jp y x<0))=cutsN z from rfl] at k2;generalize ((z.recs.filter (Ep z)).map Rec.name).mergeSort (fun x y=> !decide (Jp y x<0))=so at*;generalize (z.recs.filter (Ep z)).map Rec.name=un at*;simp(disch:=omega)only[Br5,key,k1,k2,Fx,Ln,Ay,simprocAttr]
def Dk5 (l:List Rec) (hl:l.length≤1000000) (hw:∀r∈l,r.wf):S Df5 1 [B6 l]=some [Cn (setN (l.map Rec.name))]:=by
 refine Jc8 (N:=l.length+1) rfl ?_;have key:Gv3.ev S (l.length+1) [B6 l]=some (.yld 0 [Cn ([]++l.map Rec.name)]):=by
  refine D7 l (fun i (b:List (List UInt8))=>[Cn b,.i .i64 (i:Int)]) (fun i b r=> .yld 0 [Cn (b++r.map Rec.name)]) (fun i b=>b.length≤i) [] rfl (Dy _) (by omega) (fun i b c r hd hi hc hI=> ?_) (fun b hI=> ?_)
  ·left;refine⟨b++[c.name],?_,by simp;omega,by simp⟩;simp(disch:=omega)only[Gf5,hc,Ay,simprocAttr]
  ·simp(disch:=omega)only[Gf5,Ay,simprocAttr];simp[Out.goes]
 rw[Dw] at key;have hlen:(l.map Rec.name).length≤1000000:=by rw[D2];exact hl
 have hw:∀x∈l.map Rec.name,x.length≤9223372036854775807:=fun x hx=>by obtain⟨r,hr,rfl⟩:=Fl.1 hx;exact(hw r hr).name
 have k1:=ot _ hlen hw;have k2:=Rt ((l.map Rec.name).mergeSort fun x y=> !decide (Jp y x<0)) (by rw[Ak4];exact hlen);rw[show cpt eqs ((l.map Rec.name).mergeSort fun x y=> !decide (Jp y x<0))=setN (l.map Rec.name) from rfl] at k2;generalize setN (l.map Rec.name)=se at*;generalize (l.map Rec.name).mergeSort (fun x y=> !decide (Jp y x<0))=so at*;generalize l.map Rec.name=un at*;simp(disch:=omega)only[Gf5,key,k1,k2,Fx,Ln,Ay,simprocAttr]
def Eh2 (c owner:List UInt8) (hc:c.length≤9223372036854775807) (ho:owner.length≤9223372036854775807):S Cw3 1 [.s c,.s owner]=some [.b (decide (c≠owner) && under owner c)]:=by
 refine Jc7 (N:=1) rfl ?_;have k1:=Gv owner c ho hc;by_cases h:c=owner
 ·simp(disch:=omega)only[Hz5,h,Ay,simprocAttr];simp
 ·simp(disch:=omega)only[Hz5,h,k1,Ay,simprocAttr];simp
def Cl3 (z:Zone) (acc:List (List UInt8)) (n:List UInt8) (p1 p2 p3 p4 p5 p6:PV) (N:Nat) (hu:under n z.origin=true) (ha:acc.length≤1000000) (hN:1000<N) (hp2:I7 1 p2 p4=some (.s n)):
  Dp5.ev S N [z.pv,p1,p2,Cn acc,p4,p5,p6]=some (.yld 2 [Cn (acc++upN z.origin n)]):=by
 obtain⟨v1,v2,_⟩:=C4.1 hu;have hlb:=G2 n;have h0:jn ((lbl n).drop 0)=n:=Zf v1;have e0:upN z.origin n=(upN z.origin n).take ((lbl n).length - (lbl z.origin).length+1):=by rw[Fq];simp[upN]
 have:=Gk (fn:=S) (N:=N) (η:=[z.pv,p1,p2,Cn acc,p4,p5,p6]) (id:=3) (init:=[(.v 3),(.proj 0 (.idx 1 (.v 2) (.v 4)))]) (body:=Ec9) ((lbl n).length - (lbl z.origin).length) (fun k=>[Cn (acc++(upN z.origin n).take k),.s (jn ((lbl n).drop k))])
  (fun _=> .yld 2 [Cn (acc++upN z.origin n)]) ?_ (by omega) (fun k hk=> ?_) ?_
 ·exact this
 ·rw[h0];simp(disch:=omega)only[hp2,Ay,simprocAttr];simp
 ·left;obtain⟨q1,q2⟩:=qf hu hk;have q3:¬jn ((lbl n).drop k)=z.origin:=fun h=>by have:=(Sf hu (Nat.le_of_lt hk)).1 h;omega
  have q4:=Zg v1 k;have k1:=Vs (jn ((lbl n).drop k)) (by omega);rw[q1,q2] at k1;have q5:(upN z.origin n).take (k+1)=(upN z.origin n).take k++[jn ((lbl n).drop k)]:=by rw[Dm,Ob (Nat.le_of_lt hk)];rfl
  rw[q5,←Cv];have q6:(acc++(upN z.origin n).take k).length≤1000300:=by rw[B0,Cw];omega
  generalize acc++(upN z.origin n).take k=a at*;refine⟨?_,rfl⟩;generalize jn ((lbl n).drop (k+1))=nx at*;generalize jn ((lbl n).drop k)=cu at*;simp(disch:=omega)only[Aq2,q3,k1,Ay,simprocAttr]
 ·have q3:=(Sf hu (B7 _)).2 rfl;have q5:(upN z.origin n)=(upN z.origin n).take ((lbl n).length - (lbl z.origin).length)++[jn ((lbl n).drop ((lbl n).length - (lbl z.origin).length))]:=by have:=Dm (l:=upN z.origin n) (i:=(lbl n).length - (lbl z.origin).length);rw[Ob (B7 _)] at this;rw[←e0] at this;exact this
  rw[q3] at q5 ⊢;have q6:(acc++(upN z.origin n).take ((lbl n).length - (lbl z.origin).length)).length≤1000300:=by rw[B0,Cw];omega
  refine⟨?_,rfl⟩
  conv=>rhs;rw[q5,←Cv]
  generalize acc++(upN z.origin n).take ((lbl n).length - (lbl z.origin).length)=a at*;simp(disch:=omega)only[Aq2,Ay,simprocAttr]
def Fp4 (z:Zone) (owner:List UInt8):((cutsN z).any fun c=>decide (c≠owner) && under owner c)=N6 z owner:=by
 rw[D5];unfold N6;simp only[Dd,Br,decide_eq_true_eq,Z9];constructor
 ·rintro⟨x,⟨r,hr,h1,rfl⟩,h2,h3⟩;exact⟨r,hr,⟨h1,h2⟩,h3⟩
 ·rintro⟨r,hr,⟨h1,h2⟩,h3⟩;exact⟨r.name,⟨r,hr,h1,rfl⟩,h2,h3⟩
def Km (z:Zone) (n:List UInt8):Bool:=under n z.origin && !N6 z n
def X1 (z:Zone) (hz:z.wf) (hl:z.recs.length≤1000):S Az2 1 [z.pv]=some [Cn (namesN z)]:=by
 refine Jl8 (N:=z.recs.length+1001) rfl ?_;have g1:=hz.origin;unfold My at g1;have k1:=Ar6 z hz (by omega);have k2:=Dk5 z.recs (by omega) (fun r hr=>hz.recs.2 r hr);have hol:(setN (z.recs.map Rec.name)).length≤z.recs.length:=by have:=S1 (z.recs.map Rec.name);rwa[D2] at this
 have how:∀x∈setN (z.recs.map Rec.name),x.length≤9223372036854775807:=Fz3 fun x hx=>by obtain⟨r,hr,rfl⟩:=Fl.1 hx;exact(hz.recs.2 r hr).name
 have hcl:(cutsN z).length≤1000000:=by have:=S1 ((z.recs.filter (Ep z)).map Rec.name);rw[D2] at this;have h2:=Dh (Ep z) z.recs;show (setN ((z.recs.filter (Ep z)).map Rec.name)).length≤1000000;omega
 have hcw:∀x∈cutsN z,x.length≤9223372036854775807:=fun x hx=>by obtain⟨r,hr,_,rfl⟩:=(Z9 z x).1 hx;exact(hz.recs.2 r hr).name
 have hmem:∀x,x∈((setN (z.recs.map Rec.name)).filter (Km z)).flatMap (upN z.origin)↔El8 z x:=by
  intro x;unfold El8 Km;simp only[List.mem_flatMap,C5,M7,Fl,Br,Cm];constructor
  ·rintro⟨o,⟨⟨r,hr,rfl⟩,h1,h2⟩,h3⟩;obtain⟨h4,h5⟩:=(Lz h1).1 h3;exact⟨r,hr,h1,h2,h4,h5⟩
  ·rintro⟨r,hr,h1,h2,h4,h5⟩;exact⟨r.name,⟨⟨r,hr,rfl⟩,h1,h2⟩,(Lz h1).2 ⟨h4,h5⟩⟩
 generalize hO:setN (z.recs.map Rec.name)=O at*;have key:Gx7.ev S (z.recs.length+1001) [z.pv,Cn (cutsN z),Cn O]=some (.yld 0 [Cn ([]++(O.filter (Km z)).flatMap (upN z.origin))]):=by
  refine D7 O (fun i (b:List (List UInt8))=>[Cn b,.i .i64 (i:Int)]) (fun i b r=> .yld 0 [Cn (b++(r.filter (Km z)).flatMap (upN z.origin))]) (fun i b=>b.length≤256*i) [] rfl (Dy _) (by omega) (fun i b c r hd hi hc hI=> ?_) (fun b hI=> ?_)
  ·left;have g2:=how c (Cq hc);have k3:=Gv c z.origin g2 g1;have hid:=Fp4 z c;rcases Bm (under c z.origin) with h1|h1
   ·have k4:=W6 (cutsN z) Cw3 [.s c] _ hcl (fun x hx=>Eh2 x c (hcw x hx) g2);rw[hid] at k4;rw[h1] at k3;rcases Bm (N6 z c) with h2|h2
    ·refine⟨b,?_,by omega,by simp[Km,h1,h2]⟩;rw[h2] at k4;generalize cutsN z=cz at*;simp(disch:=omega)only[Aq2,hc,k3,k4,Ay,simprocAttr]
    ·have hu:=X7 z.origin c;refine⟨b++upN z.origin c,?_,by rw[B0];omega,by simp[Km,h1,h2]⟩;rw[h2] at k4;have k5:∀p5 p6,Dp5.ev S (z.recs.length+1001) [z.pv,Cn (cutsN z),Cn O,Cn b,.i .i64 (i:Int),p5,p6]=some (.yld 2 [Cn (b++upN z.origin c)]):=fun p5 p6=>Cl3 z b c _ _ (Cn b) _ p5 p6 _ h1 (by omega) (by omega) (by rw[P9 _ _ _ (by omega)];simp[hc]);generalize b++upN z.origin c=b' at*;generalize cutsN z=cz at*;simp(disch:=omega)only[Aq2,hc,k3,k4,k5,Ay,simprocAttr]
   ·refine⟨b,?_,by omega,by simp[Km,h1]⟩;rw[h1] at k3;generalize cutsN z=cz at*;simp(disch:=omega)only[Aq2,hc,k3,Ay,simprocAttr]
  ·generalize cutsN z=cz at*;simp(disch:=omega)only[Aq2,Ay,simprocAttr];simp[Out.goes]
 rw[Dw] at key;have hxl:((O.filter (Km z)).flatMap (upN z.origin)).length≤256*O.length:=by
  have:∀l:List (List UInt8),(l.flatMap (upN z.origin)).length≤256*l.length:=by
   intro l
   induction l with
   |nil=>simp
   |cons x r ih=>
    have:=X7 z.origin x;rw[F3,B0,Cj];omega
  refine Dt (this _) ?_;have:=Dh (Km z) O;omega
 have hxw:∀x∈(O.filter (Km z)).flatMap (upN z.origin),x.length≤9223372036854775807:=fun x hx=>by obtain⟨r,hr,_,_,h4,_⟩:=(hmem x).1 hx;have:=Hl (C4.1 h4).2.1;omega
 have he:setN ((O.filter (Km z)).flatMap (upN z.origin))=namesN z:=Bc9 z _ hmem;generalize (O.filter (Km z)).flatMap (upN z.origin)=un at*;have k6:=ot un (by omega) hxw;have k7:=Rt (un.mergeSort fun x y=> !decide (Jp y x<0)) (by rw[Ak4];omega);rw[show cpt eqs (un.mergeSort fun x y=> !decide (Jp y x<0))=setN un from rfl,he] at k7;generalize un.mergeSort (fun x y=> !decide (Jp y x<0))=so at*;generalize namesN z=nz at*;generalize cutsN z=cz at*;simp(disch:=omega)only[Aq2,k1,k2,key,k6,k7,Fx,Ln,Ay,simprocAttr]
end Go.X.G
/- Zones in the program: what is asked of the records of one name. -/
namespace Go.X.G
open Go Go.X
abbrev ltC:List UInt8×Int→List UInt8×Int→Prop:=fun p q=>ltB p.1 q.1∨(p.1=q.1∧p.2<q.2)
def to_C:TO ltC:=El4.prod Hh0
def ltQ (a b:Ques):Prop:=ltC (a.name,a.typ) (b.name,b.typ)
def to_Q:TO ltQ where
 irr:=fun a=>to_C.irr _
 tr:=fun a b c=>to_C.tr _ _ _
 tri:=fun a b=>by
  rcases to_C.tri (a.name,a.typ) (b.name,b.typ) with h|h|h
  ·exact .inl h
  ·injection h with h1 h2;refine .inr (.inl ?_);cases a;cases b;simp only at h1 h2;rw[h1,h2]
  ·exact .inr (.inr h)
def Af7 (a b:Ques):Int:=if(Op.bytesLess a.name b.name||(decide (a.name=b.name) && decide (a.typ<b.typ)))=true then -1 else if a=b then 0 else 1
def Jk (a b:Ques):Af7 a b<0↔ltQ a b:=by
 unfold Af7 ltQ ltC;simp only;have e:(Op.bytesLess a.name b.name||(decide (a.name=b.name) && decide (a.typ<b.typ)))=true↔(ltB a.name b.name∨a.name=b.name∧a.typ<b.typ):=by simp only[Cy,Br,decide_eq_true_eq,ay]
 by_cases h:ltB a.name b.name∨a.name=b.name∧a.typ<b.typ
 ·rw[if_pos (e.2 h)];simp[h]
 ·rw[if_neg (fun q=>h (e.1 q))];simp only[h,iff_false];split<;>omega
def Af6 (a b:Ques):S Q2 2 [a.pv,b.pv]=some [.i .i64 (Af7 a b)]:=by
 refine Ht6 (N:=1) rfl ?_;unfold Af7;rcases Bm (Op.bytesLess a.name b.name) with h1|h1
 ·simp(disch:=omega)only[qw,h1,Ay,simprocAttr];simp
 ·by_cases h2:a.name=b.name
  ·by_cases h3:a.typ<b.typ
   ·rw[h2] at h1;simp(disch:=omega)only[qw,h1,h2,h3,Ay,simprocAttr];simp
   ·rw[h2] at h1;by_cases h4:a=b
    ·simp(disch:=omega)only[qw,h1,h2,h3,Ay,simprocAttr];simp[h4]
    ·simp(disch:=omega)only[qw,h1,h2,h3,h4,Ay,simprocAttr];simp[h4]
  ·have h4:¬a=b:=fun e=>h2 (by rw[e]);simp(disch:=omega)only[qw,h1,h2,h4,Ay,simprocAttr];simp[h4]
def Kt (l:List Ques):PV:= .l 2 (l.map Ques.pv)
def K5 (l:List Ques):Hc (Kt l)=some (.i .i64 (l.length:Int)):=by simp[Kt,Hc]
def Nz (l:List Ques) (k:IntKind) (z:Int) (h:0≤z):I7 2 (Kt l) (.i k z)=(l[z.toNat]?).map Ques.pv:=by simp[Kt,Zp _ _ _ _ h]
def Fg5 (x:Ques):K4 2 [x.pv]=some (Kt [x]):=rfl
def Ef4 (l:List Ques) (x:Ques) (h:l.length+1≤1073741824):Jn 2 (Kt l) (Kt [x])=some (Kt (l++[x])):=by have:=Vr 2 (l.map Ques.pv) [x.pv] (by simpa using h);simpa [Kt] using this
def Bc2:PV→PV→Int
 | .a [.s a,.i _ t],.a [.s b,.i _ u]=>Af7 ⟨a,t⟩ ⟨b,u⟩
 |_,_=>0
def Fs2 (l:List Ques) (hl:l.length≤1000000):S Y8 1048578 [Kt l,.f Q2 []]=some [Kt (l.mergeSort fun x y=> !decide (Af7 y x<0))]:=by
 have hm:∀x∈l.map Ques.pv,∃a∈l,x=a.pv:=fun x hx=>by obtain⟨a,h1,h2⟩:=Fl.1 hx;exact⟨a,h1,h2.symm⟩
 have hc:∀a b:Ques,Bc2 a.pv b.pv=Af7 a b:=fun a b=>rfl;have h:=Bb6 (tab:=tab) (xs:=Hj6) (ss:=bn) (f:=Y8) (s:=Cs8) Gl6 Gm2 (g:=Q2) (caps:=[]) (l:=l.map Ques.pv) (by decide) (by simp;omega)
  (fun x hx=>by obtain⟨a,_,rfl⟩:=hm x hx;rfl) Bc2
  (fun x hx y hy=>by obtain⟨a,ha,rfl⟩:=hm x hx;obtain⟨b,hb,rfl⟩:=hm y hy;exact Af6 a b)
  (fun x hx=>by obtain⟨a,_,rfl⟩:=hm x hx;rw[hc,Jk];exact to_Q.irr a)
  (fun x hx y hy z hz h1 h2=>by obtain⟨a,_,rfl⟩:=hm x hx;obtain⟨b,_,rfl⟩:=hm y hy;obtain⟨c,_,rfl⟩:=hm z hz;rw[hc] at*;exact(Jk a c).2 (to_Q.tr _ _ _ ((Jk a b).1 h1) ((Jk b c).1 h2)))
  (fun x hx y hy z hz h1 h2=>by obtain⟨a,_,rfl⟩:=hm x hx;obtain⟨b,_,rfl⟩:=hm y hy;obtain⟨c,_,rfl⟩:=hm z hz;rw[hc] at*;exact fun h3=>to_Q.ntr (fun q=>h1 ((Jk a b).2 q)) (fun q=>h2 ((Jk b c).2 q)) ((Jk a c).1 h3))
  (fun x hx y hy h1 h2=>by
   obtain⟨a,_,rfl⟩:=hm x hx;obtain⟨b,_,rfl⟩:=hm y hy;rw[hc] at*;rcases to_Q.tri a b with q|q|q
   ·exact absurd ((Jk a b).2 q) h1
   ·rw[q]
   ·exact absurd ((Jk b a).2 q) h2)
 have e:(l.map Ques.pv).mergeSort (fun x y=> !decide (Bc2 y x<0))=(l.mergeSort fun x y=> !decide (Af7 y x<0)).map Ques.pv:=(Jw4 (r:=fun x y=> !decide (Af7 y x<0)) (s:=fun x y=> !decide (Bc2 y x<0)) (f:=Ques.pv) fun a _ b _=>rfl).symm;rw[e] at h;exact h
def kf (p:Option Ques) (n:Nat):List Ques→Bool
 |[]=>false
 |k::r=>if 64<(if p=some k then n+1 else 1) then true else kf (some k) (if p=some k then n+1 else 1) r
def kz:∀(l:List Ques) (p:Ques) (n:Nat),(p::l).Pairwise (fun a b=>¬ltQ b a)→n≤64→(kf (some p) n l=true↔(∃k,k≠p∧64<l.count k)∨64<n+l.count p)
 |[],p,n,_,hn=>by simp[kf];omega
 |k::r,p,n,hs,hn=>by
  obtain⟨h1,h2⟩:=Cf.1 hs;by_cases e:p=k
  ·subst e;by_cases hg:64<n+1
   ·simp only[kf,if_true,hg];refine⟨fun _=> .inr ?_,fun _=>trivial⟩;rw[I1];omega
   ·simp only[kf,if_true,hg,if_false];rw[kz r p (n+1) h2 (by omega),I1];constructor
    ·rintro (⟨q,q1,q2⟩|q)
     ·exact .inl ⟨q,q1,by rw[H7 (fun e=>q1 e.symm)];exact q2⟩
     ·exact .inr (by omega)
    ·rintro (⟨q,q1,q2⟩|q)
     ·exact .inl ⟨q,q1,by rw[H7 (fun e=>q1 e.symm)] at q2;exact q2⟩
     ·exact .inr (by omega)
  ·have e':¬(some p=some k):=fun q=>e (by injection q);simp only[kf,if_neg e',show¬64<1 by omega,if_false];rw[kz r k 1 h2 (by omega)];have hlt:ltQ p k:=by
    rcases to_Q.tri p k with q|q|q
    ·exact q
    ·exact absurd q e
    ·exact absurd q (h1 k (.head _))
   have hno:∀y∈k::r,y≠p:=fun y hy q=>by
    subst q;rcases Ck.1 hy with q|hy
    ·exact e q
    ·exact(Cf.1 h2).1 y hy hlt
   have h0:(k::r).count p=0:=Jw5.2 fun hm=>hno p hm rfl;have h0r:r.count p=0:=Jw5.2 fun hm=>hno p (.tail _ hm) rfl;rw[h0];constructor
   ·rintro (⟨q,q1,q2⟩|q)
    ·refine .inl ⟨q,fun w=>by rw[w,h0r] at q2;omega,?_⟩;rw[H7 (fun w=>q1 w.symm)];exact q2
    ·refine .inl ⟨k,fun w=>e w.symm,?_⟩;rw[I1];omega
   ·rintro (⟨q,q1,q2⟩|q)
    ·by_cases w:q=k
     ·subst w;rw[I1] at q2;exact .inr (by omega)
     ·rw[H7 (fun v=>w v.symm)] at q2;exact .inl ⟨q,w,q2⟩
    ·omega
def Fz9 (l:List Ques) (hs:l.Pairwise (fun a b=>¬ltQ b a)):kf none 0 l=true↔∃k,64<l.count k:=by
 cases l with
 |nil=>simp[kf]
 |cons k r=>
  have e:¬((none:Option Ques)=some k):=by simp
  simp only[kf,if_neg e,show¬64<1 by omega,if_false];rw[kz r k 1 hs (by omega)];constructor
  ·rintro (⟨q,q1,q2⟩|q)
   ·exact⟨q,by rw[H7 (fun w=>q1 w.symm)];exact q2⟩
   ·exact⟨k,by rw[I1];omega⟩
  ·rintro⟨q,q2⟩;by_cases w:q=k
   ·subst w;rw[I1] at q2;exact .inr (by omega)
   ·rw[H7 (fun v=>w v.symm)] at q2;exact .inl ⟨q,w,q2⟩
def kyQ (r:Rec):Ques:=⟨r.name,r.typ⟩
def Wc (l:List Rec):Bool:=kf none 0 ((l.map kyQ).mergeSort fun x y=> !decide (Af7 y x<0))
def nc (n:List UInt8) (t:Int):∀l:List Rec,(l.map kyQ).count ⟨n,t⟩=(findR l n t).length
 |[]=>rfl
 |r::l=>by
  have ih:=nc n t l;unfold findR at ih ⊢;rw[Ij,N3];by_cases h:isK n t r=true
  ·rw[if_pos h];unfold isK at h;simp only[Br,decide_eq_true_eq] at h;have:kyQ r=⟨n,t⟩:=by unfold kyQ;rw[h.1,h.2]
   rw[this,I1,ih,Cj]
  ·rw[if_neg h];have:kyQ r≠⟨n,t⟩:=fun e=>h (by unfold kyQ at e;injection e with e1 e2;unfold isK;simp[e1,e2])
   rw[H7 this,ih]
def Gr5 (l:List Ques):(l.mergeSort fun x y=> !decide (Af7 y x<0)).Pairwise (fun a b=>¬ltQ b a):=by
 have:=List.pairwise_mergeSort (le:=fun x y:Ques=> !decide (Af7 y x<0)) (fun a b c h1 h2=>by
  simp only[Cm,decide_eq_false_iff_not,Jk] at h1 h2 ⊢;exact to_Q.ntr h2 h1) (fun a b=>by
  simp only[Cy,Cm,decide_eq_false_iff_not,Jk];rcases to_Q.tri a b with h|h|h
  ·exact .inl (to_Q.asym h)
  ·subst h;exact .inl (to_Q.irr a)
  ·exact .inr (to_Q.asym h)) l
 refine this.imp fun {a b} h=> ?_;simpa only[Cm,decide_eq_false_iff_not,Jk] using h
def Cd4 (l:List Rec):Wc l= !(l.all fun r=>decide ((findR l r.name r.typ).length≤64)):=by
 rw[D5];unfold Wc;rw[Fz9 _ (Gr5 _)];have hc:∀k,((l.map kyQ).mergeSort fun x y=> !decide (Af7 y x<0)).count k=(l.map kyQ).count k:=fun k=>(List.mergeSort_perm _ _).count_eq k;simp only[hc,Cm,List.all_eq_false,decide_eq_true_eq];constructor
 ·rintro⟨⟨n,t⟩,h⟩;rw[nc] at h;have hp:0<(findR l n t).length:=by omega
  obtain⟨x,hx⟩:=List.length_pos_iff_exists_mem.1 hp;obtain⟨h3,h4⟩:=C5.1 hx;unfold isK at h4;simp only[Br,decide_eq_true_eq] at h4;exact⟨x,h3,by rw[h4.1,h4.2];omega⟩
 ·rintro⟨r,h1,h2⟩;exact⟨kyQ r,by show 64<(l.map kyQ).count ⟨r.name,r.typ⟩;rw[nc];omega⟩
def Cd3 (l:List Rec) (hl:l.length≤1000000):S Dg2 1 [B6 l]=some [.b (Wc l)]:=by
 obtain⟨N,hN⟩:∃N,N=l.length+1:=⟨_,rfl⟩;refine Jd9 (N:=N) rfl ?_;have k0:Gv9.ev S N [B6 l]=some (.yld 0 [Kt (l.map kyQ)]):=by
  refine Es l (fun i=>[Kt ((l.take i).map kyQ),.i .i64 (i:Int)]) (fun i r=> .yld 0 [Kt (l.map kyQ)]) rfl (by omega) (fun i c r hd hi hc=> ?_) ?_
  ·left;refine⟨?_,rfl⟩;have e:(l.take (i+1)).map kyQ=(l.take i).map kyQ++[kyQ c]:=by rw[Dm,hc];simp
   have hsub:Lp 0 2 c.pv=some (kyQ c).pv:=rfl;have hlen:((l.take i).map kyQ).length≤1000000:=by rw[D2,Cw];omega
   rw[e];generalize (l.take i).map kyQ=a at*;simp(disch:=omega)only[jf,hc,hsub,Fg5,Ef4,K5,Nz,Ay,simprocAttr]
  ·refine⟨?_,rfl⟩;have e:l.take l.length=l:=E3;simp(disch:=omega)only[jf,e,K5,Nz,Ay,simprocAttr]
 have hs:=Fs2 (l.map kyQ) (by simpa using hl);have hlen:((l.map kyQ).mergeSort fun x y=> !decide (Af7 y x<0)).length=l.length:=by simp
 unfold Wc;generalize ((l.map kyQ).mergeSort fun x y=> !decide (Af7 y x<0))=ks at*;have k1:Gq9.ev S N [B6 l,Kt (l.map kyQ),Kt ks]=some (if kf none 0 ks=true then .ret [.b true] else .yld 0 []):=by
  refine D7 ks (fun i (g:Nat)=>[.i .i64 (g:Int),.i .i64 (i:Int)]) (fun i g r=>if kf (if i=0 then none else ks[i - 1]?) g r=true then .ret [.b true] else .yld 0 []) (fun i g=>g≤64) 0 ?_ (by omega) (by omega) (fun i g c r hd hi hc hg=> ?_) (fun g hg=> ?_)
  ·simp(disch:=omega)only[Az,simprocAttr]
  ·have hp:(if i=0 then none else ks[i - 1]?)=some c↔(0<i∧ks[i - 1]? =some c):=by
    by_cases h:i=0
    ·simp[h]
    ·simp[h];omega
   have hci:(if i+1=0 then none else ks[i+1 - 1]?)=some c:=by rw[if_neg (by omega),Kl,hc]
   have hsub:Lp 0 2 c.pv=some c.pv:=rfl;have eqq:∀x:Ques,N7 false true [.s,(.i .i64)] x.pv c.pv=some (.b (decide (x=c))):=fun x=>Kf5 false x c;by_cases hsame:0<i∧ks[i - 1]? =some c
   ·have hp':=hp.2 hsame;have hi0:(0:Int)<(i:Int):=by omega
    have ei:((i:Int) - 1).toNat=i - 1:=by omega
    have ei2:(i:Int).toNat=i:=by omega
    by_cases hgt:64<g+1
    ·right;have hgt':(64:Int)<(g:Int)+1:=by omega
     have er:kf (if i=0 then none else ks[i - 1]?) g (c::r)=true:=by rw[hp'];simp[kf,hgt]
     rw[er];refine⟨?_,rfl⟩;simp(disch:=omega)only[jf,hc,hsame.2,hi0,ei,ei2,hgt',K5,Nz,Ay,simprocAttr]
    ·left;have hgt':¬(64:Int)<(g:Int)+1:=by omega
     refine⟨g+1,?_,by omega,?_⟩
     ·simp(disch:=omega)only[jf,hc,hsame.2,hi0,ei,ei2,hgt',K5,Nz,Ay,simprocAttr]
     ·rw[hp',hci];simp[kf,hgt]
   ·left;have hp':¬(if i=0 then none else ks[i - 1]?)=some c:=fun q=>hsame (hp.1 q);have ei:((i:Int) - 1).toNat=i - 1:=by omega
    have ei2:(i:Int).toNat=i:=by omega
    refine⟨1,?_,by omega,?_⟩
    ·by_cases hi0:0<i
     ·have hi0':(0:Int)<(i:Int):=by omega
      obtain⟨y,hy⟩:∃y,ks[i - 1]? =some y:=⟨_,Bs (by omega)⟩;have hyc:¬y=c:=fun q=>hsame ⟨hi0,by rw[hy,q]⟩;simp(disch:=omega)only[jf,hc,hy,hyc,hi0',ei,ei2,K5,Nz,Ay,simprocAttr]
     ·have hi0':¬(0:Int)<(i:Int):=by omega
      simp(disch:=omega)only[jf,hc,hi0',ei2,K5,Nz,Ay,simprocAttr]
    ·rw[hci];simp[kf,hp']
  ·refine⟨?_,by simp[kf,Out.goes]⟩;have hlt:¬(ks.length:Int)<(ks.length:Int):=by omega
   simp(disch:=omega)only[jf,hlt,K5,Nz,Ay,simprocAttr];simp[kf]
 have hrep:∃p,N4 2 (.i .i64 (l.length:Int)) (Ques.pv ⟨[],0⟩)=some p:=by
  have h1:(l.length:Int)≤(LIM:Int):=by simp only[LIM];omega
  have h2:(Ques.pv ⟨[],0⟩).cells.length=2:=rfl;simp[N4,h1,h2]
 obtain⟨p,hrep⟩:=hrep;rcases Bm (kf none 0 ks) with h|h
 ·rw[h,if_pos rfl] at k1;rw[h];simp(disch:=omega)only[jf,hrep,k0,hs,k1,K5,Fx,Ln,Ay,simprocAttr]
 ·rw[h,if_neg (by simp)] at k1;rw[h];simp(disch:=omega)only[jf,hrep,k0,hs,k1,K5,Fx,Ln,Ay,simprocAttr]
end Go.X.G
/- Zones in the program: Check, the Rk. -/
namespace Go.X.G
open Go Go.X
def Cg1 (t:Int):S vj 1 [.i .i64 t]=some [.b (decide (t=6)||decide (t=5)||decide (t=39))]:=by
 refine Hr4 (N:=1) rfl ?_;by_cases h1:t=6
 ·simp(disch:=omega)only[Cn5,h1,Az,simprocAttr];simp
 ·by_cases h2:t=5
  ·simp(disch:=omega)only[Cn5,h2,Az,simprocAttr];simp
  ·simp(disch:=omega)only[Cn5,h1,h2,Az,simprocAttr];simp
def Em1 (r:Rec) (t:Int):S fm 1 [r.pv,.i .i64 t]=some [.b (decide (r.typ=t))]:=by refine Ht3 (N:=1) rfl ?_;simp(disch:=omega)only[Hc3,Az,simprocAttr]
def M2 (g:List Rec) (t:Int) (hl:g.length≤1000000):S S7 2 [B6 g,.i .i64 t]=some [.b (Iq g t)]:=by refine Jd2 (N:=1) rfl ?_;have h:=Kr g fm [.i .i64 t] (fun r=>decide (r.typ=t)) hl (fun r _=>Em1 r t);simp(disch:=omega)only[Jw7,h,Az,simprocAttr];rfl
def L8 (l:List Int):PV:= .l 1 (l.map (PV.i .i64))
def Tq (l:List Int):Hc (L8 l)=some (.i .i64 (l.length:Int)):=by simp[L8,Hc]
def mb (l:List Int) (k:IntKind) (z:Int) (h:0≤z):I7 1 (L8 l) (.i k z)=(l[z.toNat]?).map (PV.i .i64):=by simp[L8,Zp _ _ _ _ h]
def tj (l:List Int):Dk 0 (L8 l)=some (L8 l):=rfl
def Ct6 (l:List Int):Kj (L8 l)=some (L8 l):=rfl
def Eh5 (l:List Int) (x:Int) (hl:l.length≤1000000):∃k:Int,(0≤k↔x∈l)∧S uh 2 [L8 l,.i .i64 x]=some [.i .i64 k]:=by
 have go:∀(i:Nat) (l:List Int),∃k:Int,k=(match l.findIdx? (·=x) with|some j=>((i+j:Nat):Int)|none=> -1)∧(0≤k↔x∈l):=by
  intro i l;refine⟨_,rfl,?_⟩;cases h:l.findIdx? (·=x) with
  |none=>
   rw[List.findIdx?_eq_none_iff] at h;simp only;constructor
   ·intro h2;omega
   ·intro h2;have:=h x h2;simp at this
  |some j=>
   simp only;constructor
   ·intro _;rw[List.findIdx?_eq_some_iff_getElem] at h;obtain⟨h1,h2,_⟩:=h;simp at h2;rw[←h2];exact E4 _
   ·intro _;omega
 obtain⟨k,hk,hk2⟩:=go 0 l;refine⟨k,hk2,?_⟩;refine Hn7 (N:=l.length+1) rfl ?_;have key:Ds3.ev S (l.length+1) [L8 l,.i .i64 x]=some (match l.findIdx? (·=x) with|some j=> .ret [.i .i64 ((0+j:Nat):Int)]|none=> .yld 0 []):=by
  refine Es l (fun i=>[.i .i64 (i:Int)]) (fun i r=>match r.findIdx? (·=x) with|some j=> .ret [.i .i64 ((i+j:Nat):Int)]|none=> .yld 0 []) rfl (by omega) (fun i c r hd hi hc=> ?_) ?_
  ·by_cases h:x=c
   ·right;subst h;simp(disch:=omega)only[pp,hc,Tq,mb,Ay,simprocAttr];simp[Ov,Out.goes]
   ·left;have h':¬c=x:=fun e=>h e.symm;simp(disch:=omega)only[pp,hc,h,h',Tq,mb,Ay,simprocAttr];refine⟨trivial,?_⟩;simp only[Ov,h',decide_false,B5,if_false];cases r.findIdx? (·=x) with
    |none=>rfl
    |some j=>simp;omega
  ·simp(disch:=omega)only[pp,Tq,mb,Ay,simprocAttr];simp[Out.goes]
 rw[hk];cases h:l.findIdx? (·=x) with
 |none=>
  rw[h] at key;simp(disch:=omega)only[pp,key,Tq,Ay,simprocAttr]
 |some j=>
  rw[h] at key;simp(disch:=omega)only[pp,key,Tq,Ay,simprocAttr]
def Aj5 (l:List Int) (x:Int) (hl:l.length≤1000000):S u9 2 [L8 l,.i .i64 x]=some [.b (decide (x∈l))]:=by refine Hr2 (N:=1) rfl ?_;obtain⟨k,h1,h2⟩:=Eh5 l x hl;simp(disch:=omega)only[Hb5,h2,Ay,simprocAttr];simp[h1]
def Cl2 (r:Rec) (ts:List Int) (hl:ts.length≤1000000):S fx 1 [r.pv,L8 ts]=some [.b (!decide (r.typ∈ts))]:=by refine Hr3 (N:=1) rfl ?_;have h:=Aj5 ts r.typ hl;simp(disch:=omega)only[Hb6,tj,h,Az,simprocAttr]
def jb (g:List Rec) (ts:List Int) (hl:g.length≤1000000) (ht:ts.length≤1000000):S Q1 2 [B6 g,L8 ts]=some [.b (Ls g ts)]:=by
 refine Ht4 (N:=1) rfl ?_;have h:=Kr g fx [L8 ts] (fun r=> !decide (r.typ∈ts)) hl (fun r _=>Cl2 r ts ht);have e:(!(g.any fun r=> !decide (r.typ∈ts)))=Ls g ts:=by unfold Ls;rw[List.not_any_eq_all_not];simp
 rw[←e];generalize (g.any fun r=> !decide (r.typ∈ts))=b at*;simp(disch:=omega)only[Hc4,tj,Ct6,h,Az,simprocAttr]
def Ak7 (g:List Rec) (hl:g.length≤1000000):S vm 1 [B6 g]=some [.b (El3 g)]:=by
 obtain⟨N,hN⟩:∃N,N=g.length+2:=⟨_,rfl⟩;refine Ht5 (N:=N) rfl ?_;have key:Dt1.ev S N [B6 g]=some (if El3 g=true then .yld 0 [] else .ret [.b false]):=by
  cases g with
  |nil=>
   refine Gk 0 (fun _=>[.i .i64 1]) (fun _=> .yld 0 []) ?_ (by omega) (fun i hi=>absurd hi (by omega)) ⟨?_,rfl⟩
   ·simp(disch:=omega)only[Az,simprocAttr]
   ·have hlt:¬(1:Int)<(([]:List Rec).length:Int):=by simp
    simp(disch:=omega)only[Sq,hlt,Az,simprocAttr]
  |cons p r=>
   have hlr:(p::r).length=r.length+1:=rfl;have:=Es (fn:=S) (N:=N) (η:=[B6 (p::r)]) (id:=1) (init:=[.c (.i .i64 1)]) (body:=An4) r (fun i=>[.i .i64 ((i:Int)+1)]) (fun i l=>if(match (p::r)[i]? with|some q=>db q l|none=>true)=true then .yld 0 [] else .ret [.b false]) ?_ (by omega) (fun i c l hd hi hc=> ?_) ?_
   ·exact this
   ·simp(disch:=omega)only[Az,simprocAttr]
    try rfl
   ·obtain⟨q,hq⟩:∃q,(p::r)[i]? =some q:=⟨_,Bs (by rw[hlr];omega)⟩;have hc':(p::r)[i+1]? =some c:=by simpa using hc
    have e1:((i:Int)+1 - 1).toNat=i:=by omega
    have e2:((i:Int)+1).toNat=i+1:=by omega
    have hlt:(i:Int)+1<((p::r).length:Int):=by rw[hlr];omega
    have hsg:=Cg1 c.typ;rw[hq,hc'];generalize (p::r)=g' at*;have step:db q (c::l)=((!decide (c.typ=q.typ)||(!(decide (c.typ=6)||decide (c.typ=5)||decide (c.typ=39)) && (decide (c.typ=46)||decide (c.ttl=q.ttl)))) && db c l):=rfl;by_cases h1:c.typ=q.typ
    ·rcases Bm (decide (c.typ=6)||decide (c.typ=5)||decide (c.typ=39)) with h2|h2
     ·right;have er:db q (c::l)=false:=by rw[step,h2];simp[h1]
      rw[h2] at hsg;simp only[er,B5,if_false];refine⟨?_,rfl⟩;rw[h1] at hsg;simp(disch:=omega)only[Sq,hlt,e1,e2,hq,hc',h1,hsg,Az,simprocAttr]
     ·rw[h2] at hsg;rw[h2] at step;rw[h1] at hsg;by_cases h3:c.typ=46
      ·left;have er:db q (c::l)=db c l:=by rw[step];simp[h3]
       have h3':q.typ=46:=by rw[←h1];exact h3
       rw[h3'] at hsg;refine⟨?_,by simp only[er]⟩;simp(disch:=omega)only[Sq,hlt,e1,e2,hq,hc',h1,h3',hsg,Az,simprocAttr]
       try simp
      ·have h3':¬q.typ=46:=by rw[←h1];exact h3
       by_cases h4:c.ttl=q.ttl
       ·left;have er:db q (c::l)=db c l:=by rw[step];simp[h4]
        refine⟨?_,by simp only[er]⟩;simp(disch:=omega)only[Sq,hlt,e1,e2,hq,hc',h1,h3',h4,hsg,Az,simprocAttr]
        try simp
       ·right;have er:db q (c::l)=false:=by rw[step];simp[h1,h3',h4]
        simp only[er,B5,if_false];refine⟨?_,rfl⟩;simp(disch:=omega)only[Sq,hlt,e1,e2,hq,hc',h1,h3',h4,hsg,Az,simprocAttr]
    ·left;have er:db q (c::l)=db c l:=by rw[step];simp[h1]
     refine⟨?_,by simp only[er]⟩;simp(disch:=omega)only[Sq,hlt,e1,e2,hq,hc',h1,Az,simprocAttr]
     try simp
   ·have hlt:¬(r.length:Int)+1<((p::r).length:Int):=by rw[hlr];omega
    obtain⟨q,hq⟩:∃q,(p::r)[r.length]? =some q:=⟨_,Bs (by rw[hlr];omega)⟩;rw[hq];refine⟨?_,by simp[db,Out.goes]⟩;generalize (p::r)=g' at*;simp(disch:=omega)only[Sq,hlt,Az,simprocAttr];simp[db]
 rcases Bm (El3 g) with h|h
 ·rw[h,if_pos rfl] at key;rw[h];simp(disch:=omega)only[Sq,key,Az,simprocAttr]
 ·rw[h,if_neg (by simp)] at key;rw[h];simp(disch:=omega)only[Sq,key,Az,simprocAttr]
def Eh6 (a b:List Rec) (ha:a.length≤1000000) (hb:b.length≤1000000):S Df9 2 [B6 a,B6 b]=some [.b (decide (a=b))]:=by
 obtain⟨N,hN⟩:∃N,N=a.length+1:=⟨_,rfl⟩;refine Jd5 (N:=N) rfl ?_;by_cases hl:a.length=b.length
 ·have key:Gv8.ev S N [B6 a,B6 b]=some (if a.drop 0=b.drop 0 then .yld 0 [] else .ret [.b false]):=by
   refine Gk a.length (fun i=>[.i .i64 (i:Int)]) (fun i=>if a.drop i=b.drop i then .yld 0 [] else .ret [.b false]) rfl (by omega) (fun i hi=> ?_) ?_
   ·have h1:a[i]? =some a[i]:=Bs hi;have h2:b[i]? =some b[i]:=Bs (by omega);have d1:a.drop i=a[i]::a.drop (i+1):=Df hi;have d2:b.drop i=b[i]::b.drop (i+1):=Df (by omega);rw[d1,d2];generalize a[i]=x at*;generalize b[i]'(by omega)=y at*;have hlt:(i:Int)<(a.length:Int):=by omega
    by_cases h:x=y
    ·left;subst h;refine⟨?_,by simp⟩;simp(disch:=omega)only[Br2,hlt,h1,h2,Az,simprocAttr]
     try simp
    ·right;rw[if_neg (by simp[h])];refine⟨?_,rfl⟩;simp(disch:=omega)only[Br2,hlt,h1,h2,h,Az,simprocAttr]
   ·have hlt:¬(a.length:Int)<(a.length:Int):=by omega
    have e:a.drop a.length=b.drop a.length:=by rw[List.drop_length,hl,List.drop_length]
    rw[if_pos e];refine⟨?_,rfl⟩;simp(disch:=omega)only[Br2,hlt,Az,simprocAttr]
  have hl':(a.length:Int)=(b.length:Int):=by omega
  rw[F4,F4] at key;by_cases h:a=b
  ·rw[if_pos h] at key;have e:decide (a=b)=true:=by simp[h]
   rw[e];simp(disch:=omega)only[Br2,hl',key,Az,simprocAttr]
  ·rw[if_neg h] at key;have e:decide (a=b)=false:=by simp[h]
   rw[e];simp(disch:=omega)only[Br2,hl',key,Az,simprocAttr]
 ·have hl':¬(a.length:Int)=(b.length:Int):=by omega
  have e:decide (a=b)=false:=decide_eq_false fun q=>hl (by rw[q]);rw[e];simp(disch:=omega)only[Br2,hl',Az,simprocAttr]
end Go.X.G
/- Zones in the program: proper. -/
namespace Go.X.G
open Go Go.X
section
variable (o cut red:List UInt8) (g:List Rec) (x:Rec) (N:Nat)
def Bs7 (n:List UInt8):Bool:=decide (n[0]? =some 42)
def Jr6 (hx:g[0]? =some x) (hl:g.length≤1000000) (hn:x.name≠[]) (p4 p5 p6 p7 p8 p9 p10 p11 p12 p13:PV):
  Ez2.ev S N [.s o,B6 g,.s cut,.s red,p4,p5,p6,p7,p8,p9,p10,p11,p12,p13]=some (.ret [.b (!Bs7 x.name||(!Iq g 2 && !Iq g 39))]):=by
 have k2:=M2 g 2 hl;have k39:=M2 g 39 hl;obtain⟨c,hc⟩:∃c,x.name[0]? =some c:=⟨_,Bs (Ch.2 hn)⟩;unfold Bs7;rw[hc];by_cases h1:c=42
 ·have h1':(c.toNat:Int)=42:=by rw[h1];rfl
  rcases Bm (Iq g 2) with h2|h2
  ·rw[h2] at k2;simp(disch:=omega)only[Gf7,hx,hc,h1',k2,Az,simprocAttr];simp[h1,h2]
  ·rw[h2] at k2;simp(disch:=omega)only[Gf7,hx,hc,h1',k2,k39,Az,simprocAttr];simp[h1,h2]
 ·have h1':¬(c.toNat:Int)=42:=fun q=>h1 (UInt8.toNat_inj.1 (show c.toNat=42 by omega));simp(disch:=omega)only[Gf7,hx,hc,h1',Az,simprocAttr];simp[h1]
def Jr5 (hx:g[0]? =some x) (hl:g.length≤1000000) (hn:x.name≠[]) (p4 p5 p6 p7 p8 p9 p10:PV):
  Bl6.ev S N [.s o,B6 g,.s cut,.s red,p4,p5,p6,p7,p8,p9,p10]=some (.ret [.b ((if(!decide (x.name=o) && Iq g 2)=true then Ls g [2,43,47,46,1,28] else !Iq g 43) && (!Bs7 x.name||(!Iq g 2 && !Iq g 39)))]):=by
 have k2:=M2 g 2 hl;have k43:=M2 g 43 hl;have kd:S Q1 2 [B6 g,.l 1 [.i .i64 2,.i .i64 43,.i .i64 47,.i .i64 46,.i .i64 1,.i .i64 28]]=some [.b (Ls g [2,43,47,46,1,28])]:=jb g [2,43,47,46,1,28] hl (by decide);have hlit:K4 1 [.i .i64 2,.i .i64 43,.i .i64 47,.i .i64 46,.i .i64 1,.i .i64 28]=some (.l 1 [.i .i64 2,.i .i64 43,.i .i64 47,.i .i64 46,.i .i64 1,.i .i64 28]):=rfl;have t:=fun p11 p12 p13=>Jr6 o cut red g x N hx hl hn p4 p5 p6 p7 p8 p9 p10 p11 p12 p13;have x7:=Cb Bl6.eq_1;have x6:=Cb Ey2.eq_1;have x5:=Cb Ey3.eq_1;have x4:=Cb Ey5.eq_1;have x3:=Cb Ey9.eq_1;by_cases h0:x.name=o
 ·rcases Bm (Iq g 43) with h1|h1<;>rw[h1] at k43<;>simp(disch:=omega)only[x7,x6,x5,x4,x3,t,hx,h0,k43,hlit,Az,simprocAttr]<;>simp[h1]
 ·rcases Bm (Iq g 2) with h2|h2
  ·rw[h2] at k2;rcases Bm (Ls g [2,43,47,46,1,28]) with h3|h3<;>rw[h3] at kd<;>simp(disch:=omega)only[x7,x6,x5,x4,x3,t,hx,h0,k2,kd,hlit,Az,simprocAttr]<;>simp[h0,h2,h3]
  ·rw[h2] at k2;rcases Bm (Iq g 43) with h1|h1<;>rw[h1] at k43<;>simp(disch:=omega)only[x7,x6,x5,x4,x3,t,hx,h0,k2,k43,hlit,Az,simprocAttr]<;>simp[h0,h1,h2]
def Iw7 (hx:g[0]? =some x) (hl:g.length≤1000000) (hn:x.name≠[]) (p4 p5 p6 p7:PV):
  ov.ev S N [.s o,B6 g,.s cut,.s red,p4,p5,p6,p7]=some (.ret [.b ((!Iq g 5||Ls g [5,46,47]) && decide (red=[]) && (decide (cut=[])||Ls g [1,28]) && ((if(!decide (x.name=o) && Iq g 2)=true then Ls g [2,43,47,46,1,28] else !Iq g 43) && (!Bs7 x.name||(!Iq g 2 && !Iq g 39))))]):=by
 have k5:=M2 g 5 hl;have kc:S Q1 2 [B6 g,.l 1 [.i .i64 5,.i .i64 46,.i .i64 47]]=some [.b (Ls g [5,46,47])]:=jb g [5,46,47] hl (by decide);have ka:S Q1 2 [B6 g,.l 1 [.i .i64 1,.i .i64 28]]=some [.b (Ls g [1,28])]:=jb g [1,28] hl (by decide);have hlit1:K4 1 [.i .i64 5,.i .i64 46,.i .i64 47]=some (.l 1 [.i .i64 5,.i .i64 46,.i .i64 47]):=rfl;have hlit2:K4 1 [.i .i64 1,.i .i64 28]=some (.l 1 [.i .i64 1,.i .i64 28]):=rfl;have t:=fun p8 p9 p10=>Jr5 o cut red g x N hx hl hn p4 p5 p6 p7 p8 p9 p10;generalize ((if(!decide (x.name=o) && Iq g 2)=true then Ls g [2,43,47,46,1,28] else !Iq g 43) && (!Bs7 x.name||(!Iq g 2 && !Iq g 39)))=B at*;have x13:=Cb ov.eq_1;have x12:=Cb Al7.eq_1;have x11:=Cb Al8.eq_1;have x10:=Cb Al9.eq_1;have x9:=Cb Ex7.eq_1;have x8:=Cb Ex8.eq_1;rcases Bm (Iq g 5) with h1|h1<;>rw[h1] at k5
 ·rcases Bm (Ls g [5,46,47]) with h2|h2<;>rw[h2] at kc
  ·by_cases h3:red=[]
   ·replace h3:=eq_true h3;by_cases h4:cut=[]
    ·replace h4:=eq_true h4;simp(disch:=omega)only[x13,x12,x11,x10,x9,x8,t,k5,kc,h3,h4,hlit1,hlit2,Az,simprocAttr]
     (clear x13 x12 x11 x10 x9 x8 t;simp[*])
    ·rcases Bm (Ls g [1,28]) with h5|h5<;>rw[h5] at ka<;>simp(disch:=omega)only[x13,x12,x11,x10,x9,x8,t,k5,kc,ka,h3,h4,hlit1,hlit2,Az,simprocAttr]<;>(clear x13 x12 x11 x10 x9 x8 t;simp[*])
   ·simp(disch:=omega)only[x13,x12,x11,x10,x9,x8,t,k5,kc,h3,hlit1,hlit2,Az,simprocAttr]
    (clear x13 x12 x11 x10 x9 x8 t;simp[*])
  ·simp(disch:=omega)only[x13,x12,x11,k5,kc,hlit1,hlit2,Az,simprocAttr]
   (clear x13 x12 x11 x10 x9 x8 t;simp[*])
 ·by_cases h3:red=[]
  ·replace h3:=eq_true h3;by_cases h4:cut=[]
   ·replace h4:=eq_true h4;simp(disch:=omega)only[x13,x12,x11,x10,x9,x8,t,k5,h3,h4,hlit1,hlit2,Az,simprocAttr]
    (clear x13 x12 x11 x10 x9 x8 t;simp[*])
   ·rcases Bm (Ls g [1,28]) with h5|h5<;>rw[h5] at ka<;>simp(disch:=omega)only[x13,x12,x11,x10,x9,x8,t,k5,ka,h3,h4,hlit1,hlit2,Az,simprocAttr]<;>(clear x13 x12 x11 x10 x9 x8 t;simp[*])
  ·simp(disch:=omega)only[x13,x12,x11,x10,x9,x8,t,k5,h3,hlit1,hlit2,Az,simprocAttr]
   (clear x13 x12 x11 x10 x9 x8 t;simp[*])
end
def Br1 (o cut red:List UInt8) (g:List Rec) (hg:g≠[]) (hl:g.length≤1000000) (ho:o.length≤9223372036854775807) (hn:(nmG g).length≤9223372036854775807):
  S Df7 4 [.s o,B6 g,.s cut,.s red]=some [.b (propG o g (decide (cut≠[])) (decide (red≠[])))]:=by
 obtain⟨x,r,rfl⟩:∃x r,g=x::r:=by
  cases g with
  |nil=>exact absurd rfl hg
  |cons x r=>exact⟨x,r,rfl⟩
 have hx:(x::r)[0]? =some x:=rfl;have hnm:nmG (x::r)=x.name:=rfl;rw[hnm] at hn;unfold propG;rw[hnm];generalize (x::r)=g at*;obtain⟨N,hN⟩:∃N,N=1:=⟨_,rfl⟩;refine Jd3 (N:=N) rfl ?_;have hu:=Gv x.name o hn ho;have k6:=M2 g 6 hl;have k2:=M2 g 2 hl;have ku:=Ak7 g hl;have xt:=Cb Cr3.eq_1;have x18:=Cb Ah8.eq_1;have x17:=Cb Al0.eq_1;have x16:=Cb Al1.eq_1;have x15:=Cb Al3.eq_1;have x14:=Cb Al4.eq_1;have e1:decide (cut≠[])= !decide (cut=[]):=by simp
 have e2:decide (red≠[])= !decide (red=[]):=by simp
 rw[e1,e2,Bool.not_not,Bool.not_not];rcases Bm (under x.name o) with h0|h0<;>rw[h0] at hu
 ·have hne:x.name≠[]:=Ak6 (C4.1 h0).1;have t:=fun p4 p5 p6 p7=>Iw7 o cut red g x N hx hl hne p4 p5 p6 p7;have eS:Bs7 x.name=decide (x.name[0]? =some 42):=rfl;rw[eS] at t;generalize hA:(!Iq g 5||Ls g [5,46,47])=A at*;generalize hB:(if(!decide (x.name=o) && Iq g 2)=true then Ls g [2,43,47,46,1,28] else !Iq g 43)=B at*;generalize hC:(!decide (x.name[0]? =some 42)||(!Iq g 2 && !Iq g 39))=C at*;generalize decide (red=[])=D at*;generalize (decide (cut=[])||Ls g [1,28])=E' at*;clear hB hC hA;rcases Bm (Iq g 6) with h6|h6<;>rw[h6] at k6
  ·by_cases hno:x.name=o
   ·replace hno:=eq_true hno;rcases Bm (El3 g) with h1|h1<;>rw[h1] at ku
    ·rcases Bm (Iq g 2) with h2|h2<;>rw[h2] at k2
     ·simp(disch:=omega)only[xt,x18,x17,x16,x15,x14,t,hx,hu,k6,hno,ku,k2,Az,simprocAttr]
      (clear xt x18 x17 x16 x15 x14 t;simp[*,Bool.and_assoc])
     ·simp(disch:=omega)only[xt,x18,x17,x16,x15,x14,t,hx,hu,k6,hno,ku,k2,Az,simprocAttr]
      (clear xt x18 x17 x16 x15 x14 t;simp[*])
    ·simp(disch:=omega)only[xt,x18,x17,x16,x15,x14,t,hx,hu,k6,hno,ku,Az,simprocAttr]
     (clear xt x18 x17 x16 x15 x14 t;simp[*])
   ·simp(disch:=omega)only[xt,x18,x17,x16,x15,x14,t,hx,hu,k6,hno,Az,simprocAttr]
    (clear xt x18 x17 x16 x15 x14 t;simp[*])
  ·by_cases hno:x.name=o
   ·replace hno:=eq_true hno;simp(disch:=omega)only[xt,x18,x17,x16,x15,x14,t,hx,hu,k6,hno,Az,simprocAttr]
    (clear xt x18 x17 x16 x15 x14 t;simp[*])
   ·rcases Bm (El3 g) with h1|h1<;>rw[h1] at ku
    ·simp(disch:=omega)only[xt,x18,x17,x16,x15,x14,t,hx,hu,k6,hno,ku,Az,simprocAttr]
     (clear xt x18 x17 x16 x15 x14 t;simp[*,Bool.and_assoc])
    ·simp(disch:=omega)only[xt,x18,x17,x16,x15,x14,t,hx,hu,k6,hno,ku,Az,simprocAttr]
     (clear xt x18 x17 x16 x15 x14 t;simp[*])
 ·simp(disch:=omega)only[xt,x18,x17,x16,x15,x14,hx,hu,Az,simprocAttr]
  (clear xt x18 x17 x16 x15 x14;simp[*])
end Go.X.G
/- Zones in the program: Check and New. -/
namespace Go.X.G
open Go Go.X
def Ih (gs:List (List Rec)):PV:= .l 1 (gs.map B6)
def Tv (l:List (List Rec)):Hc (Ih l)=some (.i .i64 (l.length:Int)):=by simp[Ih,Hc]
def G0 (l:List (List Rec)) (k:IntKind) (z:Int) (h:0≤z):I7 1 (Ih l) (.i k z)=(l[z.toNat]?).map B6:=by simp[Ih,Zp _ _ _ _ h]
def Dn2 (x:List Rec):K4 1 [B6 x]=some (Ih [x]):=rfl
def zh (l:List (List Rec)) (x:List Rec) (h:l.length+1≤1073741824):Jn 1 (Ih l) (Ih [x])=some (Ih (l++[x])):=by have:=Vr 1 (l.map B6) [B6 x] (by simpa using h);simpa [Ih] using this
def Gm3 {α:Type} (l:List α) (s i:Nat) (c:α) (h:l[i]? =some c) (hs:s≤i):sl l s (i+1)=sl l s i++[c]:=by unfold sl;have hi:=(Bp.1 h).1;rw[Dm,h,Ly (by rw[Cw];omega)];rfl
def Ek7 (l:List Rec) (hl:l.length≤1000000):S Df8 1 [B6 l]=some [Ih (grp l)]:=by
 obtain⟨N,hN⟩:∃N,N=l.length+1:=⟨_,rfl⟩;refine Jd4 (N:=N) rfl ?_;have key:Gv7.ev S N [B6 l]=some (.yld 0 [Ih ([]++cr (sl l 0 0) l)]):=by
  refine D7 l (fun i (g:List (List Rec)×Nat)=>[Ih g.1,.i .i64 (g.2:Int),.i .i64 (i:Int)]) (fun i g r=> .yld 0 [Ih (g.1++cr (sl l g.2 i) r)]) (fun i g=>g.2≤i∧g.1.length≤i) ([],0) ?_ (by simp) (by omega) (fun i g c r hd hi hc hI=> ?_) (fun g hI=> ?_)
  ·rfl
  ·left;obtain⟨out,st⟩:=g;obtain⟨hI1,hI2⟩:=hI;simp only at hI1 hI2 ⊢;have hlt:(i:Int)<(l.length:Int):=by omega
   have e1:((i:Int)+1).toNat=i+1:=by omega
   have e2:(i:Int).toNat=i:=by omega
   have e3:(st:Int).toNat=st:=by omega
   have hsl:=Gm3 l st i c hc hI1;have hsl2:List.drop st (List.take (i+1) l)=sl l st i++[c]:=hsl;have hsl3:sl l st st=[]:=by unfold sl;rw[List.drop_eq_nil_iff,Cw];omega
   have hsl4:sl l (i+1) (i+1)=[]:=by unfold sl;rw[List.drop_eq_nil_iff,Cw];omega
   have hr:r=l.drop (i+1):=by have:=congrArg List.tail hd;simpa using this.symm
   by_cases hc2:(match r with|[]=>true|y::_=> !decide (y.name=c.name))=true
   ·refine⟨(out++[sl l st i++[c]],i+1),?_,⟨by simp,by simp;omega⟩,?_⟩
    ·cases r with
     |nil=>
      have hend:(i:Int)+1=(l.length:Int):=by have:=congrArg List.length hr;simp at this;omega
      simp only;simp(disch:=omega)only[Cl6,hlt,hend.symm,e1,e2,e3,hc,hsl2,Dn2,zh,Az,simprocAttr]
      try (congr 3;omega)
     |cons y r'=>
      have hy:l[i+1]? =some y:=by have:=congrArg (fun q=>q[0]?) hr;simpa [Cl] using this.symm
      have hyl:=(Bp.1 hy).1;have hend:¬(i:Int)+1=(l.length:Int):=by omega
      have hyc:¬y.name=c.name:=by simpa using hc2
      simp only;simp(disch:=omega)only[Cl6,hlt,hend,e1,e2,e3,hc,hy,hyc,hsl2,Dn2,zh,Az,simprocAttr]
      try congr 3
    ·have eg:cr (sl l st i) (c::r)=(sl l st i++[c])::cr [] r:=by
      cases r with
      |nil=>rfl
      |cons y r'=>rw[cr,if_pos hc2]
     simp only[eg,hsl4];simp
   ·refine⟨(out,st),?_,⟨by simp;omega,by simp;omega⟩,?_⟩
    ·cases r with
     |nil=>simp at hc2
     |cons y r'=>
      have hy:l[i+1]? =some y:=by have:=congrArg (fun q=>q[0]?) hr;simpa [Cl] using this.symm
      have hyl:=(Bp.1 hy).1;have hend:¬(i:Int)+1=(l.length:Int):=by omega
      have hyc:y.name=c.name:=by simpa using hc2
      simp only;simp(disch:=omega)only[Cl6,hlt,hend,e1,e2,e3,hc,hy,hyc,Az,simprocAttr]
      try rfl
    ·have eg:cr (sl l st i) (c::r)=cr (sl l st i++[c]) r:=by
      cases r with
      |nil=>simp at hc2
      |cons y r'=>rw[cr,if_neg hc2]
     simp only[eg,hsl]
  ·have hlt:¬(l.length:Int)<(l.length:Int):=by omega
   refine⟨?_,rfl⟩;simp(disch:=omega)only[Cl6,hlt,Az,simprocAttr];simp[cr]
 have e:[]++cr (sl l 0 0) l=grp l:=by simp[sl,grp]
 rw[e] at key;generalize grp l=gs at*;simp(disch:=omega)only[Cl6,key,Az,simprocAttr]
def Cd9 (o:List UInt8):List (List Rec)→List UInt8→List UInt8→Bool→Option Bool
 |[],_,_,soa=>some soa
 |g::gs,cut,red,soa=>
  if propG o g (decide (F2 (nmG g) cut≠[])) (decide (F2 (nmG g) red≠[]))=true then
   Cd9 o gs (if F2 (nmG g) cut=[]∧nmG g≠o∧Iq g 2=true then nmG g else F2 (nmG g) cut) (if Iq g 39=true then nmG g else F2 (nmG g) red) (soa||decide (nmG g=o))
  else none
def Ex4 (o:List UInt8):∀(gs:List (List Rec)) (cut red:List UInt8) (soa:Bool),Ag1 o gs cut red soa=decide (Cd9 o gs cut red soa=some true)
 |[],_,_,soa=>by simp[Ag1,Cd9]
 |g::gs,cut,red,soa=>by
  simp only[Ag1,Cd9];split
  ·exact Ex4 o gs _ _ _
  ·simp
def Jv0:Option Bool→Out
 |some b=> .yld 0 [.b b]
 |none=> .ret [.i .i64 13]
section
variable (z:Zone) (g:List Rec) (gs:List (List Rec)) (x:Rec) (N:Nat) (i:Nat) (cut red:List UInt8) (soa:Bool)
def Kh6 (hi:gs[i]? =some g) (hx:g[0]? =some x) (hxl:x.name.length≤9223372036854775807) (hcl:cut.length≤9223372036854775807) (p1 p2 p3 p4 p5:PV):
  ∃p11,aw.ev S N [z.pv,p1,p2,p3,p4,p5,Ih gs,.s cut,.s red,.b soa,.i .i64 (i:Int)]=ax.ev S N [z.pv,p1,p2,p3,p4,p5,Ih gs,.s cut,.s red,.b soa,.i .i64 (i:Int),p11,.s (F2 x.name cut)]:=by
 have x17:=Cb aw.eq_1;have x16:=Cb Al2.eq_1;have x0:=Cb Eb1.eq_1;have hu:=Gv x.name cut hxl hcl;have ei:(i:Int).toNat=i:=by omega
 by_cases h1:cut=[]
 ·refine⟨.u,?_⟩;have e:F2 x.name cut=cut:=by unfold F2;simp[h1]
  rw[e];replace h1:=eq_true h1;simp(disch:=omega)only[x17,x16,x0,h1,hi,hx,ei,G0,Az,simprocAttr]
 ·rcases Bm (under x.name cut) with h2|h2<;>rw[h2] at hu
  ·refine⟨.b true,?_⟩;have e:F2 x.name cut=cut:=by unfold F2;simp[h2]
   rw[e];simp(disch:=omega)only[x17,x16,x0,h1,hu,hi,hx,ei,G0,Az,simprocAttr]
  ·refine⟨.b false,?_⟩;have e:F2 x.name cut=[]:=by unfold F2;simp[h1,h2]
   rw[e];simp(disch:=omega)only[x17,x16,x0,h1,hu,hi,hx,ei,G0,Az,simprocAttr]
def Kh5 (hi:gs[i]? =some g) (hx:g[0]? =some x) (hxl:x.name.length≤9223372036854775807) (hrl:red.length≤9223372036854775807) (p1 p2 p3 p4 p5 p11 p12:PV):
  ∃p13,ax.ev S N [z.pv,p1,p2,p3,p4,p5,Ih gs,.s cut,.s red,.b soa,.i .i64 (i:Int),p11,p12]=ow.ev S N [z.pv,p1,p2,p3,p4,p5,Ih gs,.s cut,.s red,.b soa,.i .i64 (i:Int),p11,p12,p13,.s (F2 x.name red)]:=by
 have x15:=Cb ax.eq_1;have x14:=Cb Al5.eq_1;have x1:=Cb Ez5.eq_1;have hu:=Gv x.name red hxl hrl;have ei:(i:Int).toNat=i:=by omega
 by_cases h1:red=[]
 ·refine⟨.u,?_⟩;have e:F2 x.name red=red:=by unfold F2;simp[h1]
  rw[e];replace h1:=eq_true h1;simp(disch:=omega)only[x15,x14,x1,h1,hi,hx,ei,G0,Az,simprocAttr]
 ·rcases Bm (under x.name red) with h2|h2<;>rw[h2] at hu
  ·refine⟨.b true,?_⟩;have e:F2 x.name red=red:=by unfold F2;simp[h2]
   rw[e];simp(disch:=omega)only[x15,x14,x1,h1,hu,hi,hx,ei,G0,Az,simprocAttr]
  ·refine⟨.b false,?_⟩;have e:F2 x.name red=[]:=by unfold F2;simp[h1,h2]
   rw[e];simp(disch:=omega)only[x15,x14,x1,h1,hu,hi,hx,ei,G0,Az,simprocAttr]
def Kh4 (hi:gs[i]? =some g) (hx:g[0]? =some x) (hnm:nmG g=x.name) (hg:g≠[]) (hl:g.length≤1000000) (hil:i≤1000000) (hxl:x.name.length≤9223372036854775807) (hzl:z.origin.length≤9223372036854775807) (cu re:List UInt8) (p1 p2 p3 p4 p5 p7 p8 p11 p13:PV):
  ow.ev S N [z.pv,p1,p2,p3,p4,p5,Ih gs,p7,p8,.b soa,.i .i64 (i:Int),p11,.s cu,p13,.s re]=
   some (if propG z.origin g (decide (cu≠[])) (decide (re≠[]))=true then .yld 1 [.s (if cu=[]∧x.name≠z.origin∧Iq g 2=true then x.name else cu),.s (if Iq g 39=true then x.name else re),.b (soa||decide (x.name=z.origin)),.i .i64 ((i:Int)+1)] else .ret [.i .i64 13]):=by
 have hp:=Br1 z.origin cu re g hg hl hzl (by rw[hnm];exact hxl);have k2:=M2 g 2 hl;have k39:=M2 g 39 hl;have ei:(i:Int).toNat=i:=by omega
 generalize propG z.origin g (decide (cu≠[])) (decide (re≠[]))=P at*;cases P
 ·simp(disch:=omega)only[X6,hp,hi,hx,ei,G0,Az,simprocAttr]
  try simp
 ·by_cases h1:cu=[]
  ·by_cases h2:x.name=z.origin
   ·rcases Bm (Iq g 39) with h3|h3<;>rw[h3] at k39
    ·cases soa<;>(have h1':=eq_true h1;have h2':=eq_true h2;simp(disch:=omega)only[X6,hp,hi,hx,ei,h1',h2',k39,G0,Az,simprocAttr];simp[h2,h3])
    ·cases soa<;>(have h1':=eq_true h1;have h2':=eq_true h2;simp(disch:=omega)only[X6,hp,hi,hx,ei,h1',h2',k39,G0,Az,simprocAttr];simp[h2,h3])
   ·rcases Bm (Iq g 2) with h4|h4<;>rw[h4] at k2
    ·rcases Bm (Iq g 39) with h3|h3<;>rw[h3] at k39
     ·cases soa<;>(have h1':=eq_true h1;simp(disch:=omega)only[X6,hp,hi,hx,ei,h1',h2,k2,k39,G0,Az,simprocAttr];simp[h1,h2,h3,h4])
     ·cases soa<;>(have h1':=eq_true h1;simp(disch:=omega)only[X6,hp,hi,hx,ei,h1',h2,k2,k39,G0,Az,simprocAttr];simp[h1,h2,h3,h4])
    ·rcases Bm (Iq g 39) with h3|h3<;>rw[h3] at k39
     ·cases soa<;>(have h1':=eq_true h1;simp(disch:=omega)only[X6,hp,hi,hx,ei,h1',h2,k2,k39,G0,Az,simprocAttr];simp[h2,h3,h4])
     ·cases soa<;>(have h1':=eq_true h1;simp(disch:=omega)only[X6,hp,hi,hx,ei,h1',h2,k2,k39,G0,Az,simprocAttr];simp[h2,h3,h4])
  ·by_cases h2:x.name=z.origin
   ·rcases Bm (Iq g 39) with h3|h3<;>rw[h3] at k39
    ·cases soa<;>(have h2':=eq_true h2;simp(disch:=omega)only[X6,hp,hi,hx,ei,h1,h2',k39,G0,Az,simprocAttr];simp[h1,h2,h3])
    ·cases soa<;>(have h2':=eq_true h2;simp(disch:=omega)only[X6,hp,hi,hx,ei,h1,h2',k39,G0,Az,simprocAttr];simp[h1,h2,h3])
   ·rcases Bm (Iq g 39) with h3|h3<;>rw[h3] at k39
    ·cases soa<;>(simp(disch:=omega)only[X6,hp,hi,hx,ei,h1,h2,k39,G0,Az,simprocAttr];simp[h1,h2,h3])
    ·cases soa<;>(simp(disch:=omega)only[X6,hp,hi,hx,ei,h1,h2,k39,G0,Az,simprocAttr];simp[h1,h2,h3])
end
def Bg4:∀(n:Nat) (l:List Rec),l.length≤n→(∀g∈grp l,g≠[]∧∀x∈g,x∈l)∧(grp l).length≤l.length
 |_,[],_=>by simp[grp,cr]
 |0,x::r,hn=>by simp at hn
 |n+1,x::r,hn=>by
  obtain⟨g,l',h1,h2,h3,h4,h5⟩:=Xb x r;have hlen:=congrArg List.length h1;have hg0:0<g.length:=Ch.2 h2;simp only[B0,Cj] at hlen hn;obtain⟨i1,i2⟩:=Bg4 n l' (by omega);rw[h5];refine⟨fun g' hg'=> ?_,by simp;omega⟩;rcases Ck.1 hg' with rfl|hg'
  ·exact⟨h2,fun w hw=>by rw[h1];exact D6 _ hw⟩
  ·obtain⟨j1,j2⟩:=i1 g' hg';exact⟨j1,fun w hw=>by rw[h1];exact Dv _ (j2 w hw)⟩
def Ej5 (p:Prop) [Decidable p] (a b:List UInt8) (ha:a.length≤9223372036854775807) (hb:b.length≤9223372036854775807):(if p then a else b).length≤9223372036854775807:=by split<;>assumption
def Kd3 (z:Zone) (hz:z.wf) (hl:z.recs.length≤1000000) (N:Nat) (hN:z.recs.length+1<N) (p1 p2 p3 p4 p5:PV):
  Gx9.ev S N [z.pv,p1,p2,p3,p4,p5,Ih (grp z.recs)]=some (Jv0 (Cd9 z.origin (grp z.recs) [] [] false)):=by
 obtain⟨gf1,gf2⟩:=Bg4 z.recs.length z.recs (B7 _);have hgl:∀g∈grp z.recs,g.length≤1000000:=fun g hg=>by
  have:∀(n:Nat) (l:List Rec),l.length≤n→∀g∈grp l,g.length≤l.length:=by
   intro n
   induction n with
   |zero=>intro l hl g hg;cases l with
    |nil=>simp[grp,cr] at hg
    |cons x r=>simp at hl
   |succ n ih=>
    intro l hl g hg;cases l with
    |nil=>simp[grp,cr] at hg
    |cons x r=>
     obtain⟨g0,l',h1,h2,h3,h4,h5⟩:=Xb x r;have hlen:=congrArg List.length h1;have hg0:0<g0.length:=Ch.2 h2;simp only[B0,Cj] at hlen hl;rw[h5] at hg;rcases Ck.1 hg with rfl|hg
     ·simp only[Cj];omega
     ·have:=ih l' (by omega) g hg;simp only[Cj];omega
  exact Dt (this _ _ (B7 _) g hg) hl
 generalize grp z.recs=gs at*;have:=D7 (fn:=S) (N:=N) (η:=[z.pv,p1,p2,p3,p4,p5,Ih gs]) (id:=1) (init:=[.c (.s []),.c (.s []),.c (.b false),.c (.i .i64 0)]) (body:=ir) gs (fun i (a:List UInt8×List UInt8×Bool)=>[.s a.1,.s a.2.1,.b a.2.2,.i .i64 (i:Int)]) (fun i a r=>Jv0 (Cd9 z.origin r a.1 a.2.1 a.2.2)) (fun i a=>a.1.length≤9223372036854775807∧a.2.1.length≤9223372036854775807) ([],[],false) ?_ (by simp) (by omega) (fun i a g r hd hi hc hI=> ?_) (fun a hI=> ?_)
 ·exact this
 ·simp(disch:=omega)only[Az,simprocAttr]
  try rfl
 ·obtain⟨cut,red,soa⟩:=a;obtain⟨hI1,hI2⟩:=hI;simp only at hI1 hI2 ⊢;have hgm:=Cq hc;obtain⟨hg,hgz⟩:=gf1 g hgm;obtain⟨x,hx,hxm⟩:∃x,g[0]? =some x∧x∈g:=by
   cases g with
   |nil=>exact absurd rfl hg
   |cons x r=>exact⟨x,rfl,.head _⟩
  have hnm:nmG g=x.name:=by
   cases g with
   |nil=>exact absurd rfl hg
   |cons y r=>simp at hx;rw[←hx];rfl
  have hxl:x.name.length≤9223372036854775807:=(hz.recs.2 x (hgz x hxm)).name;have hzl:z.origin.length≤9223372036854775807:=hz.origin;obtain⟨p11,kA⟩:=Kh6 z g gs x N i cut red soa hc hx hxl hI1 p1 p2 p3 p4 p5;have hku:(F2 x.name cut).length≤9223372036854775807:=by unfold F2;split<;>simp[hI1]
  have hkr:(F2 x.name red).length≤9223372036854775807:=by unfold F2;split<;>simp[hI2]
  obtain⟨p13,kB⟩:=Kh5 z g gs x N i cut red soa hc hx hxl hI2 p1 p2 p3 p4 p5 p11 (.s (F2 x.name cut));have kC:=Kh4 z g gs x N i soa hc hx hnm hg (hgl g hgm) (by omega) hxl hzl (F2 x.name cut) (F2 x.name red) p1 p2 p3 p4 p5 (.s cut) (.s red) p11 p13;have kall:=kA.trans (kB.trans kC);have hlt:(i:Int)<(gs.length:Int):=by omega
  have hb:ir.ev S N [z.pv,p1,p2,p3,p4,p5,Ih gs,.s cut,.s red,.b soa,.i .i64 (i:Int)]=aw.ev S N [z.pv,p1,p2,p3,p4,p5,Ih gs,.s cut,.s red,.b soa,.i .i64 (i:Int)]:=by have xb:=Cb ir.eq_1;simp(disch:=omega)only[xb,hlt,Tv,Az,simprocAttr]
  have hb2:=hb.trans kall;have estep:Cd9 z.origin (g::r) cut red soa=if propG z.origin g (decide (F2 x.name cut≠[])) (decide (F2 x.name red≠[]))=true then Cd9 z.origin r (if F2 x.name cut=[]∧x.name≠z.origin∧Iq g 2=true then x.name else F2 x.name cut) (if Iq g 39=true then x.name else F2 x.name red) (soa||decide (x.name=z.origin)) else none:=by simp only[Cd9,hnm]
  by_cases hP:propG z.origin g (decide (F2 x.name cut≠[])) (decide (F2 x.name red≠[]))=true
  ·left;rw[if_pos hP] at hb2 estep;refine⟨(if F2 x.name cut=[]∧x.name≠z.origin∧Iq g 2=true then x.name else F2 x.name cut,if Iq g 39=true then x.name else F2 x.name red,soa||decide (x.name=z.origin)),hb2,⟨?_,?_⟩,?_⟩
   ·exact Ej5 _ _ _ hxl hku
   ·exact Ej5 _ _ _ hxl hkr
   ·rw[estep]
  ·right;rw[if_neg hP] at hb2 estep;rw[estep];exact⟨hb2,rfl⟩
 ·have hlt:¬(gs.length:Int)<(gs.length:Int):=by omega
  have xb:=Cb ir.eq_1;refine⟨?_,rfl⟩;simp(disch:=omega)only[xb,hlt,Tv,Az,simprocAttr];rfl
def Ar1 (z:Zone) (hz:z.wf):I9 z=if vld z.origin=false then 2 else if 2048<z.recs.length∨Wc z.recs=true then 9 else if z.recs.all Qf=false then 5 else if z.recs≠sortR z.recs then 7 else if Cd9 z.origin (grp z.recs) [] [] false=some true then 0 else 13:=by
 unfold I9;rcases Bm (vld z.origin) with h1|h1
 ·have n1:¬vld z.origin=false:=by simp[h1]
  rw[if_neg n1,if_neg n1];by_cases h2:2048<z.recs.length
  ·rw[if_pos h2,if_pos (.inl h2)]
  ·rw[if_neg h2];have hcr:=Cd4 z.recs;rcases Bm (z.recs.all fun r=>decide ((findR z.recs r.name r.typ).length≤64)) with h3|h3
   ·rw[h3] at hcr;have hn2:¬(2048<z.recs.length∨Wc z.recs=true):=by
     rintro (q|q)
     ·exact h2 q
     ·rw[hcr] at q;cases q
    have n3:¬(z.recs.all fun r=>decide ((findR z.recs r.name r.typ).length≤64))=false:=by simp only[h3];simp
    rw[if_neg n3,if_neg hn2];rcases Bm (z.recs.all Qf) with h4|h4
    ·have n4:¬z.recs.all Qf=false:=by simp only[h4];simp
     rw[if_neg n4,if_neg n4];by_cases h5:z.recs=sortR z.recs
     ·have n5:¬z.recs≠sortR z.recs:=by simpa using h5
      rw[if_neg n5,if_neg n5];have hv:∀r∈z.recs,Qf r=true:=C0.1 h4;have hr:z.recs.Pairwise ltR:=by rw[h5];exact(V6 z.recs hv).1
      have hk:=Bl4 z (fun r h=>qd (hv r h)) (Dj4 hr) z.recs.length [] z.recs [] [] false (B7 _) rfl (by simp) ⟨by simp,by simp,by simp,by simp⟩;rw[Ex4,decide_eq_true_eq] at hk;have hk2:=Dq0 z hv hr;have hk3:Cd9 z.origin (grp z.recs) [] [] false=some true↔(findR z.recs z.origin 6).length=1∧bw z.recs z.origin 2=true∧∀r∈z.recs,M9 z r=true:=by rw[hk,←hk2];simp
      by_cases h6:Cd9 z.origin (grp z.recs) [] [] false=some true
      ·obtain⟨a,b,c⟩:=hk3.1 h6;have c':z.recs.all (M9 z)=true:=C0.2 c;have n7:¬((findR z.recs z.origin 6).length≠1∨bw z.recs z.origin 2=false):=by simp[a,b]
       have n8:¬z.recs.all (M9 z)=false:=by simp only[c'];simp
       rw[if_pos h6,if_neg n7,if_neg n8]
      ·rw[if_neg h6];by_cases h7:(findR z.recs z.origin 6).length≠1∨bw z.recs z.origin 2=false
       ·rw[if_pos h7]
       ·rw[if_neg h7];by_cases h8:z.recs.all (M9 z)=false
        ·rw[if_pos h8]
        ·exfalso;simp only[not_or,ne_eq,H0,H1] at h7 h8;exact h6 (hk3.2 ⟨h7.1,h7.2,C0.1 h8⟩)
     ·rw[if_pos h5,if_pos h5]
    ·rw[if_pos h4,if_pos h4]
   ·rw[h3] at hcr;rw[if_pos h3,if_pos (.inr hcr)]
 ·rw[if_pos h1,if_pos h1]
def Eh9 (z:Zone) (hz:z.wf) (hl:z.recs.length≤1000000):S Dh4 1 [z.pv]=some [.i .i64 (I9 z)]:=by
 obtain⟨N,hN⟩:∃N,N=z.recs.length+2:=⟨_,rfl⟩;refine Jm2 (N:=N) rfl ?_;rw[Ar1 z hz];have hzl:z.origin.length≤9223372036854775807:=hz.origin;have k1:=Dc z.origin hzl;have k2:=Cd3 z.recs hl;have k3:=Kr z.recs Dg1 [] (fun r=> !Qf r) hl (fun r hr=>by refine Jd7 (N:=1) rfl ?_;have:=Eg0 r (hz.recs.2 r hr);simp(disch:=omega)only[Jw9,this,Az,simprocAttr])
 have e3:(z.recs.any fun r=> !Qf r)= !z.recs.all Qf:=by rw[List.not_all_eq_any_not]
 rw[e3] at k3;have k4:=Bp9 z.recs hz.recs.2 hl;have hsl:(sortR z.recs).length≤1000000:=by obtain⟨r,h1,h2,_⟩:=T7 Jj5 (by rw[Fh3];exact Jq3) z.recs hz.recs.2 hl;rw[Fh3] at h1;have:=ny eqF r;rw[Bb0 h1] at this;omega
 have k5:=Eh6 z.recs (sortR z.recs) hl hsl;have k6:=Ek7 z.recs hl;have k7:=fun p1 p2 p3 p4 p5=>Kd3 z hz hl N (by omega) p1 p2 p3 p4 p5;have xt:=Cb Cr4.eq_1;have x28:=Cb Ag6.eq_1;have x27:=Cb Ag7.eq_1;have x26:=Cb Ag8.eq_1;have x25:=Cb Ag9.eq_1;have x24:=Cb Ah0.eq_1;have x23:=Cb Ah1.eq_1;have x22:=Cb Ah3.eq_1;have x21:=Cb Ah4.eq_1;have x20:=Cb Ah6.eq_1;have x19:=Cb Ah7.eq_1;have x18:=Cb Ah9.eq_1;rcases Bm (vld z.origin) with h1|h1
 ·have n1:¬vld z.origin=false:=by simp[h1]
  rw[if_neg n1];rw[h1] at k1;by_cases h2:2048<z.recs.length
  ·rw[if_pos (.inl h2)];have h2':(2048:Int)<(z.recs.length:Int):=by omega
   simp(disch:=omega)only[xt,x28,x27,x26,k1,h2',Az,simprocAttr]
  ·have h2':¬(2048:Int)<(z.recs.length:Int):=by omega
   rcases Bm (Wc z.recs) with h3|h3<;>rw[h3] at k2
   ·rw[if_pos (.inr h3)];simp(disch:=omega)only[xt,x28,x27,x26,k1,k2,h2',Az,simprocAttr]
   ·have n2:¬(2048<z.recs.length∨Wc z.recs=true):=by simp only[h2,h3];simp
    rw[if_neg n2];rcases Bm (z.recs.all Qf) with h4|h4<;>rw[h4] at k3
    ·have n4:¬z.recs.all Qf=false:=by simp only[h4];simp
     rw[if_neg n4];by_cases h5:z.recs=sortR z.recs
     ·have n5:¬z.recs≠sortR z.recs:=by simpa using h5
      rw[if_neg n5];have e5:decide (z.recs=sortR z.recs)=true:=decide_eq_true h5;rw[e5] at k5;clear h5 e5;generalize sortR z.recs=sr at*;cases h6:Cd9 z.origin (grp z.recs) [] [] false with
      |none=>
       rw[h6] at k7;simp only[Jv0] at k7;generalize grp z.recs=gs at*;rw[if_neg (by simp)];simp(disch:=omega)only[xt,x28,x27,x26,x25,x24,x23,x22,x21,x20,x19,x18,k1,k2,h2',k3,k4,k5,k6,k7,Tv,Az,simprocAttr]
      |some b=>
       rw[h6] at k7;simp only[Jv0] at k7;generalize grp z.recs=gs at*;cases b
       ·rw[if_neg (by simp)];simp(disch:=omega)only[xt,x28,x27,x26,x25,x24,x23,x22,x21,x20,x19,x18,k1,k2,h2',k3,k4,k5,k6,k7,Tv,Az,simprocAttr]
       ·rw[if_pos rfl];simp(disch:=omega)only[xt,x28,x27,x26,x25,x24,x23,x22,x21,x20,x19,x18,k1,k2,h2',k3,k4,k5,k6,k7,Tv,Az,simprocAttr]
     ·rw[if_pos h5];have e5:decide (z.recs=sortR z.recs)=false:=decide_eq_false h5;rw[e5] at k5;clear h5 e5;generalize sortR z.recs=sr at*;simp(disch:=omega)only[xt,x28,x27,x26,x25,x24,x23,x22,x21,k1,k2,h2',k3,k4,k5,Az,simprocAttr]
    ·rw[if_pos h4];simp(disch:=omega)only[xt,x28,x27,x26,x25,x24,k1,k2,h2',k3,Az,simprocAttr]
     try simp
 ·rw[if_pos h1];rw[h1] at k1;simp(disch:=omega)only[xt,x28,k1,Az,simprocAttr]
end Go.X.G
