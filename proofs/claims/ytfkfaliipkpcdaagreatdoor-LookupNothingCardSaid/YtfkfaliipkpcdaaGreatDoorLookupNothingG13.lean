/- Merging in place: the library's function. -/
import Derived.Test.YtfkfaliipkpcdaaGreatDoorLookupNothingG12
import Derived.Test.YtfkfaliipkpcdaaGreatDoorLookupNothingG11
open Bool renaming eq_false_or_eq_true→Aq,and_eq_true→Aw,false_eq_true→Ad,or_eq_true→Ap,not_eq_true'→A8,eq_iff_iff→Cn,not_eq_false→Fc
open Classical renaming not_not→Is
open List renaming getElem?_eq_some_iff→Av,getElem?_eq_getElem→Az,length_append→Ac,mem_cons→Am,length_take→An,append_assoc→As,getElem?_append_right→A0,length_cons→A3,pairwise_cons→A5,getElem?_drop→A6,getElem?_append_left→A9,mem_of_getElem?→Bq,length_pos_iff→Bv,eq_nil_of_length_eq_zero→Bb,all_eq_true→Bc,length_nil→Bd,take_append_drop→Bl,mem_append_right→Bm,mem_filter→Bp,mem_append→B0,length_drop→B3,cons_append→B7,take_add_one→Ck,mem_append_left→Cv,drop_eq_getElem_cons→Cd,drop_drop→Ch,nil_append→Cm,take_length→C7,getElem_mem→Dx,append_nil→Dm,mem_map→D3,getElem?_cons_succ→D4,drop_zero→Ev,pairwise_append→Et,length_map→E8,filter_eq_nil_iff→Fw,count_cons_of_ne→Fp,map_cons→Ft,mem_of_mem_take→Gz,count_cons_self→Gb,length_set→G5,mem_of_mem_drop→Ij,getLast_eq_getElem→Im,filter_cons→Kc,set_append_right→Lc,drop_set_of_lt→Qd,getElem_take→nn,take_take→Af8,getElem?_set_ne→Ag0,map_mergeSort→Ik5,findIdx?_cons→Ik6,count_eq_zero→Ik7
open Nat renaming le_refl→Af,mul_le_mul_right→Bz,zero_le→Cr,le_trans→C6,add_zero→Dq,zero_add→Dc,min_eq_left→I8,add_sub_cancel→Kl,sub_self→Db5
set_option maxHeartbeats 1000000
set_option linter.unusedVariables false
set_option linter.unusedSimpArgs false
namespace Go.X.G
open Go Go.X
theorem Ex (x:Int):bin .shr (.i .u64 x) (.i .u64 1)=some (.i .u64 (x / 2)):=by
 simp only [bin,Oj];rw [if_neg (by decide)];have:(2:Int) ^ min (1:Int).toNat IntKind.u64.bits=2:=by decide
 rw [this,Int.fdiv_eq_ediv_of_nonneg _ (by decide)]
theorem Fh5 {α:Type} (P Q:List α) (x y:α):((P++x::y::Q).set P.length y).set (P.length+1) x=P++y::x::Q:=by rw [Lc _ _ (Af _),Db5,List.set_cons_zero,Lc _ _ (by omega),show P.length+1 - P.length=1 by omega];rfl
theorem dy {α:Type} (P Q:List α) (x:α):(P++x::Q)[P.length]? =some x:=by simp
theorem jh {α:Type} (P Q:List α) (x y:α):(P++x::y::Q)[P.length+1]? =some y:=by simp
structure Cmp (g:Nat) (caps:List PV) (c:Rec→Rec→Int) (P:Rec→Prop):Prop where
 ok:∀x y,P x→P y→S g 2 (x.pv::y.pv::caps)=some [.i .i64 (c x y)]
def leC (c:Rec→Rec→Int) (x y:Rec):Bool:= !decide (c y x<0)
theorem Ej2 {c:Rec→Rec→Int} {x y:Rec}:leC c x y=true↔¬c y x<0:=by simp [leC]
theorem Ej3 {c:Rec→Rec→Int} {x y:Rec}:leC c x y=false↔c y x<0:=by simp [leC]
section
variable {g:Nat} {caps:List PV} {c:Rec→Rec→Int} {P:Rec→Prop}
theorem Ix7 (h:Cmp g caps c P) (X B Y:List Rec) (x:Rec) (s:List Rec) (hsd:s=X++x::(B++Y)) (a m b:Int) (ha:a=X.length) (hm:m=a+1) (hb:b=m+B.length) (hs:s.length≤1000000) (hP:∀y∈s,P y) (N:Nat) (hN:B.length<N):
  ∃p:Nat,Bh2.ev S N [Ah s, .i .i64 a, .i .i64 m, .i .i64 b, .f g caps]=some (.yld 0 [.i .i64 (m+p)])∧p≤B.length∧(∀y,p≠0→B[p - 1]? =some y→c y x<0)∧∀y,B[p]? =some y→¬c y x<0:=by
 have hl:s.length=X.length+1+B.length+Y.length:=by rw [hsd];simp;omega
 have hx:s[X.length]? =some x:=by rw [hsd];exact dy _ _ _
 have hB:∀k y,B[k]? =some y→s[X.length+1+k]? =some y:=fun k y hk=>by have:=(Av.1 hk).1;rw [hsd,A0 (by omega),show X.length+1+k - X.length=k+1 by omega,D4,A9 this,hk]
 have hPx:P x:=hP x (by rw [hsd];simp);have key:=G1 (fn:=S) (N:=N) (η:=[Ah s, .i .i64 a, .i .i64 m, .i .i64 b, .f g caps]) (id:=1) (init:=[.v 2, .v 3]) (body:=mm) (α:=Nat×Nat)
  (fun w=>[.i .i64 (m+w.1), .i .i64 (m+w.2)])
  (fun o=>∃p:Nat,o= .yld 0 [.i .i64 (m+p)]∧p≤B.length∧(∀y,p≠0→B[p - 1]? =some y→c y x<0)∧∀y,B[p]? =some y→¬c y x<0)
  (fun w=>w.1≤w.2∧w.2≤B.length∧(∀y,w.1≠0→B[w.1 - 1]? =some y→c y x<0)∧∀y,B[w.2]? =some y→¬c y x<0)
  (fun w=>w.2 - w.1) (0,B.length) ?_ ?_ (by simp only;omega) ?_
 ·obtain ⟨o,h1,p,rfl,h2⟩:=key;exact ⟨p,h1,h2⟩
 ·subst hb;simp (disch:=omega) only [EVT,EVM,EVC,xe,EVP,EV,simprocAttr];simp
 ·refine ⟨by simp,by simp,fun y h0=>absurd rfl h0,fun y hy=> ?_⟩;simp at hy
 ·rintro ⟨p,q⟩ ⟨h1,h2,h3,h4⟩;simp only at h1 h2 h3 h4;by_cases hpq:p<q
  ·left;have hk:(p+q) / 2<B.length:=by omega
   have hy:=Az hk;generalize B[(p+q) / 2]=y at hy;have hsy:=hB _ y hy;have hPy:P y:=hP y (Bq hsy);have hc:=h.ok y x hPy hPx;have hlt:m+(p:Int)<m+(q:Int):=by omega
   have e1:(m+(p:Int)+(m+(q:Int))) / 2=m+(((p+q) / 2:Nat):Int):=by omega
   have e2:(m+(((p+q) / 2:Nat):Int)).toNat=X.length+1+(p+q) / 2:=by omega
   have e3:a.toNat=X.length:=by omega
   by_cases hcy:c y x<0
   ·refine ⟨((p+q) / 2+1,q),?_,⟨by simp only;omega,h2,fun z _ hz=> ?_,h4⟩,by simp only;omega⟩
    ·have e4:m+(((p+q) / 2+1:Nat):Int)=m+(((p+q) / 2:Nat):Int)+1:=by omega
     simp only [e4];generalize (p+q) / 2=k at*;simp (disch:=omega) only [E3,hlt,Ex,e1,e2,e3,hsy,hx,hc,hcy,EVT,EVM,EVC,xe,EVP,EV,simprocAttr]
    ·simp only [Kl] at hz;rw [hy] at hz;injection hz with hz;subst hz;exact hcy
   ·refine ⟨(p,(p+q) / 2),?_,⟨by simp only;omega,by simp only;omega,h3,fun z hz=> ?_⟩,by simp only;omega⟩
    ·simp only;generalize (p+q) / 2=k at*;simp (disch:=omega) only [E3,hlt,Ex,e1,e2,e3,hsy,hx,hc,hcy,EVT,EVM,EVC,xe,EVP,EV,simprocAttr]
    ·simp only at hz;rw [hy] at hz;injection hz with hz;subst hz;exact hcy
  ·right;have e:p=q:=by omega
   subst e;have hlt:¬m+(p:Int)<m+(p:Int):=by omega
   refine ⟨.yld 0 [.i .i64 (m+p)],?_,rfl,p,rfl,h2,h3,h4⟩;simp (disch:=omega) only [E3,hlt,EVT,EVM,EVC,xe,EVP,EV,simprocAttr]
theorem Ix9 (L L':List Rec) (i:Nat) (x y:Rec) (g0:L[i]? =some x) (g1:L[i+1]? =some y) (sw:(L.set i y).set (i+1) x=L') (k e:Int) (hk:k=i) (he:k<e - 1) (he2:e≤1000000) (hL:L.length≤1000000) (w0 w1 w2 w3 w4:PV) (N:Nat):
  X6.ev S N [w0,w1,w2,w3,w4, .i .i64 e, .i .i64 k,Ah L]=some (.yld 1 [.i .i64 (k+1),Ah L']):=by
 have hi:=(Av.1 g1).1;have ti0:k.toNat=i:=by omega
 have ti1:(k+1).toNat=i+1:=by omega
 have g2:(L.set i y)[i+1]? =some y:=by rw [Ag0 (by omega)];exact g1
 simp (disch:=first|omega|(rw [G5];omega)) only [E3,he,ti0,ti1,g0,g1,g2,sw,EVT,EVM,EVC,xe,EVP,EV,simprocAttr]
theorem Ix8 (L L':List Rec) (i:Nat) (x y:Rec) (g0:L[i]? =some x) (g1:L[i+1]? =some y) (sw:(L.set (i+1) x).set i y=L') (k e:Int) (hk:k=i+1) (he:e<k) (he2:0≤e) (hL:L.length≤1000000) (w0 w1 w2 w3 w4:PV) (N:Nat):
  X5.ev S N [w0,w1,w2,w3,w4, .i .i64 e, .i .i64 k,Ah L]=some (.yld 1 [.i .i64 (k - 1),Ah L']):=by
 have hi:=(Av.1 g1).1;have ti0:(k - 1).toNat=i:=by omega
 have ti1:k.toNat=i+1:=by omega
 have g2:(L.set (i+1) x)[i]? =some x:=by rw [Ag0 (by omega)];exact g0
 simp (disch:=first|omega|(rw [G5];omega)) only [E3,he,ti0,ti1,g0,g1,g2,sw,EVT,EVM,EVC,xe,EVP,EV,simprocAttr]
theorem Ix6 (X B Y:List Rec) (x:Rec) (s:List Rec) (hsd:s=X++x::(B++Y)) (a m b:Int) (w:PV) (p:Nat) (ha:a=X.length) (hm:m=a+1) (hp:p≤B.length) (hs:s.length≤1000000) (N:Nat) (hN:B.length<N) (w1 w2 w3:PV):
  Bf8.ev S N [Ah s, .i .i64 a,w1,w2,w3, .i .i64 (m+p)]=some (.yld 0 [Ah (X++(B.take p++x::B.drop p)++Y)]):=by
 have hl:s.length=X.length+1+B.length+Y.length:=by rw [hsd];simp;omega
 refine F5 p (fun t=>[.i .i64 (a+t),Ah ((X++B.take t)++x::(B.drop t++Y))]) (fun _=> .yld 0 [Ah (X++(B.take p++x::B.drop p)++Y)]) ?_ (by omega) (fun t ht=> ?_) ?_
 ·simp (disch:=omega) only [EVT,EVM,EVC,xe,EVP,EV,simprocAttr];rw [hsd];simp
 ·left;refine ⟨?_,rfl⟩;have hlt:t<B.length:=by omega
  have hy:=Az hlt;have hd:B.drop t=B[t]::B.drop (t+1):=Cd hlt;have htk:B.take (t+1)=B.take t++[B[t]]:=by rw [Ck,hy];rfl
  have e0:X++B.take (t+1)++x::(B.drop (t+1)++Y)=X++B.take t++B[t]::x::(B.drop (t+1)++Y):=by rw [htk];simp only [As,B7,Cm]
  show X6.ev S N ([Ah s, .i .i64 a,w1,w2,w3, .i .i64 (m+p)]++[.i .i64 (a+t),Ah ((X++B.take t)++x::(B.drop t++Y))])=some (.yld 1 [.i .i64 (a+((t+1:Nat):Int)),Ah ((X++B.take (t+1))++x::(B.drop (t+1)++Y))]);rw [e0,hd,B7];generalize B[t]=y at*;have lP:(X++B.take t).length=X.length+t:=by rw [Ac,An];omega
  have sw:=Fh5 (X++B.take t) (B.drop (t+1)++Y) x y;have g0:=dy (X++B.take t) (y::(B.drop (t+1)++Y)) x;have g1:=jh (X++B.take t) (B.drop (t+1)++Y) x y;have lL:(X++B.take t++x::y::(B.drop (t+1)++Y)).length=s.length:=by rw [hl];simp only [Ac,A3,An,B3];omega
  rw [lP] at sw g0 g1;have e5:a+((t+1:Nat):Int)=a+(t:Int)+1:=by omega
  rw [e5];exact Ix9 _ _ (X.length+t) x y g0 g1 sw (a+t) (m+p) (by omega) (by omega) (by omega) (by omega) _ _ _ _ _ N
 ·refine ⟨?_,rfl⟩;have hlt2:¬a+(p:Int)<m+(p:Int) - 1:=by omega
  have e0:X++B.take p++x::(B.drop p++Y)=X++(B.take p++x::B.drop p)++Y:=by simp
  rw [e0];simp (disch:=omega) only [E3,hlt2,EVT,EVM,EVC,xe,EVP,EV,simprocAttr]
theorem Ix5 (h:Cmp g caps c P) (X A Y:List Rec) (x:Rec) (s:List Rec) (hsd:s=X++(A++x::Y)) (a m:Int) (w:PV) (ha:a=X.length) (hm:m=a+A.length) (hs:s.length≤1000000) (hP:∀y∈s,P y) (N:Nat) (hN:A.length<N):
  ∃p:Nat,Bf5.ev S N [Ah s, .i .i64 a, .i .i64 m,w, .f g caps]=some (.yld 0 [.i .i64 (a+p)])∧p≤A.length∧(∀y,p≠0→A[p - 1]? =some y→¬c x y<0)∧∀y,A[p]? =some y→c x y<0:=by
 have hl:s.length=X.length+A.length+1+Y.length:=by rw [hsd];simp;omega
 have hx:s[X.length+A.length]? =some x:=by rw [hsd,←As,←Ac];exact dy _ _ _
 have hA:∀k y,A[k]? =some y→s[X.length+k]? =some y:=fun k y hk=>by have:=(Av.1 hk).1;rw [hsd,A0 (by omega),show X.length+k - X.length=k by omega,A9 this,hk]
 have hPx:P x:=hP x (by rw [hsd];simp);have key:=G1 (fn:=S) (N:=N) (η:=[Ah s, .i .i64 a, .i .i64 m,w, .f g caps]) (id:=1) (init:=[.v 1, .v 2]) (body:=my) (α:=Nat×Nat)
  (fun w=>[.i .i64 (a+w.1), .i .i64 (a+w.2)])
  (fun o=>∃p:Nat,o= .yld 0 [.i .i64 (a+p)]∧p≤A.length∧(∀y,p≠0→A[p - 1]? =some y→¬c x y<0)∧∀y,A[p]? =some y→c x y<0)
  (fun w=>w.1≤w.2∧w.2≤A.length∧(∀y,w.1≠0→A[w.1 - 1]? =some y→¬c x y<0)∧∀y,A[w.2]? =some y→c x y<0)
  (fun w=>w.2 - w.1) (0,A.length) ?_ ?_ (by simp only;omega) ?_
 ·obtain ⟨o,h1,p,rfl,h2⟩:=key;exact ⟨p,h1,h2⟩
 ·subst hm;simp (disch:=omega) only [EVT,EVM,EVC,xe,EVP,EV,simprocAttr];simp
 ·refine ⟨by simp,by simp,fun y h0=>absurd rfl h0,fun y hy=> ?_⟩;simp at hy
 ·rintro ⟨p,q⟩ ⟨h1,h2,h3,h4⟩;simp only at h1 h2 h3 h4;by_cases hpq:p<q
  ·left;have hk:(p+q) / 2<A.length:=by omega
   have hy:=Az hk;generalize A[(p+q) / 2]=y at hy;have hsy:=hA _ y hy;have hPy:P y:=hP y (Bq hsy);have hc:=h.ok x y hPx hPy;have hlt:a+(p:Int)<a+(q:Int):=by omega
   have e1:(a+(p:Int)+(a+(q:Int))) / 2=a+(((p+q) / 2:Nat):Int):=by omega
   have e2:(a+(((p+q) / 2:Nat):Int)).toNat=X.length+(p+q) / 2:=by omega
   have e3:m.toNat=X.length+A.length:=by omega
   by_cases hcy:c x y<0
   ·refine ⟨(p,(p+q) / 2),?_,⟨by simp only;omega,by simp only;omega,h3,fun z hz=> ?_⟩,by simp only;omega⟩
    ·simp only;generalize (p+q) / 2=k at*;simp (disch:=omega) only [E3,hlt,Ex,e1,e2,e3,hsy,hx,hc,hcy,EVT,EVM,EVC,xe,EVP,EV,simprocAttr]
    ·simp only at hz;rw [hy] at hz;injection hz with hz;subst hz;exact hcy
   ·refine ⟨((p+q) / 2+1,q),?_,⟨by simp only;omega,h2,fun z _ hz=> ?_,h4⟩,by simp only;omega⟩
    ·have e4:a+(((p+q) / 2+1:Nat):Int)=a+(((p+q) / 2:Nat):Int)+1:=by omega
     simp only [e4];generalize (p+q) / 2=k at*;simp (disch:=omega) only [E3,hlt,Ex,e1,e2,e3,hsy,hx,hc,hcy,EVT,EVM,EVC,xe,EVP,EV,simprocAttr]
    ·simp only [Kl] at hz;rw [hy] at hz;injection hz with hz;subst hz;exact hcy
  ·right;have e:p=q:=by omega
   subst e;have hlt:¬a+(p:Int)<a+(p:Int):=by omega
   refine ⟨.yld 0 [.i .i64 (a+p)],?_,rfl,p,rfl,h2,h3,h4⟩;simp (disch:=omega) only [E3,hlt,EVT,EVM,EVC,xe,EVP,EV,simprocAttr]
theorem Ix4 (X A Y:List Rec) (x:Rec) (s:List Rec) (hsd:s=X++(A++x::Y)) (a m:Int) (p:Nat) (ha:a=X.length) (hm:m=a+A.length) (hp:p≤A.length) (hs:s.length≤1000000) (N:Nat) (hN:A.length<N) (w1 w2 w3:PV):
  Bf4.ev S N [Ah s,w1, .i .i64 m,w2,w3, .i .i64 (a+p)]=some (.yld 0 [Ah (X++(A.take p++x::A.drop p)++Y)]):=by
 have hl:s.length=X.length+A.length+1+Y.length:=by rw [hsd];simp;omega
 refine F5 (A.length - p) (fun t=>[.i .i64 (m - t),Ah ((X++A.take (A.length - t))++x::(A.drop (A.length - t)++Y))]) (fun _=> .yld 0 [Ah (X++(A.take p++x::A.drop p)++Y)]) ?_ (by omega) (fun t ht=> ?_) ?_
 ·simp (disch:=omega) only [EVT,EVM,EVC,xe,EVP,EV,simprocAttr];rw [hsd];simp
 ·left;refine ⟨?_,rfl⟩;obtain ⟨u,hu⟩:∃u,A.length - t=u+1:=⟨A.length - t - 1,by omega⟩;have hlt:u<A.length:=by omega
  have hy:=Az hlt;have hd:A.drop u=A[u]::A.drop (u+1):=Cd hlt;have htk:A.take (u+1)=A.take u++[A[u]]:=by rw [Ck,hy];rfl
  have e1:A.length - (t+1)=u:=by omega
  have e0:X++A.take (u+1)++x::(A.drop (u+1)++Y)=X++A.take u++A[u]::x::(A.drop (u+1)++Y):=by rw [htk];simp only [As,B7,Cm]
  show X5.ev S N ([Ah s,w1, .i .i64 m,w2,w3, .i .i64 (a+p)]++[.i .i64 (m - t),Ah ((X++A.take (A.length - t))++x::(A.drop (A.length - t)++Y))])=some (.yld 1 [.i .i64 (m - ((t+1:Nat):Int)),Ah ((X++A.take (A.length - (t+1)))++x::(A.drop (A.length - (t+1))++Y))]);rw [hu,e1,e0,hd,B7];generalize A[u]=y at*;have lP:(X++A.take u).length=X.length+u:=by rw [Ac,An];omega
  have sw0:((X++A.take u++y::x::(A.drop (u+1)++Y)).set (X.length+u+1) y).set (X.length+u) x=X++A.take u++x::y::(A.drop (u+1)++Y):=by rw [←lP,List.set_comm _ _ (by omega)];exact Fh5 (X++A.take u) (A.drop (u+1)++Y) y x
  have g0:=dy (X++A.take u) (x::(A.drop (u+1)++Y)) y;have g1:=jh (X++A.take u) (A.drop (u+1)++Y) y x;have lL:(X++A.take u++y::x::(A.drop (u+1)++Y)).length=s.length:=by rw [hl];simp only [Ac,A3,An,B3];omega
  rw [lP] at g0 g1;have e5:m - ((t+1:Nat):Int)=m - (t:Int) - 1:=by omega
  rw [e5];exact Ix8 _ _ (X.length+u) y x g0 g1 sw0 (m - t) (a+p) (by omega) (by omega) (by omega) (by omega) _ _ _ _ _ N
 ·refine ⟨?_,rfl⟩;have hlt2:¬a+(p:Int)<m - ((A.length - p:Nat):Int):=by omega
  have e1:A.length - (A.length - p)=p:=by omega
  have e0:X++A.take p++x::(A.drop p++Y)=X++(A.take p++x::A.drop p)++Y:=by simp
  rw [e1,e0];simp (disch:=omega) only [E3,hlt2,EVT,EVM,EVC,xe,EVP,EV,simprocAttr]
end
end Go.X.G
/- Merging in place: the library's function, the Md. -/
namespace Go.X.G
open Go Go.X
section
variable {g:Nat} {caps:List PV} {c:Rec→Rec→Int} {P:Rec→Prop}
theorem Ix3 (hC:Cmp g caps c P) (X A B Y:List Rec) (s:List Rec) (hsd:s=X++(A++(B++Y))) (a m b mid:Int) (h i0 j0:Nat) (ha:a=X.length) (hm:m=a+A.length) (hb:b=m+B.length) (hM:(a+b) / 2=mid) (hmid:mid=a+h)
  (h1:i0≤j0) (h2:j0≤A.length) (h3:j0≤h) (h4:h≤i0+B.length) (hs:s.length≤1000000) (hP:∀y∈s,P y) (N:Nat) (hN:A.length<N):
  ∃i:Nat,Bf3.ev S N [Ah s, .i .i64 a, .i .i64 m, .i .i64 b, .f g caps, .i .i64 (a+i0), .i .i64 (a+j0)]=some (.yld 0 [.i .i64 (a+i)])∧i0≤i∧i≤j0∧
   (∀x y,i≠i0→A[i - 1]? =some x→B[h - i]? =some y→¬c y x<0)∧∀x y,i≠j0→A[i]? =some x→B[h - 1 - i]? =some y→c y x<0:=by
 have hl:s.length=X.length+A.length+B.length+Y.length:=by rw [hsd];simp;omega
 have hA:∀k y,A[k]? =some y→s[X.length+k]? =some y:=fun k y hk=>by have:=(Av.1 hk).1;rw [hsd,A0 (by omega),show X.length+k - X.length=k by omega,A9 this,hk]
 have hB:∀k y,B[k]? =some y→s[X.length+A.length+k]? =some y:=fun k y hk=>by have:=(Av.1 hk).1;rw [hsd,A0 (by omega),A0 (by omega),show X.length+A.length+k - X.length - A.length=k by omega,A9 this,hk]
 have key:=G1 (fn:=S) (N:=N) (η:=[Ah s, .i .i64 a, .i .i64 m, .i .i64 b, .f g caps, .i .i64 (a+i0), .i .i64 (a+j0)]) (id:=1) (init:=[.v 5, .v 6]) (body:=mq) (α:=Nat×Nat)
  (fun w=>[.i .i64 (a+w.1), .i .i64 (a+w.2)])
  (fun o=>∃i:Nat,o= .yld 0 [.i .i64 (a+i)]∧i0≤i∧i≤j0∧(∀x y,i≠i0→A[i - 1]? =some x→B[h - i]? =some y→¬c y x<0)∧∀x y,i≠j0→A[i]? =some x→B[h - 1 - i]? =some y→c y x<0)
  (fun w=>w.1≤w.2∧i0≤w.1∧w.2≤j0∧(∀x y,w.1≠i0→A[w.1 - 1]? =some x→B[h - w.1]? =some y→¬c y x<0)∧∀x y,w.2≠j0→A[w.2]? =some x→B[h - 1 - w.2]? =some y→c y x<0)
  (fun w=>w.2 - w.1) (i0,j0) ?_ ?_ (by simp only;omega) ?_
 ·obtain ⟨o,h1,p,rfl,h2⟩:=key;exact ⟨p,h1,h2⟩
 ·simp (disch:=omega) only [EVT,EVM,EVC,xe,EVP,EV,simprocAttr]
 ·exact ⟨h1,Af _,Af _,fun x y h0=>absurd rfl h0,fun x y h0=>absurd rfl h0⟩
 ·rintro ⟨p,q⟩ ⟨g1,g2,g3,g4,g5⟩;simp only at g1 g2 g3 g4 g5;by_cases hpq:p<q
  ·left;have hk:(p+q) / 2<A.length:=by omega
   have hx:=Az hk;have hk2:h - 1 - (p+q) / 2<B.length:=by omega
   have hy:=Az hk2;generalize A[(p+q) / 2]=x at hx;generalize B[h - 1 - (p+q) / 2]=y at hy;have hsx:=hA _ x hx;have hsy:=hB _ y hy;have hPx:P x:=hP x (Bq hsx);have hPy:P y:=hP y (Bq hsy);have hc:=hC.ok y x hPy hPx;have hlt:a+(p:Int)<a+(q:Int):=by omega
   have e1:(a+(p:Int)+(a+(q:Int))) / 2=a+(((p+q) / 2:Nat):Int):=by omega
   have e2:(a+(((p+q) / 2:Nat):Int)).toNat=X.length+(p+q) / 2:=by omega
   have e3:(mid+m - 1 - (a+(((p+q) / 2:Nat):Int))).toNat=X.length+A.length+(h - 1 - (p+q) / 2):=by omega
   have hkh:(p+q) / 2<h:=by omega
   by_cases hcy:c y x<0
   ·refine ⟨(p,(p+q) / 2),?_,⟨by simp only;omega,g2,by simp only;omega,g4,fun u v _ hu hv=> ?_⟩,by simp only;omega⟩
    ·simp only;generalize (p+q) / 2=k at*;simp (disch:=omega) only [E3,hlt,Ex,hM,e1,e2,e3,hsy,hsx,hc,hcy,EVT,EVM,EVC,xe,EVP,EV,simprocAttr]
    ·simp only at hu hv;rw [hx] at hu;injection hu with hu;subst hu;rw [hy] at hv;injection hv with hv;subst hv;exact hcy
   ·refine ⟨((p+q) / 2+1,q),?_,⟨by simp only;omega,by simp only;omega,g3,fun u v _ hu hv=> ?_,g5⟩,by simp only;omega⟩
    ·have e4:a+(((p+q) / 2+1:Nat):Int)=a+(((p+q) / 2:Nat):Int)+1:=by omega
     simp only [e4];generalize (p+q) / 2=k at*;simp (disch:=omega) only [E3,hlt,Ex,hM,e1,e2,e3,hsy,hsx,hc,hcy,EVT,EVM,EVC,xe,EVP,EV,simprocAttr]
    ·simp only [Kl] at hu hv;rw [show h - ((p+q) / 2+1)=h - 1 - (p+q) / 2 by omega] at hv;rw [hx] at hu;injection hu with hu;subst hu;rw [hy] at hv;injection hv with hv;subst hv;exact hcy
  ·right;have e:p=q:=by omega
   subst e;have hlt:¬a+(p:Int)<a+(p:Int):=by omega
   refine ⟨.yld 0 [.i .i64 (a+p)],?_,rfl,p,rfl,g2,g3,g4,g5⟩;simp (disch:=omega) only [E3,hlt,EVT,EVM,EVC,xe,EVP,EV,simprocAttr]
theorem Fr3 {le:Rec→Rec→Bool} (ht:TP le) {B:List Rec} (hB:B.Pairwise fun x y=>le x y=true) (x:Rec) (p:Nat) (hp:p≤B.length) (h1:∀y,p≠0→B[p - 1]? =some y→le x y=false) (h2:∀y,B[p]? =some y→le x y=true):mrg le [x] B=B.take p++x::B.drop p:=by have e1:=Sk ht (A:=[x]) (B:=B) (by simp) hB 0 p (fun u v h=>absurd rfl h) (fun u v h0 hu hv=>by simp at hu;subst hu;exact h1 v h0 hv) (by simp) hp;have e2:=Sk ht (A:=[x]) (B:=B.drop p) (by simp) (hB.sublist (List.drop_sublist p B)) 1 0 (fun u v _ hu hv=>by simp at hu;subst hu;rw [A6] at hv;exact h2 v hv) (fun u v h=>absurd rfl h) (by simp) (by simp);rw [e1];simp only [List.take_zero,Ev,List.take_succ_cons,List.drop_succ_cons,K1] at e2 ⊢;rw [e2];simp [mrg]
theorem Fr2 {le:Rec→Rec→Bool} (ht:TP le) {A:List Rec} (hA:A.Pairwise fun x y=>le x y=true) (x:Rec) (p:Nat) (hp:p≤A.length) (h1:∀y,p≠0→A[p - 1]? =some y→le y x=true) (h2:∀y,A[p]? =some y→le y x=false):mrg le A [x]=A.take p++x::A.drop p:=by have e1:=Sk ht (A:=A) (B:=[x]) hA (by simp) p 0 (fun u v h0 hu hv=>by simp at hv;subst hv;exact h1 u h0 hu) (fun u v h=>absurd rfl h) hp (by simp);have e2:=Sk ht (A:=A.drop p) (B:=[x]) (hA.sublist (List.drop_sublist p A)) (by simp) 0 1 (fun u v h=>absurd rfl h) (fun u v _ hu hv=>by simp at hv;subst hv;rw [A6] at hu;exact h2 u hu) (by simp) (by simp);rw [e1];simp only [List.take_zero,Ev,List.take_succ_cons,List.drop_succ_cons,K1] at e2 ⊢;rw [e2];simp [mrg]
set_option maxHeartbeats 2000000 in
theorem Jm (hC:Cmp g caps c P) (ht:TP (leC c)):∀(n:Nat) (X A B Y:List Rec) (a m b:Int),A.length+B.length≤n→A≠[]→B≠[]→(A.Pairwise fun x y=>leC c x y=true)→(B.Pairwise fun x y=>leC c x y=true)→
  a=X.length→m=a+A.length→b=m+B.length→(X++A++B++Y).length≤1000000→(∀y∈X++A++B++Y,P y)→
  S Pp 1048581 [Ah (X++A++B++Y), .i .i64 a, .i .i64 m, .i .i64 b, .f g caps]=some [Ah (X++mrg (leC c) A B++Y)]
 |0,X,A,B,Y,a,m,b,hn,hA,_,_,_,_,_,_,_,_=>absurd (Bb (by omega)) hA
 |n+1,X,A,B,Y,a,m,b,hn,hA,hB,sA,sB,ha,hm,hb,hs,hP=>by
  have hA':0<A.length:=Bv.2 hA;have hB':0<B.length:=Bv.2 hB;have hs2:=hs;simp only [Ac] at hs2;obtain ⟨N,hN⟩:∃N,N=A.length+B.length+1:=⟨_,rfl⟩;refine Gt3 (N:=N) rfl ?_;by_cases c1:A.length=1
  ·-- one ahead
   obtain ⟨x,rfl⟩:=List.length_eq_one_iff.1 c1;have hsd:X++[x]++B++Y=X++x::(B++Y):=by simp
   obtain ⟨p,k1,k2,k3,k4⟩:=Ix7 hC X B Y x (X++[x]++B++Y) hsd a m b ha (by simpa using hm) hb hs hP N (by omega);have k5:=Ix6 X B Y x (X++[x]++B++Y) hsd a m b .u p ha (by simpa using hm) k2 hs N (by omega) (.i .i64 m) (.i .i64 b) (.f g caps);have e:=Fr3 ht sB x p k2 (fun y h0 hy=>Ej3.2 (k3 y h0 hy)) (fun y hy=>Ej2.2 (k4 y hy));rw [e];have q1:m - a=1:=by simp at hm;omega
   generalize X++[x]++B++Y=s at*;generalize X++(List.take p B++x::List.drop p B)++Y=u at*;simp (disch:=omega) only [E3,q1,k1,k5,EVT,EVM,EVC,xe,EVP,EV,simprocAttr]
  ·by_cases c2:B.length=1
   ·obtain ⟨x,rfl⟩:=List.length_eq_one_iff.1 c2;have hsd:X++A++[x]++Y=X++(A++x::Y):=by simp
    obtain ⟨p,k1,k2,k3,k4⟩:=Ix5 hC X A Y x (X++A++[x]++Y) hsd a m (.i .i64 b) ha hm hs hP N (by omega);have k5:=Ix4 X A Y x (X++A++[x]++Y) hsd a m p ha hm k2 hs N (by omega) (.i .i64 a) (.i .i64 b) (.f g caps);have e:=Fr2 ht sA x p k2 (fun y h0 hy=>Ej2.2 (k3 y h0 hy)) (fun y hy=>Ej3.2 (k4 y hy));rw [e];have q1:¬m - a=1:=by omega
    have q2:b - m=1:=by simp at hb;omega
    generalize X++A++[x]++Y=s at*;generalize X++(List.take p A++x::List.drop p A)++Y=u at*;simp (disch:=omega) only [E3,q1,q2,k1,k5,EVT,EVM,EVC,xe,EVP,EV,simprocAttr]
   ·-- two parts of more
    have q1:¬m - a=1:=by omega
    have q2:¬b - m=1:=by omega
    obtain ⟨h,hh⟩:∃h,h=(A.length+B.length) / 2:=⟨_,rfl⟩;obtain ⟨mid,hM⟩:∃mid,(a+b) / 2=mid:=⟨_,rfl⟩;have hmid:mid=a+h:=by omega
    obtain ⟨i0,j0,hc15,h1,h2,h3,h4,hi0,hj0⟩:∃i0 j0:Nat,X1.ev S N [Ah (X++A++B++Y), .i .i64 a, .i .i64 m, .i .i64 b, .f g caps]=some (.yld 0 [.i .i64 (a+i0), .i .i64 (a+j0)])∧i0≤j0∧j0≤A.length∧j0≤h∧h≤i0+B.length∧(i0=0∨h - i0=B.length)∧(j0=h∨j0=A.length):=by
     by_cases hgt:h<A.length
     ·refine ⟨h - B.length,h,?_,by omega,by omega,by omega,by omega,by omega, .inl rfl⟩;have t1:mid<m:=by omega
      have t2:mid+m - b=a+((h - B.length:Nat):Int):=by omega
      rw [←t2,←hmid];generalize X++A++B++Y=s at*;simp (disch:=omega) only [E3,Ex,hM,t1,EVT,EVM,EVC,xe,EVP,EV,simprocAttr]
     ·refine ⟨0,A.length,?_,by omega,by omega,by omega,by omega, .inl rfl, .inr rfl⟩;have t1:¬mid<m:=by omega
      generalize X++A++B++Y=s at*;simp (disch:=omega) only [E3,Ex,hM,t1,hm,EVT,EVM,EVC,xe,EVP,EV,simprocAttr];simp
    have hsd:X++A++B++Y=X++(A++(B++Y)):=by simp
    obtain ⟨i,k1,k2,k3,k4,k5⟩:=Ix3 hC X A B Y (X++A++B++Y) hsd a m b mid h i0 j0 ha hm hb hM hmid h1 h2 h3 h4 hs hP N (by omega);have cut:=Sk ht sA sB i (h - i) (fun x y h0 hx hy=>Ej2.2 (k4 x y (fun e=>by
      rcases hi0 with q|q
      ·omega
      ·have:=(Av.1 hy).1;omega) hx hy)) (fun x y h0 hx hy=>Ej3.2 (k5 x y (fun e=>by
      rcases hj0 with q|q
      ·omega
      ·have:=(Av.1 hx).1;omega) hx (by rw [show h - 1 - i=h - i - 1 by omega];exact hy))) (by omega) (by omega)
    have eA:A.take i++A.drop i=A:=Bl _ _;have eB:B.take (h - i)++B.drop (h - i)=B:=Bl _ _;have lA1:(A.take i).length=i:=by rw [An];omega
    have lA2:(A.drop i).length=A.length - i:=B3;have lB1:(B.take (h - i)).length=h - i:=by rw [An];omega
    have lB2:(B.drop (h - i)).length=B.length - (h - i):=B3;have sA1:=sA.sublist (List.take_sublist i A);have sA2:=sA.sublist (List.drop_sublist i A);have sB1:=sB.sublist (List.take_sublist (h - i) B);have sB2:=sB.sublist (List.drop_sublist (h - i) B);generalize A.take i=A1 at*;generalize A.drop i=A2 at*;generalize B.take (h - i)=B1 at*;generalize B.drop (h - i)=B2 at*;have e0:X++A++B++Y=X++A1++A2++B1++(B2++Y):=by rw [←eA,←eB];simp
    have mem1:∀y,y∈X++A1++B1++(A2++B2++Y)→P y:=fun y hy=>hP y (by rw [e0];simp only [B0] at hy ⊢;grind);have len1:(X++A1++B1++(A2++B2++Y)).length≤1000000:=by simp only [Ac] at hs2 ⊢;omega
    have lm1:=Sj (leC c) A1 B1;have mem2:∀y,y∈(X++mrg (leC c) A1 B1)++A2++B2++Y→P y:=fun y hy=>mem1 y (by simp only [B0,mrg_mem] at hy ⊢;grind)
    have len2:((X++mrg (leC c) A1 B1)++A2++B2++Y).length≤1000000:=by simp only [Ac,lm1] at hs2 ⊢;omega
    have s1:(T.blk 0 X0 N8).ev S N [Ah (X++A++B++Y), .i .i64 a, .i .i64 m, .i .i64 b, .f g caps, .i .i64 (a+i0), .i .i64 (a+j0), .i .i64 (a+i)]=
      N8.ev S N [Ah (X++A++B++Y), .i .i64 a, .i .i64 m, .i .i64 b, .f g caps, .i .i64 (a+i0), .i .i64 (a+j0), .i .i64 (a+i),Ah (X++A1++B1++(A2++B2++Y))]:=by
     by_cases t:A2=[]∨B1=[]
     ·have t1:¬(a+(i:Int)<m∧m<mid+m - (a+i)):=by
       rcases t with t|t
       ·rw [t] at lA2;simp at lA2;omega
       ·rw [t] at lB1;simp at lB1;omega
      have e1:X++A++B++Y=X++A1++B1++(A2++B2++Y):=by rw [e0];rcases t with t|t<;>subst t<;>simp
      rw [←e1];generalize X++A++B++Y=s at*;by_cases t2:a+(i:Int)<m
      ·have t3:¬m<mid+m - (a+i):=fun q=>t1 ⟨t2,q⟩;simp (disch:=omega) only [E3,Ex,hM,t2,t3,EVT,EVM,EVC,xe,EVP,EV,simprocAttr]
      ·simp (disch:=omega) only [E3,Ex,hM,t2,EVT,EVM,EVC,xe,EVP,EV,simprocAttr]
     ·have t':A2≠[]∧B1≠[]:=by grind
      have p1:=Bv.2 t'.1;have p2:=Bv.2 t'.2;have hr:=Ar2 (X++A1) A2 B1 (B2++Y) (a+i) m (mid+m - (a+i)) g caps (by simp only [Ac];omega) (by simp only [Ac];omega) (by simp only [Ac];omega) t'.1 t'.2 (by rw [←e0];exact hs);have t2:a+(i:Int)<m:=by omega
      have t3:m<mid+m - (a+i):=by omega
      rw [←e0] at hr;have e1:X++A1++B1++A2++(B2++Y)=X++A1++B1++(A2++B2++Y):=by simp
      rw [e1] at hr;generalize X++A1++B1++(A2++B2++Y)=s1 at*;generalize X++A++B++Y=s at*;simp (disch:=omega) only [E3,Ex,hM,t2,t3,hr,D1,Kf,EVT,EVM,EVC,xe,EVP,EV,simprocAttr]
    have s2:(T.blk 0 Xt N9).ev S N [Ah (X++A++B++Y), .i .i64 a, .i .i64 m, .i .i64 b, .f g caps, .i .i64 (a+i0), .i .i64 (a+j0), .i .i64 (a+i),Ah (X++A1++B1++(A2++B2++Y))]=
      N9.ev S N [Ah (X++A++B++Y), .i .i64 a, .i .i64 m, .i .i64 b, .f g caps, .i .i64 (a+i0), .i .i64 (a+j0), .i .i64 (a+i),Ah (X++A1++B1++(A2++B2++Y)),Ah ((X++mrg (leC c) A1 B1)++A2++B2++Y)]:=by
     by_cases t:A1=[]∨B1=[]
     ·have t1:¬(a<a+(i:Int)∧a+(i:Int)<mid):=by
       rcases t with t|t
       ·rw [t] at lA1;simp at lA1;omega
       ·rw [t] at lB1;simp at lB1;omega
      have e1:X++A1++B1++(A2++B2++Y)=(X++mrg (leC c) A1 B1)++A2++B2++Y:=by rcases t with t|t<;>subst t<;>simp [mrg,K1]
      rw [←e1];generalize X++A1++B1++(A2++B2++Y)=s1 at*;generalize X++A++B++Y=s at*;by_cases t2:a<a+(i:Int)
      ·have t3:¬a+(i:Int)<mid:=fun q=>t1 ⟨t2,q⟩;simp (disch:=omega) only [E3,Ex,hM,t2,t3,EVT,EVM,EVC,xe,EVP,EV,simprocAttr]
      ·simp (disch:=omega) only [E3,Ex,hM,t2,EVT,EVM,EVC,xe,EVP,EV,simprocAttr]
     ·have t':A1≠[]∧B1≠[]:=by grind
      have p1:=Bv.2 t'.1;have p2:=Bv.2 t'.2;have hr:=Jm hC ht n X A1 B1 (A2++B2++Y) a (a+i) mid (by omega) t'.1 t'.2 sA1 sB1 ha (by omega) (by omega) len1 mem1;have t2:a<a+(i:Int):=by omega
      have t3:a+(i:Int)<mid:=by omega
      have e1:X++mrg (leC c) A1 B1++(A2++B2++Y)=(X++mrg (leC c) A1 B1)++A2++B2++Y:=by simp
      rw [e1] at hr;generalize (X++mrg (leC c) A1 B1)++A2++B2++Y=s2 at*;generalize X++A1++B1++(A2++B2++Y)=s1 at*;generalize X++A++B++Y=s at*;simp (disch:=omega) only [E3,Ex,hM,t2,t3,hr,D1,Kf,EVT,EVM,EVC,xe,EVP,EV,simprocAttr]
    have s3:N9.ev S N [Ah (X++A++B++Y), .i .i64 a, .i .i64 m, .i .i64 b, .f g caps, .i .i64 (a+i0), .i .i64 (a+j0), .i .i64 (a+i),Ah (X++A1++B1++(A2++B2++Y)),Ah ((X++mrg (leC c) A1 B1)++A2++B2++Y)]=
      some (.ret [Ah (X++mrg (leC c) A B++Y)]):=by
     have e9:X++mrg (leC c) A B++Y=(X++mrg (leC c) A1 B1)++mrg (leC c) A2 B2++Y:=by rw [cut];simp
     rw [e9];by_cases t:A2=[]∨B2=[]
     ·have t1:¬(mid<mid+m - (a+i)∧mid+m - (a+(i:Int))<b):=by
       rcases t with t|t
       ·rw [t] at lA2;simp at lA2;omega
       ·rw [t] at lB2;simp at lB2;omega
      have e1:(X++mrg (leC c) A1 B1)++A2++B2++Y=(X++mrg (leC c) A1 B1)++mrg (leC c) A2 B2++Y:=by rcases t with t|t<;>subst t<;>simp [mrg,K1]
      rw [←e1];generalize (X++mrg (leC c) A1 B1)++A2++B2++Y=s2 at*;generalize X++A1++B1++(A2++B2++Y)=s1 at*;generalize X++A++B++Y=s at*;by_cases t2:mid<mid+m - (a+(i:Int))
      ·have t3:¬mid+m - (a+(i:Int))<b:=fun q=>t1 ⟨t2,q⟩;simp (disch:=omega) only [E3,Ex,hM,t2,t3,EVT,EVM,EVC,xe,EVP,EV,simprocAttr]
      ·simp (disch:=omega) only [E3,Ex,hM,t2,EVT,EVM,EVC,xe,EVP,EV,simprocAttr]
     ·have t':A2≠[]∧B2≠[]:=by grind
      have p1:=Bv.2 t'.1;have p2:=Bv.2 t'.2;have hr:=Jm hC ht n (X++mrg (leC c) A1 B1) A2 B2 Y mid (mid+m - (a+i)) b (by omega) t'.1 t'.2 sA2 sB2 (by simp only [Ac,lm1];omega) (by omega) (by omega) len2 mem2;have t2:mid<mid+m - (a+(i:Int)):=by omega
      have t3:mid+m - (a+(i:Int))<b:=by omega
      generalize (X++mrg (leC c) A1 B1)++mrg (leC c) A2 B2++Y=s3 at*;generalize (X++mrg (leC c) A1 B1)++A2++B2++Y=s2 at*;generalize X++A1++B1++(A2++B2++Y)=s1 at*;generalize X++A++B++Y=s at*;simp (disch:=omega) only [E3,Ex,hM,t2,t3,hr,D1,Kf,EVT,EVM,EVC,xe,EVP,EV,simprocAttr]
    have f2:N8.ev S N [Ah (X++A++B++Y), .i .i64 a, .i .i64 m, .i .i64 b, .f g caps, .i .i64 (a+i0), .i .i64 (a+j0), .i .i64 (a+i),Ah (X++A1++B1++(A2++B2++Y))]=some (.ret [Ah (X++mrg (leC c) A B++Y)]):=s2.trans s3;have f1:=s1.trans f2;clear s1 s2 s3 f2 mem1 mem2 cut k4 k5;generalize X++mrg (leC c) A B++Y=s3 at*;generalize X++A++B++Y=s at*;simp (disch:=omega) only [E3,q1,q2,Ex,hM,hc15,k1,f1,EVT,EVM,EVC,xe,EVP,EV,simprocAttr]
end
end Go.X.G
/- Stable sorting: the library's functions. -/
namespace Go.X.G
open Go Go.X
section
variable {g:Nat} {caps:List PV} {c:Rec→Rec→Int} {P:Rec→Prop}
theorem In3 (hC:Cmp g caps c P) (L L':List Rec) (i:Nat) (x y:Rec) (g0:L[i]? =some y) (g1:L[i+1]? =some x) (sw:(L.set (i+1) y).set i x=L') (k e:Int) (hk:k=i+1) (he:e<k) (he2:0≤e) (hx:P x) (hy:P y) (hlt:c x y<0) (hL:L.length≤1000000) (w0 w2 w4 w5:PV) (N:Nat):
  Ly.ev S N [w0, .i .i64 e,w2, .f g caps,w4,w5, .i .i64 k,Ah L]=some (.yld 3 [.i .i64 (k - 1),Ah L']):=by
 have hi:=(Av.1 g1).1;have ti0:(k - 1).toNat=i:=by omega
 have ti1:k.toNat=i+1:=by omega
 have g2:(L.set (i+1) y)[i]? =some y:=by rw [Ag0 (by omega)];exact g0
 have hc:=hC.ok x y hx hy;simp (disch:=first|omega|(rw [G5];omega)) only [Pd,It,Lw,he,ti0,ti1,g0,g1,g2,sw,hc,hlt,EVT,EVM,EVC,xe,EVP,EV,simprocAttr]
theorem Bl9 (hC:Cmp g caps c P) (L:List Rec) (i:Nat) (x y:Rec) (g0:L[i]? =some y) (g1:L[i+1]? =some x) (k e:Int) (hk:k=i+1) (he:e<k) (hx:P x) (hy:P y) (hlt:¬c x y<0) (hL:L.length≤1000000) (w0 w2 w4 w5:PV) (N:Nat):
  Ly.ev S N [w0, .i .i64 e,w2, .f g caps,w4,w5, .i .i64 k,Ah L]=some (.yld 2 [Ah L]):=by
 have hi:=(Av.1 g1).1;have ti0:(k - 1).toNat=i:=by omega
 have ti1:k.toNat=i+1:=by omega
 have hc:=hC.ok x y hx hy;simp (disch:=omega) only [Pd,It,Lw,he,ti0,ti1,g0,g1,hc,hlt,EVT,EVM,EVC,xe,EVP,EV,simprocAttr]
theorem Ej9 (L:List Rec) (k e:Int) (he:¬e<k) (w0 w2 w3 w4 w5:PV) (N:Nat):
  Ly.ev S N [w0, .i .i64 e,w2,w3,w4,w5, .i .i64 k,Ah L]=some (.yld 2 [Ah L]):=by
 simp (disch:=omega) only [Pd,It,Lw,he,EVT,EVM,EVC,xe,EVP,EV,simprocAttr]
theorem In2 (hC:Cmp g caps c P) (ht:TP (leC c)) (X R Y:List Rec) (x:Rec) (hR:R.Pairwise fun a b=>leC c a b=true) (hP:∀y∈X++R++x::Y,P y) (hs:(X++R++x::Y).length≤1000000) (a k:Int) (ha:a=X.length) (hk:k=a+R.length) (w0 w2:PV) (N:Nat) (hN:R.length<N):
  ∃R1 R2,R=R1++R2∧(∀y∈R1,leC c y x=true)∧(∀y∈R2,leC c y x=false)∧
   Bf9.ev S N [w0, .i .i64 a,w2, .f g caps, .i .i64 k,Ah (X++R++x::Y)]=some (.yld 2 [Ah (X++(R1++x::R2)++Y)]):=by
 have hx:P x:=hP x (by simp);have hs2:=hs;simp only [Ac,A3] at hs2;have key:=G1 (fn:=S) (N:=N) (η:=[w0, .i .i64 a,w2, .f g caps, .i .i64 k,Ah (X++R++x::Y)]) (id:=3) (init:=[.v 4, .v 5]) (body:=Ly) (α:=List Rec×List Rec)
  (fun w=>[.i .i64 (a+w.1.length),Ah (X++w.1++x::(w.2++Y))])
  (fun o=>∃R1 R2,R=R1++R2∧(∀y∈R1,leC c y x=true)∧(∀y∈R2,leC c y x=false)∧o= .yld 2 [Ah (X++(R1++x::R2)++Y)])
  (fun w=>R=w.1++w.2∧∀y∈w.2,leC c y x=false) (fun w=>w.1.length) (R,[]) ?_ ⟨by simp,by simp⟩ hN ?_
 ·obtain ⟨o,h1,R1,R2,h2,h3,h4,rfl⟩:=key;exact ⟨R1,R2,h2,h3,h4,h1⟩
 ·subst hk;simp only [Cm];generalize X++R++x::Y=s at*;simp (disch:=omega) only [EVT,EVM,EVC,xe,EVP,EV,simprocAttr]
 ·rintro ⟨R1,R2⟩ ⟨h1,h2⟩;simp only at h1 h2;have hlen:=congrArg List.length h1;simp only [Ac] at hlen;rcases List.eq_nil_or_concat R1 with rfl|⟨R0,y,rfl⟩
  ·right;refine ⟨_,Ej9 _ _ a (by simp) _ _ _ _ _ N,rfl,[],R2,h1,by simp,h2,?_⟩;simp
  ·rw [List.concat_eq_append] at*;simp only [Ac,A3,Bd] at hlen;have hy:P y:=hP y (by rw [h1];simp);have lP:(X++R0).length=X.length+R0.length:=Ac;have g0:=dy (X++R0) (x::(R2++Y)) y;have g1:=jh (X++R0) (R2++Y) y x;rw [lP] at g0 g1;have e0:X++(R0++[y])++x::(R2++Y)=X++R0++y::x::(R2++Y):=by simp
   have lL:(X++R0++y::x::(R2++Y)).length≤1000000:=by simp only [Ac,A3];omega
   by_cases hlt:c x y<0
   ·left;have sw0:((X++R0++y::x::(R2++Y)).set (X.length+R0.length+1) y).set (X.length+R0.length) x=X++R0++x::(y::R2++Y):=by rw [←lP,List.set_comm _ _ (by omega)];exact Fh5 (X++R0) (R2++Y) y x
    refine ⟨(R0,y::R2),?_,⟨by simp only;rw [h1];simp,fun w hw=> ?_⟩,by simp⟩
    ·have:=In3 hC _ _ (X.length+R0.length) x y g0 g1 sw0 (a+((R0++[y]).length:Nat)) a (by simp;omega) (by simp;omega) (by omega) hx hy hlt lL w0 w2 (.i .i64 k) (Ah (X++R++x::Y)) N;have e1:a+((R0++[y]).length:Nat) - 1=a+(R0.length:Int):=by simp;omega
     rw [e1] at this;show Ly.ev S N [w0, .i .i64 a,w2, .f g caps, .i .i64 k,Ah (X++R++x::Y), .i .i64 (a+((R0++[y]).length:Nat)),Ah (X++(R0++[y])++x::(R2++Y))]=_;rw [e0];exact this
    ·rcases Am.1 hw with rfl|hw
     ·exact Ej3.2 hlt
     ·exact h2 w hw
   ·right;have hle:leC c y x=true:=Ej2.2 hlt;refine ⟨_,?_,rfl,R0++[y],R2,h1,g7 ht (by rw [h1] at hR;exact (Et.1 hR).1) hle,h2,rfl⟩;have:=Bl9 hC _ (X.length+R0.length) x y g0 g1 (a+((R0++[y]).length:Nat)) a (by simp;omega) (by simp;omega) hx hy hlt lL w0 w2 (.i .i64 k) (Ah (X++R++x::Y)) N;show Ly.ev S N [w0, .i .i64 a,w2, .f g caps, .i .i64 k,Ah (X++R++x::Y), .i .i64 (a+((R0++[y]).length:Nat)),Ah (X++(R0++[y])++x::(R2++Y))]=_;rw [e0,this,←e0];simp
theorem U7 (hC:Cmp g caps c P) (ht:TP (leC c)) (X A Y:List Rec) (a b:Int) (ha:a=X.length) (hb:b=a+A.length) (hP:∀y∈X++A++Y,P y) (hs:(X++A++Y).length≤1000000):
  ∃R,Stab (leC c) R A∧R.length=A.length∧S Uf 1048580 [Ah (X++A++Y), .i .i64 a, .i .i64 b, .f g caps]=some [Ah (X++R++Y)]:=by
 have hs2:=hs;simp only [Ac] at hs2;cases A with
 |nil=>
  refine ⟨[],Ql _,rfl,?_⟩;refine Ec7 (N:=2) rfl ?_;simp only [Bd] at hb;have h1:¬a+1<b:=by omega
  have key:jx.ev S 2 [Ah (X++[]++Y), .i .i64 a, .i .i64 b, .f g caps]=some (.yld 0 [Ah (X++[]++Y)]):=by
   generalize X++[]++Y=s at*;refine F5 0 (fun _=>[.i .i64 (a+1),Ah s]) (fun _=> .yld 0 [Ah s]) ?_ (by omega) (fun i hi=>absurd hi (by omega)) ⟨?_,rfl⟩
   ·simp (disch:=omega) only [EVT,EVM,EVC,xe,EVP,EV,simprocAttr]
   ·simp (disch:=omega) only [Pd,It,Lw,h1,EVT,EVM,EVC,xe,EVP,EV,simprocAttr]
  generalize X++[]++Y=s at*;simp (disch:=omega) only [Pd,It,Lw,key,EVT,EVM,EVC,xe,EVP,EV,simprocAttr]
 |cons x0 A=>
  obtain ⟨N,hN⟩:∃N,N=A.length+3:=⟨_,rfl⟩;simp only [A3] at hb hs2;have key:=G1 (fn:=S) (N:=N) (η:=[Ah (X++x0::A++Y), .i .i64 a, .i .i64 b, .f g caps]) (id:=1) (init:=[.bin .add (.v 1) (.c (.i .i64 1)), .v 0]) (body:=X8) (α:=List Rec×List Rec×List Rec)
   (fun w=>[.i .i64 (a+w.1.length),Ah (X++w.1++(w.2.2++Y))])
   (fun o=>∃R,Stab (leC c) R (x0::A)∧R.length=(x0::A).length∧o= .yld 0 [Ah (X++R++Y)])
   (fun w=>x0::A=w.2.1++w.2.2∧Stab (leC c) w.1 w.2.1∧w.1.length=w.2.1.length) (fun w=>w.2.2.length) ([x0],[x0],A) ?_ ⟨rfl,gr _ _,rfl⟩ (by simp only;omega) ?_
  ·obtain ⟨o,h1,R,h2,h3,rfl⟩:=key;refine ⟨R,h2,h3,?_⟩;refine Ec7 (N:=N) rfl ?_;have h4:jx.ev S N [Ah (X++x0::A++Y), .i .i64 a, .i .i64 b, .f g caps]=_:=h1;clear h1;generalize X++x0::A++Y=s at*;generalize X++R++Y=u at*;simp (disch:=omega) only [Pd,It,Lw,h4,EVT,EVM,EVC,xe,EVP,EV,simprocAttr]
  ·simp only [A3,Bd];have e:X++[x0]++(A++Y)=X++x0::A++Y:=by simp
   rw [e];have e1:a+((0+1:Nat):Int)=a+1:=by omega
   rw [e1];generalize X++x0::A++Y=s at*;simp (disch:=omega) only [EVT,EVM,EVC,xe,EVP,EV,simprocAttr]
  ·rintro ⟨R,D,Z⟩ ⟨h1,h2,h3⟩;simp only at h1 h2 h3;have hlen:=congrArg List.length h1;simp only [Ac,A3] at hlen;cases Z with
   |nil=>
    right;rw [Dm] at h1;subst h1;refine ⟨_,?_,rfl,R,h2,h3,rfl⟩;have hlt:¬a+(R.length:Int)<b:=by simp only [A3] at h3;omega
    simp only [Cm];generalize X++x0::A++Y=s at*;have hu:(X++R++Y).length≤1000000:=by simp only [Ac];omega
    generalize X++R++Y=u at*;simp (disch:=omega) only [Pd,It,Lw,hlt,EVT,EVM,EVC,xe,EVP,EV,simprocAttr]
   |cons x Z=>
    left;simp only [A3] at hlen;have hmem:∀y∈X++R++x::(Z++Y),P y:=fun y hy=>hP y (by
     rw [h1];have:=h2.mem ht y;simp only [B0,Am] at hy ⊢
     grind)
    have hlen2:(X++R++x::(Z++Y)).length≤1000000:=by simp only [Ac,A3];omega
    obtain ⟨R1,R2,rfl,k1,k2,k3⟩:=In2 hC ht X R (Z++Y) x h2.sorted hmem hlen2 a (a+R.length) ha rfl (Ah (X++x0::A++Y)) (.i .i64 b) N (by omega);refine ⟨(R1++x::R2,D++[x],Z),?_,⟨by simp only;rw [h1];simp,Dm4 ht h2 k1 k2,by simp at h3 ⊢;omega⟩,by simp⟩;have e1:a+((R1++x::R2).length:Nat)=a+((R1++R2).length:Nat)+1:=by simp;omega
    have hlt:a+((R1++R2).length:Nat)<b:=by omega
    show X8.ev S N [Ah (X++x0::A++Y), .i .i64 a, .i .i64 b, .f g caps, .i .i64 (a+((R1++R2).length:Nat)),Ah (X++(R1++R2)++x::(Z++Y))]=some (.yld 1 [.i .i64 (a+((R1++x::R2).length:Nat)),Ah (X++(R1++x::R2)++(Z++Y))]);rw [e1];have hb2:(R1++R2).length≤1000000:=by simp only [Ac] at hlen2 ⊢;omega
    generalize (R1++R2).length=n at*;generalize X++(R1++R2)++x::(Z++Y)=s1 at*;generalize X++(R1++x::R2)++(Z++Y)=s2 at*;generalize X++x0::A++Y=s at*;simp (disch:=omega) only [Pd,It,Lw,hlt,k3,EVT,EVM,EVC,xe,EVP,EV,simprocAttr]
end
end Go.X.G
/- Stable sorting: the Md. -/
namespace Go.X.G
open Go Go.X
theorem d5 {α:Type} {le:α→α→Bool} (ht:TP le) {bs:Nat} {Y LY:List α} (h:Blk le bs Y LY) (hl:Y.length≤2*bs) (hb:bs<Y.length):Stab le (mrg le (Y.take bs) (Y.drop bs)) LY:=by have h1:=h.head;have h2:=(h.tail).all (by rw [B3];omega);have:=Stab.mrg ht h1 h2;rwa [Bl] at this
theorem Blk.pre {α:Type} {le:α→α→Bool} {bs k:Nat} {Y LY:List α} (h:Blk le bs Y LY):Blk le bs (Y.take (k*bs)) (LY.take (k*bs)):=by
 refine ⟨by simp [h.len],fun j=> ?_⟩;rw [List.drop_take,List.drop_take,Af8,Af8];by_cases hj:j<k
 ·have e:(j+1)*bs≤k*bs:=Bz _ hj;rw [Nat.succ_mul] at e;rw [I8 (by omega)];exact h.st j
 ·have e:k*bs≤j*bs:=Bz _ (by omega);rw [show k*bs - j*bs=0 by omega,Nat.min_eq_right (by omega),List.take_zero,List.take_zero];exact Ql le
section
variable {g:Nat} {caps:List PV} {c:Rec→Rec→Int} {P:Rec→Prop}
theorem Ix1 (hC:Cmp g caps c P) (ht:TP (leC c)) (l:List Rec) (hP:∀y∈l,P y) (hs:l.length≤1000000) (N:Nat) (hN:l.length+2<N):
  ∃(X LX Y:List Rec) (q:Nat),Bh4.ev S N [Ah l, .i .i64 l.length, .f g caps]=some (.yld 0 [.i .i64 X.length,Ah (X++Y)])∧l=LX++Y∧X.length=q*20∧Y.length<20∧Blk (leC c) 20 X LX∧∀y∈X++Y,P y:=by
 have key:=G1 (fn:=S) (N:=N) (η:=[Ah l, .i .i64 l.length, .f g caps]) (id:=1) (init:=[.c (.i .i64 0), .c (.i .i64 20), .v 0]) (body:=mr) (α:=List Rec×List Rec×List Rec×Nat)
  (fun w=>[.i .i64 (w.1.length:Int), .i .i64 ((w.1.length:Int)+20),Ah (w.1++w.2.2.1)])
  (fun o=>∃(X LX Y:List Rec) (q:Nat),o= .yld 0 [.i .i64 X.length,Ah (X++Y)]∧l=LX++Y∧X.length=q*20∧Y.length<20∧Blk (leC c) 20 X LX∧∀y∈X++Y,P y)
  (fun w=>l=w.2.1++w.2.2.1∧w.1.length=w.2.2.2*20∧Blk (leC c) 20 w.1 w.2.1∧∀y∈w.1++w.2.2.1,P y) (fun w=>w.2.2.1.length) ([],[],l,0) ?_ ⟨rfl,by simp,Blk.nil _ _,by simpa using hP⟩ (by simp only;omega) ?_
 ·obtain ⟨o,h1,X,LX,Y,q,rfl,h2⟩:=key;exact ⟨X,LX,Y,q,h1,h2⟩
 ·simp (disch:=omega) only [EVT,EVM,EVC,xe,EVP,EV,simprocAttr]
  try simp
 ·rintro ⟨X,LX,Y,q⟩ ⟨h1,h2,h3,h4⟩;simp only at h1 h2 h3 h4;have hlen:=congrArg List.length h1;simp only [Ac] at hlen;have hXL:=h3.len;by_cases hge:20≤Y.length
  ·left;have eY:Y.take 20++Y.drop 20=Y:=Bl _ _;have l1:(Y.take 20).length=20:=by rw [An];omega
   have l2:(Y.drop 20).length=Y.length - 20:=B3;have eXY:X++Y.take 20++Y.drop 20=X++Y:=by rw [As,eY]
   obtain ⟨R,k1,k2,k3⟩:=U7 hC ht X (Y.take 20) (Y.drop 20) (X.length:Int) ((X.length:Int)+20) rfl (by omega) (by rw [eXY];exact h4) (by rw [eXY,Ac];omega);rw [eXY] at k3;refine ⟨(X++R,LX++Y.take 20,Y.drop 20,q+1),?_,⟨by simp only;rw [h1,As,eY],by simp only [Ac];omega,Blk.app h2 h3 (Blk.one k1 k2 (by omega)),fun y hy=>h4 y ?_⟩,by simp only;omega⟩
   ·have e1:((X++R).length:Int)=(X.length:Int)+20:=by simp only [Ac];omega
    have hge':(X.length:Int)+20≤(l.length:Int):=by omega
    simp only;rw [e1];generalize X++R++Y.drop 20=s1 at*;generalize X++Y=s0 at*;simp (disch:=omega) only [Pf,hge',k3,D1,Kf,EVT,EVM,EVC,xe,EVP,EV,simprocAttr]
   ·have:=k1.mem ht y;simp only [B0] at hy;rcases hy with (hy|hy)|hy
    ·simp [hy]
    ·exact Bm _ (Gz (this.1 hy))
    ·exact Bm _ (Ij hy)
  ·right;have hge':¬(X.length:Int)+20≤(l.length:Int):=by omega
   refine ⟨.yld 0 [.i .i64 X.length,Ah (X++Y)],?_,rfl,X,LX,Y,q,rfl,h1,h2,by omega,h3,h4⟩;simp only;generalize X++Y=s0 at*;simp (disch:=omega) only [Pf,hge',EVT,EVM,EVC,xe,EVP,EV,simprocAttr]
theorem Ix0 (hC:Cmp g caps c P) (ht:TP (leC c)) (l r:List Rec) (bs:Nat) (hbs:0<bs) (hbs2:bs<l.length) (hr:Blk (leC c) bs r l) (hP:∀y∈r,P y) (hs:l.length≤1000000) (w0:PV) (w3 w4 w5:PV) (N:Nat) (hN:l.length+2<N):
  ∃(X LX Y LY:List Rec) (q:Nat),Bf6.ev S N [w0, .i .i64 l.length, .f g caps,w3,w4,w5, .i .i64 bs,Ah r]=some (.yld 2 [.i .i64 X.length,Ah (X++Y)])∧l=LX++LY∧X.length=q*(2*bs)∧Y.length<2*bs∧Blk (leC c) (2*bs) X LX∧Blk (leC c) bs Y LY∧∀y∈X++Y,P y:=by
 have key:=G1 (fn:=S) (N:=N) (η:=[w0, .i .i64 l.length, .f g caps,w3,w4,w5, .i .i64 bs,Ah r]) (id:=3) (init:=[.c (.i .i64 0), .bin .mul (.c (.i .i64 2)) (.v 6), .v 7]) (body:=mz) (α:=(List Rec×List Rec)×(List Rec×List Rec)×Nat)
  (fun w=>[.i .i64 (w.1.1.length:Int), .i .i64 ((w.1.1.length:Int)+2*bs),Ah (w.1.1++w.2.1.1)])
  (fun o=>∃(X LX Y LY:List Rec) (q:Nat),o= .yld 2 [.i .i64 X.length,Ah (X++Y)]∧l=LX++LY∧X.length=q*(2*bs)∧Y.length<2*bs∧Blk (leC c) (2*bs) X LX∧Blk (leC c) bs Y LY∧∀y∈X++Y,P y)
  (fun w=>l=w.1.2++w.2.1.2∧w.1.1.length=w.2.2*(2*bs)∧Blk (leC c) (2*bs) w.1.1 w.1.2∧Blk (leC c) bs w.2.1.1 w.2.1.2∧∀y∈w.1.1++w.2.1.1,P y) (fun w=>w.2.1.1.length) (([],[]),(r,l),0) ?_ ⟨rfl,by simp,Blk.nil _ _,hr,by simpa using hP⟩ (by have:=hr.len;simp only;omega) ?_
 ·obtain ⟨o,h1,X,LX,Y,LY,q,rfl,h2⟩:=key;exact ⟨X,LX,Y,LY,q,h1,h2⟩
 ·simp (disch:=omega) only [EVT,EVM,EVC,xe,EVP,EV,simprocAttr];simp
 ·rintro ⟨⟨X,LX⟩,⟨Y,LY⟩,q⟩ ⟨h1,h2,h3,h4,h5⟩;simp only at h1 h2 h3 h4 h5;have hlen:=congrArg List.length h1;simp only [Ac] at hlen;have hXL:=h3.len;have hYL:=h4.len;by_cases hge:2*bs≤Y.length
  ·left;have eY:Y.take (2*bs)++Y.drop (2*bs)=Y:=Bl _ _;have l1:(Y.take (2*bs)).length=2*bs:=by rw [An];omega
   have l2:(Y.drop (2*bs)).length=Y.length - 2*bs:=B3;have hp:=h4.pre (k:=2);have hz:Blk (leC c) bs (Y.drop (2*bs)) (LY.drop (2*bs)):=by have:=h4.tail.tail;rwa [Ch,Ch,show bs+bs=2*bs by omega] at this
   have hst:=d5 ht hp (by omega) (by omega);have sA:((Y.take (2*bs)).take bs).Pairwise fun x y=>leC c x y=true:=hp.head.sorted;have sB:((Y.take (2*bs)).drop bs).Pairwise fun x y=>leC c x y=true:=(hp.tail.all (by rw [B3];omega)).sorted;have lA:((Y.take (2*bs)).take bs).length=bs:=by rw [An];omega
   have lB:((Y.take (2*bs)).drop bs).length=bs:=by rw [B3];omega
   have eAB:(Y.take (2*bs)).take bs++(Y.take (2*bs)).drop bs=Y.take (2*bs):=Bl _ _;generalize (Y.take (2*bs)).take bs=A at*;generalize (Y.take (2*bs)).drop bs=B at*;have eXY:X++A++B++Y.drop (2*bs)=X++Y:=by rw [As X,eAB,As,eY]
   have hm:=Jm hC ht (A.length+B.length) X A B (Y.drop (2*bs)) (X.length:Int) ((X.length:Int)+bs) ((X.length:Int)+2*bs) (Af _) (by intro e;rw [e] at lA;simp at lA;omega) (by intro e;rw [e] at lB;simp at lB;omega) sA sB rfl (by omega) (by omega) (by rw [eXY,Ac];omega) (by rw [eXY];exact h5);rw [eXY] at hm;have lM:=Sj (leC c) A B;have eL:LY.take (2*bs)++LY.drop (2*bs)=LY:=Bl _ _;refine ⟨((X++mrg (leC c) A B,LX++LY.take (2*bs)),(Y.drop (2*bs),LY.drop (2*bs)),q+1),?_,⟨by simp only;rw [h1,As,eL],by simp only [Ac];rw [Nat.succ_mul];omega,Blk.app h2 h3 (Blk.one hst (by rw [lM,An];omega) (by omega)),hz,fun y hy=>h5 y ?_⟩,by simp only;omega⟩
   ·have e1:((X++mrg (leC c) A B).length:Int)=(X.length:Int)+2*bs:=by simp only [Ac];omega
    have hge':(X.length:Int)+2*(bs:Int)≤(l.length:Int):=by omega
    simp only;rw [e1];generalize X++mrg (leC c) A B++Y.drop (2*bs)=s1 at*;generalize X++Y=s0 at*;simp (disch:=omega) only [Pf,hge',hm,D1,Kf,EVT,EVM,EVC,xe,EVP,EV,simprocAttr]
   ·rw [←eXY];simp only [B0,mrg_mem] at hy ⊢
    grind
  ·right;have hge':¬(X.length:Int)+2*(bs:Int)≤(l.length:Int):=by omega
   refine ⟨.yld 2 [.i .i64 X.length,Ah (X++Y)],?_,rfl,X,LX,Y,LY,q,rfl,h1,h2,by omega,h3,h4,h5⟩;simp only;generalize X++Y=s0 at*;simp (disch:=omega) only [Pf,hge',EVT,EVM,EVC,xe,EVP,EV,simprocAttr]
theorem Ix2 (hC:Cmp g caps c P) (ht:TP (leC c)) (l r:List Rec) (bs:Nat) (hbs:0<bs) (hbs2:bs<l.length) (hr:Blk (leC c) bs r l) (hP:∀y∈r,P y) (hs:l.length≤1000000) (w0 w3 w4 w5:PV) (N:Nat) (hN:l.length+2<N):
  ∃r',Blk (leC c) (2*bs) r' l∧(∀y∈r',P y)∧X7.ev S N [w0, .i .i64 l.length, .f g caps,w3,w4,w5, .i .i64 bs,Ah r]=some (.yld 1 [.i .i64 ((2*bs:Nat):Int),Ah r']):=by
 obtain ⟨X,LX,Y,LY,q,k,h1,h2,h3,h4,h5,h6⟩:=Ix0 hC ht l r bs hbs hbs2 hr hP hs w0 w3 w4 w5 N hN;have hlen:=congrArg List.length h1;simp only [Ac] at hlen;have hXL:=h4.len;have hYL:=h5.len;have hlt:(bs:Int)<(l.length:Int):=by omega
 have e2:((2*bs:Nat):Int)=(bs:Int)*2:=by omega
 rw [e2];by_cases hge:bs<Y.length
 ·have eY:Y.take bs++Y.drop bs=Y:=Bl _ _;have hst:=d5 ht h5 (by omega) hge;have sA:=h5.head.sorted;have sB:=(h5.tail.all (by rw [B3];omega)).sorted;have lA:(Y.take bs).length=bs:=by rw [An];omega
  have lB:(Y.drop bs).length=Y.length - bs:=B3;generalize Y.take bs=A at*;generalize Y.drop bs=B at*;have eXY:X++A++B++[]=X++Y:=by rw [Dm,As,eY]
  have hm:=Jm hC ht (A.length+B.length) X A B [] (X.length:Int) ((X.length:Int)+bs) (l.length:Int) (Af _) (by intro e;rw [e] at lA;simp at lA;omega) (by intro e;rw [e] at lB;simp at lB;omega) sA sB rfl (by omega) (by omega) (by rw [eXY,Ac];omega) (by rw [eXY];exact h6);rw [eXY,Dm] at hm;have lM:=Sj (leC c) A B;refine ⟨X++mrg (leC c) A B,by rw [h1];exact Blk.app h2 h4 (Blk.one hst (by omega) (by omega)),fun y hy=>h6 y (by
   rw [←eXY];simp only [B0,mrg_mem] at hy ⊢
   grind),?_⟩
  have hge':(X.length:Int)+(bs:Int)<(l.length:Int):=by omega
  generalize X++mrg (leC c) A B=s1 at*;generalize X++Y=s0 at*;simp (disch:=omega) only [Pf,hlt,hge',k,hm,D1,Kf,EVT,EVM,EVC,xe,EVP,EV,simprocAttr]
 ·refine ⟨X++Y,by rw [h1];exact Blk.app h2 h4 (Blk.one (h5.all (by omega)) hYL (by omega)),h6,?_⟩;have hge':¬(X.length:Int)+(bs:Int)<(l.length:Int):=by omega
  generalize X++Y=s0 at*;simp (disch:=omega) only [Pf,hlt,hge',k,EVT,EVM,EVC,xe,EVP,EV,simprocAttr]
theorem An4 (hC:Cmp g caps c P) (ht:TP (leC c)) (l:List Rec) (hP:∀y∈l,P y) (hs:l.length≤1000000):
  ∃r,Stab (leC c) r l∧r.length=l.length∧S bc 1048579 [Ah l, .i .i64 l.length, .f g caps]=some [Ah r]:=by
 obtain ⟨N,hN⟩:∃N,N=l.length+3:=⟨_,rfl⟩;obtain ⟨X,LX,Y,q,k0,h1,h2,h3,h4,h5⟩:=Ix1 hC ht l hP hs N (by omega);have hlen:=congrArg List.length h1;simp only [Ac] at hlen;have hXL:=h4.len;obtain ⟨R,i1,i2,i3⟩:=U7 hC ht X Y [] (X.length:Int) (l.length:Int) rfl (by omega) (by simpa using h5) (by simp;omega);simp only [Dm] at i3;have hB:Blk (leC c) 20 (X++R) l:=by rw [h1];exact Blk.app h2 h4 (Blk.one i1 i2 (by omega))
 have hP':∀y∈X++R,P y:=fun y hy=>h5 y (by
  have:=i1.mem ht y;simp only [B0] at hy ⊢
  grind)
 have key:=G1 (fn:=S) (N:=N) (η:=[Ah l, .i .i64 l.length, .f g caps, .i .i64 X.length,Ah (X++Y),Ah (X++R)]) (id:=1) (init:=[.c (.i .i64 20), .v 5]) (body:=X7) (α:=Nat×List Rec)
  (fun w=>[.i .i64 (w.1:Int),Ah w.2])
  (fun o=>∃r,Stab (leC c) r l∧r.length=l.length∧o= .yld 0 [Ah r])
  (fun w=>0<w.1∧Blk (leC c) w.1 w.2 l∧∀y∈w.2,P y) (fun w=>l.length - w.1) (20,X++R) ?_ ⟨by simp,hB,hP'⟩ (by simp only;omega) ?_
 ·obtain ⟨o,k1,r,k2,k3,rfl⟩:=key;refine ⟨r,k2,k3,?_⟩;refine Hj8 (N:=N) rfl ?_;have k4:Bg0.ev S N [Ah l, .i .i64 l.length, .f g caps, .i .i64 X.length,Ah (X++Y),Ah (X++R)]=_:=k1;clear k1;generalize X++Y=s0 at*;generalize X++R=s1 at*;simp (disch:=omega) only [Pf,k0,i3,k4,D1,Kf,EVT,EVM,EVC,xe,EVP,EV,simprocAttr]
 ·generalize X++Y=s0 at*;generalize X++R=s1 at*;simp (disch:=omega) only [EVT,EVM,EVC,xe,EVP,EV,simprocAttr]
 ·rintro ⟨bs,r⟩ ⟨g1,g2,g3⟩;simp only at g1 g2 g3;have hr:=g2.len;by_cases hlt:bs<l.length
  ·left;obtain ⟨r',k1,k2,k3⟩:=Ix2 hC ht l r bs g1 hlt g2 g3 hs (Ah l) (.i .i64 X.length) (Ah (X++Y)) (Ah (X++R)) N (by omega);exact ⟨(2*bs,r'),k3,⟨by simp only;omega,k1,k2⟩,by simp only;omega⟩
  ·right;have hlt':¬(bs:Int)<(l.length:Int):=by omega
   refine ⟨.yld 0 [Ah r],?_,rfl,r,g2.all (by omega),hr,rfl⟩;generalize X++Y=s0 at*;generalize X++R=s1 at*;simp (disch:=omega) only [Pf,hlt',EVT,EVM,EVC,xe,EVP,EV,simprocAttr]
theorem Ov (hC:Cmp g caps c P) (ht:TP (leC c)) (l:List Rec) (hP:∀y∈l,P y) (hs:l.length≤1000000):
  ∃r,Stab (leC c) r l∧r.length=l.length∧S By9 1048578 [Ah l, .f g caps]=some [Ah r]:=by
 obtain ⟨r,h1,h2,h3⟩:=An4 hC ht l hP hs;refine ⟨r,h1,h2,?_⟩;refine Iy0 (N:=1) rfl ?_;simp (disch:=omega) only [Ik9,h3,D1,Kf,EVT,EVM,EVC,xe,EVP,EV,simprocAttr]
end
end Go.X.G
/- Records compacted: the library's function. -/
namespace Go.X.G
open Go Go.X
theorem nc (l:List Rec) (g:Nat) (caps:List PV) (eq2:Rec→Rec→Bool) (h:∀x∈l,∀y∈l,S g 2 (x.pv::y.pv::caps)=some [.b (eq2 x y)]) (hl:l.length≤1000000):S cq 1048578 [Ah l, .f g caps]=some [Ah (cpt eq2 l)]:=by
 refine Hv3 (N:=l.length+2) rfl ?_;by_cases h2:(l.length:Int)<2
 ·have e:cpt eq2 l=l:=by
   match l,h2 with
   |[],_=>rfl
   |[x],_=>rfl
   |_::_::_,h=>simp at h;omega
  rw [e];simp (disch:=omega) only [M8,h2,EVT,EVM,EVC,xe,EVP,EV,simprocAttr]
 ·-- the inner F9, from a place where two neighbours are equal
  have inner:∀k:Nat,1≤k→k<l.length→cpt eq2 (l.take (k+1))=l.take k→∃s:List Rec,s.length=l.length∧s.take (cpt eq2 l).length=cpt eq2 l∧Bg2.ev S (l.length+2) [Ah l, .f g caps, .i .i64 (k:Int),Ah l, .b true]=some (.yld 2 [.i .i64 ((cpt eq2 l).length:Int),Ah s]):=by
   intro k hk1 hk hcp;have key:=G1 (fn:=S) (N:=l.length+2) (η:=[Ah l, .f g caps, .i .i64 (k:Int),Ah l, .b true]) (id:=3) (init:=[(.v 2),(.c (.i .i64 (1))),(.v 3)]) (body:=mc) (α:=Nat×Nat×List Rec)
    (fun a=>[.i .i64 (a.1:Int), .i .i64 (a.2.1:Int),Ah a.2.2])
    (fun o=>∃s:List Rec,s.length=l.length∧s.take (cpt eq2 l).length=cpt eq2 l∧o= .yld 2 [.i .i64 ((cpt eq2 l).length:Int),Ah s])
    (fun a=>1≤a.2.1∧k+a.2.1≤l.length∧a.1<k+a.2.1∧a.2.2.length=l.length∧a.2.2.take a.1=cpt eq2 (l.take (k+a.2.1))∧(cpt eq2 (l.take (k+a.2.1))).length=a.1∧a.2.2.drop (k+a.2.1 - 1)=l.drop (k+a.2.1 - 1))
    (fun a=>l.length - a.2.1) (k,1,l) (by simp (disch:=omega) only [EVT,EVM,EVC,xe,EVP,EV,simprocAttr])
    ⟨by simp,by simp;omega,by simp,rfl,by simp only;rw [hcp],by simp only;rw [hcp,An];omega,rfl⟩ (by simp only;omega) ?_
   ·obtain ⟨o,h3,s,h4,h5,rfl⟩:=key;exact ⟨s,h4,h5,h3⟩
   ·rintro ⟨i,j,s⟩ ⟨a1,a2,a3,a4,a5,a6,a7⟩;simp only at a1 a2 a3 a4 a5 a6 a7;by_cases hj:k+j<l.length
    ·left;have c1:s[k+j]? =l[k+j]? :=by have:=congrArg (fun q=>q[1]?) a7;simp only [A6] at this;rwa [show k+j - 1+1=k+j by omega] at this
     have c0:s[k+j - 1]? =l[k+j - 1]? :=by have:=congrArg (fun q=>q[0]?) a7;simpa only [A6,Dq] using this
     have g1:l[k+j]? =some (l[k+j]'hj):=Az hj;have g0:l[k+j - 1]? =some (l[k+j - 1]'(by omega)):=Az (by omega);have tk:l.take (k+(j+1))=l.take (k+j)++[l[k+j]'hj]:=by rw [show k+(j+1)=(k+j)+1 by omega,Ck,g1];rfl
     have ne:l.take (k+j)≠[]:=by intro h;have:=congrArg List.length h;rw [An,Bd] at this;omega
     have gl:(l.take (k+j)).getLast ne=l[k+j - 1]'(by omega):=by rw [Im];simp only [nn,An];congr 1;omega
     have cs:=L4 eq2 (l[k+j]'hj) (l.take (k+j)) ne;rw [←tk,gl] at cs;have hc:=h (l[k+j]'hj) (Dx _) (l[k+j - 1]'(by omega)) (Dx _);generalize l[k+j]'hj=x at*;generalize l[k+j - 1]'(by omega)=y at*;have hjj:(j:Int)<(s.length:Int) - (k:Int):=by omega
     have i1:Hj 16 (Ah s) (.i .i64 ((k:Int)+(j:Int)))=some x.pv:=by rw [J3 _ _ _ (by omega),show ((k:Int)+(j:Int)).toNat=k+j by omega,c1,g1];rfl
     have i0:Hj 16 (Ah s) (.i .i64 ((k:Int)+((j:Int) - 1)))=some y.pv:=by rw [J3 _ _ _ (by omega),show ((k:Int)+((j:Int) - 1)).toNat=k+j - 1 by omega,c0,g0];rfl
     have ls:G0 16 (Ah s) (.i .i64 (k:Int)) (.i .i64 (s.length:Int))=some (Ah (s.drop k)):=by rw [Gt _ _ _ _ _ (by omega) (by omega) (by omega)];simp
     have e1:(s.drop k)[j]? =some x:=by rw [A6,c1,g1]
     have e0:(s.drop k)[j - 1]? =some y:=by rw [A6,show k+(j - 1)=k+j - 1 by omega,c0,g0]
     have si:∃w,s[i]? =some w:=⟨_,Az (by omega)⟩;obtain ⟨w,si⟩:=si;have ej:((j:Int) - 1).toNat=j - 1:=by omega
     by_cases hxy:eq2 x y=true
     ·refine ⟨(i,j+1,s),?_,⟨by simp,by simp only;omega,by simp only;omega,a4,?_,?_,?_⟩,by simp only;omega⟩
      ·simp (disch:=omega) only [M8,hjj,i1,i0,ls,e1,e0,ej,hc,hxy,EVT,EVM,EVC,xe,EVP,EV,simprocAttr]
      ·simp only;rw [cs,a5];simp [hxy]
      ·simp only;rw [cs,Ac,a6];simp [hxy]
      ·simp only;rw [show k+(j+1) - 1=(k+j - 1)+1 by omega,←Ch,←Ch,a7]
     ·refine ⟨(i+1,j+1,s.set i x),?_,⟨by simp,by simp only;omega,by simp only;omega,by simpa using a4,?_,?_,?_⟩,by simp only;omega⟩
      ·simp (disch:=omega) only [M8,hjj,i1,i0,ls,e1,e0,ej,si,hc,hxy,EVT,EVM,EVC,xe,EVP,EV,simprocAttr]
      ·simp only;rw [cs,Ck,List.getElem?_set_self (by omega),List.take_set_of_le (by omega),a5];simp [hxy]
      ·simp only;rw [cs,Ac,a6];simp [hxy]
      ·simp only;rw [show k+(j+1) - 1=(k+j - 1)+1 by omega,Qd (by omega),←Ch,←Ch,a7]
    ·right;have ek:k+j=l.length:=by omega
     rw [ek,C7] at a5 a6;have hjj:¬(j:Int)<(s.length:Int) - (k:Int):=by omega
     refine ⟨.yld 2 [.i .i64 (i:Int),Ah s],?_,rfl,s,a4,by rw [a6];exact a5,by rw [a6]⟩;simp (disch:=omega) only [M8,hjj,EVT,EVM,EVC,xe,EVP,EV,simprocAttr]
  have key:Bl2.ev S (l.length+2) [Ah l, .f g caps]=some (if cpt eq2 l=l then .yld 0 [Ah l] else .ret [Ah (cpt eq2 l)]):=by
   have:=G1 (fn:=S) (N:=l.length+2) (η:=[Ah l, .f g caps]) (id:=1) (init:=[(.c (.i .i64 (1))),(.v 0)]) (body:=m9) (α:=Nat)
    (fun k=>[.i .i64 (k:Int),Ah l]) (fun o=>o=if cpt eq2 l=l then .yld 0 [Ah l] else .ret [Ah (cpt eq2 l)])
    (fun k=>1≤k∧k≤l.length∧cpt eq2 (l.take k)=l.take k) (fun k=>l.length - k) 1 (by simp (disch:=omega) only [EVT,EVM,EVC,xe,EVP,EV,simprocAttr])
    ⟨Af 1,by omega,by cases l with
     |nil=>simp at h2
     |cons x r=>rfl⟩ (by omega) ?_
   ·obtain ⟨o,h3,h4⟩:=this;rw [←h4];exact h3
   ·rintro k ⟨k1,k2,k3⟩;by_cases hk:k<l.length
    ·have g1:l[k]? =some l[k]:=Az hk;have g0:l[k - 1]? =some (l[k - 1]'(by omega)):=Az (by omega);have tk:l.take (k+1)=l.take k++[l[k]]:=by rw [Ck,g1];rfl
     have ne:l.take k≠[]:=by intro h;have:=congrArg List.length h;rw [An,Bd] at this;omega
     have gl:(l.take k).getLast ne=l[k - 1]'(by omega):=by rw [Im];simp only [nn,An];congr 1;omega
     have cs:=L4 eq2 l[k] (l.take k) ne;rw [←tk,gl,k3] at cs;have hkk:(k:Int)<(l.length:Int):=by omega
     have i1:Hj 16 (Ah l) (.i .i64 (k:Int))=some (l[k]).pv:=by rw [J3 _ _ _ (by omega),show ((k:Int)).toNat=k by omega,g1];rfl
     have i0:Hj 16 (Ah l) (.i .i64 ((k:Int) - 1))=some (l[k - 1]'(by omega)).pv:=by rw [J3 _ _ _ (by omega),show ((k:Int) - 1).toNat=k - 1 by omega,g0];rfl
     have hc:=h l[k] (Dx _) (l[k - 1]'(by omega)) (Dx _);by_cases hxy:eq2 l[k] (l[k - 1]'(by omega))=true
     ·right;have cs':cpt eq2 (l.take (k+1))=l.take k:=by rw [cs];simp [hxy]
      obtain ⟨s,s1,s2,s3⟩:=inner k k1 hk cs';have hlt:cpt eq2 l≠l:=by
       intro h;have q:(cpt eq2 l).length≤(cpt eq2 (l.take (k+1))).length+(l.drop (k+1)).length:=by
        have:∀(b a:List Rec),a≠[]→(cpt eq2 (a++b)).length≤(cpt eq2 a).length+b.length:=by
         intro b
         induction b with
         |nil=>intro a _;simp
         |cons x r ih=>
          intro a ha;have h1:=ih (a++[x]) (by simp);rw [L4 _ _ _ ha] at h1;rw [show a++x::r=a++[x]++r by simp];refine C6 h1 ?_;rw [Ac];split<;>simp<;>omega
        have h3:=this (l.drop (k+1)) (l.take (k+1)) (by intro h;have:=congrArg List.length h;rw [An,Bd] at this;omega);rwa [Bl] at h3
       rw [h,cs',An,B3] at q;omega
      have hlen:=Xh eq2 l;refine ⟨.ret [Ah (cpt eq2 l)],?_,rfl,by rw [if_neg hlt]⟩;generalize cpt eq2 l=fl at*;have ls:G0 16 (Ah l) (.i .i64 (k:Int)) (.i .i64 (l.length:Int))=some (Ah (l.drop k)):=by rw [Gt _ _ _ _ _ (by omega) (by omega) (by omega)];simp
      have hsl1:G0 16 (Ah s) (.i .i64 ((fl.length:Nat):Int)) (.i .i64 (s.length:Int))=some (Ah (s.drop fl.length)):=by rw [Gt _ _ _ _ _ (by omega) (by omega) (by omega)];simp
      have hsl2:G0 16 (Ah s) (.i .i64 0) (.i .i64 ((fl.length:Nat):Int))=some (Ah fl):=by rw [Gt _ _ _ _ _ (by omega) (by omega) (by omega)];simp [s2]
      have hrep:Kg 16 (.i .i64 ((s.length:Int) - (fl.length:Int))) nr=some (Ah (List.replicate (s.length - fl.length) zr)):=by rw [tv _ (by omega) (by omega)];congr 3;omega
      have happ:H4 16 (Ah fl) (Ah (List.replicate (s.length - fl.length) zr))=some (Ah (fl++List.replicate (s.length - fl.length) zr)):=Q3 _ _ (by simp;omega);have hsl3:G0 16 (Ah (fl++List.replicate (s.length - fl.length) zr)) (.i .i64 0) (.i .i64 ((fl.length:Nat):Int))=some (Ah fl):=by rw [Gt _ _ _ _ _ (by omega) (by omega) (by simp;omega)];simp
      simp (disch:=omega) only [M8,hkk,i1,i0,hc,hxy,ls,s3,hsl1,hsl2,hrep,happ,hsl3,EVT,EVM,EVC,xe,EVP,EV,simprocAttr]
     ·left;refine ⟨k+1,?_,⟨by omega,by omega,?_⟩,by omega⟩
      ·simp (disch:=omega) only [M8,hkk,i1,i0,hc,hxy,EVT,EVM,EVC,xe,EVP,EV,simprocAttr]
      ·rw [cs,tk];simp [hxy]
    ·right;have e:k=l.length:=by omega
     subst e;rw [C7] at k3;refine ⟨_,?_,?_,rfl⟩
     ·rw [if_pos k3];simp (disch:=omega) only [M8,EVT,EVM,EVC,xe,EVP,EV,simprocAttr]
     ·rw [if_pos k3];rfl
  by_cases hh:cpt eq2 l=l
  ·rw [if_pos hh] at key;rw [hh];simp (disch:=omega) only [M8,h2,key,EVT,EVM,EVC,xe,EVP,EV,simprocAttr]
  ·rw [if_neg hh] at key;simp (disch:=omega) only [M8,h2,key,EVT,EVM,EVC,xe,EVP,EV,simprocAttr]
end Go.X.G
/- Lists of records in the program: which are valid, their order, their sorting. -/
namespace Go.X.G
open Go Go.X
theorem Dy6 (r:Rec) (h:r.wf):S Bb1 1 [r.pv]=some [.b (Oh r)]:=by
 refine Ib3 (N:=1) rfl ?_;have g:r.name.length≤9223372036854775807:=h.name;have h1:=B4 r.name g;have h2:=Ct r.typ;have h3:=Uj r.typ r.data h.data;unfold Oh;by_cases k0:0≤r.ttl<;>by_cases k1:r.ttl≤2147483647
 all_goals rcases ch3 (vld r.name) (knw r.typ) (Ej r.typ r.data) with e0|⟨e0,e1⟩|⟨e0,e1,e2⟩|⟨e0,e1,e2⟩
 all_goals simp only [*] at h1 h2 h3
 all_goals simp (disch:=omega) only [Iq6,Xk,E5,h1,h2,h3,EVC,xe,EVP,EV,simprocAttr, *]
 all_goals simp
theorem Ff3 (x:Int):S Ud 1 [.i .i64 x]=some [.b false]:=by refine Gt2 (N:=1) rfl ?_;simp (disch:=omega) only [Gg7,EVC,xe,EVP,EV,simprocAttr]
theorem Dz4 (a b:Int):S Un 2 [.i .i64 a, .i .i64 b]=some [.i .i64 (v8 a b)]:=by
 refine Hj7 (N:=1) rfl ?_;have h1:=Ff3 a;have h2:=Ff3 b;unfold v8;by_cases k1:a<b
 ·simp (disch:=omega) only [Al1,h1,h2,k1,EVC,xe,EVP,EV,simprocAttr]
 ·by_cases k2:b<a
  ·simp (disch:=omega) only [Al1,h1,h2,k1,k2,EVC,xe,EVP,EV,simprocAttr]
  ·simp (disch:=omega) only [Al1,h1,h2,k1,k2,EVC,xe,EVP,EV,simprocAttr]
theorem tz (a b:Rec) (ha:a.wf) (hb:b.wf):S U2 2 [a.pv,b.pv]=some [.i .i64 (Tx a b)]:=by
 refine Hv1 (N:=1) rfl ?_;have g1:a.name.length≤9223372036854775807:=ha.name;have g2:b.name.length≤9223372036854775807:=hb.name;have h1:=S8 a.name b.name g1 g2;have h2:=Dz4 a.typ b.typ;have h3:=nb a.typ a.data b.data ha.data hb.data;unfold Tx;by_cases k1:Jv a.name b.name=0
 ·by_cases k2:v8 a.typ b.typ=0
  ·rw [k1] at h1;rw [k2] at h2;simp (disch:=omega) only [Al5,Xk,E5,h1,h2,h3,EVC,xe,EVP,EV,simprocAttr];simp [k1,k2]
  ·rw [k1] at h1;simp (disch:=omega) only [Al5,h1,h2,k2,EVC,xe,EVP,EV,simprocAttr];simp [k1,k2]
 ·simp (disch:=omega) only [Al5,h1,k1,EVC,xe,EVP,EV,simprocAttr]
theorem nv (a b:Rec) (ha:a.wf) (hb:b.wf):S U4 2 [a.pv,b.pv]=some [.i .i64 (Gv1 a b)]:=by
 refine Hv4 (N:=1) rfl ?_;have h1:=tz a b ha hb;have h2:=Dz4 a.ttl b.ttl;unfold Gv1;by_cases k1:Tx a b=0
 ·rw [k1] at h1;simp (disch:=omega) only [Eb2,h1,h2,EVC,xe,EVP,EV,simprocAttr];simp [k1]
 ·simp (disch:=omega) only [Eb2,h1,k1,EVC,xe,EVP,EV,simprocAttr]
theorem Hr5:Cmp U4 [] Gv1 Rec.wf:=⟨fun x y hx hy=>nv x y hx hy⟩
theorem Ej4:leC Gv1=leR:=rfl
theorem Ey7 (a b:Rec) (ha:a.wf) (hb:b.wf):S U3 2 [a.pv,b.pv]=some [.b (eqF a b)]:=by refine Hv2 (N:=1) rfl ?_;have h1:=tz a b ha hb;simp (disch:=omega) only [Gl4,h1,EVC,xe,EVP,EV,simprocAttr]
theorem Ey6 (l:List Rec) (hw:∀r∈l,r.wf) (hl:l.length≤1000000):S Bz9 1 [Ah l]=some [Ah (sortR l)]:=by refine Ib1 (N:=1) rfl ?_;have h0:=fj l hl;obtain ⟨r,h1,h2,h3⟩:=Ov Hr5 (by rw [Ej4];exact Ht9) l hw hl;rw [Ej4] at h1;have hm:=h1.mem Ht9;have h4:=nc r U3 [] eqF (fun x hx y hy=>Ey7 x y (hw x ((hm x).1 hx)) (hw y ((hm y).1 hy))) (by omega);rw [s5 h1] at h4;simp (disch:=omega) only [Iq5,h0,h3,h4,D1,Kf,EVT,EVM,EVC,xe,EVP,EV,simprocAttr]
end Go.X.G
/- Zones in the program: what is asked of the records of one name. -/
namespace Go.X.G
open Go Go.X
abbrev ltC:List UInt8×Int→List UInt8×Int→Prop:=fun p q=>ltB p.1 q.1∨(p.1=q.1∧p.2<q.2)
theorem to_C:TO ltC:=Dz9.prod Gn3
def ltQ (a b:Ques):Prop:=ltC (a.name,a.typ) (b.name,b.typ)
theorem to_Q:TO ltQ where
 irr:=fun a=>to_C.irr _
 tr:=fun a b c=>to_C.tr _ _ _
 tri:=fun a b=>by
  rcases to_C.tri (a.name,a.typ) (b.name,b.typ) with h|h|h
  ·exact .inl h
  ·injection h with h1 h2;refine .inr (.inl ?_);cases a;cases b;simp only at h1 h2;rw [h1,h2]
  ·exact .inr (.inr h)
def kq (a b:Ques):Int:=if (Op.bytesLess a.name b.name||(decide (a.name=b.name) && decide (a.typ<b.typ)))=true then -1 else if a=b then 0 else 1
theorem Gm (a b:Ques):kq a b<0↔ltQ a b:=by
 unfold kq ltQ ltC;simp only;have e:(Op.bytesLess a.name b.name||(decide (a.name=b.name) && decide (a.typ<b.typ)))=true↔(ltB a.name b.name∨a.name=b.name∧a.typ<b.typ):=by simp only [Ap,Aw,decide_eq_true_eq,S4]
 by_cases h:ltB a.name b.name∨a.name=b.name∧a.typ<b.typ
 ·rw [if_pos (e.2 h)];simp [h]
 ·rw [if_neg (fun q=>h (e.1 q))];simp only [h,iff_false];split<;>omega
theorem j9 (a b:Ques):S Tl 2 [a.pv,b.pv]=some [.i .i64 (kq a b)]:=by
 refine Iy4 (N:=1) rfl ?_;unfold kq;rcases Aq (Op.bytesLess a.name b.name) with h1|h1
 ·simp (disch:=omega) only [Ag7,h1,EVM,EVC,xe,EVP,EV,simprocAttr];simp
 ·by_cases h2:a.name=b.name
  ·by_cases h3:a.typ<b.typ
   ·rw [h2] at h1;simp (disch:=omega) only [Ag7,h1,h2,h3,EVM,EVC,xe,EVP,EV,simprocAttr];simp
   ·rw [h2] at h1;by_cases h4:a=b
    ·simp (disch:=omega) only [Ag7,h1,h2,h3,EVM,EVC,xe,EVP,EV,simprocAttr];simp [h4]
    ·simp (disch:=omega) only [Ag7,h1,h2,h3,h4,EVM,EVC,xe,EVP,EV,simprocAttr];simp [h4]
  ·have h4:¬a=b:=fun e=>h2 (by rw [e]);simp (disch:=omega) only [Ag7,h1,h2,h4,EVM,EVC,xe,EVP,EV,simprocAttr];simp [h4]
def H1 (l:List Ques):PV:= .l 2 (l.map Ques.pv)
theorem H2 (l:List Ques):Gw (H1 l)=some (.i .i64 (l.length:Int)):=by simp [H1,Gw]
theorem J4 (l:List Ques) (k:IntKind) (z:Int) (h:0≤z):Hj 2 (H1 l) (.i k z)=(l[z.toNat]?).map Ques.pv:=by simp [H1,dq _ _ _ _ h]
theorem Dt7 (x:Ques):J2 2 [x.pv]=some (H1 [x]):=rfl
theorem Dy3 (l:List Ques) (x:Ques) (h:l.length+1≤1073741824):H4 2 (H1 l) (H1 [x])=some (H1 (l++[x])):=by have:=Tp 2 (l.map Ques.pv) [x.pv] (by simpa using h);simpa [H1] using this
def tx:PV→PV→Int
 | .a [.s a, .i _ t], .a [.s b, .i _ u]=>kq ⟨a,t⟩ ⟨b,u⟩
 |_,_=>0
theorem Ey5 (l:List Ques) (hl:l.length≤1000000):S im 1048578 [H1 l, .f Tl []]=some [H1 (l.mergeSort fun x y=> !decide (kq y x<0))]:=by
 have hm:∀x∈l.map Ques.pv,∃a∈l,x=a.pv:=fun x hx=>by obtain ⟨a,h1,h2⟩:=D3.1 hx;exact ⟨a,h1,h2.symm⟩
 have hc:∀a b:Ques,tx a.pv b.pv=kq a b:=fun a b=>rfl;have h:=s7 (tab:=tab) (xs:=Gj3) (ss:=Tz) (f:=im) (s:=Ec5) Gp1 Gp6 (g:=Tl) (caps:=[]) (l:=l.map Ques.pv) (by decide) (by simp;omega)
  (fun x hx=>by obtain ⟨a,_,rfl⟩:=hm x hx;rfl) tx
  (fun x hx y hy=>by obtain ⟨a,ha,rfl⟩:=hm x hx;obtain ⟨b,hb,rfl⟩:=hm y hy;exact j9 a b)
  (fun x hx=>by obtain ⟨a,_,rfl⟩:=hm x hx;rw [hc,Gm];exact to_Q.irr a)
  (fun x hx y hy z hz h1 h2=>by obtain ⟨a,_,rfl⟩:=hm x hx;obtain ⟨b,_,rfl⟩:=hm y hy;obtain ⟨c,_,rfl⟩:=hm z hz;rw [hc] at*;exact (Gm a c).2 (to_Q.tr _ _ _ ((Gm a b).1 h1) ((Gm b c).1 h2)))
  (fun x hx y hy z hz h1 h2=>by obtain ⟨a,_,rfl⟩:=hm x hx;obtain ⟨b,_,rfl⟩:=hm y hy;obtain ⟨c,_,rfl⟩:=hm z hz;rw [hc] at*;exact fun h3=>to_Q.ntr (fun q=>h1 ((Gm a b).2 q)) (fun q=>h2 ((Gm b c).2 q)) ((Gm a c).1 h3))
  (fun x hx y hy h1 h2=>by
   obtain ⟨a,_,rfl⟩:=hm x hx;obtain ⟨b,_,rfl⟩:=hm y hy;rw [hc] at*;rcases to_Q.tri a b with q|q|q
   ·exact absurd ((Gm a b).2 q) h1
   ·rw [q]
   ·exact absurd ((Gm b a).2 q) h2)
 have e:(l.map Ques.pv).mergeSort (fun x y=> !decide (tx y x<0))=(l.mergeSort fun x y=> !decide (kq y x<0)).map Ques.pv:=(Ik5 (r:=fun x y=> !decide (kq y x<0)) (s:=fun x y=> !decide (tx y x<0)) (f:=Ques.pv) fun a _ b _=>rfl).symm;rw [e] at h;exact h
def Wx (p:Option Ques) (n:Nat):List Ques→Bool
 |[]=>false
 |k::r=>if 64<(if p=some k then n+1 else 1) then true else Wx (some k) (if p=some k then n+1 else 1) r
theorem Ww:∀(l:List Ques) (p:Ques) (n:Nat),(p::l).Pairwise (fun a b=>¬ltQ b a)→n≤64→(Wx (some p) n l=true↔(∃k,k≠p∧64<l.count k)∨64<n+l.count p)
 |[],p,n,_,hn=>by simp [Wx];omega
 |k::r,p,n,hs,hn=>by
  obtain ⟨h1,h2⟩:=A5.1 hs;by_cases e:p=k
  ·subst e;by_cases hg:64<n+1
   ·simp only [Wx,if_true,hg];refine ⟨fun _=> .inr ?_,fun _=>trivial⟩;rw [Gb];omega
   ·simp only [Wx,if_true,hg,if_false];rw [Ww r p (n+1) h2 (by omega),Gb];constructor
    ·rintro (⟨q,q1,q2⟩|q)
     ·exact .inl ⟨q,q1,by rw [Fp (fun e=>q1 e.symm)];exact q2⟩
     ·exact .inr (by omega)
    ·rintro (⟨q,q1,q2⟩|q)
     ·exact .inl ⟨q,q1,by rw [Fp (fun e=>q1 e.symm)] at q2;exact q2⟩
     ·exact .inr (by omega)
  ·have e':¬(some p=some k):=fun q=>e (by injection q);simp only [Wx,if_neg e',show¬64<1 by omega,if_false];rw [Ww r k 1 h2 (by omega)];have hlt:ltQ p k:=by
    rcases to_Q.tri p k with q|q|q
    ·exact q
    ·exact absurd q e
    ·exact absurd q (h1 k (.head _))
   have hno:∀y∈k::r,y≠p:=fun y hy q=>by
    subst q;rcases Am.1 hy with q|hy
    ·exact e q
    ·exact (A5.1 h2).1 y hy hlt
   have h0:(k::r).count p=0:=Ik7.2 fun hm=>hno p hm rfl;have h0r:r.count p=0:=Ik7.2 fun hm=>hno p (.tail _ hm) rfl;rw [h0];constructor
   ·rintro (⟨q,q1,q2⟩|q)
    ·refine .inl ⟨q,fun w=>by rw [w,h0r] at q2;omega,?_⟩;rw [Fp (fun w=>q1 w.symm)];exact q2
    ·refine .inl ⟨k,fun w=>e w.symm,?_⟩;rw [Gb];omega
   ·rintro (⟨q,q1,q2⟩|q)
    ·by_cases w:q=k
     ·subst w;rw [Gb] at q2;exact .inr (by omega)
     ·rw [Fp (fun v=>w v.symm)] at q2;exact .inl ⟨q,w,q2⟩
    ·omega
theorem Dn4 (l:List Ques) (hs:l.Pairwise (fun a b=>¬ltQ b a)):Wx none 0 l=true↔∃k,64<l.count k:=by
 cases l with
 |nil=>simp [Wx]
 |cons k r=>
  have e:¬((none:Option Ques)=some k):=by simp
  simp only [Wx,if_neg e,show¬64<1 by omega,if_false];rw [Ww r k 1 hs (by omega)];constructor
  ·rintro (⟨q,q1,q2⟩|q)
   ·exact ⟨q,by rw [Fp (fun w=>q1 w.symm)];exact q2⟩
   ·exact ⟨k,by rw [Gb];omega⟩
  ·rintro ⟨q,q2⟩;by_cases w:q=k
   ·subst w;rw [Gb] at q2;exact .inr (by omega)
   ·rw [Fp (fun v=>w v.symm)] at q2;exact .inl ⟨q,w,q2⟩
def kyQ (r:Rec):Ques:=⟨r.name,r.typ⟩
def P4 (l:List Rec):Bool:=Wx none 0 ((l.map kyQ).mergeSort fun x y=> !decide (kq y x<0))
theorem Xm (n:List UInt8) (t:Int):∀l:List Rec,(l.map kyQ).count ⟨n,t⟩=(findR l n t).length
 |[]=>rfl
 |r::l=>by
  have ih:=Xm n t l;unfold findR at ih ⊢;rw [Ft,Kc];by_cases h:isK n t r=true
  ·rw [if_pos h];unfold isK at h;simp only [Aw,decide_eq_true_eq] at h;have:kyQ r=⟨n,t⟩:=by unfold kyQ;rw [h.1,h.2]
   rw [this,Gb,ih,A3]
  ·rw [if_neg h];have:kyQ r≠⟨n,t⟩:=fun e=>h (by unfold kyQ at e;injection e with e1 e2;unfold isK;simp [e1,e2])
   rw [Fp this,ih]
theorem Fr0 (l:List Ques):(l.mergeSort fun x y=> !decide (kq y x<0)).Pairwise (fun a b=>¬ltQ b a):=by
 have:=List.pairwise_mergeSort (le:=fun x y:Ques=> !decide (kq y x<0)) (fun a b c h1 h2=>by
  simp only [A8,decide_eq_false_iff_not,Gm] at h1 h2 ⊢;exact to_Q.ntr h2 h1) (fun a b=>by
  simp only [Ap,A8,decide_eq_false_iff_not,Gm];rcases to_Q.tri a b with h|h|h
  ·exact .inl (to_Q.asym h)
  ·subst h;exact .inl (to_Q.irr a)
  ·exact .inr (to_Q.asym h)) l
 refine this.imp fun {a b} h=> ?_;simpa only [A8,decide_eq_false_iff_not,Gm] using h
theorem Ab7 (l:List Rec):P4 l= !(l.all fun r=>decide ((findR l r.name r.typ).length≤64)):=by
 rw [Cn];unfold P4;rw [Dn4 _ (Fr0 _)];have hc:∀k,((l.map kyQ).mergeSort fun x y=> !decide (kq y x<0)).count k=(l.map kyQ).count k:=fun k=>(List.mergeSort_perm _ _).count_eq k;simp only [hc,A8,List.all_eq_false,decide_eq_true_eq];constructor
 ·rintro ⟨⟨n,t⟩,h⟩;rw [Xm] at h;have hp:0<(findR l n t).length:=by omega
  obtain ⟨x,hx⟩:=List.length_pos_iff_exists_mem.1 hp;obtain ⟨h3,h4⟩:=Bp.1 hx;unfold isK at h4;simp only [Aw,decide_eq_true_eq] at h4;exact ⟨x,h3,by rw [h4.1,h4.2];omega⟩
 ·rintro ⟨r,h1,h2⟩;exact ⟨kyQ r,by show 64<(l.map kyQ).count ⟨r.name,r.typ⟩;rw [Xm];omega⟩
theorem Ab6 (l:List Rec) (hl:l.length≤1000000):S Bb3 1 [Ah l]=some [.b (P4 l)]:=by
 obtain ⟨N,hN⟩:∃N,N=l.length+1:=⟨_,rfl⟩;refine Ib6 (N:=N) rfl ?_;have k0:Ef7.ev S N [Ah l]=some (.yld 0 [H1 (l.map kyQ)]):=by
  refine F1 l (fun i=>[H1 ((l.take i).map kyQ), .i .i64 (i:Int)]) (fun i r=> .yld 0 [H1 (l.map kyQ)]) rfl (by omega) (fun i c r hd hi hc=> ?_) ?_
  ·left;refine ⟨?_,rfl⟩;have e:(l.take (i+1)).map kyQ=(l.take i).map kyQ++[kyQ c]:=by rw [Ck,hc];simp
   have hsub:Jj 0 2 c.pv=some (kyQ c).pv:=rfl;have hlen:((l.take i).map kyQ).length≤1000000:=by rw [E8,An];omega
   rw [e];generalize (l.take i).map kyQ=a at*;simp (disch:=omega) only [V2,hc,hsub,Dt7,Dy3,H2,J4,EVM,EVC,xe,EVP,EV,simprocAttr]
  ·refine ⟨?_,rfl⟩;have e:l.take l.length=l:=C7;simp (disch:=omega) only [V2,e,H2,J4,EVM,EVC,xe,EVP,EV,simprocAttr]
 have hs:=Ey5 (l.map kyQ) (by simpa using hl);have hlen:((l.map kyQ).mergeSort fun x y=> !decide (kq y x<0)).length=l.length:=by simp
 unfold P4;generalize ((l.map kyQ).mergeSort fun x y=> !decide (kq y x<0))=ks at*;have k1:Ed8.ev S N [Ah l,H1 (l.map kyQ),H1 ks]=some (if Wx none 0 ks=true then .ret [.b true] else .yld 0 []):=by
  refine F6 ks (fun i (g:Nat)=>[.i .i64 (g:Int), .i .i64 (i:Int)]) (fun i g r=>if Wx (if i=0 then none else ks[i - 1]?) g r=true then .ret [.b true] else .yld 0 []) (fun i g=>g≤64) 0 ?_ (by omega) (by omega) (fun i g c r hd hi hc hg=> ?_) (fun g hg=> ?_)
  ·simp (disch:=omega) only [EVC,xe,EVP,EV,simprocAttr]
  ·have hp:(if i=0 then none else ks[i - 1]?)=some c↔(0<i∧ks[i - 1]? =some c):=by
    by_cases h:i=0
    ·simp [h]
    ·simp [h];omega
   have hci:(if i+1=0 then none else ks[i+1 - 1]?)=some c:=by rw [if_neg (by omega),Kl,hc]
   have hsub:Jj 0 2 c.pv=some c.pv:=rfl;have eqq:∀x:Ques,Kh false true [.s,(.i .i64)] x.pv c.pv=some (.b (decide (x=c))):=fun x=>Is8 false x c;by_cases hsame:0<i∧ks[i - 1]? =some c
   ·have hp':=hp.2 hsame;have hi0:(0:Int)<(i:Int):=by omega
    have ei:((i:Int) - 1).toNat=i - 1:=by omega
    have ei2:(i:Int).toNat=i:=by omega
    by_cases hgt:64<g+1
    ·right;have hgt':(64:Int)<(g:Int)+1:=by omega
     have er:Wx (if i=0 then none else ks[i - 1]?) g (c::r)=true:=by rw [hp'];simp [Wx,hgt]
     rw [er];refine ⟨?_,rfl⟩;simp (disch:=omega) only [V2,hc,hsame.2,hi0,ei,ei2,hgt',H2,J4,EVM,EVC,xe,EVP,EV,simprocAttr]
    ·left;have hgt':¬(64:Int)<(g:Int)+1:=by omega
     refine ⟨g+1,?_,by omega,?_⟩
     ·simp (disch:=omega) only [V2,hc,hsame.2,hi0,ei,ei2,hgt',H2,J4,EVM,EVC,xe,EVP,EV,simprocAttr]
     ·rw [hp',hci];simp [Wx,hgt]
   ·left;have hp':¬(if i=0 then none else ks[i - 1]?)=some c:=fun q=>hsame (hp.1 q);have ei:((i:Int) - 1).toNat=i - 1:=by omega
    have ei2:(i:Int).toNat=i:=by omega
    refine ⟨1,?_,by omega,?_⟩
    ·by_cases hi0:0<i
     ·have hi0':(0:Int)<(i:Int):=by omega
      obtain ⟨y,hy⟩:∃y,ks[i - 1]? =some y:=⟨_,Az (by omega)⟩;have hyc:¬y=c:=fun q=>hsame ⟨hi0,by rw [hy,q]⟩;simp (disch:=omega) only [V2,hc,hy,hyc,hi0',ei,ei2,H2,J4,EVM,EVC,xe,EVP,EV,simprocAttr]
     ·have hi0':¬(0:Int)<(i:Int):=by omega
      simp (disch:=omega) only [V2,hc,hi0',ei2,H2,J4,EVM,EVC,xe,EVP,EV,simprocAttr]
    ·rw [hci];simp [Wx,hp']
  ·refine ⟨?_,by simp [Wx,Out.goes]⟩;have hlt:¬(ks.length:Int)<(ks.length:Int):=by omega
   simp (disch:=omega) only [V2,hlt,H2,J4,EVM,EVC,xe,EVP,EV,simprocAttr];simp [Wx]
 have hrep:∃p,Kg 2 (.i .i64 (l.length:Int)) (Ques.pv ⟨[],0⟩)=some p:=by
  have h1:(l.length:Int)≤(LIM:Int):=by simp only [LIM];omega
  have h2:(Ques.pv ⟨[],0⟩).cells.length=2:=rfl;simp [Kg,h1,h2]
 obtain ⟨p,hrep⟩:=hrep;rcases Aq (Wx none 0 ks) with h|h
 ·rw [h,if_pos rfl] at k1;rw [h];simp (disch:=omega) only [V2,hrep,k0,hs,k1,H2,D1,Kf,EVM,EVC,xe,EVP,EV,simprocAttr]
 ·rw [h,if_neg (by simp)] at k1;rw [h];simp (disch:=omega) only [V2,hrep,k0,hs,k1,H2,D1,Kf,EVM,EVC,xe,EVP,EV,simprocAttr]
end Go.X.G
/- Zones in the program: Check, the Md. -/
namespace Go.X.G
open Go Go.X
theorem Ad3 (t:Int):S bw 1 [.i .i64 t]=some [.b (decide (t=6)||decide (t=5)||decide (t=39))]:=by
 refine Hj5 (N:=1) rfl ?_;by_cases h1:t=6
 ·simp (disch:=omega) only [Al0,h1,EVC,xe,EVP,EV,simprocAttr];simp
 ·by_cases h2:t=5
  ·simp (disch:=omega) only [Al0,h2,EVC,xe,EVP,EV,simprocAttr];simp
  ·simp (disch:=omega) only [Al0,h1,h2,EVC,xe,EVP,EV,simprocAttr];simp
theorem Db7 (r:Rec) (t:Int):S U1 1 [r.pv, .i .i64 t]=some [.b (decide (r.typ=t))]:=by refine Hq8 (N:=1) rfl ?_;simp (disch:=omega) only [Gl2,EVC,xe,EVP,EV,simprocAttr]
theorem Jh (g:List Rec) (t:Int) (hl:g.length≤1000000):S Nl 2 [Ah g, .i .i64 t]=some [.b (F2 g t)]:=by refine Iz8 (N:=1) rfl ?_;have h:=H0 g U1 [.i .i64 t] (fun r=>decide (r.typ=t)) hl (fun r _=>Db7 r t);simp (disch:=omega) only [Iq4,h,EVC,xe,EVP,EV,simprocAttr];rfl
def I4 (l:List Int):PV:= .l 1 (l.map (PV.i .i64))
theorem Nr (l:List Int):Gw (I4 l)=some (.i .i64 (l.length:Int)):=by simp [I4,Gw]
theorem W9 (l:List Int) (k:IntKind) (z:Int) (h:0≤z):Hj 1 (I4 l) (.i k z)=(l[z.toNat]?).map (PV.i .i64):=by simp [I4,dq _ _ _ _ h]
theorem Zt (l:List Int):Br 0 (I4 l)=some (I4 l):=rfl
theorem Ap6 (l:List Int):Ix (I4 l)=some (I4 l):=rfl
theorem Dz0 (l:List Int) (x:Int) (hl:l.length≤1000000):∃k:Int,(0≤k↔x∈l)∧S ah 2 [I4 l, .i .i64 x]=some [.i .i64 k]:=by
 have go:∀(i:Nat) (l:List Int),∃k:Int,k=(match l.findIdx? (·=x) with|some j=>((i+j:Nat):Int)|none=> -1)∧(0≤k↔x∈l):=by
  intro i l;refine ⟨_,rfl,?_⟩;cases h:l.findIdx? (·=x) with
  |none=>
   rw [List.findIdx?_eq_none_iff] at h;simp only;constructor
   ·intro h2;omega
   ·intro h2;have:=h x h2;simp at this
  |some j=>
   simp only;constructor
   ·intro _;rw [List.findIdx?_eq_some_iff_getElem] at h;obtain ⟨h1,h2,_⟩:=h;simp at h2;rw [←h2];exact Dx _
   ·intro _;omega
 obtain ⟨k,hk,hk2⟩:=go 0 l;refine ⟨k,hk2,?_⟩;refine Gt0 (N:=l.length+1) rfl ?_;have key:Bh0.ev S (l.length+1) [I4 l, .i .i64 x]=some (match l.findIdx? (·=x) with|some j=> .ret [.i .i64 ((0+j:Nat):Int)]|none=> .yld 0 []):=by
  refine F1 l (fun i=>[.i .i64 (i:Int)]) (fun i r=>match r.findIdx? (·=x) with|some j=> .ret [.i .i64 ((i+j:Nat):Int)]|none=> .yld 0 []) rfl (by omega) (fun i c r hd hi hc=> ?_) ?_
  ·by_cases h:x=c
   ·right;subst h;simp (disch:=omega) only [Yn,hc,Nr,W9,EVM,EVC,xe,EVP,EV,simprocAttr];simp [Ik6,Out.goes]
   ·left;have h':¬c=x:=fun e=>h e.symm;simp (disch:=omega) only [Yn,hc,h,h',Nr,W9,EVM,EVC,xe,EVP,EV,simprocAttr];refine ⟨trivial,?_⟩;simp only [Ik6,h',decide_false,Ad,if_false];cases r.findIdx? (·=x) with
    |none=>rfl
    |some j=>simp;omega
  ·simp (disch:=omega) only [Yn,Nr,W9,EVM,EVC,xe,EVP,EV,simprocAttr];simp [Out.goes]
 rw [hk];cases h:l.findIdx? (·=x) with
 |none=>
  rw [h] at key;simp (disch:=omega) only [Yn,key,Nr,EVM,EVC,xe,EVP,EV,simprocAttr]
 |some j=>
  rw [h] at key;simp (disch:=omega) only [Yn,key,Nr,EVM,EVC,xe,EVP,EV,simprocAttr]
theorem et (l:List Int) (x:Int) (hl:l.length≤1000000):S bv 2 [I4 l, .i .i64 x]=some [.b (decide (x∈l))]:=by refine Hj3 (N:=1) rfl ?_;obtain ⟨k,h1,h2⟩:=Dz0 l x hl;simp (disch:=omega) only [Gh4,h2,EVM,EVC,xe,EVP,EV,simprocAttr];simp [h1]
theorem Ag3 (r:Rec) (ts:List Int) (hl:ts.length≤1000000):S Um 1 [r.pv,I4 ts]=some [.b (!decide (r.typ∈ts))]:=by refine Hj4 (N:=1) rfl ?_;have h:=et ts r.typ hl;simp (disch:=omega) only [Gh5,Zt,h,EVC,xe,EVP,EV,simprocAttr]
theorem V0 (g:List Rec) (ts:List Int) (hl:g.length≤1000000) (ht:ts.length≤1000000):S Mx 2 [Ah g,I4 ts]=some [.b (Ih g ts)]:=by
 refine Hq9 (N:=1) rfl ?_;have h:=H0 g Um [I4 ts] (fun r=> !decide (r.typ∈ts)) hl (fun r _=>Ag3 r ts ht);have e:(!(g.any fun r=> !decide (r.typ∈ts)))=Ih g ts:=by unfold Ih;rw [List.not_any_eq_all_not];simp
 rw [←e];generalize (g.any fun r=> !decide (r.typ∈ts))=b at*;simp (disch:=omega) only [Gl3,Zt,Ap6,h,EVC,xe,EVP,EV,simprocAttr]
theorem fh (g:List Rec) (hl:g.length≤1000000):S cj 1 [Ah g]=some [.b (Dz8 g)]:=by
 obtain ⟨N,hN⟩:∃N,N=g.length+2:=⟨_,rfl⟩;refine Hv0 (N:=N) rfl ?_;have key:Bl1.ev S N [Ah g]=some (if Dz8 g=true then .yld 0 [] else .ret [.b false]):=by
  cases g with
  |nil=>
   refine F5 0 (fun _=>[.i .i64 1]) (fun _=> .yld 0 []) ?_ (by omega) (fun i hi=>absurd hi (by omega)) ⟨?_,rfl⟩
   ·simp (disch:=omega) only [EVC,xe,EVP,EV,simprocAttr]
   ·have hlt:¬(1:Int)<(([]:List Rec).length:Int):=by simp
    simp (disch:=omega) only [M7,hlt,EVC,xe,EVP,EV,simprocAttr]
  |cons p r=>
   have hlr:(p::r).length=r.length+1:=rfl;have:=F1 (fn:=S) (N:=N) (η:=[Ah (p::r)]) (id:=1) (init:=[.c (.i .i64 1)]) (body:=m8) r (fun i=>[.i .i64 ((i:Int)+1)]) (fun i l=>if (match (p::r)[i]? with|some q=>T4 q l|none=>true)=true then .yld 0 [] else .ret [.b false]) ?_ (by omega) (fun i c l hd hi hc=> ?_) ?_
   ·exact this
   ·simp (disch:=omega) only [EVC,xe,EVP,EV,simprocAttr]
    try rfl
   ·obtain ⟨q,hq⟩:∃q,(p::r)[i]? =some q:=⟨_,Az (by rw [hlr];omega)⟩;have hc':(p::r)[i+1]? =some c:=by simpa using hc
    have e1:((i:Int)+1 - 1).toNat=i:=by omega
    have e2:((i:Int)+1).toNat=i+1:=by omega
    have hlt:(i:Int)+1<((p::r).length:Int):=by rw [hlr];omega
    have hsg:=Ad3 c.typ;rw [hq,hc'];generalize (p::r)=g' at*;have step:T4 q (c::l)=((!decide (c.typ=q.typ)||(!(decide (c.typ=6)||decide (c.typ=5)||decide (c.typ=39)) && (decide (c.typ=46)||decide (c.ttl=q.ttl)))) && T4 c l):=rfl;by_cases h1:c.typ=q.typ
    ·rcases Aq (decide (c.typ=6)||decide (c.typ=5)||decide (c.typ=39)) with h2|h2
     ·right;have er:T4 q (c::l)=false:=by rw [step,h2];simp [h1]
      rw [h2] at hsg;simp only [er,Ad,if_false];refine ⟨?_,rfl⟩;rw [h1] at hsg;simp (disch:=omega) only [M7,hlt,e1,e2,hq,hc',h1,hsg,EVC,xe,EVP,EV,simprocAttr]
     ·rw [h2] at hsg;rw [h2] at step;rw [h1] at hsg;by_cases h3:c.typ=46
      ·left;have er:T4 q (c::l)=T4 c l:=by rw [step];simp [h3]
       have h3':q.typ=46:=by rw [←h1];exact h3
       rw [h3'] at hsg;refine ⟨?_,by simp only [er]⟩;simp (disch:=omega) only [M7,hlt,e1,e2,hq,hc',h1,h3',hsg,EVC,xe,EVP,EV,simprocAttr]
       try simp
      ·have h3':¬q.typ=46:=by rw [←h1];exact h3
       by_cases h4:c.ttl=q.ttl
       ·left;have er:T4 q (c::l)=T4 c l:=by rw [step];simp [h4]
        refine ⟨?_,by simp only [er]⟩;simp (disch:=omega) only [M7,hlt,e1,e2,hq,hc',h1,h3',h4,hsg,EVC,xe,EVP,EV,simprocAttr]
        try simp
       ·right;have er:T4 q (c::l)=false:=by rw [step];simp [h1,h3',h4]
        simp only [er,Ad,if_false];refine ⟨?_,rfl⟩;simp (disch:=omega) only [M7,hlt,e1,e2,hq,hc',h1,h3',h4,hsg,EVC,xe,EVP,EV,simprocAttr]
    ·left;have er:T4 q (c::l)=T4 c l:=by rw [step];simp [h1]
     refine ⟨?_,by simp only [er]⟩;simp (disch:=omega) only [M7,hlt,e1,e2,hq,hc',h1,EVC,xe,EVP,EV,simprocAttr]
     try simp
   ·have hlt:¬(r.length:Int)+1<((p::r).length:Int):=by rw [hlr];omega
    obtain ⟨q,hq⟩:∃q,(p::r)[r.length]? =some q:=⟨_,Az (by rw [hlr];omega)⟩;rw [hq];refine ⟨?_,by simp [T4,Out.goes]⟩;generalize (p::r)=g' at*;simp (disch:=omega) only [M7,hlt,EVC,xe,EVP,EV,simprocAttr];simp [T4]
 rcases Aq (Dz8 g) with h|h
 ·rw [h,if_pos rfl] at key;rw [h];simp (disch:=omega) only [M7,key,EVC,xe,EVP,EV,simprocAttr]
 ·rw [h,if_neg (by simp)] at key;rw [h];simp (disch:=omega) only [M7,key,EVC,xe,EVP,EV,simprocAttr]
theorem Dz2 (a b:List Rec) (ha:a.length≤1000000) (hb:b.length≤1000000):S Bb0 2 [Ah a,Ah b]=some [.b (decide (a=b))]:=by
 obtain ⟨N,hN⟩:∃N,N=a.length+1:=⟨_,rfl⟩;refine Ib2 (N:=N) rfl ?_;by_cases hl:a.length=b.length
 ·have key:Ef6.ev S N [Ah a,Ah b]=some (if a.drop 0=b.drop 0 then .yld 0 [] else .ret [.b false]):=by
   refine F5 a.length (fun i=>[.i .i64 (i:Int)]) (fun i=>if a.drop i=b.drop i then .yld 0 [] else .ret [.b false]) rfl (by omega) (fun i hi=> ?_) ?_
   ·have h1:a[i]? =some a[i]:=Az hi;have h2:b[i]? =some b[i]:=Az (by omega);have d1:a.drop i=a[i]::a.drop (i+1):=Cd hi;have d2:b.drop i=b[i]::b.drop (i+1):=Cd (by omega);rw [d1,d2];generalize a[i]=x at*;generalize b[i]'(by omega)=y at*;have hlt:(i:Int)<(a.length:Int):=by omega
    by_cases h:x=y
    ·left;subst h;refine ⟨?_,by simp⟩;simp (disch:=omega) only [z6,hlt,h1,h2,EVC,xe,EVP,EV,simprocAttr]
     try simp
    ·right;rw [if_neg (by simp [h])];refine ⟨?_,rfl⟩;simp (disch:=omega) only [z6,hlt,h1,h2,h,EVC,xe,EVP,EV,simprocAttr]
   ·have hlt:¬(a.length:Int)<(a.length:Int):=by omega
    have e:a.drop a.length=b.drop a.length:=by rw [List.drop_length,hl,List.drop_length]
    rw [if_pos e];refine ⟨?_,rfl⟩;simp (disch:=omega) only [z6,hlt,EVC,xe,EVP,EV,simprocAttr]
  have hl':(a.length:Int)=(b.length:Int):=by omega
  rw [Ev,Ev] at key;by_cases h:a=b
  ·rw [if_pos h] at key;have e:decide (a=b)=true:=by simp [h]
   rw [e];simp (disch:=omega) only [z6,hl',key,EVC,xe,EVP,EV,simprocAttr]
  ·rw [if_neg h] at key;have e:decide (a=b)=false:=by simp [h]
   rw [e];simp (disch:=omega) only [z6,hl',key,EVC,xe,EVP,EV,simprocAttr]
 ·have hl':¬(a.length:Int)=(b.length:Int):=by omega
  have e:decide (a=b)=false:=decide_eq_false fun q=>hl (by rw [q]);rw [e];simp (disch:=omega) only [z6,hl',EVC,xe,EVP,EV,simprocAttr]
end Go.X.G
/- Zones in the program: proper. -/
namespace Go.X.G
open Go Go.X
section
variable (o cut red:List UInt8) (g:List Rec) (x:Rec) (N:Nat)
def Aj6 (n:List UInt8):Bool:=decide (n[0]? =some 42)
theorem Id3 (hx:g[0]? =some x) (hl:g.length≤1000000) (hn:x.name≠[]) (p4 p5 p6 p7 p8 p9 p10 p11 p12 p13:PV):
  Cd5.ev S N [.s o,Ah g, .s cut, .s red,p4,p5,p6,p7,p8,p9,p10,p11,p12,p13]=some (.ret [.b (!Aj6 x.name||(!F2 g 2 && !F2 g 39))]):=by
 have k2:=Jh g 2 hl;have k39:=Jh g 39 hl;obtain ⟨c,hc⟩:∃c,x.name[0]? =some c:=⟨_,Az (Bv.2 hn)⟩;unfold Aj6;rw [hc];by_cases h1:c=42
 ·have h1':(c.toNat:Int)=42:=by rw [h1];rfl
  rcases Aq (F2 g 2) with h2|h2
  ·rw [h2] at k2;simp (disch:=omega) only [Ff9,hx,hc,h1',k2,EVC,xe,EVP,EV,simprocAttr];simp [h1,h2]
  ·rw [h2] at k2;simp (disch:=omega) only [Ff9,hx,hc,h1',k2,k39,EVC,xe,EVP,EV,simprocAttr];simp [h1,h2]
 ·have h1':¬(c.toNat:Int)=42:=fun q=>h1 (UInt8.toNat_inj.1 (show c.toNat=42 by omega));simp (disch:=omega) only [Ff9,hx,hc,h1',EVC,xe,EVP,EV,simprocAttr];simp [h1]
theorem Id2 (hx:g[0]? =some x) (hl:g.length≤1000000) (hn:x.name≠[]) (p4 p5 p6 p7 p8 p9 p10:PV):
  wv.ev S N [.s o,Ah g, .s cut, .s red,p4,p5,p6,p7,p8,p9,p10]=some (.ret [.b ((if (!decide (x.name=o) && F2 g 2)=true then Ih g [2,43,47,46,1,28] else !F2 g 43) && (!Aj6 x.name||(!F2 g 2 && !F2 g 39)))]):=by
 have k2:=Jh g 2 hl;have k43:=Jh g 43 hl;have kd:S Mx 2 [Ah g, .l 1 [.i .i64 2, .i .i64 43, .i .i64 47, .i .i64 46, .i .i64 1, .i .i64 28]]=some [.b (Ih g [2,43,47,46,1,28])]:=V0 g [2,43,47,46,1,28] hl (by decide);have hlit:J2 1 [.i .i64 2, .i .i64 43, .i .i64 47, .i .i64 46, .i .i64 1, .i .i64 28]=some (.l 1 [.i .i64 2, .i .i64 43, .i .i64 47, .i .i64 46, .i .i64 1, .i .i64 28]):=rfl;have t:=fun p11 p12 p13=>Id3 o cut red g x N hx hl hn p4 p5 p6 p7 p8 p9 p10 p11 p12 p13;have x7:=By wv.eq_1;have x6:=By Bt9.eq_1;have x5:=By Ck6.eq_1;have x4:=By Cw3.eq_1;have x3:=By Cz4.eq_1;by_cases h0:x.name=o
 ·rcases Aq (F2 g 43) with h1|h1<;>rw [h1] at k43<;>simp (disch:=omega) only [x7,x6,x5,x4,x3,t,hx,h0,k43,hlit,EVC,xe,EVP,EV,simprocAttr]<;>simp [h1]
 ·rcases Aq (F2 g 2) with h2|h2
  ·rw [h2] at k2;rcases Aq (Ih g [2,43,47,46,1,28]) with h3|h3<;>rw [h3] at kd<;>simp (disch:=omega) only [x7,x6,x5,x4,x3,t,hx,h0,k2,kd,hlit,EVC,xe,EVP,EV,simprocAttr]<;>simp [h0,h2,h3]
  ·rw [h2] at k2;rcases Aq (F2 g 43) with h1|h1<;>rw [h1] at k43<;>simp (disch:=omega) only [x7,x6,x5,x4,x3,t,hx,h0,k2,k43,hlit,EVC,xe,EVP,EV,simprocAttr]<;>simp [h0,h1,h2]
theorem Hw9 (hx:g[0]? =some x) (hl:g.length≤1000000) (hn:x.name≠[]) (p4 p5 p6 p7:PV):
  X2.ev S N [.s o,Ah g, .s cut, .s red,p4,p5,p6,p7]=some (.ret [.b ((!F2 g 5||Ih g [5,46,47]) && decide (red=[]) && (decide (cut=[])||Ih g [1,28]) && ((if (!decide (x.name=o) && F2 g 2)=true then Ih g [2,43,47,46,1,28] else !F2 g 43) && (!Aj6 x.name||(!F2 g 2 && !F2 g 39))))]):=by
 have k5:=Jh g 5 hl;have kc:S Mx 2 [Ah g, .l 1 [.i .i64 5, .i .i64 46, .i .i64 47]]=some [.b (Ih g [5,46,47])]:=V0 g [5,46,47] hl (by decide);have ka:S Mx 2 [Ah g, .l 1 [.i .i64 1, .i .i64 28]]=some [.b (Ih g [1,28])]:=V0 g [1,28] hl (by decide);have hlit1:J2 1 [.i .i64 5, .i .i64 46, .i .i64 47]=some (.l 1 [.i .i64 5, .i .i64 46, .i .i64 47]):=rfl;have hlit2:J2 1 [.i .i64 1, .i .i64 28]=some (.l 1 [.i .i64 1, .i .i64 28]):=rfl;have t:=fun p8 p9 p10=>Id2 o cut red g x N hx hl hn p4 p5 p6 p7 p8 p9 p10;generalize ((if (!decide (x.name=o) && F2 g 2)=true then Ih g [2,43,47,46,1,28] else !F2 g 43) && (!Aj6 x.name||(!F2 g 2 && !F2 g 39)))=B at*;have x13:=By X2.eq_1;have x12:=By l8.eq_1;have x11:=By l9.eq_1;have x10:=By mj.eq_1;have x9:=By Br6.eq_1;have x8:=By Bs3.eq_1;rcases Aq (F2 g 5) with h1|h1<;>rw [h1] at k5
 ·rcases Aq (Ih g [5,46,47]) with h2|h2<;>rw [h2] at kc
  ·by_cases h3:red=[]
   ·replace h3:=eq_true h3;by_cases h4:cut=[]
    ·replace h4:=eq_true h4;simp (disch:=omega) only [x13,x12,x11,x10,x9,x8,t,k5,kc,h3,h4,hlit1,hlit2,EVC,xe,EVP,EV,simprocAttr]
     (clear x13 x12 x11 x10 x9 x8 t;simp [*])
    ·rcases Aq (Ih g [1,28]) with h5|h5<;>rw [h5] at ka<;>simp (disch:=omega) only [x13,x12,x11,x10,x9,x8,t,k5,kc,ka,h3,h4,hlit1,hlit2,EVC,xe,EVP,EV,simprocAttr]<;>(clear x13 x12 x11 x10 x9 x8 t;simp [*])
   ·simp (disch:=omega) only [x13,x12,x11,x10,x9,x8,t,k5,kc,h3,hlit1,hlit2,EVC,xe,EVP,EV,simprocAttr]
    (clear x13 x12 x11 x10 x9 x8 t;simp [*])
  ·simp (disch:=omega) only [x13,x12,x11,k5,kc,hlit1,hlit2,EVC,xe,EVP,EV,simprocAttr]
   (clear x13 x12 x11 x10 x9 x8 t;simp [*])
 ·by_cases h3:red=[]
  ·replace h3:=eq_true h3;by_cases h4:cut=[]
   ·replace h4:=eq_true h4;simp (disch:=omega) only [x13,x12,x11,x10,x9,x8,t,k5,h3,h4,hlit1,hlit2,EVC,xe,EVP,EV,simprocAttr]
    (clear x13 x12 x11 x10 x9 x8 t;simp [*])
   ·rcases Aq (Ih g [1,28]) with h5|h5<;>rw [h5] at ka<;>simp (disch:=omega) only [x13,x12,x11,x10,x9,x8,t,k5,ka,h3,h4,hlit1,hlit2,EVC,xe,EVP,EV,simprocAttr]<;>(clear x13 x12 x11 x10 x9 x8 t;simp [*])
  ·simp (disch:=omega) only [x13,x12,x11,x10,x9,x8,t,k5,h3,hlit1,hlit2,EVC,xe,EVP,EV,simprocAttr]
   (clear x13 x12 x11 x10 x9 x8 t;simp [*])
end
theorem zm (o cut red:List UInt8) (g:List Rec) (hg:g≠[]) (hl:g.length≤1000000) (ho:o.length≤9223372036854775807) (hn:(nmG g).length≤9223372036854775807):
  S Bz7 4 [.s o,Ah g, .s cut, .s red]=some [.b (propG o g (decide (cut≠[])) (decide (red≠[])))]:=by
 obtain ⟨x,r,rfl⟩:∃x r,g=x::r:=by
  cases g with
  |nil=>exact absurd rfl hg
  |cons x r=>exact ⟨x,r,rfl⟩
 have hx:(x::r)[0]? =some x:=rfl;have hnm:nmG (x::r)=x.name:=rfl;rw [hnm] at hn;unfold propG;rw [hnm];generalize (x::r)=g at*;obtain ⟨N,hN⟩:∃N,N=1:=⟨_,rfl⟩;refine Iz9 (N:=N) rfl ?_;have hu:=E7 x.name o hn ho;have k6:=Jh g 6 hl;have k2:=Jh g 2 hl;have ku:=fh g hl;have xt:=By Am5.eq_1;have x18:=By lh.eq_1;have x17:=By ln.eq_1;have x16:=By lp.eq_1;have x15:=By l4.eq_1;have x14:=By l5.eq_1;have e1:decide (cut≠[])= !decide (cut=[]):=by simp
 have e2:decide (red≠[])= !decide (red=[]):=by simp
 rw [e1,e2,Bool.not_not,Bool.not_not];rcases Aq (under x.name o) with h0|h0<;>rw [h0] at hu
 ·have hne:x.name≠[]:=fg (Bs.1 h0).1;have t:=fun p4 p5 p6 p7=>Hw9 o cut red g x N hx hl hne p4 p5 p6 p7;have eS:Aj6 x.name=decide (x.name[0]? =some 42):=rfl;rw [eS] at t;generalize hA:(!F2 g 5||Ih g [5,46,47])=A at*;generalize hB:(if (!decide (x.name=o) && F2 g 2)=true then Ih g [2,43,47,46,1,28] else !F2 g 43)=B at*;generalize hC:(!decide (x.name[0]? =some 42)||(!F2 g 2 && !F2 g 39))=C at*;generalize decide (red=[])=D at*;generalize (decide (cut=[])||Ih g [1,28])=E' at*;clear hB hC hA;rcases Aq (F2 g 6) with h6|h6<;>rw [h6] at k6
  ·by_cases hno:x.name=o
   ·replace hno:=eq_true hno;rcases Aq (Dz8 g) with h1|h1<;>rw [h1] at ku
    ·rcases Aq (F2 g 2) with h2|h2<;>rw [h2] at k2
     ·simp (disch:=omega) only [xt,x18,x17,x16,x15,x14,t,hx,hu,k6,hno,ku,k2,EVC,xe,EVP,EV,simprocAttr]
      (clear xt x18 x17 x16 x15 x14 t;simp [*,Bool.and_assoc])
     ·simp (disch:=omega) only [xt,x18,x17,x16,x15,x14,t,hx,hu,k6,hno,ku,k2,EVC,xe,EVP,EV,simprocAttr]
      (clear xt x18 x17 x16 x15 x14 t;simp [*])
    ·simp (disch:=omega) only [xt,x18,x17,x16,x15,x14,t,hx,hu,k6,hno,ku,EVC,xe,EVP,EV,simprocAttr]
     (clear xt x18 x17 x16 x15 x14 t;simp [*])
   ·simp (disch:=omega) only [xt,x18,x17,x16,x15,x14,t,hx,hu,k6,hno,EVC,xe,EVP,EV,simprocAttr]
    (clear xt x18 x17 x16 x15 x14 t;simp [*])
  ·by_cases hno:x.name=o
   ·replace hno:=eq_true hno;simp (disch:=omega) only [xt,x18,x17,x16,x15,x14,t,hx,hu,k6,hno,EVC,xe,EVP,EV,simprocAttr]
    (clear xt x18 x17 x16 x15 x14 t;simp [*])
   ·rcases Aq (Dz8 g) with h1|h1<;>rw [h1] at ku
    ·simp (disch:=omega) only [xt,x18,x17,x16,x15,x14,t,hx,hu,k6,hno,ku,EVC,xe,EVP,EV,simprocAttr]
     (clear xt x18 x17 x16 x15 x14 t;simp [*,Bool.and_assoc])
    ·simp (disch:=omega) only [xt,x18,x17,x16,x15,x14,t,hx,hu,k6,hno,ku,EVC,xe,EVP,EV,simprocAttr]
     (clear xt x18 x17 x16 x15 x14 t;simp [*])
 ·simp (disch:=omega) only [xt,x18,x17,x16,x15,x14,hx,hu,EVC,xe,EVP,EV,simprocAttr]
  (clear xt x18 x17 x16 x15 x14;simp [*])
end Go.X.G
/- Zones in the program: Check and New. -/
namespace Go.X.G
open Go Go.X
def Gk (gs:List (List Rec)):PV:= .l 1 (gs.map Ah)
theorem Ns (l:List (List Rec)):Gw (Gk l)=some (.i .i64 (l.length:Int)):=by simp [Gk,Gw]
theorem Eg (l:List (List Rec)) (k:IntKind) (z:Int) (h:0≤z):Hj 1 (Gk l) (.i k z)=(l[z.toNat]?).map Ah:=by simp [Gk,dq _ _ _ _ h]
theorem Bd7 (x:List Rec):J2 1 [Ah x]=some (Gk [x]):=rfl
theorem d8 (l:List (List Rec)) (x:List Rec) (h:l.length+1≤1073741824):H4 1 (Gk l) (Gk [x])=some (Gk (l++[x])):=by have:=Tp 1 (l.map Ah) [Ah x] (by simpa using h);simpa [Gk] using this
theorem Fm0 {α:Type} (l:List α) (s i:Nat) (c:α) (h:l[i]? =some c) (hs:s≤i):sl l s (i+1)=sl l s i++[c]:=by unfold sl;have hi:=(Av.1 h).1;rw [Ck,h,List.drop_append_of_le_length (by rw [An];omega)];rfl
theorem Bm8 (l:List Rec) (hl:l.length≤1000000):S Bz8 1 [Ah l]=some [Gk (grp l)]:=by
 obtain ⟨N,hN⟩:∃N,N=l.length+1:=⟨_,rfl⟩;refine Ib0 (N:=N) rfl ?_;have key:Ef5.ev S N [Ah l]=some (.yld 0 [Gk ([]++Tn (sl l 0 0) l)]):=by
  refine F6 l (fun i (g:List (List Rec)×Nat)=>[Gk g.1, .i .i64 (g.2:Int), .i .i64 (i:Int)]) (fun i g r=> .yld 0 [Gk (g.1++Tn (sl l g.2 i) r)]) (fun i g=>g.2≤i∧g.1.length≤i) ([],0) ?_ (by simp) (by omega) (fun i g c r hd hi hc hI=> ?_) (fun g hI=> ?_)
  ·rfl
  ·left;obtain ⟨out,st⟩:=g;obtain ⟨hI1,hI2⟩:=hI;simp only at hI1 hI2 ⊢;have hlt:(i:Int)<(l.length:Int):=by omega
   have e1:((i:Int)+1).toNat=i+1:=by omega
   have e2:(i:Int).toNat=i:=by omega
   have e3:(st:Int).toNat=st:=by omega
   have hsl:=Fm0 l st i c hc hI1;have hsl2:List.drop st (List.take (i+1) l)=sl l st i++[c]:=hsl;have hsl3:sl l st st=[]:=by unfold sl;rw [List.drop_eq_nil_iff,An];omega
   have hsl4:sl l (i+1) (i+1)=[]:=by unfold sl;rw [List.drop_eq_nil_iff,An];omega
   have hr:r=l.drop (i+1):=by have:=congrArg List.tail hd;simpa using this.symm
   by_cases hc2:(match r with|[]=>true|y::_=> !decide (y.name=c.name))=true
   ·refine ⟨(out++[sl l st i++[c]],i+1),?_,⟨by simp,by simp;omega⟩,?_⟩
    ·cases r with
     |nil=>
      have hend:(i:Int)+1=(l.length:Int):=by have:=congrArg List.length hr;simp at this;omega
      simp only;simp (disch:=omega) only [Ah2,hlt,hend.symm,e1,e2,e3,hc,hsl2,Bd7,d8,EVC,xe,EVP,EV,simprocAttr]
      try (congr 3;omega)
     |cons y r'=>
      have hy:l[i+1]? =some y:=by have:=congrArg (fun q=>q[0]?) hr;simpa [A6] using this.symm
      have hyl:=(Av.1 hy).1;have hend:¬(i:Int)+1=(l.length:Int):=by omega
      have hyc:¬y.name=c.name:=by simpa using hc2
      simp only;simp (disch:=omega) only [Ah2,hlt,hend,e1,e2,e3,hc,hy,hyc,hsl2,Bd7,d8,EVC,xe,EVP,EV,simprocAttr]
      try congr 3
    ·have eg:Tn (sl l st i) (c::r)=(sl l st i++[c])::Tn [] r:=by
      cases r with
      |nil=>rfl
      |cons y r'=>rw [Tn,if_pos hc2]
     simp only [eg,hsl4];simp
   ·refine ⟨(out,st),?_,⟨by simp;omega,by simp;omega⟩,?_⟩
    ·cases r with
     |nil=>simp at hc2
     |cons y r'=>
      have hy:l[i+1]? =some y:=by have:=congrArg (fun q=>q[0]?) hr;simpa [A6] using this.symm
      have hyl:=(Av.1 hy).1;have hend:¬(i:Int)+1=(l.length:Int):=by omega
      have hyc:y.name=c.name:=by simpa using hc2
      simp only;simp (disch:=omega) only [Ah2,hlt,hend,e1,e2,e3,hc,hy,hyc,EVC,xe,EVP,EV,simprocAttr]
      try rfl
    ·have eg:Tn (sl l st i) (c::r)=Tn (sl l st i++[c]) r:=by
      cases r with
      |nil=>simp at hc2
      |cons y r'=>rw [Tn,if_neg hc2]
     simp only [eg,hsl]
  ·have hlt:¬(l.length:Int)<(l.length:Int):=by omega
   refine ⟨?_,rfl⟩;simp (disch:=omega) only [Ah2,hlt,EVC,xe,EVP,EV,simprocAttr];simp [Tn]
 have e:[]++Tn (sl l 0 0) l=grp l:=by simp [sl,grp]
 rw [e] at key;generalize grp l=gs at*;simp (disch:=omega) only [Ah2,key,EVC,xe,EVP,EV,simprocAttr]
def Ac3 (o:List UInt8):List (List Rec)→List UInt8→List UInt8→Bool→Option Bool
 |[],_,_,soa=>some soa
 |g::gs,cut,red,soa=>
  if propG o g (decide (Dh (nmG g) cut≠[])) (decide (Dh (nmG g) red≠[]))=true then
   Ac3 o gs (if Dh (nmG g) cut=[]∧nmG g≠o∧F2 g 2=true then nmG g else Dh (nmG g) cut) (if F2 g 39=true then nmG g else Dh (nmG g) red) (soa||decide (nmG g=o))
  else none
theorem Br4 (o:List UInt8):∀(gs:List (List Rec)) (cut red:List UInt8) (soa:Bool),kx o gs cut red soa=decide (Ac3 o gs cut red soa=some true)
 |[],_,_,soa=>by simp [kx,Ac3]
 |g::gs,cut,red,soa=>by
  simp only [kx,Ac3];split
  ·exact Br4 o gs _ _ _
  ·simp
def Ij3:Option Bool→Out
 |some b=> .yld 0 [.b b]
 |none=> .ret [.i .i64 13]
section
variable (z:Zone) (g:List Rec) (gs:List (List Rec)) (x:Rec) (N:Nat) (i:Nat) (cut red:List UInt8) (soa:Bool)
theorem Jj3 (hi:gs[i]? =some g) (hx:g[0]? =some x) (hxl:x.name.length≤9223372036854775807) (hcl:cut.length≤9223372036854775807) (p1 p2 p3 p4 p5:PV):
  ∃p11,S2.ev S N [z.pv,p1,p2,p3,p4,p5,Gk gs, .s cut, .s red, .b soa, .i .i64 (i:Int)]=S3.ev S N [z.pv,p1,p2,p3,p4,p5,Gk gs, .s cut, .s red, .b soa, .i .i64 (i:Int),p11, .s (Dh x.name cut)]:=by
 have x17:=By S2.eq_1;have x16:=By lr.eq_1;have x0:=By Dj1.eq_1;have hu:=E7 x.name cut hxl hcl;have ei:(i:Int).toNat=i:=by omega
 by_cases h1:cut=[]
 ·refine ⟨.u,?_⟩;have e:Dh x.name cut=cut:=by unfold Dh;simp [h1]
  rw [e];replace h1:=eq_true h1;simp (disch:=omega) only [x17,x16,x0,h1,hi,hx,ei,Eg,EVC,xe,EVP,EV,simprocAttr]
 ·rcases Aq (under x.name cut) with h2|h2<;>rw [h2] at hu
  ·refine ⟨.b true,?_⟩;have e:Dh x.name cut=cut:=by unfold Dh;simp [h2]
   rw [e];simp (disch:=omega) only [x17,x16,x0,h1,hu,hi,hx,ei,Eg,EVC,xe,EVP,EV,simprocAttr]
  ·refine ⟨.b false,?_⟩;have e:Dh x.name cut=[]:=by unfold Dh;simp [h1,h2]
   rw [e];simp (disch:=omega) only [x17,x16,x0,h1,hu,hi,hx,ei,Eg,EVC,xe,EVP,EV,simprocAttr]
theorem Jj2 (hi:gs[i]? =some g) (hx:g[0]? =some x) (hxl:x.name.length≤9223372036854775807) (hrl:red.length≤9223372036854775807) (p1 p2 p3 p4 p5 p11 p12:PV):
  ∃p13,S3.ev S N [z.pv,p1,p2,p3,p4,p5,Gk gs, .s cut, .s red, .b soa, .i .i64 (i:Int),p11,p12]=X3.ev S N [z.pv,p1,p2,p3,p4,p5,Gk gs, .s cut, .s red, .b soa, .i .i64 (i:Int),p11,p12,p13, .s (Dh x.name red)]:=by
 have x15:=By S3.eq_1;have x14:=By l6.eq_1;have x1:=By Cl5.eq_1;have hu:=E7 x.name red hxl hrl;have ei:(i:Int).toNat=i:=by omega
 by_cases h1:red=[]
 ·refine ⟨.u,?_⟩;have e:Dh x.name red=red:=by unfold Dh;simp [h1]
  rw [e];replace h1:=eq_true h1;simp (disch:=omega) only [x15,x14,x1,h1,hi,hx,ei,Eg,EVC,xe,EVP,EV,simprocAttr]
 ·rcases Aq (under x.name red) with h2|h2<;>rw [h2] at hu
  ·refine ⟨.b true,?_⟩;have e:Dh x.name red=red:=by unfold Dh;simp [h2]
   rw [e];simp (disch:=omega) only [x15,x14,x1,h1,hu,hi,hx,ei,Eg,EVC,xe,EVP,EV,simprocAttr]
  ·refine ⟨.b false,?_⟩;have e:Dh x.name red=[]:=by unfold Dh;simp [h1,h2]
   rw [e];simp (disch:=omega) only [x15,x14,x1,h1,hu,hi,hx,ei,Eg,EVC,xe,EVP,EV,simprocAttr]
theorem Jj1 (hi:gs[i]? =some g) (hx:g[0]? =some x) (hnm:nmG g=x.name) (hg:g≠[]) (hl:g.length≤1000000) (hil:i≤1000000) (hxl:x.name.length≤9223372036854775807) (hzl:z.origin.length≤9223372036854775807) (cu re:List UInt8) (p1 p2 p3 p4 p5 p7 p8 p11 p13:PV):
  X3.ev S N [z.pv,p1,p2,p3,p4,p5,Gk gs,p7,p8, .b soa, .i .i64 (i:Int),p11, .s cu,p13, .s re]=
   some (if propG z.origin g (decide (cu≠[])) (decide (re≠[]))=true then .yld 1 [.s (if cu=[]∧x.name≠z.origin∧F2 g 2=true then x.name else cu), .s (if F2 g 39=true then x.name else re), .b (soa||decide (x.name=z.origin)), .i .i64 ((i:Int)+1)] else .ret [.i .i64 13]):=by
 have hp:=zm z.origin cu re g hg hl hzl (by rw [hnm];exact hxl);have k2:=Jh g 2 hl;have k39:=Jh g 39 hl;have ei:(i:Int).toNat=i:=by omega
 generalize propG z.origin g (decide (cu≠[])) (decide (re≠[]))=P at*;cases P
 ·simp (disch:=omega) only [Q7,hp,hi,hx,ei,Eg,EVC,xe,EVP,EV,simprocAttr]
  try simp
 ·by_cases h1:cu=[]
  ·by_cases h2:x.name=z.origin
   ·rcases Aq (F2 g 39) with h3|h3<;>rw [h3] at k39
    ·cases soa<;>(have h1':=eq_true h1;have h2':=eq_true h2;simp (disch:=omega) only [Q7,hp,hi,hx,ei,h1',h2',k39,Eg,EVC,xe,EVP,EV,simprocAttr];simp [h2,h3])
    ·cases soa<;>(have h1':=eq_true h1;have h2':=eq_true h2;simp (disch:=omega) only [Q7,hp,hi,hx,ei,h1',h2',k39,Eg,EVC,xe,EVP,EV,simprocAttr];simp [h2,h3])
   ·rcases Aq (F2 g 2) with h4|h4<;>rw [h4] at k2
    ·rcases Aq (F2 g 39) with h3|h3<;>rw [h3] at k39
     ·cases soa<;>(have h1':=eq_true h1;simp (disch:=omega) only [Q7,hp,hi,hx,ei,h1',h2,k2,k39,Eg,EVC,xe,EVP,EV,simprocAttr];simp [h1,h2,h3,h4])
     ·cases soa<;>(have h1':=eq_true h1;simp (disch:=omega) only [Q7,hp,hi,hx,ei,h1',h2,k2,k39,Eg,EVC,xe,EVP,EV,simprocAttr];simp [h1,h2,h3,h4])
    ·rcases Aq (F2 g 39) with h3|h3<;>rw [h3] at k39
     ·cases soa<;>(have h1':=eq_true h1;simp (disch:=omega) only [Q7,hp,hi,hx,ei,h1',h2,k2,k39,Eg,EVC,xe,EVP,EV,simprocAttr];simp [h2,h3,h4])
     ·cases soa<;>(have h1':=eq_true h1;simp (disch:=omega) only [Q7,hp,hi,hx,ei,h1',h2,k2,k39,Eg,EVC,xe,EVP,EV,simprocAttr];simp [h2,h3,h4])
  ·by_cases h2:x.name=z.origin
   ·rcases Aq (F2 g 39) with h3|h3<;>rw [h3] at k39
    ·cases soa<;>(have h2':=eq_true h2;simp (disch:=omega) only [Q7,hp,hi,hx,ei,h1,h2',k39,Eg,EVC,xe,EVP,EV,simprocAttr];simp [h1,h2,h3])
    ·cases soa<;>(have h2':=eq_true h2;simp (disch:=omega) only [Q7,hp,hi,hx,ei,h1,h2',k39,Eg,EVC,xe,EVP,EV,simprocAttr];simp [h1,h2,h3])
   ·rcases Aq (F2 g 39) with h3|h3<;>rw [h3] at k39
    ·cases soa<;>(simp (disch:=omega) only [Q7,hp,hi,hx,ei,h1,h2,k39,Eg,EVC,xe,EVP,EV,simprocAttr];simp [h1,h2,h3])
    ·cases soa<;>(simp (disch:=omega) only [Q7,hp,hi,hx,ei,h1,h2,k39,Eg,EVC,xe,EVP,EV,simprocAttr];simp [h1,h2,h3])
end
theorem u9:∀(n:Nat) (l:List Rec),l.length≤n→(∀g∈grp l,g≠[]∧∀x∈g,x∈l)∧(grp l).length≤l.length
 |_,[],_=>by simp [grp,Tn]
 |0,x::r,hn=>by simp at hn
 |n+1,x::r,hn=>by
  obtain ⟨g,l',h1,h2,h3,h4,h5⟩:=Qr x r;have hlen:=congrArg List.length h1;have hg0:0<g.length:=Bv.2 h2;simp only [Ac,A3] at hlen hn;obtain ⟨i1,i2⟩:=u9 n l' (by omega);rw [h5];refine ⟨fun g' hg'=> ?_,by simp;omega⟩;rcases Am.1 hg' with rfl|hg'
  ·exact ⟨h2,fun w hw=>by rw [h1];exact Cv _ hw⟩
  ·obtain ⟨j1,j2⟩:=i1 g' hg';exact ⟨j1,fun w hw=>by rw [h1];exact Bm _ (j2 w hw)⟩
theorem Bl8 (p:Prop) [Decidable p] (a b:List UInt8) (ha:a.length≤9223372036854775807) (hb:b.length≤9223372036854775807):(if p then a else b).length≤9223372036854775807:=by split<;>assumption
theorem Ir6 (z:Zone) (hz:z.wf) (hl:z.recs.length≤1000000) (N:Nat) (hN:z.recs.length+1<N) (p1 p2 p3 p4 p5:PV):
  Eg5.ev S N [z.pv,p1,p2,p3,p4,p5,Gk (grp z.recs)]=some (Ij3 (Ac3 z.origin (grp z.recs) [] [] false)):=by
 obtain ⟨gf1,gf2⟩:=u9 z.recs.length z.recs (Af _);have hgl:∀g∈grp z.recs,g.length≤1000000:=fun g hg=>by
  have:∀(n:Nat) (l:List Rec),l.length≤n→∀g∈grp l,g.length≤l.length:=by
   intro n
   induction n with
   |zero=>intro l hl g hg;cases l with
    |nil=>simp [grp,Tn] at hg
    |cons x r=>simp at hl
   |succ n ih=>
    intro l hl g hg;cases l with
    |nil=>simp [grp,Tn] at hg
    |cons x r=>
     obtain ⟨g0,l',h1,h2,h3,h4,h5⟩:=Qr x r;have hlen:=congrArg List.length h1;have hg0:0<g0.length:=Bv.2 h2;simp only [Ac,A3] at hlen hl;rw [h5] at hg;rcases Am.1 hg with rfl|hg
     ·simp only [A3];omega
     ·have:=ih l' (by omega) g hg;simp only [A3];omega
  exact C6 (this _ _ (Af _) g hg) hl
 generalize grp z.recs=gs at*;have:=F6 (fn:=S) (N:=N) (η:=[z.pv,p1,p2,p3,p4,p5,Gk gs]) (id:=1) (init:=[.c (.s []), .c (.s []), .c (.b false), .c (.i .i64 0)]) (body:=Vl) gs (fun i (a:List UInt8×List UInt8×Bool)=>[.s a.1, .s a.2.1, .b a.2.2, .i .i64 (i:Int)]) (fun i a r=>Ij3 (Ac3 z.origin r a.1 a.2.1 a.2.2)) (fun i a=>a.1.length≤9223372036854775807∧a.2.1.length≤9223372036854775807) ([],[],false) ?_ (by simp) (by omega) (fun i a g r hd hi hc hI=> ?_) (fun a hI=> ?_)
 ·exact this
 ·simp (disch:=omega) only [EVC,xe,EVP,EV,simprocAttr]
  try rfl
 ·obtain ⟨cut,red,soa⟩:=a;obtain ⟨hI1,hI2⟩:=hI;simp only at hI1 hI2 ⊢;have hgm:=Bq hc;obtain ⟨hg,hgz⟩:=gf1 g hgm;obtain ⟨x,hx,hxm⟩:∃x,g[0]? =some x∧x∈g:=by
   cases g with
   |nil=>exact absurd rfl hg
   |cons x r=>exact ⟨x,rfl, .head _⟩
  have hnm:nmG g=x.name:=by
   cases g with
   |nil=>exact absurd rfl hg
   |cons y r=>simp at hx;rw [←hx];rfl
  have hxl:x.name.length≤9223372036854775807:=(hz.recs.2 x (hgz x hxm)).name;have hzl:z.origin.length≤9223372036854775807:=hz.origin;obtain ⟨p11,kA⟩:=Jj3 z g gs x N i cut red soa hc hx hxl hI1 p1 p2 p3 p4 p5;have hku:(Dh x.name cut).length≤9223372036854775807:=by unfold Dh;split<;>simp [hI1]
  have hkr:(Dh x.name red).length≤9223372036854775807:=by unfold Dh;split<;>simp [hI2]
  obtain ⟨p13,kB⟩:=Jj2 z g gs x N i cut red soa hc hx hxl hI2 p1 p2 p3 p4 p5 p11 (.s (Dh x.name cut));have kC:=Jj1 z g gs x N i soa hc hx hnm hg (hgl g hgm) (by omega) hxl hzl (Dh x.name cut) (Dh x.name red) p1 p2 p3 p4 p5 (.s cut) (.s red) p11 p13;have kall:=kA.trans (kB.trans kC);have hlt:(i:Int)<(gs.length:Int):=by omega
  have hb:Vl.ev S N [z.pv,p1,p2,p3,p4,p5,Gk gs, .s cut, .s red, .b soa, .i .i64 (i:Int)]=S2.ev S N [z.pv,p1,p2,p3,p4,p5,Gk gs, .s cut, .s red, .b soa, .i .i64 (i:Int)]:=by have xb:=By Vl.eq_1;simp (disch:=omega) only [xb,hlt,Ns,EVC,xe,EVP,EV,simprocAttr]
  have hb2:=hb.trans kall;have estep:Ac3 z.origin (g::r) cut red soa=if propG z.origin g (decide (Dh x.name cut≠[])) (decide (Dh x.name red≠[]))=true then Ac3 z.origin r (if Dh x.name cut=[]∧x.name≠z.origin∧F2 g 2=true then x.name else Dh x.name cut) (if F2 g 39=true then x.name else Dh x.name red) (soa||decide (x.name=z.origin)) else none:=by simp only [Ac3,hnm]
  by_cases hP:propG z.origin g (decide (Dh x.name cut≠[])) (decide (Dh x.name red≠[]))=true
  ·left;rw [if_pos hP] at hb2 estep;refine ⟨(if Dh x.name cut=[]∧x.name≠z.origin∧F2 g 2=true then x.name else Dh x.name cut,if F2 g 39=true then x.name else Dh x.name red,soa||decide (x.name=z.origin)),hb2,⟨?_,?_⟩,?_⟩
   ·exact Bl8 _ _ _ hxl hku
   ·exact Bl8 _ _ _ hxl hkr
   ·rw [estep]
  ·right;rw [if_neg hP] at hb2 estep;rw [estep];exact ⟨hb2,rfl⟩
 ·have hlt:¬(gs.length:Int)<(gs.length:Int):=by omega
  have xb:=By Vl.eq_1;refine ⟨?_,rfl⟩;simp (disch:=omega) only [xb,hlt,Ns,EVC,xe,EVP,EV,simprocAttr];rfl
theorem nd (z:Zone) (hz:z.wf):Vf z=if vld z.origin=false then 2 else if 2048<z.recs.length∨P4 z.recs=true then 9 else if z.recs.all Oh=false then 5 else if z.recs≠sortR z.recs then 7 else if Ac3 z.origin (grp z.recs) [] [] false=some true then 0 else 13:=by
 unfold Vf;rcases Aq (vld z.origin) with h1|h1
 ·have n1:¬vld z.origin=false:=by simp [h1]
  rw [if_neg n1,if_neg n1];by_cases h2:2048<z.recs.length
  ·rw [if_pos h2,if_pos (.inl h2)]
  ·rw [if_neg h2];have hcr:=Ab7 z.recs;rcases Aq (z.recs.all fun r=>decide ((findR z.recs r.name r.typ).length≤64)) with h3|h3
   ·rw [h3] at hcr;have hn2:¬(2048<z.recs.length∨P4 z.recs=true):=by
     rintro (q|q)
     ·exact h2 q
     ·rw [hcr] at q;cases q
    have n3:¬(z.recs.all fun r=>decide ((findR z.recs r.name r.typ).length≤64))=false:=by simp only [h3];simp
    rw [if_neg n3,if_neg hn2];rcases Aq (z.recs.all Oh) with h4|h4
    ·have n4:¬z.recs.all Oh=false:=by simp only [h4];simp
     rw [if_neg n4,if_neg n4];by_cases h5:z.recs=sortR z.recs
     ·have n5:¬z.recs≠sortR z.recs:=by simpa using h5
      rw [if_neg n5,if_neg n5];have hv:∀r∈z.recs,Oh r=true:=Bc.1 h4;have hr:z.recs.Pairwise ltR:=by rw [h5];exact (Ph z.recs hv).1
      have hk:=wq z (fun r h=>Y1 (hv r h)) (Ar3 hr) z.recs.length [] z.recs [] [] false (Af _) rfl (by simp) ⟨by simp,by simp,by simp,by simp⟩;rw [Br4,decide_eq_true_eq] at hk;have hk2:=As7 z hv hr;have hk3:Ac3 z.origin (grp z.recs) [] [] false=some true↔(findR z.recs z.origin 6).length=1∧dv z.recs z.origin 2=true∧∀r∈z.recs,Rs z r=true:=by rw [hk,←hk2];simp
      by_cases h6:Ac3 z.origin (grp z.recs) [] [] false=some true
      ·obtain ⟨a,b,c⟩:=hk3.1 h6;have c':z.recs.all (Rs z)=true:=Bc.2 c;have n7:¬((findR z.recs z.origin 6).length≠1∨dv z.recs z.origin 2=false):=by simp [a,b]
       have n8:¬z.recs.all (Rs z)=false:=by simp only [c'];simp
       rw [if_pos h6,if_neg n7,if_neg n8]
      ·rw [if_neg h6];by_cases h7:(findR z.recs z.origin 6).length≠1∨dv z.recs z.origin 2=false
       ·rw [if_pos h7]
       ·rw [if_neg h7];by_cases h8:z.recs.all (Rs z)=false
        ·rw [if_pos h8]
        ·exfalso;simp only [not_or,ne_eq,Is,Fc] at h7 h8;exact h6 (hk3.2 ⟨h7.1,h7.2,Bc.1 h8⟩)
     ·rw [if_pos h5,if_pos h5]
    ·rw [if_pos h4,if_pos h4]
   ·rw [h3] at hcr;rw [if_pos h3,if_pos (.inr hcr)]
 ·rw [if_pos h1,if_pos h1]
theorem Dz5 (z:Zone) (hz:z.wf) (hl:z.recs.length≤1000000):S Bc7 1 [z.pv]=some [.i .i64 (Vf z)]:=by
 obtain ⟨N,hN⟩:∃N,N=z.recs.length+2:=⟨_,rfl⟩;refine Ic9 (N:=N) rfl ?_;rw [nd z hz];have hzl:z.origin.length≤9223372036854775807:=hz.origin;have k1:=B4 z.origin hzl;have k2:=Ab6 z.recs hl;have k3:=H0 z.recs Bb2 [] (fun r=> !Oh r) hl (fun r hr=>by refine Ib4 (N:=1) rfl ?_;have:=Dy6 r (hz.recs.2 r hr);simp (disch:=omega) only [Iq7,this,EVC,xe,EVP,EV,simprocAttr])
 have e3:(z.recs.any fun r=> !Oh r)= !z.recs.all Oh:=by rw [List.not_all_eq_any_not]
 rw [e3] at k3;have k4:=Ey6 z.recs hz.recs.2 hl;have hsl:(sortR z.recs).length≤1000000:=by obtain ⟨r,h1,h2,_⟩:=Ov Hr5 (by rw [Ej4];exact Ht9) z.recs hz.recs.2 hl;rw [Ej4] at h1;have:=Xh eqF r;rw [s5 h1] at this;omega
 have k5:=Dz2 z.recs (sortR z.recs) hl hsl;have k6:=Bm8 z.recs hl;have k7:=fun p1 p2 p3 p4 p5=>Ir6 z hz hl N (by omega) p1 p2 p3 p4 p5;have xt:=By Am7.eq_1;have x28:=By kg.eq_1;have x27:=By km.eq_1;have x26:=By lj.eq_1;have x25:=By lq.eq_1;have x24:=By lv.eq_1;have x23:=By lw.eq_1;have x22:=By lz.eq_1;have x21:=By lc.eq_1;have x20:=By lf.eq_1;have x19:=By lg.eq_1;have x18:=By lm.eq_1;rcases Aq (vld z.origin) with h1|h1
 ·have n1:¬vld z.origin=false:=by simp [h1]
  rw [if_neg n1];rw [h1] at k1;by_cases h2:2048<z.recs.length
  ·rw [if_pos (.inl h2)];have h2':(2048:Int)<(z.recs.length:Int):=by omega
   simp (disch:=omega) only [xt,x28,x27,x26,k1,h2',EVC,xe,EVP,EV,simprocAttr]
  ·have h2':¬(2048:Int)<(z.recs.length:Int):=by omega
   rcases Aq (P4 z.recs) with h3|h3<;>rw [h3] at k2
   ·rw [if_pos (.inr h3)];simp (disch:=omega) only [xt,x28,x27,x26,k1,k2,h2',EVC,xe,EVP,EV,simprocAttr]
   ·have n2:¬(2048<z.recs.length∨P4 z.recs=true):=by simp only [h2,h3];simp
    rw [if_neg n2];rcases Aq (z.recs.all Oh) with h4|h4<;>rw [h4] at k3
    ·have n4:¬z.recs.all Oh=false:=by simp only [h4];simp
     rw [if_neg n4];by_cases h5:z.recs=sortR z.recs
     ·have n5:¬z.recs≠sortR z.recs:=by simpa using h5
      rw [if_neg n5];have e5:decide (z.recs=sortR z.recs)=true:=decide_eq_true h5;rw [e5] at k5;clear h5 e5;generalize sortR z.recs=sr at*;cases h6:Ac3 z.origin (grp z.recs) [] [] false with
      |none=>
       rw [h6] at k7;simp only [Ij3] at k7;generalize grp z.recs=gs at*;rw [if_neg (by simp)];simp (disch:=omega) only [xt,x28,x27,x26,x25,x24,x23,x22,x21,x20,x19,x18,k1,k2,h2',k3,k4,k5,k6,k7,Ns,EVC,xe,EVP,EV,simprocAttr]
      |some b=>
       rw [h6] at k7;simp only [Ij3] at k7;generalize grp z.recs=gs at*;cases b
       ·rw [if_neg (by simp)];simp (disch:=omega) only [xt,x28,x27,x26,x25,x24,x23,x22,x21,x20,x19,x18,k1,k2,h2',k3,k4,k5,k6,k7,Ns,EVC,xe,EVP,EV,simprocAttr]
       ·rw [if_pos rfl];simp (disch:=omega) only [xt,x28,x27,x26,x25,x24,x23,x22,x21,x20,x19,x18,k1,k2,h2',k3,k4,k5,k6,k7,Ns,EVC,xe,EVP,EV,simprocAttr]
     ·rw [if_pos h5];have e5:decide (z.recs=sortR z.recs)=false:=decide_eq_false h5;rw [e5] at k5;clear h5 e5;generalize sortR z.recs=sr at*;simp (disch:=omega) only [xt,x28,x27,x26,x25,x24,x23,x22,x21,k1,k2,h2',k3,k4,k5,EVC,xe,EVP,EV,simprocAttr]
    ·rw [if_pos h4];simp (disch:=omega) only [xt,x28,x27,x26,x25,x24,k1,k2,h2',k3,EVC,xe,EVP,EV,simprocAttr]
     try simp
 ·rw [if_pos h1];rw [h1] at k1;simp (disch:=omega) only [xt,x28,k1,EVC,xe,EVP,EV,simprocAttr]
end Go.X.G
/- The laws LookupTrue and LookupNothing. -/
namespace Go.X.G
open Go Go.X
theorem Vd (z:Zone) (n:List UInt8) (t:Int) (hl:z.recs.length≤1000000):S Ay7 3 [z.pv, .s n, .i .i64 t]=some [.i .i64 (Jc z n t:Int)]:=by
 refine Ic8 (N:=z.recs.length+1) rfl ?_;have key:Eg4.ev S (z.recs.length+1) [z.pv, .s n, .i .i64 t]=some (.yld 0 [.i .i64 ((0+Jc z n t:Nat):Int)]):=by
  refine F6 z.recs (fun i (g:Nat)=>[.i .i64 (g:Int), .i .i64 (i:Int)]) (fun i g r=> .yld 0 [.i .i64 ((g+(r.filter fun r=>decide (r.name=n) && (decide (t=255)||decide (r.typ=t))).length:Nat):Int)]) (fun i g=>g≤i) 0 rfl (Cr _) (Nat.lt_succ_self _) (fun i g c r hd hi hc hI=> ?_) (fun g hI=> ?_)
  ·left;have hil:(i:Int)<(z.recs.length:Int):=by omega
   by_cases h1:c.name=n
   ·by_cases h2:t=255
    ·refine ⟨g+1,?_,by omega,by simp [h1,h2];omega⟩;simp (disch:=omega) only [z8,hc,hil,h1,h2,EVM,EVC,xe,EVP,EV,simprocAttr]
    ·by_cases h3:c.typ=t
     ·refine ⟨g+1,?_,by omega,by simp [h1,h3];omega⟩;simp (disch:=omega) only [z8,hc,hil,h1,h2,h3,EVM,EVC,xe,EVP,EV,simprocAttr]
     ·refine ⟨g,?_,by omega,by simp [h2,h3]⟩;simp (disch:=omega) only [z8,hc,hil,h1,h2,h3,EVM,EVC,xe,EVP,EV,simprocAttr]
   ·refine ⟨g,?_,by omega,by simp [h1]⟩;simp (disch:=omega) only [z8,hc,hil,h1,EVM,EVC,xe,EVP,EV,simprocAttr]
  ·simp (disch:=omega) only [z8,Int.lt_irrefl,EVM,EVC,xe,EVP,EV,simprocAttr];simp [Out.goes]
 rw [Dc] at key;simp (disch:=omega) only [z8,key,EVM,EVC,xe,EVP,EV,simprocAttr]
def oc (z:Zone) (n:List UInt8):Nat:=(z.recs.filter fun r=>under r.name n).length
theorem Aj1 (z:Zone) (n:List UInt8) (hz:z.wf) (hl:z.recs.length≤1000000) (hn:n.length≤9223372036854775807):S Bc5 2 [z.pv, .s n]=some [.i .i64 (oc z n:Int)]:=by
 refine Ic7 (N:=z.recs.length+1) rfl ?_;have key:Eg3.ev S (z.recs.length+1) [z.pv, .s n]=some (.yld 0 [.i .i64 ((0+oc z n:Nat):Int)]):=by
  refine F6 z.recs (fun i (g:Nat)=>[.i .i64 (g:Int), .i .i64 (i:Int)]) (fun i g r=> .yld 0 [.i .i64 ((g+(r.filter fun r=>under r.name n).length:Nat):Int)]) (fun i g=>g≤i) 0 rfl (Cr _) (Nat.lt_succ_self _) (fun i g c r hd hi hc hI=> ?_) (fun g hI=> ?_)
  ·left;have hil:(i:Int)<(z.recs.length:Int):=by omega
   have k:=E7 c.name n (hz.recs.2 c (Bq hc)).name hn;rcases Aq (under c.name n) with h1|h1
   ·rw [h1] at k;refine ⟨g+1,?_,by omega,by simp [h1];omega⟩;simp (disch:=omega) only [Dc6,hc,hil,k,EVM,EVC,xe,EVP,EV,simprocAttr]
   ·rw [h1] at k;refine ⟨g,?_,by omega,by simp [h1]⟩;simp (disch:=omega) only [Dc6,hc,hil,k,EVM,EVC,xe,EVP,EV,simprocAttr]
  ·simp (disch:=omega) only [Dc6,Int.lt_irrefl,EVM,EVC,xe,EVP,EV,simprocAttr];simp [Out.goes]
 rw [Dc] at key;simp (disch:=omega) only [Dc6,key,EVM,EVC,xe,EVP,EV,simprocAttr]
theorem law_LookupNothing (z:Zone) (q:Ques) (hz:z.wf) (hq:q.wf):S Hy8 2 [z.pv,q.pv]=some [.b true]:=by
 refine It6 (N:=1) rfl ?_;have k1:=Ac9;have hqn:q.name.length≤9223372036854775807:=hq.name;by_cases h3:z.recs.length≤60
 ·have k2:=Dz5 z hz (by omega);have h3':¬(60:Int)<(z.recs.length:Int):=by omega
  by_cases h4:q.name.length≤300
  ·have h4':¬(300:Int)<(q.name.length:Int):=by omega
   by_cases h5:Vf z=0
   ·have ho:=Br5 h5;have k3:=jt z q hz (by omega) hqn;have hf:=Bn0 z q ho;have hol:(findM z q).owner.length≤9223372036854775807∨(findM z q).kind≠4:=by
     by_cases h6:(findM z q).kind=4
     ·left;have:=Bs.1 (hf.ref h6).1;have:=Iw this.2.1;omega
     ·exact .inr h6
    rw [h5] at k2;have kn:=Aj1 z q.name hz (by omega) hqn;have hzo:z.origin.length≤9223372036854775807:=hz.origin;generalize findM z q=r at*;have hund:(r.kind=6∨r.wild=true)→oc z q.name=0:=fun h=>by have:=hf.nothing h;unfold oc;rw [List.length_eq_zero_iff,Fw];intro x hx;rw [this x hx];simp
    have st:∀p,(ym.ev S 1 [z.pv,q.pv, .b true, .i .i64 0,r.pv,p]=some (.ret [.b true])):=by
     intro p;rcases hf.kinds with h6|h6|h6|h6|h6|h6|h6
     ·have ku:=E7 q.name z.origin hqn hzo;rw [hf.out h6] at ku;simp (disch:=omega) only [zt,h6,ku,EVM,EVC,EVR,xe,EVP,EV,simprocAttr]
     ·simp (disch:=omega) only [zt,h6,EVM,EVC,EVR,xe,EVP,EV,simprocAttr]
     ·simp (disch:=omega) only [zt,h6.1,EVM,EVC,EVR,xe,EVP,EV,simprocAttr]
     ·simp (disch:=omega) only [zt,h6.1,EVM,EVC,EVR,xe,EVP,EV,simprocAttr]
     ·obtain ⟨b1,b2,b3,b4,_⟩:=hf.ref h6;have ku:=E7 q.name r.owner hqn (hol.resolve_right (fun h=>h h6));rw [b1] at ku;have kc:=Vd z r.owner 2 (by omega);rw [←b3] at kc;have hpos:(0:Int)<(r.recs.length:Int):=by have:=Bv.2 b4;omega
      simp (disch:=omega) only [zt,h6,ku,kc,b2,hpos,EVM,EVC,EVR,xe,EVP,EV,simprocAttr]
     ·have kc:=Vd z r.owner q.typ (by omega);rw [hf.nodata h6] at kc;simp (disch:=omega) only [zt,h6,kc,EVM,EVC,EVR,xe,EVP,EV,simprocAttr]
      try simp
     ·obtain ⟨b1,b2⟩:=hf.nx h6;simp (disch:=omega) only [zt,h6,b1,b2,EVM,EVC,EVR,xe,EVP,EV,simprocAttr]
      try simp
    generalize hC:ym=C10 at st;by_cases h6:r.kind=6
    ·rw [hund (.inl h6)] at kn;simp (disch:=omega) only [zt,hC,k1,k2,k3,kn,h3',h4',h6,st,Int.natCast_zero,EVM,EVC,EVR,xe,EVP,EV,simprocAttr]
    ·rcases Aq r.wild with h7|h7
     ·rw [hund (.inr h7)] at kn;simp (disch:=omega) only [zt,hC,k1,k2,k3,kn,h3',h4',h6,h7,st,Int.natCast_zero,EVM,EVC,EVR,xe,EVP,EV,simprocAttr]
     ·simp (disch:=omega) only [zt,hC,k1,k2,k3,h3',h4',h6,h7,st,EVM,EVC,EVR,xe,EVP,EV,simprocAttr]
   ·simp (disch:=omega) only [zt,k1,k2,h3',h4',h5,EVM,EVC,EVR,xe,EVP,EV,simprocAttr]
  ·have h4':(300:Int)<(q.name.length:Int):=by omega
   simp (disch:=omega) only [zt,k1,h3',h4',EVM,EVC,EVR,xe,EVP,EV,simprocAttr]
 ·have h3':(60:Int)<(z.recs.length:Int):=by omega
  simp (disch:=omega) only [zt,k1,h3',EVM,EVC,EVR,xe,EVP,EV,simprocAttr]
end Go.X.G
