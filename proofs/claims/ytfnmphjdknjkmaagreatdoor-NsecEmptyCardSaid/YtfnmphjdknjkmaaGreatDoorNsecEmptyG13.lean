/- Stable sorting: the Mn. -/
import Derived.Test.YtfnmphjdknjkmaaGreatDoorNsecEmptyG12
import Derived.Test.YtfnmphjdknjkmaaGreatDoorNsecEmptyG11
import Derived.Test.YtfnmphjdknjkmaaGreatDoorNsecEmptyG9
import Derived.Test.YtfnmphjdknjkmaaGreatDoorNsecEmptyG8
open Bool renaming eq_false_or_eq_true→Ak,and_eq_true→Aw,false_eq_true→Ad,or_eq_true→Ap,not_eq_true'→A7,eq_iff_iff→C2,not_eq_false→Ff
open Classical renaming not_not→Jx
open Int renaming toNat_natCast→G4
open List renaming getElem?_eq_some_iff→Av,getElem?_eq_getElem→Az,length_append→Ac,mem_cons→Am,length_take→Ar,append_assoc→As,pairwise_cons→A0,length_cons→A3,getElem?_drop→A8,mem_of_getElem?→A9,all_eq_true→Bz,length_pos_iff→Bb,length_nil→Bf,getElem?_map→Bh,mem_append_right→Bm,take_append_drop→Bs,mem_append→Bt,mem_filter→B0,length_drop→B3,mem_append_left→Cq,nil_append→Cb,any_eq_true→Cd,take_add_one→Cl,drop_eq_getElem_cons→Ct,drop_drop→C0,take_length→Dq,take_of_length_le→Dh,mem_map→Ds,append_nil→Dt,getElem_mem→D1,drop_zero→D3,length_map→E9,count_cons_of_ne→Fp,map_cons→Ft,length_set→F5,mem_of_mem_take→Gb,mem_of_mem_drop→Gc,count_cons_self→Gd,length_filter_le→Hg,drop_append_of_le_length→Ir,getLast_eq_getElem→Jq,flatMap_cons→Jw,filter_cons→Kt,length_mergeSort→iz,getElem_take→qk,take_take→Bk0,mem_nil_iff→Dm6,filterMap_cons→Gy4,drop_set_of_lt→Gy5,map_mergeSort→Ir3,count_eq_zero→Ir4
open Nat renaming le_refl→Af,mul_le_mul_right→By,zero_le→Cc,le_trans→C4,add_zero→C8,add_sub_cancel→Wx,min_eq_left→Zc
open Option renaming bind_some→Ay
set_option maxHeartbeats 1000000
set_option linter.unusedVariables false
set_option linter.unusedSimpArgs false
namespace Go.X.G
open Go Go.X
theorem gq {α:Type} {le:α→α→Bool} (ht:TP le) {bs:Nat} {Y LY:List α} (h:Blk le bs Y LY) (hl:Y.length≤2*bs) (hb:bs<Y.length):Stab le (mrg le (Y.take bs) (Y.drop bs)) LY:=by have h1:=h.head;have h2:=(h.tail).all (by rw [B3];omega);have:=Stab.mrg ht h1 h2;rwa [Bs] at this
theorem Blk.pre {α:Type} {le:α→α→Bool} {bs k:Nat} {Y LY:List α} (h:Blk le bs Y LY):Blk le bs (Y.take (k*bs)) (LY.take (k*bs)):=by
 refine ⟨by simp [h.len],fun j=> ?_⟩;rw [List.drop_take,List.drop_take,Bk0,Bk0];by_cases hj:j<k
 ·have e:(j+1)*bs≤k*bs:=By _ hj;rw [Nat.succ_mul] at e;rw [Zc (by omega)];exact h.st j
 ·have e:k*bs≤j*bs:=By _ (by omega);rw [show k*bs - j*bs=0 by omega,Nat.min_eq_right (by omega),List.take_zero,List.take_zero];exact Qn le
section
variable {g:Nat} {caps:List PV} {c:Rec→Rec→Int} {P:Rec→Prop}
theorem Jk7 (hC:Cmp g caps c P) (ht:TP (leC c)) (l:List Rec) (hP:∀y∈l,P y) (hs:l.length≤1000000) (N:Nat) (hN:l.length+2<N):
  ∃(X LX Y:List Rec) (q:Nat),Cv1.ev S N [Al l, .i .i64 l.length, .f g caps]=some (.yld 0 [.i .i64 X.length,Al (X++Y)])∧l=LX++Y∧X.length=q*20∧Y.length<20∧Blk (leC c) 20 X LX∧∀y∈X++Y,P y:=by
 have key:=G7 (fn:=S) (N:=N) (η:=[Al l, .i .i64 l.length, .f g caps]) (id:=1) (init:=[.c (.i .i64 0), .c (.i .i64 20), .v 0]) (body:=o3) (α:=List Rec×List Rec×List Rec×Nat)
  (fun w=>[.i .i64 (w.1.length:Int), .i .i64 ((w.1.length:Int)+20),Al (w.1++w.2.2.1)])
  (fun o=>∃(X LX Y:List Rec) (q:Nat),o= .yld 0 [.i .i64 X.length,Al (X++Y)]∧l=LX++Y∧X.length=q*20∧Y.length<20∧Blk (leC c) 20 X LX∧∀y∈X++Y,P y)
  (fun w=>l=w.2.1++w.2.2.1∧w.1.length=w.2.2.2*20∧Blk (leC c) 20 w.1 w.2.1∧∀y∈w.1++w.2.2.1,P y) (fun w=>w.2.2.1.length) ([],[],l,0) ?_ ⟨rfl,by simp,Blk.nil _ _,by simpa using hP⟩ (by simp only;omega) ?_
 ·obtain ⟨o,h1,X,LX,Y,q,rfl,h2⟩:=key;exact ⟨X,LX,Y,q,h1,h2⟩
 ·simp (disch:=omega) only [EVT,EVM,EVC,xe,EVP,EV,simprocAttr]
  try simp
 ·rintro ⟨X,LX,Y,q⟩ ⟨h1,h2,h3,h4⟩;simp only at h1 h2 h3 h4;have hlen:=congrArg List.length h1;simp only [Ac] at hlen;have hXL:=h3.len;by_cases hge:20≤Y.length
  ·left;have eY:Y.take 20++Y.drop 20=Y:=Bs _ _;have l1:(Y.take 20).length=20:=by rw [Ar];omega
   have l2:(Y.drop 20).length=Y.length - 20:=B3;have eXY:X++Y.take 20++Y.drop 20=X++Y:=by rw [As,eY]
   obtain ⟨R,k1,k2,k3⟩:=Vn hC ht X (Y.take 20) (Y.drop 20) (X.length:Int) ((X.length:Int)+20) rfl (by omega) (by rw [eXY];exact h4) (by rw [eXY,Ac];omega);rw [eXY] at k3;refine ⟨(X++R,LX++Y.take 20,Y.drop 20,q+1),?_,⟨by simp only;rw [h1,As,eY],by simp only [Ac];omega,Blk.app h2 h3 (Blk.one k1 k2 (by omega)),fun y hy=>h4 y ?_⟩,by simp only;omega⟩
   ·have e1:((X++R).length:Int)=(X.length:Int)+20:=by simp only [Ac];omega
    have hge':(X.length:Int)+20≤(l.length:Int):=by omega
    simp only;rw [e1];generalize X++R++Y.drop 20=s1 at*;generalize X++Y=s0 at*;simp (disch:=omega) only [Pg,hge',k3,D4,K4,EVT,EVM,EVC,xe,EVP,EV,simprocAttr]
   ·have:=k1.mem ht y;simp only [Bt] at hy;rcases hy with (hy|hy)|hy
    ·simp [hy]
    ·exact Bm _ (Gb (this.1 hy))
    ·exact Bm _ (Gc hy)
  ·right;have hge':¬(X.length:Int)+20≤(l.length:Int):=by omega
   refine ⟨.yld 0 [.i .i64 X.length,Al (X++Y)],?_,rfl,X,LX,Y,q,rfl,h1,h2,by omega,h3,h4⟩;simp only;generalize X++Y=s0 at*;simp (disch:=omega) only [Pg,hge',EVT,EVM,EVC,xe,EVP,EV,simprocAttr]
theorem Jk6 (hC:Cmp g caps c P) (ht:TP (leC c)) (l r:List Rec) (bs:Nat) (hbs:0<bs) (hbs2:bs<l.length) (hr:Blk (leC c) bs r l) (hP:∀y∈r,P y) (hs:l.length≤1000000) (w0:PV) (w3 w4 w5:PV) (N:Nat) (hN:l.length+2<N):
  ∃(X LX Y LY:List Rec) (q:Nat),Ck2.ev S N [w0, .i .i64 l.length, .f g caps,w3,w4,w5, .i .i64 bs,Al r]=some (.yld 2 [.i .i64 X.length,Al (X++Y)])∧l=LX++LY∧X.length=q*(2*bs)∧Y.length<2*bs∧Blk (leC c) (2*bs) X LX∧Blk (leC c) bs Y LY∧∀y∈X++Y,P y:=by
 have key:=G7 (fn:=S) (N:=N) (η:=[w0, .i .i64 l.length, .f g caps,w3,w4,w5, .i .i64 bs,Al r]) (id:=3) (init:=[.c (.i .i64 0), .bin .mul (.c (.i .i64 2)) (.v 6), .v 7]) (body:=og) (α:=(List Rec×List Rec)×(List Rec×List Rec)×Nat)
  (fun w=>[.i .i64 (w.1.1.length:Int), .i .i64 ((w.1.1.length:Int)+2*bs),Al (w.1.1++w.2.1.1)])
  (fun o=>∃(X LX Y LY:List Rec) (q:Nat),o= .yld 2 [.i .i64 X.length,Al (X++Y)]∧l=LX++LY∧X.length=q*(2*bs)∧Y.length<2*bs∧Blk (leC c) (2*bs) X LX∧Blk (leC c) bs Y LY∧∀y∈X++Y,P y)
  (fun w=>l=w.1.2++w.2.1.2∧w.1.1.length=w.2.2*(2*bs)∧Blk (leC c) (2*bs) w.1.1 w.1.2∧Blk (leC c) bs w.2.1.1 w.2.1.2∧∀y∈w.1.1++w.2.1.1,P y) (fun w=>w.2.1.1.length) (([],[]),(r,l),0) ?_ ⟨rfl,by simp,Blk.nil _ _,hr,by simpa using hP⟩ (by have:=hr.len;simp only;omega) ?_
 ·obtain ⟨o,h1,X,LX,Y,LY,q,rfl,h2⟩:=key;exact ⟨X,LX,Y,LY,q,h1,h2⟩
 ·simp (disch:=omega) only [EVT,EVM,EVC,xe,EVP,EV,simprocAttr];simp
 ·rintro ⟨⟨X,LX⟩,⟨Y,LY⟩,q⟩ ⟨h1,h2,h3,h4,h5⟩;simp only at h1 h2 h3 h4 h5;have hlen:=congrArg List.length h1;simp only [Ac] at hlen;have hXL:=h3.len;have hYL:=h4.len;by_cases hge:2*bs≤Y.length
  ·left;have eY:Y.take (2*bs)++Y.drop (2*bs)=Y:=Bs _ _;have l1:(Y.take (2*bs)).length=2*bs:=by rw [Ar];omega
   have l2:(Y.drop (2*bs)).length=Y.length - 2*bs:=B3;have hp:=h4.pre (k:=2);have hz:Blk (leC c) bs (Y.drop (2*bs)) (LY.drop (2*bs)):=by have:=h4.tail.tail;rwa [C0,C0,show bs+bs=2*bs by omega] at this
   have hst:=gq ht hp (by omega) (by omega);have sA:((Y.take (2*bs)).take bs).Pairwise fun x y=>leC c x y=true:=hp.head.sorted;have sB:((Y.take (2*bs)).drop bs).Pairwise fun x y=>leC c x y=true:=(hp.tail.all (by rw [B3];omega)).sorted;have lA:((Y.take (2*bs)).take bs).length=bs:=by rw [Ar];omega
   have lB:((Y.take (2*bs)).drop bs).length=bs:=by rw [B3];omega
   have eAB:(Y.take (2*bs)).take bs++(Y.take (2*bs)).drop bs=Y.take (2*bs):=Bs _ _;generalize (Y.take (2*bs)).take bs=A at*;generalize (Y.take (2*bs)).drop bs=B at*;have eXY:X++A++B++Y.drop (2*bs)=X++Y:=by rw [As X,eAB,As,eY]
   have hm:=J7 hC ht (A.length+B.length) X A B (Y.drop (2*bs)) (X.length:Int) ((X.length:Int)+bs) ((X.length:Int)+2*bs) (Af _) (by intro e;rw [e] at lA;simp at lA;omega) (by intro e;rw [e] at lB;simp at lB;omega) sA sB rfl (by omega) (by omega) (by rw [eXY,Ac];omega) (by rw [eXY];exact h5);rw [eXY] at hm;have lM:=Sw (leC c) A B;have eL:LY.take (2*bs)++LY.drop (2*bs)=LY:=Bs _ _;refine ⟨((X++mrg (leC c) A B,LX++LY.take (2*bs)),(Y.drop (2*bs),LY.drop (2*bs)),q+1),?_,⟨by simp only;rw [h1,As,eL],by simp only [Ac];rw [Nat.succ_mul];omega,Blk.app h2 h3 (Blk.one hst (by rw [lM,Ar];omega) (by omega)),hz,fun y hy=>h5 y ?_⟩,by simp only;omega⟩
   ·have e1:((X++mrg (leC c) A B).length:Int)=(X.length:Int)+2*bs:=by simp only [Ac];omega
    have hge':(X.length:Int)+2*(bs:Int)≤(l.length:Int):=by omega
    simp only;rw [e1];generalize X++mrg (leC c) A B++Y.drop (2*bs)=s1 at*;generalize X++Y=s0 at*;simp (disch:=omega) only [Pg,hge',hm,D4,K4,EVT,EVM,EVC,xe,EVP,EV,simprocAttr]
   ·rw [←eXY];simp only [Bt,mrg_mem] at hy ⊢
    grind
  ·right;have hge':¬(X.length:Int)+2*(bs:Int)≤(l.length:Int):=by omega
   refine ⟨.yld 2 [.i .i64 X.length,Al (X++Y)],?_,rfl,X,LX,Y,LY,q,rfl,h1,h2,by omega,h3,h4,h5⟩;simp only;generalize X++Y=s0 at*;simp (disch:=omega) only [Pg,hge',EVT,EVM,EVC,xe,EVP,EV,simprocAttr]
theorem Jk8 (hC:Cmp g caps c P) (ht:TP (leC c)) (l r:List Rec) (bs:Nat) (hbs:0<bs) (hbs2:bs<l.length) (hr:Blk (leC c) bs r l) (hP:∀y∈r,P y) (hs:l.length≤1000000) (w0 w3 w4 w5:PV) (N:Nat) (hN:l.length+2<N):
  ∃r',Blk (leC c) (2*bs) r' l∧(∀y∈r',P y)∧Yt.ev S N [w0, .i .i64 l.length, .f g caps,w3,w4,w5, .i .i64 bs,Al r]=some (.yld 1 [.i .i64 ((2*bs:Nat):Int),Al r']):=by
 obtain ⟨X,LX,Y,LY,q,k,h1,h2,h3,h4,h5,h6⟩:=Jk6 hC ht l r bs hbs hbs2 hr hP hs w0 w3 w4 w5 N hN;have hlen:=congrArg List.length h1;simp only [Ac] at hlen;have hXL:=h4.len;have hYL:=h5.len;have hlt:(bs:Int)<(l.length:Int):=by omega
 have e2:((2*bs:Nat):Int)=(bs:Int)*2:=by omega
 rw [e2];by_cases hge:bs<Y.length
 ·have eY:Y.take bs++Y.drop bs=Y:=Bs _ _;have hst:=gq ht h5 (by omega) hge;have sA:=h5.head.sorted;have sB:=(h5.tail.all (by rw [B3];omega)).sorted;have lA:(Y.take bs).length=bs:=by rw [Ar];omega
  have lB:(Y.drop bs).length=Y.length - bs:=B3;generalize Y.take bs=A at*;generalize Y.drop bs=B at*;have eXY:X++A++B++[]=X++Y:=by rw [Dt,As,eY]
  have hm:=J7 hC ht (A.length+B.length) X A B [] (X.length:Int) ((X.length:Int)+bs) (l.length:Int) (Af _) (by intro e;rw [e] at lA;simp at lA;omega) (by intro e;rw [e] at lB;simp at lB;omega) sA sB rfl (by omega) (by omega) (by rw [eXY,Ac];omega) (by rw [eXY];exact h6);rw [eXY,Dt] at hm;have lM:=Sw (leC c) A B;refine ⟨X++mrg (leC c) A B,by rw [h1];exact Blk.app h2 h4 (Blk.one hst (by omega) (by omega)),fun y hy=>h6 y (by
   rw [←eXY];simp only [Bt,mrg_mem] at hy ⊢
   grind),?_⟩
  have hge':(X.length:Int)+(bs:Int)<(l.length:Int):=by omega
  generalize X++mrg (leC c) A B=s1 at*;generalize X++Y=s0 at*;simp (disch:=omega) only [Pg,hlt,hge',k,hm,D4,K4,EVT,EVM,EVC,xe,EVP,EV,simprocAttr]
 ·refine ⟨X++Y,by rw [h1];exact Blk.app h2 h4 (Blk.one (h5.all (by omega)) hYL (by omega)),h6,?_⟩;have hge':¬(X.length:Int)+(bs:Int)<(l.length:Int):=by omega
  generalize X++Y=s0 at*;simp (disch:=omega) only [Pg,hlt,hge',k,EVT,EVM,EVC,xe,EVP,EV,simprocAttr]
theorem Bx6 (hC:Cmp g caps c P) (ht:TP (leC c)) (l:List Rec) (hP:∀y∈l,P y) (hs:l.length≤1000000):
  ∃r,Stab (leC c) r l∧r.length=l.length∧S dv 1048579 [Al l, .i .i64 l.length, .f g caps]=some [Al r]:=by
 obtain ⟨N,hN⟩:∃N,N=l.length+3:=⟨_,rfl⟩;obtain ⟨X,LX,Y,q,k0,h1,h2,h3,h4,h5⟩:=Jk7 hC ht l hP hs N (by omega);have hlen:=congrArg List.length h1;simp only [Ac] at hlen;have hXL:=h4.len;obtain ⟨R,i1,i2,i3⟩:=Vn hC ht X Y [] (X.length:Int) (l.length:Int) rfl (by omega) (by simpa using h5) (by simp;omega);simp only [Dt] at i3;have hB:Blk (leC c) 20 (X++R) l:=by rw [h1];exact Blk.app h2 h4 (Blk.one i1 i2 (by omega))
 have hP':∀y∈X++R,P y:=fun y hy=>h5 y (by
  have:=i1.mem ht y;simp only [Bt] at hy ⊢
  grind)
 have key:=G7 (fn:=S) (N:=N) (η:=[Al l, .i .i64 l.length, .f g caps, .i .i64 X.length,Al (X++Y),Al (X++R)]) (id:=1) (init:=[.c (.i .i64 20), .v 5]) (body:=Yt) (α:=Nat×List Rec)
  (fun w=>[.i .i64 (w.1:Int),Al w.2])
  (fun o=>∃r,Stab (leC c) r l∧r.length=l.length∧o= .yld 0 [Al r])
  (fun w=>0<w.1∧Blk (leC c) w.1 w.2 l∧∀y∈w.2,P y) (fun w=>l.length - w.1) (20,X++R) ?_ ⟨by simp,hB,hP'⟩ (by simp only;omega) ?_
 ·obtain ⟨o,k1,r,k2,k3,rfl⟩:=key;refine ⟨r,k2,k3,?_⟩;refine Hp0 (N:=N) rfl ?_;have k4:Ck6.ev S N [Al l, .i .i64 l.length, .f g caps, .i .i64 X.length,Al (X++Y),Al (X++R)]=_:=k1;clear k1;generalize X++Y=s0 at*;generalize X++R=s1 at*;simp (disch:=omega) only [Pg,k0,i3,k4,D4,K4,EVT,EVM,EVC,xe,EVP,EV,simprocAttr]
 ·generalize X++Y=s0 at*;generalize X++R=s1 at*;simp (disch:=omega) only [EVT,EVM,EVC,xe,EVP,EV,simprocAttr]
 ·rintro ⟨bs,r⟩ ⟨g1,g2,g3⟩;simp only at g1 g2 g3;have hr:=g2.len;by_cases hlt:bs<l.length
  ·left;obtain ⟨r',k1,k2,k3⟩:=Jk8 hC ht l r bs g1 hlt g2 g3 hs (Al l) (.i .i64 X.length) (Al (X++Y)) (Al (X++R)) N (by omega);exact ⟨(2*bs,r'),k3,⟨by simp only;omega,k1,k2⟩,by simp only;omega⟩
  ·right;have hlt':¬(bs:Int)<(l.length:Int):=by omega
   refine ⟨.yld 0 [Al r],?_,rfl,r,g2.all (by omega),hr,rfl⟩;generalize X++Y=s0 at*;generalize X++R=s1 at*;simp (disch:=omega) only [Pg,hlt',EVT,EVM,EVC,xe,EVP,EV,simprocAttr]
theorem Oc (hC:Cmp g caps c P) (ht:TP (leC c)) (l:List Rec) (hP:∀y∈l,P y) (hs:l.length≤1000000):
  ∃r,Stab (leC c) r l∧r.length=l.length∧S dn 1048578 [Al l, .f g caps]=some [Al r]:=by
 obtain ⟨r,h1,h2,h3⟩:=Bx6 hC ht l hP hs;refine ⟨r,h1,h2,?_⟩;refine Hs3 (N:=1) rfl ?_;simp (disch:=omega) only [Hc6,h3,D4,K4,EVT,EVM,EVC,xe,EVP,EV,simprocAttr]
end
end Go.X.G
/- Records compacted: the library's function. -/
namespace Go.X.G
open Go Go.X
theorem pg (l:List Rec) (g:Nat) (caps:List PV) (eq2:Rec→Rec→Bool) (h:∀x∈l,∀y∈l,S g 2 (x.pv::y.pv::caps)=some [.b (eq2 x y)]) (hl:l.length≤1000000):S dm 1048578 [Al l, .f g caps]=some [Al (cpt eq2 l)]:=by
 refine Hs1 (N:=l.length+2) rfl ?_;by_cases h2:(l.length:Int)<2
 ·have e:cpt eq2 l=l:=by
   match l,h2 with
   |[],_=>rfl
   |[x],_=>rfl
   |_::_::_,h=>simp at h;omega
  rw [e];simp (disch:=omega) only [Nw,h2,EVT,EVM,EVC,xe,EVP,EV,simprocAttr]
 ·-- the inner F8, from a place where two neighbours are equal
  have inner:∀k:Nat,1≤k→k<l.length→cpt eq2 (l.take (k+1))=l.take k→∃s:List Rec,s.length=l.length∧s.take (cpt eq2 l).length=cpt eq2 l∧Ck7.ev S (l.length+2) [Al l, .f g caps, .i .i64 (k:Int),Al l, .b true]=some (.yld 2 [.i .i64 ((cpt eq2 l).length:Int),Al s]):=by
   intro k hk1 hk hcp;have key:=G7 (fn:=S) (N:=l.length+2) (η:=[Al l, .f g caps, .i .i64 (k:Int),Al l, .b true]) (id:=3) (init:=[(.v 2),(.c (.i .i64 (1))),(.v 3)]) (body:=oh) (α:=Nat×Nat×List Rec)
    (fun a=>[.i .i64 (a.1:Int), .i .i64 (a.2.1:Int),Al a.2.2])
    (fun o=>∃s:List Rec,s.length=l.length∧s.take (cpt eq2 l).length=cpt eq2 l∧o= .yld 2 [.i .i64 ((cpt eq2 l).length:Int),Al s])
    (fun a=>1≤a.2.1∧k+a.2.1≤l.length∧a.1<k+a.2.1∧a.2.2.length=l.length∧a.2.2.take a.1=cpt eq2 (l.take (k+a.2.1))∧(cpt eq2 (l.take (k+a.2.1))).length=a.1∧a.2.2.drop (k+a.2.1 - 1)=l.drop (k+a.2.1 - 1))
    (fun a=>l.length - a.2.1) (k,1,l) (by simp (disch:=omega) only [EVT,EVM,EVC,xe,EVP,EV,simprocAttr])
    ⟨by simp,by simp;omega,by simp,rfl,by simp only;rw [hcp],by simp only;rw [hcp,Ar];omega,rfl⟩ (by simp only;omega) ?_
   ·obtain ⟨o,h3,s,h4,h5,rfl⟩:=key;exact ⟨s,h4,h5,h3⟩
   ·rintro ⟨i,j,s⟩ ⟨a1,a2,a3,a4,a5,a6,a7⟩;simp only at a1 a2 a3 a4 a5 a6 a7;by_cases hj:k+j<l.length
    ·left;have c1:s[k+j]? =l[k+j]? :=by have:=congrArg (fun q=>q[1]?) a7;simp only [A8] at this;rwa [show k+j - 1+1=k+j by omega] at this
     have c0:s[k+j - 1]? =l[k+j - 1]? :=by have:=congrArg (fun q=>q[0]?) a7;simpa only [A8,C8] using this
     have g1:l[k+j]? =some (l[k+j]'hj):=Az hj;have g0:l[k+j - 1]? =some (l[k+j - 1]'(by omega)):=Az (by omega);have tk:l.take (k+(j+1))=l.take (k+j)++[l[k+j]'hj]:=by rw [show k+(j+1)=(k+j)+1 by omega,Cl,g1];rfl
     have ne:l.take (k+j)≠[]:=by intro h;have:=congrArg List.length h;rw [Ar,Bf] at this;omega
     have gl:(l.take (k+j)).getLast ne=l[k+j - 1]'(by omega):=by rw [Jq];simp only [qk,Ar];congr 1;omega
     have cs:=L9 eq2 (l[k+j]'hj) (l.take (k+j)) ne;rw [←tk,gl] at cs;have hc:=h (l[k+j]'hj) (D1 _) (l[k+j - 1]'(by omega)) (D1 _);generalize l[k+j]'hj=x at*;generalize l[k+j - 1]'(by omega)=y at*;have hjj:(j:Int)<(s.length:Int) - (k:Int):=by omega
     have i1:Ht 16 (Al s) (.i .i64 ((k:Int)+(j:Int)))=some x.pv:=by rw [N8 _ _ _ (by omega),show ((k:Int)+(j:Int)).toNat=k+j by omega,c1,g1];rfl
     have i0:Ht 16 (Al s) (.i .i64 ((k:Int)+((j:Int) - 1)))=some y.pv:=by rw [N8 _ _ _ (by omega),show ((k:Int)+((j:Int) - 1)).toNat=k+j - 1 by omega,c0,g0];rfl
     have ls:Ix 16 (Al s) (.i .i64 (k:Int)) (.i .i64 (s.length:Int))=some (Al (s.drop k)):=by rw [L3 _ _ _ _ _ (by omega) (by omega) (by omega)];simp
     have e1:(s.drop k)[j]? =some x:=by rw [A8,c1,g1]
     have e0:(s.drop k)[j - 1]? =some y:=by rw [A8,show k+(j - 1)=k+j - 1 by omega,c0,g0]
     have si:∃w,s[i]? =some w:=⟨_,Az (by omega)⟩;obtain ⟨w,si⟩:=si;have ej:((j:Int) - 1).toNat=j - 1:=by omega
     by_cases hxy:eq2 x y=true
     ·refine ⟨(i,j+1,s),?_,⟨by simp,by simp only;omega,by simp only;omega,a4,?_,?_,?_⟩,by simp only;omega⟩
      ·simp (disch:=omega) only [Nw,hjj,i1,i0,ls,e1,e0,ej,hc,hxy,EVT,EVM,EVC,xe,EVP,EV,simprocAttr]
      ·simp only;rw [cs,a5];simp [hxy]
      ·simp only;rw [cs,Ac,a6];simp [hxy]
      ·simp only;rw [show k+(j+1) - 1=(k+j - 1)+1 by omega,←C0,←C0,a7]
     ·refine ⟨(i+1,j+1,s.set i x),?_,⟨by simp,by simp only;omega,by simp only;omega,by simpa using a4,?_,?_,?_⟩,by simp only;omega⟩
      ·simp (disch:=omega) only [Nw,hjj,i1,i0,ls,e1,e0,ej,si,hc,hxy,EVT,EVM,EVC,xe,EVP,EV,simprocAttr]
      ·simp only;rw [cs,Cl,List.getElem?_set_self (by omega),List.take_set_of_le (by omega),a5];simp [hxy]
      ·simp only;rw [cs,Ac,a6];simp [hxy]
      ·simp only;rw [show k+(j+1) - 1=(k+j - 1)+1 by omega,Gy5 (by omega),←C0,←C0,a7]
    ·right;have ek:k+j=l.length:=by omega
     rw [ek,Dq] at a5 a6;have hjj:¬(j:Int)<(s.length:Int) - (k:Int):=by omega
     refine ⟨.yld 2 [.i .i64 (i:Int),Al s],?_,rfl,s,a4,by rw [a6];exact a5,by rw [a6]⟩;simp (disch:=omega) only [Nw,hjj,EVT,EVM,EVC,xe,EVP,EV,simprocAttr]
  have key:Cv6.ev S (l.length+2) [Al l, .f g caps]=some (if cpt eq2 l=l then .yld 0 [Al l] else .ret [Al (cpt eq2 l)]):=by
   have:=G7 (fn:=S) (N:=l.length+2) (η:=[Al l, .f g caps]) (id:=1) (init:=[(.c (.i .i64 (1))),(.v 0)]) (body:=o7) (α:=Nat)
    (fun k=>[.i .i64 (k:Int),Al l]) (fun o=>o=if cpt eq2 l=l then .yld 0 [Al l] else .ret [Al (cpt eq2 l)])
    (fun k=>1≤k∧k≤l.length∧cpt eq2 (l.take k)=l.take k) (fun k=>l.length - k) 1 (by simp (disch:=omega) only [EVT,EVM,EVC,xe,EVP,EV,simprocAttr])
    ⟨Af 1,by omega,by cases l with
     |nil=>simp at h2
     |cons x r=>rfl⟩ (by omega) ?_
   ·obtain ⟨o,h3,h4⟩:=this;rw [←h4];exact h3
   ·rintro k ⟨k1,k2,k3⟩;by_cases hk:k<l.length
    ·have g1:l[k]? =some l[k]:=Az hk;have g0:l[k - 1]? =some (l[k - 1]'(by omega)):=Az (by omega);have tk:l.take (k+1)=l.take k++[l[k]]:=by rw [Cl,g1];rfl
     have ne:l.take k≠[]:=by intro h;have:=congrArg List.length h;rw [Ar,Bf] at this;omega
     have gl:(l.take k).getLast ne=l[k - 1]'(by omega):=by rw [Jq];simp only [qk,Ar];congr 1;omega
     have cs:=L9 eq2 l[k] (l.take k) ne;rw [←tk,gl,k3] at cs;have hkk:(k:Int)<(l.length:Int):=by omega
     have i1:Ht 16 (Al l) (.i .i64 (k:Int))=some (l[k]).pv:=by rw [N8 _ _ _ (by omega),show ((k:Int)).toNat=k by omega,g1];rfl
     have i0:Ht 16 (Al l) (.i .i64 ((k:Int) - 1))=some (l[k - 1]'(by omega)).pv:=by rw [N8 _ _ _ (by omega),show ((k:Int) - 1).toNat=k - 1 by omega,g0];rfl
     have hc:=h l[k] (D1 _) (l[k - 1]'(by omega)) (D1 _);by_cases hxy:eq2 l[k] (l[k - 1]'(by omega))=true
     ·right;have cs':cpt eq2 (l.take (k+1))=l.take k:=by rw [cs];simp [hxy]
      obtain ⟨s,s1,s2,s3⟩:=inner k k1 hk cs';have hlt:cpt eq2 l≠l:=by
       intro h;have q:(cpt eq2 l).length≤(cpt eq2 (l.take (k+1))).length+(l.drop (k+1)).length:=by
        have:∀(b a:List Rec),a≠[]→(cpt eq2 (a++b)).length≤(cpt eq2 a).length+b.length:=by
         intro b
         induction b with
         |nil=>intro a _;simp
         |cons x r ih=>
          intro a ha;have h1:=ih (a++[x]) (by simp);rw [L9 _ _ _ ha] at h1;rw [show a++x::r=a++[x]++r by simp];refine C4 h1 ?_;rw [Ac];split<;>simp<;>omega
        have h3:=this (l.drop (k+1)) (l.take (k+1)) (by intro h;have:=congrArg List.length h;rw [Ar,Bf] at this;omega);rwa [Bs] at h3
       rw [h,cs',Ar,B3] at q;omega
      have hlen:=Yy eq2 l;refine ⟨.ret [Al (cpt eq2 l)],?_,rfl,by rw [if_neg hlt]⟩;generalize cpt eq2 l=fl at*;have ls:Ix 16 (Al l) (.i .i64 (k:Int)) (.i .i64 (l.length:Int))=some (Al (l.drop k)):=by rw [L3 _ _ _ _ _ (by omega) (by omega) (by omega)];simp
      have hsl1:Ix 16 (Al s) (.i .i64 ((fl.length:Nat):Int)) (.i .i64 (s.length:Int))=some (Al (s.drop fl.length)):=by rw [L3 _ _ _ _ _ (by omega) (by omega) (by omega)];simp
      have hsl2:Ix 16 (Al s) (.i .i64 0) (.i .i64 ((fl.length:Nat):Int))=some (Al fl):=by rw [L3 _ _ _ _ _ (by omega) (by omega) (by omega)];simp [s2]
      have hrep:K9 16 (.i .i64 ((s.length:Int) - (fl.length:Int))) Bk5=some (Al (List.replicate (s.length - fl.length) zr)):=by rw [Ew5 _ (by omega) (by omega)];congr 3;omega
      have happ:Ic 16 (Al fl) (Al (List.replicate (s.length - fl.length) zr))=some (Al (fl++List.replicate (s.length - fl.length) zr)):=Y1 _ _ (by simp;omega);have hsl3:Ix 16 (Al (fl++List.replicate (s.length - fl.length) zr)) (.i .i64 0) (.i .i64 ((fl.length:Nat):Int))=some (Al fl):=by rw [L3 _ _ _ _ _ (by omega) (by omega) (by simp;omega)];simp
      simp (disch:=omega) only [Nw,hkk,i1,i0,hc,hxy,ls,s3,hsl1,hsl2,hrep,happ,hsl3,EVT,EVM,EVC,xe,EVP,EV,simprocAttr]
     ·left;refine ⟨k+1,?_,⟨by omega,by omega,?_⟩,by omega⟩
      ·simp (disch:=omega) only [Nw,hkk,i1,i0,hc,hxy,EVT,EVM,EVC,xe,EVP,EV,simprocAttr]
      ·rw [cs,tk];simp [hxy]
    ·right;have e:k=l.length:=by omega
     subst e;rw [Dq] at k3;refine ⟨_,?_,?_,rfl⟩
     ·rw [if_pos k3];simp (disch:=omega) only [Nw,EVT,EVM,EVC,xe,EVP,EV,simprocAttr]
     ·rw [if_pos k3];rfl
  by_cases hh:cpt eq2 l=l
  ·rw [if_pos hh] at key;rw [hh];simp (disch:=omega) only [Nw,h2,key,EVT,EVM,EVC,xe,EVP,EV,simprocAttr]
  ·rw [if_neg hh] at key;simp (disch:=omega) only [Nw,h2,key,EVT,EVM,EVC,xe,EVP,EV,simprocAttr]
end Go.X.G
/- Lists of records in the program: which are valid, their order, their sorting. -/
namespace Go.X.G
open Go Go.X
theorem Dg9 (r:Rec) (h:r.wf):S Bp5 1 [r.pv]=some [.b (Om r)]:=by
 refine Jx0 (N:=1) rfl ?_;have g:r.name.length≤9223372036854775807:=h.name;have h1:=Br r.name g;have h2:=Cg r.typ;have h3:=Ug r.typ r.data h.data;unfold Om;by_cases k0:0≤r.ttl<;>by_cases k1:r.ttl≤2147483647
 all_goals rcases ch3 (vld r.name) (knw r.typ) (Ej r.typ r.data) with e0|⟨e0,e1⟩|⟨e0,e1,e2⟩|⟨e0,e1,e2⟩
 all_goals simp only [*] at h1 h2 h3
 all_goals simp (disch:=omega) only [Is4,X6,E6,h1,h2,h3,EVC,xe,EVP,EV,simprocAttr, *]
 all_goals simp
theorem Gy1 (x:Int):S U1 1 [.i .i64 x]=some [.b false]:=by refine Hm7 (N:=1) rfl ?_;simp (disch:=omega) only [Hb2,EVC,xe,EVP,EV,simprocAttr]
theorem Dl0 (a b:Int):S U7 2 [.i .i64 a, .i .i64 b]=some [.i .i64 (yw a b)]:=by
 refine Hn9 (N:=1) rfl ?_;have h1:=Gy1 a;have h2:=Gy1 b;unfold yw;by_cases k1:a<b
 ·simp (disch:=omega) only [Bv3,h1,h2,k1,EVC,xe,EVP,EV,simprocAttr]
 ·by_cases k2:b<a
  ·simp (disch:=omega) only [Bv3,h1,h2,k1,k2,EVC,xe,EVP,EV,simprocAttr]
  ·simp (disch:=omega) only [Bv3,h1,h2,k1,k2,EVC,xe,EVP,EV,simprocAttr]
theorem vt (a b:Rec) (ha:a.wf) (hb:b.wf):S Vv 2 [a.pv,b.pv]=some [.i .i64 (Ts a b)]:=by
 refine Hr9 (N:=1) rfl ?_;have g1:a.name.length≤9223372036854775807:=ha.name;have g2:b.name.length≤9223372036854775807:=hb.name;have h1:=Hb a.name b.name g1 g2;have h2:=Dl0 a.typ b.typ;have h3:=pf a.typ a.data b.data ha.data hb.data;unfold Ts;by_cases k1:Hf a.name b.name=0
 ·by_cases k2:yw a.typ b.typ=0
  ·rw [k1] at h1;rw [k2] at h2;simp (disch:=omega) only [Bv8,X6,E6,h1,h2,h3,EVC,xe,EVP,EV,simprocAttr];simp [k1,k2]
  ·rw [k1] at h1;simp (disch:=omega) only [Bv8,h1,h2,k2,EVC,xe,EVP,EV,simprocAttr];simp [k1,k2]
 ·simp (disch:=omega) only [Bv8,h1,k1,EVC,xe,EVP,EV,simprocAttr]
theorem pb (a b:Rec) (ha:a.wf) (hb:b.wf):S Vz 2 [a.pv,b.pv]=some [.i .i64 (Gs7 a b)]:=by
 refine Hs2 (N:=1) rfl ?_;have h1:=vt a b ha hb;have h2:=Dl0 a.ttl b.ttl;unfold Gs7;by_cases k1:Ts a b=0
 ·rw [k1] at h1;simp (disch:=omega) only [En7,h1,h2,EVC,xe,EVP,EV,simprocAttr];simp [k1]
 ·simp (disch:=omega) only [En7,h1,k1,EVC,xe,EVP,EV,simprocAttr]
theorem Il9:Cmp Vz [] Gs7 Rec.wf:=⟨fun x y hx hy=>pb x y hx hy⟩
theorem Ec6:leC Gs7=leR:=rfl
theorem Em1 (a b:Rec) (ha:a.wf) (hb:b.wf):S Vy 2 [a.pv,b.pv]=some [.b (eqF a b)]:=by refine Hs0 (N:=1) rfl ?_;have h1:=vt a b ha hb;simp (disch:=omega) only [Hc5,h1,EVC,xe,EVP,EV,simprocAttr]
theorem Em0 (l:List Rec) (hw:∀r∈l,r.wf) (hl:l.length≤1000000):S Bp3 1 [Al l]=some [Al (sortR l)]:=by refine Jw8 (N:=1) rfl ?_;have h0:=Dl1 l hl;obtain ⟨r,h1,h2,h3⟩:=Oc Il9 (by rw [Ec6];exact In8) l hw hl;rw [Ec6] at h1;have hm:=h1.mem In8;have h4:=pg r Vy [] eqF (fun x hx y hy=>Em1 x y (hw x ((hm x).1 hx)) (hw y ((hm y).1 hy))) (by omega);rw [vz h1] at h4;simp (disch:=omega) only [Is3,h0,h3,h4,D4,K4,EVT,EVM,EVC,xe,EVP,EV,simprocAttr]
end Go.X.G
/- Delegations and names of a zone, as the program finds them. -/
namespace Go.X.G
open Go Go.X
def cutsN (z:Zone):List (List UInt8):=setN ((z.recs.filter (Et z)).map Rec.name)
theorem f9 (z:Zone) (x:List UInt8):x∈cutsN z↔∃r∈z.recs,Et z r=true∧r.name=x:=by unfold cutsN;rw [Lr,Ds];simp only [B0,and_assoc]
theorem Ev9 {l:List (List UInt8)} (h:∀x∈l,x.length≤9223372036854775807):∀x∈setN l,x.length≤9223372036854775807:=fun x hx=>h x ((Lr l x).1 hx)
theorem qw (z:Zone) (hz:z.wf) (hl:z.recs.length≤1000000):S Am3 1 [z.pv]=some [Bd (cutsN z)]:=by
 refine Jx7 (N:=z.recs.length+1) rfl ?_;have g1:=hz.origin;unfold Qm at g1;have key:Fj1.ev S (z.recs.length+1) [z.pv]=some (.yld 0 [Bd ([]++(z.recs.filter (Et z)).map Rec.name)]):=by
  refine Fy z.recs (fun i (b:List (List UInt8))=>[Bd b, .i .i64 (i:Int)]) (fun i b r=> .yld 0 [Bd (b++(r.filter (Et z)).map Rec.name)]) (fun i b=>b.length≤i) [] rfl (Cc _) (by omega) (fun i b c r hd hi hc hI=> ?_) (fun b hI=> ?_)
  ·left;have g2:=(hz.recs.2 c (A9 hc)).name;unfold Qm at g2;refine ⟨if Et z c then b++[c.name] else b,?_,by split<;>(try rw [Ac,List.length_singleton])<;>omega,by rcases Ak (Et z c) with q|q<;>simp [q]⟩;by_cases h1:c.typ=2
   ·by_cases h2:c.name=z.origin
    ·simp (disch:=omega) only [Ab4,hc,h1,h2,EVM,EVC,xe,EVP,EV,simprocAttr];simp [Et,Fx,h2]
    ·have k1:=E8 c.name z.origin g2 g1;rcases Ak (under c.name z.origin) with h3|h3
     ·rw [h3] at k1;simp (disch:=omega) only [Ab4,hc,h1,h2,h3,k1,EVM,EVC,xe,EVP,EV,simprocAttr];simp [Et,Fx,h1,h2,h3]
     ·rw [h3] at k1;simp (disch:=omega) only [Ab4,hc,h1,h2,h3,k1,EVM,EVC,xe,EVP,EV,simprocAttr];simp [Et,Fx,h1,h2,h3]
   ·simp (disch:=omega) only [Ab4,hc,h1,EVM,EVC,xe,EVP,EV,simprocAttr];simp [Et,h1]
  ·simp (disch:=omega) only [Ab4,EVM,EVC,xe,EVP,EV,simprocAttr];simp [Out.goes]
 rw [Cb] at key;have hlen:((z.recs.filter (Et z)).map Rec.name).length≤1000000:=by rw [E9];exact C4 (Hg _ _) hl
 have hw:∀x∈(z.recs.filter (Et z)).map Rec.name,x.length≤9223372036854775807:=fun x hx=>by obtain ⟨r,hr,rfl⟩:=Ds.1 hx;exact (hz.recs.2 r (B0.1 hr).1).name
 have k1:=Y6 _ hlen hw;have k2:=M5 (((z.recs.filter (Et z)).map Rec.name).mergeSort fun x y=> !decide (Hf y x<0)) (by rw [iz];exact hlen);rw [show cpt eqs (((z.recs.filter (Et z)).map Rec.name).mergeSort fun x y=> !decide (Hf y x<0))=cutsN z from rfl] at k2;generalize ((z.recs.filter (Et z)).map Rec.name).mergeSort (fun x y=> !decide (Hf y x<0))=so at*;generalize (z.recs.filter (Et z)).map Rec.name=un at*;simp (disch:=omega) only [Ab4,key,k1,k2,D4,K4,EVM,EVC,xe,EVP,EV,simprocAttr]
theorem Bb3 (l:List Rec) (hl:l.length≤1000000) (hw:∀r∈l,r.wf):S d3 1 [Al l]=some [Bd (setN (l.map Rec.name))]:=by
 refine Ht3 (N:=l.length+1) rfl ?_;have key:Cv9.ev S (l.length+1) [Al l]=some (.yld 0 [Bd ([]++l.map Rec.name)]):=by
  refine Fy l (fun i (b:List (List UInt8))=>[Bd b, .i .i64 (i:Int)]) (fun i b r=> .yld 0 [Bd (b++r.map Rec.name)]) (fun i b=>b.length≤i) [] rfl (Cc _) (by omega) (fun i b c r hd hi hc hI=> ?_) (fun b hI=> ?_)
  ·left;refine ⟨b++[c.name],?_,by simp;omega,by simp⟩;simp (disch:=omega) only [Bv9,hc,EVM,EVC,xe,EVP,EV,simprocAttr]
  ·simp (disch:=omega) only [Bv9,EVM,EVC,xe,EVP,EV,simprocAttr];simp [Out.goes]
 rw [Cb] at key;have hlen:(l.map Rec.name).length≤1000000:=by rw [E9];exact hl
 have hw:∀x∈l.map Rec.name,x.length≤9223372036854775807:=fun x hx=>by obtain ⟨r,hr,rfl⟩:=Ds.1 hx;exact (hw r hr).name
 have k1:=Y6 _ hlen hw;have k2:=M5 ((l.map Rec.name).mergeSort fun x y=> !decide (Hf y x<0)) (by rw [iz];exact hlen);rw [show cpt eqs ((l.map Rec.name).mergeSort fun x y=> !decide (Hf y x<0))=setN (l.map Rec.name) from rfl] at k2;generalize setN (l.map Rec.name)=se at*;generalize (l.map Rec.name).mergeSort (fun x y=> !decide (Hf y x<0))=so at*;generalize l.map Rec.name=un at*;simp (disch:=omega) only [Bv9,key,k1,k2,D4,K4,EVM,EVC,xe,EVP,EV,simprocAttr]
theorem Dh3 (c owner:List UInt8) (hc:c.length≤9223372036854775807) (ho:owner.length≤9223372036854775807):S Vg 1 [.s c, .s owner]=some [.b (decide (c≠owner) && under owner c)]:=by
 refine Ht2 (N:=1) rfl ?_;have k1:=E8 owner c ho hc;by_cases h:c=owner
 ·simp (disch:=omega) only [En9,h,EVM,EVC,xe,EVP,EV,simprocAttr];simp
 ·simp (disch:=omega) only [En9,h,k1,EVM,EVC,xe,EVP,EV,simprocAttr];simp
theorem Bk8 (z:Zone) (acc:List (List UInt8)) (n:List UInt8) (p1 p2 p3 p4 p5 p6:PV) (N:Nat) (hu:under n z.origin=true) (ha:acc.length≤1000000) (hN:1000<N) (hp2:Ht 1 p2 p4=some (.s n)):
  Ck3.ev S N [z.pv,p1,p2,Bd acc,p4,p5,p6]=some (.yld 2 [Bd (acc++upN z.origin n)]):=by
 obtain ⟨v1,v2,_⟩:=Dp.1 hu;have hlb:=G8 n;have h0:jn ((lbl n).drop 0)=n:=Gm7 v1;have e0:upN z.origin n=(upN z.origin n).take ((lbl n).length - (lbl z.origin).length+1):=by rw [Dh];simp [upN]
 have:=G6 (fn:=S) (N:=N) (η:=[z.pv,p1,p2,Bd acc,p4,p5,p6]) (id:=3) (init:=[(.v 3),(.proj 0 (.idx 1 (.v 2) (.v 4)))]) (body:=Dd4) ((lbl n).length - (lbl z.origin).length) (fun k=>[Bd (acc++(upN z.origin n).take k), .s (jn ((lbl n).drop k))])
  (fun _=> .yld 2 [Bd (acc++upN z.origin n)]) ?_ (by omega) (fun k hk=> ?_) ?_
 ·exact this
 ·rw [h0];simp (disch:=omega) only [hp2,EVM,EVC,xe,EVP,EV,simprocAttr];simp
 ·left;obtain ⟨q1,q2⟩:=Hf7 hu hk;have q3:¬jn ((lbl n).drop k)=z.origin:=fun h=>by have:=(Ep0 hu (Nat.le_of_lt hk)).1 h;omega
  have q4:=Cw4 v1 k;have k1:=Wk (jn ((lbl n).drop k)) (by omega);rw [q1,q2] at k1;have q5:(upN z.origin n).take (k+1)=(upN z.origin n).take k++[jn ((lbl n).drop k)]:=by rw [Cl,Bw2 (Nat.le_of_lt hk)];rfl
  rw [q5,←As];have q6:(acc++(upN z.origin n).take k).length≤1000300:=by rw [Ac,Ar];omega
  generalize acc++(upN z.origin n).take k=a at*;refine ⟨?_,rfl⟩;generalize jn ((lbl n).drop (k+1))=nx at*;generalize jn ((lbl n).drop k)=cu at*;simp (disch:=omega) only [im,q3,k1,EVM,EVC,xe,EVP,EV,simprocAttr]
 ·have q3:=(Ep0 hu (Af _)).2 rfl;have q5:(upN z.origin n)=(upN z.origin n).take ((lbl n).length - (lbl z.origin).length)++[jn ((lbl n).drop ((lbl n).length - (lbl z.origin).length))]:=by have:=Cl (l:=upN z.origin n) (i:=(lbl n).length - (lbl z.origin).length);rw [Bw2 (Af _)] at this;rw [←e0] at this;exact this
  rw [q3] at q5 ⊢;have q6:(acc++(upN z.origin n).take ((lbl n).length - (lbl z.origin).length)).length≤1000300:=by rw [Ac,Ar];omega
  refine ⟨?_,rfl⟩
  conv=>rhs;rw [q5,←As]
  generalize acc++(upN z.origin n).take ((lbl n).length - (lbl z.origin).length)=a at*;simp (disch:=omega) only [im,EVM,EVC,xe,EVP,EV,simprocAttr]
theorem Eg8 (z:Zone) (owner:List UInt8):((cutsN z).any fun c=>decide (c≠owner) && under owner c)=lh z owner:=by
 rw [C2];unfold lh;simp only [Cd,Aw,decide_eq_true_eq,f9];constructor
 ·rintro ⟨x,⟨r,hr,h1,rfl⟩,h2,h3⟩;exact ⟨r,hr,⟨h1,h2⟩,h3⟩
 ·rintro ⟨r,hr,⟨h1,h2⟩,h3⟩;exact ⟨r.name,⟨r,hr,h1,rfl⟩,h2,h3⟩
def Ij (z:Zone) (n:List UInt8):Bool:=under n z.origin && !lh z n
theorem Bk7 (z:Zone) (hz:z.wf) (hl:z.recs.length≤1000):S Bp9 1 [z.pv]=some [Bd (namesN z)]:=by
 refine Jx6 (N:=z.recs.length+1001) rfl ?_;have g1:=hz.origin;unfold Qm at g1;have k1:=qw z hz (by omega);have k2:=Bb3 z.recs (by omega) (fun r hr=>hz.recs.2 r hr);have hol:(setN (z.recs.map Rec.name)).length≤z.recs.length:=by have:=Qp (z.recs.map Rec.name);rwa [E9] at this
 have how:∀x∈setN (z.recs.map Rec.name),x.length≤9223372036854775807:=Ev9 fun x hx=>by obtain ⟨r,hr,rfl⟩:=Ds.1 hx;exact (hz.recs.2 r hr).name
 have hcl:(cutsN z).length≤1000000:=by have:=Qp ((z.recs.filter (Et z)).map Rec.name);rw [E9] at this;have h2:=Hg (Et z) z.recs;show (setN ((z.recs.filter (Et z)).map Rec.name)).length≤1000000;omega
 have hcw:∀x∈cutsN z,x.length≤9223372036854775807:=fun x hx=>by obtain ⟨r,hr,_,rfl⟩:=(f9 z x).1 hx;exact (hz.recs.2 r hr).name
 have hmem:∀x,x∈((setN (z.recs.map Rec.name)).filter (Ij z)).flatMap (upN z.origin)↔Id9 z x:=by
  intro x;unfold Id9 Ij;simp only [List.mem_flatMap,B0,Lr,Ds,Aw,A7];constructor
  ·rintro ⟨o,⟨⟨r,hr,rfl⟩,h1,h2⟩,h3⟩;obtain ⟨h4,h5⟩:=(Wn h1).1 h3;exact ⟨r,hr,h1,h2,h4,h5⟩
  ·rintro ⟨r,hr,h1,h2,h4,h5⟩;exact ⟨r.name,⟨⟨r,hr,rfl⟩,h1,h2⟩,(Wn h1).2 ⟨h4,h5⟩⟩
 generalize hO:setN (z.recs.map Rec.name)=O at*;have key:Fj0.ev S (z.recs.length+1001) [z.pv,Bd (cutsN z),Bd O]=some (.yld 0 [Bd ([]++(O.filter (Ij z)).flatMap (upN z.origin))]):=by
  refine Fy O (fun i (b:List (List UInt8))=>[Bd b, .i .i64 (i:Int)]) (fun i b r=> .yld 0 [Bd (b++(r.filter (Ij z)).flatMap (upN z.origin))]) (fun i b=>b.length≤256*i) [] rfl (Cc _) (by omega) (fun i b c r hd hi hc hI=> ?_) (fun b hI=> ?_)
  ·left;have g2:=how c (A9 hc);have k3:=E8 c z.origin g2 g1;have hid:=Eg8 z c;rcases Ak (under c z.origin) with h1|h1
   ·have k4:=Kr (cutsN z) Vg [.s c] _ hcl (fun x hx=>Dh3 x c (hcw x hx) g2);rw [hid] at k4;rw [h1] at k3;rcases Ak (lh z c) with h2|h2
    ·refine ⟨b,?_,by omega,by simp [Ij,h1,h2]⟩;rw [h2] at k4;generalize cutsN z=cz at*;simp (disch:=omega) only [im,hc,k3,k4,EVM,EVC,xe,EVP,EV,simprocAttr]
    ·have hu:=i8 z.origin c;refine ⟨b++upN z.origin c,?_,by rw [Ac];omega,by simp [Ij,h1,h2]⟩;rw [h2] at k4;have k5:∀p5 p6,Ck3.ev S (z.recs.length+1001) [z.pv,Bd (cutsN z),Bd O,Bd b, .i .i64 (i:Int),p5,p6]=some (.yld 2 [Bd (b++upN z.origin c)]):=fun p5 p6=>Bk8 z b c _ _ (Bd b) _ p5 p6 _ h1 (by omega) (by omega) (by rw [L6 _ _ _ (by omega)];simp [hc]);generalize b++upN z.origin c=b' at*;generalize cutsN z=cz at*;simp (disch:=omega) only [im,hc,k3,k4,k5,EVM,EVC,xe,EVP,EV,simprocAttr]
   ·refine ⟨b,?_,by omega,by simp [Ij,h1]⟩;rw [h1] at k3;generalize cutsN z=cz at*;simp (disch:=omega) only [im,hc,k3,EVM,EVC,xe,EVP,EV,simprocAttr]
  ·generalize cutsN z=cz at*;simp (disch:=omega) only [im,EVM,EVC,xe,EVP,EV,simprocAttr];simp [Out.goes]
 rw [Cb] at key;have hxl:((O.filter (Ij z)).flatMap (upN z.origin)).length≤256*O.length:=by
  have:∀l:List (List UInt8),(l.flatMap (upN z.origin)).length≤256*l.length:=by
   intro l
   induction l with
   |nil=>simp
   |cons x r ih=>
    have:=i8 z.origin x;rw [Jw,Ac,A3];omega
  refine C4 (this _) ?_;have:=Hg (Ij z) O;omega
 have hxw:∀x∈(O.filter (Ij z)).flatMap (upN z.origin),x.length≤9223372036854775807:=fun x hx=>by obtain ⟨r,hr,_,_,h4,_⟩:=(hmem x).1 hx;have:=J5 (Dp.1 h4).2.1;omega
 have he:setN ((O.filter (Ij z)).flatMap (upN z.origin))=namesN z:=Eb0 z _ hmem;generalize (O.filter (Ij z)).flatMap (upN z.origin)=un at*;have k6:=Y6 un (by omega) hxw;have k7:=M5 (un.mergeSort fun x y=> !decide (Hf y x<0)) (by rw [iz];omega);rw [show cpt eqs (un.mergeSort fun x y=> !decide (Hf y x<0))=setN un from rfl,he] at k7;generalize un.mergeSort (fun x y=> !decide (Hf y x<0))=so at*;generalize namesN z=nz at*;generalize cutsN z=cz at*;simp (disch:=omega) only [im,k1,k2,key,k6,k7,D4,K4,EVM,EVC,xe,EVP,EV,simprocAttr]
end Go.X.G
/- Zones in the program: what is asked of the records of one name. -/
namespace Go.X.G
open Go Go.X
abbrev ltC:List UInt8×Int→List UInt8×Int→Prop:=fun p q=>ltB p.1 q.1∨(p.1=q.1∧p.2<q.2)
theorem to_C:TO ltC:=Dl7.prod Hg0
def ltQ (a b:Ques):Prop:=ltC (a.name,a.typ) (b.name,b.typ)
theorem to_Q:TO ltQ where
 irr:=fun a=>to_C.irr _
 tr:=fun a b c=>to_C.tr _ _ _
 tri:=fun a b=>by
  rcases to_C.tri (a.name,a.typ) (b.name,b.typ) with h|h|h
  ·exact .inl h
  ·injection h with h1 h2;refine .inr (.inl ?_);cases a;cases b;simp only at h1 h2;rw [h1,h2]
  ·exact .inr (.inr h)
def md (a b:Ques):Int:=if (Op.bytesLess a.name b.name||(decide (a.name=b.name) && decide (a.typ<b.typ)))=true then -1 else if a=b then 0 else 1
theorem Gn (a b:Ques):md a b<0↔ltQ a b:=by
 unfold md ltQ ltC;simp only;have e:(Op.bytesLess a.name b.name||(decide (a.name=b.name) && decide (a.typ<b.typ)))=true↔(ltB a.name b.name∨a.name=b.name∧a.typ<b.typ):=by simp only [Ap,Aw,decide_eq_true_eq,Ty]
 by_cases h:ltB a.name b.name∨a.name=b.name∧a.typ<b.typ
 ·rw [if_pos (e.2 h)];simp [h]
 ·rw [if_neg (fun q=>h (e.1 q))];simp only [h,iff_false];split<;>omega
theorem mc (a b:Ques):S Mf 2 [a.pv,b.pv]=some [.i .i64 (md a b)]:=by
 refine Hs5 (N:=1) rfl ?_;unfold md;rcases Ak (Op.bytesLess a.name b.name) with h1|h1
 ·simp (disch:=omega) only [Zn,h1,EVM,EVC,xe,EVP,EV,simprocAttr];simp
 ·by_cases h2:a.name=b.name
  ·by_cases h3:a.typ<b.typ
   ·rw [h2] at h1;simp (disch:=omega) only [Zn,h1,h2,h3,EVM,EVC,xe,EVP,EV,simprocAttr];simp
   ·rw [h2] at h1;by_cases h4:a=b
    ·simp (disch:=omega) only [Zn,h1,h2,h3,EVM,EVC,xe,EVP,EV,simprocAttr];simp [h4]
    ·simp (disch:=omega) only [Zn,h1,h2,h3,h4,EVM,EVC,xe,EVP,EV,simprocAttr];simp [h4]
  ·have h4:¬a=b:=fun e=>h2 (by rw [e]);simp (disch:=omega) only [Zn,h1,h2,h4,EVM,EVC,xe,EVP,EV,simprocAttr];simp [h4]
def Iv (l:List Ques):PV:= .l 2 (l.map Ques.pv)
theorem Iy (l:List Ques):F2 (Iv l)=some (.i .i64 (l.length:Int)):=by simp [Iv,F2]
theorem Ky (l:List Ques) (k:IntKind) (z:Int) (h:0≤z):Ht 2 (Iv l) (.i k z)=(l[z.toNat]?).map Ques.pv:=by simp [Iv,X3 _ _ _ _ h]
theorem Eb8 (x:Ques):Jj 2 [x.pv]=some (Iv [x]):=rfl
theorem Dg6 (l:List Ques) (x:Ques) (h:l.length+1≤1073741824):Ic 2 (Iv l) (Iv [x])=some (Iv (l++[x])):=by have:=Tf 2 (l.map Ques.pv) [x.pv] (by simpa using h);simpa [Iv] using this
def vn:PV→PV→Int
 | .a [.s a, .i _ t], .a [.s b, .i _ u]=>md ⟨a,t⟩ ⟨b,u⟩
 |_,_=>0
theorem El9 (l:List Ques) (hl:l.length≤1000000):S Sq 1048578 [Iv l, .f Mf []]=some [Iv (l.mergeSort fun x y=> !decide (md y x<0))]:=by
 have hm:∀x∈l.map Ques.pv,∃a∈l,x=a.pv:=fun x hx=>by obtain ⟨a,h1,h2⟩:=Ds.1 hx;exact ⟨a,h1,h2.symm⟩
 have hc:∀a b:Ques,vn a.pv b.pv=md a b:=fun a b=>rfl;have h:=vc (tab:=tab) (xs:=Gn8) (ss:=T1) (f:=Sq) (s:=By2) Gc6 Gd2 (g:=Mf) (caps:=[]) (l:=l.map Ques.pv) (by decide) (by simp;omega)
  (fun x hx=>by obtain ⟨a,_,rfl⟩:=hm x hx;rfl) vn
  (fun x hx y hy=>by obtain ⟨a,ha,rfl⟩:=hm x hx;obtain ⟨b,hb,rfl⟩:=hm y hy;exact mc a b)
  (fun x hx=>by obtain ⟨a,_,rfl⟩:=hm x hx;rw [hc,Gn];exact to_Q.irr a)
  (fun x hx y hy z hz h1 h2=>by obtain ⟨a,_,rfl⟩:=hm x hx;obtain ⟨b,_,rfl⟩:=hm y hy;obtain ⟨c,_,rfl⟩:=hm z hz;rw [hc] at*;exact (Gn a c).2 (to_Q.tr _ _ _ ((Gn a b).1 h1) ((Gn b c).1 h2)))
  (fun x hx y hy z hz h1 h2=>by obtain ⟨a,_,rfl⟩:=hm x hx;obtain ⟨b,_,rfl⟩:=hm y hy;obtain ⟨c,_,rfl⟩:=hm z hz;rw [hc] at*;exact fun h3=>to_Q.ntr (fun q=>h1 ((Gn a b).2 q)) (fun q=>h2 ((Gn b c).2 q)) ((Gn a c).1 h3))
  (fun x hx y hy h1 h2=>by
   obtain ⟨a,_,rfl⟩:=hm x hx;obtain ⟨b,_,rfl⟩:=hm y hy;rw [hc] at*;rcases to_Q.tri a b with q|q|q
   ·exact absurd ((Gn a b).2 q) h1
   ·rw [q]
   ·exact absurd ((Gn b a).2 q) h2)
 have e:(l.map Ques.pv).mergeSort (fun x y=> !decide (vn y x<0))=(l.mergeSort fun x y=> !decide (md y x<0)).map Ques.pv:=(Ir3 (r:=fun x y=> !decide (md y x<0)) (s:=fun x y=> !decide (vn y x<0)) (f:=Ques.pv) fun a _ b _=>rfl).symm;rw [e] at h;exact h
def W5 (p:Option Ques) (n:Nat):List Ques→Bool
 |[]=>false
 |k::r=>if 64<(if p=some k then n+1 else 1) then true else W5 (some k) (if p=some k then n+1 else 1) r
theorem W4:∀(l:List Ques) (p:Ques) (n:Nat),(p::l).Pairwise (fun a b=>¬ltQ b a)→n≤64→(W5 (some p) n l=true↔(∃k,k≠p∧64<l.count k)∨64<n+l.count p)
 |[],p,n,_,hn=>by simp [W5];omega
 |k::r,p,n,hs,hn=>by
  obtain ⟨h1,h2⟩:=A0.1 hs;by_cases e:p=k
  ·subst e;by_cases hg:64<n+1
   ·simp only [W5,if_true,hg];refine ⟨fun _=> .inr ?_,fun _=>trivial⟩;rw [Gd];omega
   ·simp only [W5,if_true,hg,if_false];rw [W4 r p (n+1) h2 (by omega),Gd];constructor
    ·rintro (⟨q,q1,q2⟩|q)
     ·exact .inl ⟨q,q1,by rw [Fp (fun e=>q1 e.symm)];exact q2⟩
     ·exact .inr (by omega)
    ·rintro (⟨q,q1,q2⟩|q)
     ·exact .inl ⟨q,q1,by rw [Fp (fun e=>q1 e.symm)] at q2;exact q2⟩
     ·exact .inr (by omega)
  ·have e':¬(some p=some k):=fun q=>e (by injection q);simp only [W5,if_neg e',show¬64<1 by omega,if_false];rw [W4 r k 1 h2 (by omega)];have hlt:ltQ p k:=by
    rcases to_Q.tri p k with q|q|q
    ·exact q
    ·exact absurd q e
    ·exact absurd q (h1 k (.head _))
   have hno:∀y∈k::r,y≠p:=fun y hy q=>by
    subst q;rcases Am.1 hy with q|hy
    ·exact e q
    ·exact (A0.1 h2).1 y hy hlt
   have h0:(k::r).count p=0:=Ir4.2 fun hm=>hno p hm rfl;have h0r:r.count p=0:=Ir4.2 fun hm=>hno p (.tail _ hm) rfl;rw [h0];constructor
   ·rintro (⟨q,q1,q2⟩|q)
    ·refine .inl ⟨q,fun w=>by rw [w,h0r] at q2;omega,?_⟩;rw [Fp (fun w=>q1 w.symm)];exact q2
    ·refine .inl ⟨k,fun w=>e w.symm,?_⟩;rw [Gd];omega
   ·rintro (⟨q,q1,q2⟩|q)
    ·by_cases w:q=k
     ·subst w;rw [Gd] at q2;exact .inr (by omega)
     ·rw [Fp (fun v=>w v.symm)] at q2;exact .inl ⟨q,w,q2⟩
    ·omega
theorem Ew3 (l:List Ques) (hs:l.Pairwise (fun a b=>¬ltQ b a)):W5 none 0 l=true↔∃k,64<l.count k:=by
 cases l with
 |nil=>simp [W5]
 |cons k r=>
  have e:¬((none:Option Ques)=some k):=by simp
  simp only [W5,if_neg e,show¬64<1 by omega,if_false];rw [W4 r k 1 hs (by omega)];constructor
  ·rintro (⟨q,q1,q2⟩|q)
   ·exact ⟨q,by rw [Fp (fun w=>q1 w.symm)];exact q2⟩
   ·exact ⟨k,by rw [Gd];omega⟩
  ·rintro ⟨q,q2⟩;by_cases w:q=k
   ·subst w;rw [Gd] at q2;exact .inr (by omega)
   ·rw [Fp (fun v=>w v.symm)] at q2;exact .inl ⟨q,w,q2⟩
def kyQ (r:Rec):Ques:=⟨r.name,r.typ⟩
def P6 (l:List Rec):Bool:=W5 none 0 ((l.map kyQ).mergeSort fun x y=> !decide (md y x<0))
theorem Yb (n:List UInt8) (t:Int):∀l:List Rec,(l.map kyQ).count ⟨n,t⟩=(findR l n t).length
 |[]=>rfl
 |r::l=>by
  have ih:=Yb n t l;unfold findR at ih ⊢;rw [Ft,Kt];by_cases h:isK n t r=true
  ·rw [if_pos h];unfold isK at h;simp only [Aw,decide_eq_true_eq] at h;have:kyQ r=⟨n,t⟩:=by unfold kyQ;rw [h.1,h.2]
   rw [this,Gd,ih,A3]
  ·rw [if_neg h];have:kyQ r≠⟨n,t⟩:=fun e=>h (by unfold kyQ at e;injection e with e1 e2;unfold isK;simp [e1,e2])
   rw [Fp this,ih]
theorem Gh3 (l:List Ques):(l.mergeSort fun x y=> !decide (md y x<0)).Pairwise (fun a b=>¬ltQ b a):=by
 have:=List.pairwise_mergeSort (le:=fun x y:Ques=> !decide (md y x<0)) (fun a b c h1 h2=>by
  simp only [A7,decide_eq_false_iff_not,Gn] at h1 h2 ⊢;exact to_Q.ntr h2 h1) (fun a b=>by
  simp only [Ap,A7,decide_eq_false_iff_not,Gn];rcases to_Q.tri a b with h|h|h
  ·exact .inl (to_Q.asym h)
  ·subst h;exact .inl (to_Q.irr a)
  ·exact .inr (to_Q.asym h)) l
 refine this.imp fun {a b} h=> ?_;simpa only [A7,decide_eq_false_iff_not,Gn] using h
theorem Ar7 (l:List Rec):P6 l= !(l.all fun r=>decide ((findR l r.name r.typ).length≤64)):=by
 rw [C2];unfold P6;rw [Ew3 _ (Gh3 _)];have hc:∀k,((l.map kyQ).mergeSort fun x y=> !decide (md y x<0)).count k=(l.map kyQ).count k:=fun k=>(List.mergeSort_perm _ _).count_eq k;simp only [hc,A7,List.all_eq_false,decide_eq_true_eq];constructor
 ·rintro ⟨⟨n,t⟩,h⟩;rw [Yb] at h;have hp:0<(findR l n t).length:=by omega
  obtain ⟨x,hx⟩:=List.length_pos_iff_exists_mem.1 hp;obtain ⟨h3,h4⟩:=B0.1 hx;unfold isK at h4;simp only [Aw,decide_eq_true_eq] at h4;exact ⟨x,h3,by rw [h4.1,h4.2];omega⟩
 ·rintro ⟨r,h1,h2⟩;exact ⟨kyQ r,by show 64<(l.map kyQ).count ⟨r.name,r.typ⟩;rw [Yb];omega⟩
theorem Ar6 (l:List Rec) (hl:l.length≤1000000):S Bp7 1 [Al l]=some [.b (P6 l)]:=by
 obtain ⟨N,hN⟩:∃N,N=l.length+1:=⟨_,rfl⟩;refine Jx2 (N:=N) rfl ?_;have k0:Et7.ev S N [Al l]=some (.yld 0 [Iv (l.map kyQ)]):=by
  refine Ew l (fun i=>[Iv ((l.take i).map kyQ), .i .i64 (i:Int)]) (fun i r=> .yld 0 [Iv (l.map kyQ)]) rfl (by omega) (fun i c r hd hi hc=> ?_) ?_
  ·left;refine ⟨?_,rfl⟩;have e:(l.take (i+1)).map kyQ=(l.take i).map kyQ++[kyQ c]:=by rw [Cl,hc];simp
   have hsub:Jp 0 2 c.pv=some (kyQ c).pv:=rfl;have hlen:((l.take i).map kyQ).length≤1000000:=by rw [E9,Ar];omega
   rw [e];generalize (l.take i).map kyQ=a at*;simp (disch:=omega) only [Wd,hc,hsub,Eb8,Dg6,Iy,Ky,EVM,EVC,xe,EVP,EV,simprocAttr]
  ·refine ⟨?_,rfl⟩;have e:l.take l.length=l:=Dq;simp (disch:=omega) only [Wd,e,Iy,Ky,EVM,EVC,xe,EVP,EV,simprocAttr]
 have hs:=El9 (l.map kyQ) (by simpa using hl);have hlen:((l.map kyQ).mergeSort fun x y=> !decide (md y x<0)).length=l.length:=by simp
 unfold P6;generalize ((l.map kyQ).mergeSort fun x y=> !decide (md y x<0))=ks at*;have k1:Es8.ev S N [Al l,Iv (l.map kyQ),Iv ks]=some (if W5 none 0 ks=true then .ret [.b true] else .yld 0 []):=by
  refine Fy ks (fun i (g:Nat)=>[.i .i64 (g:Int), .i .i64 (i:Int)]) (fun i g r=>if W5 (if i=0 then none else ks[i - 1]?) g r=true then .ret [.b true] else .yld 0 []) (fun i g=>g≤64) 0 ?_ (by omega) (by omega) (fun i g c r hd hi hc hg=> ?_) (fun g hg=> ?_)
  ·simp (disch:=omega) only [EVC,xe,EVP,EV,simprocAttr]
  ·have hp:(if i=0 then none else ks[i - 1]?)=some c↔(0<i∧ks[i - 1]? =some c):=by
    by_cases h:i=0
    ·simp [h]
    ·simp [h];omega
   have hci:(if i+1=0 then none else ks[i+1 - 1]?)=some c:=by rw [if_neg (by omega),Wx,hc]
   have hsub:Jp 0 2 c.pv=some c.pv:=rfl;have eqq:∀x:Ques,K0 false true [.s,(.i .i64)] x.pv c.pv=some (.b (decide (x=c))):=fun x=>Jt0 false x c;by_cases hsame:0<i∧ks[i - 1]? =some c
   ·have hp':=hp.2 hsame;have hi0:(0:Int)<(i:Int):=by omega
    have ei:((i:Int) - 1).toNat=i - 1:=by omega
    have ei2:(i:Int).toNat=i:=by omega
    by_cases hgt:64<g+1
    ·right;have hgt':(64:Int)<(g:Int)+1:=by omega
     have er:W5 (if i=0 then none else ks[i - 1]?) g (c::r)=true:=by rw [hp'];simp [W5,hgt]
     rw [er];refine ⟨?_,rfl⟩;simp (disch:=omega) only [Wd,hc,hsame.2,hi0,ei,ei2,hgt',Iy,Ky,EVM,EVC,xe,EVP,EV,simprocAttr]
    ·left;have hgt':¬(64:Int)<(g:Int)+1:=by omega
     refine ⟨g+1,?_,by omega,?_⟩
     ·simp (disch:=omega) only [Wd,hc,hsame.2,hi0,ei,ei2,hgt',Iy,Ky,EVM,EVC,xe,EVP,EV,simprocAttr]
     ·rw [hp',hci];simp [W5,hgt]
   ·left;have hp':¬(if i=0 then none else ks[i - 1]?)=some c:=fun q=>hsame (hp.1 q);have ei:((i:Int) - 1).toNat=i - 1:=by omega
    have ei2:(i:Int).toNat=i:=by omega
    refine ⟨1,?_,by omega,?_⟩
    ·by_cases hi0:0<i
     ·have hi0':(0:Int)<(i:Int):=by omega
      obtain ⟨y,hy⟩:∃y,ks[i - 1]? =some y:=⟨_,Az (by omega)⟩;have hyc:¬y=c:=fun q=>hsame ⟨hi0,by rw [hy,q]⟩;simp (disch:=omega) only [Wd,hc,hy,hyc,hi0',ei,ei2,Iy,Ky,EVM,EVC,xe,EVP,EV,simprocAttr]
     ·have hi0':¬(0:Int)<(i:Int):=by omega
      simp (disch:=omega) only [Wd,hc,hi0',ei2,Iy,Ky,EVM,EVC,xe,EVP,EV,simprocAttr]
    ·rw [hci];simp [W5,hp']
  ·refine ⟨?_,by simp [W5,Out.goes]⟩;have hlt:¬(ks.length:Int)<(ks.length:Int):=by omega
   simp (disch:=omega) only [Wd,hlt,Iy,Ky,EVM,EVC,xe,EVP,EV,simprocAttr];simp [W5]
 have hrep:∃p,K9 2 (.i .i64 (l.length:Int)) (Ques.pv ⟨[],0⟩)=some p:=by
  have h1:(l.length:Int)≤(LIM:Int):=by simp only [LIM];omega
  have h2:(Ques.pv ⟨[],0⟩).cells.length=2:=rfl;simp [K9,h1,h2]
 obtain ⟨p,hrep⟩:=hrep;rcases Ak (W5 none 0 ks) with h|h
 ·rw [h,if_pos rfl] at k1;rw [h];simp (disch:=omega) only [Wd,hrep,k0,hs,k1,Iy,D4,K4,EVM,EVC,xe,EVP,EV,simprocAttr]
 ·rw [h,if_neg (by simp)] at k1;rw [h];simp (disch:=omega) only [Wd,hrep,k0,hs,k1,Iy,D4,K4,EVM,EVC,xe,EVP,EV,simprocAttr]
end Go.X.G
/- Zones in the program: Check, the Mn. -/
namespace Go.X.G
open Go Go.X
theorem At2 (t:Int):S dj 1 [.i .i64 t]=some [.b (decide (t=6)||decide (t=5)||decide (t=39))]:=by
 refine Hn7 (N:=1) rfl ?_;by_cases h1:t=6
 ·simp (disch:=omega) only [Bv2,h1,EVC,xe,EVP,EV,simprocAttr];simp
 ·by_cases h2:t=5
  ·simp (disch:=omega) only [Bv2,h2,EVC,xe,EVP,EV,simprocAttr];simp
  ·simp (disch:=omega) only [Bv2,h1,h2,EVC,xe,EVP,EV,simprocAttr];simp
theorem Dm7 (r:Rec) (t:Int):S Vq 1 [r.pv, .i .i64 t]=some [.b (decide (r.typ=t))]:=by refine Hr6 (N:=1) rfl ?_;simp (disch:=omega) only [Hc3,EVC,xe,EVP,EV,simprocAttr]
theorem J3 (g:List Rec) (t:Int) (hl:g.length≤1000000):S Ns 2 [Al g, .i .i64 t]=some [.b (F3 g t)]:=by refine Jw5 (N:=1) rfl ?_;have h:=Fb g Vq [.i .i64 t] (fun r=>decide (r.typ=t)) hl (fun r _=>Dm7 r t);simp (disch:=omega) only [Is2,h,EVC,xe,EVP,EV,simprocAttr];rfl
def Jc (l:List Int):PV:= .l 1 (l.map (PV.i .i64))
theorem N1 (l:List Int):F2 (Jc l)=some (.i .i64 (l.length:Int)):=by simp [Jc,F2]
theorem X4 (l:List Int) (k:IntKind) (z:Int) (h:0≤z):Ht 1 (Jc l) (.i k z)=(l[z.toNat]?).map (PV.i .i64):=by simp [Jc,X3 _ _ _ _ h]
theorem bv (l:List Int):Bn 0 (Jc l)=some (Jc l):=rfl
theorem By8 (l:List Int):I0 (Jc l)=some (Jc l):=rfl
theorem Dh5 (l:List Int) (x:Int) (hl:l.length≤1000000):∃k:Int,(0≤k↔x∈l)∧S c6 2 [Jc l, .i .i64 x]=some [.i .i64 k]:=by
 have go:∀(i:Nat) (l:List Int),∃k:Int,k=(match l.findIdx? (·=x) with|some j=>((i+j:Nat):Int)|none=> -1)∧(0≤k↔x∈l):=by
  intro i l;refine ⟨_,rfl,?_⟩;cases h:l.findIdx? (·=x) with
  |none=>
   rw [List.findIdx?_eq_none_iff] at h;simp only;constructor
   ·intro h2;omega
   ·intro h2;have:=h x h2;simp at this
  |some j=>
   simp only;constructor
   ·intro _;rw [List.findIdx?_eq_some_iff_getElem] at h;obtain ⟨h1,h2,_⟩:=h;simp at h2;rw [←h2];exact D1 _
   ·intro _;omega
 obtain ⟨k,hk,hk2⟩:=go 0 l;refine ⟨k,hk2,?_⟩;refine Hm5 (N:=l.length+1) rfl ?_;have key:Cq8.ev S (l.length+1) [Jc l, .i .i64 x]=some (match l.findIdx? (·=x) with|some j=> .ret [.i .i64 ((0+j:Nat):Int)]|none=> .yld 0 []):=by
  refine Ew l (fun i=>[.i .i64 (i:Int)]) (fun i r=>match r.findIdx? (·=x) with|some j=> .ret [.i .i64 ((i+j:Nat):Int)]|none=> .yld 0 []) rfl (by omega) (fun i c r hd hi hc=> ?_) ?_
  ·by_cases h:x=c
   ·right;subst h;simp (disch:=omega) only [Zh,hc,N1,X4,EVM,EVC,xe,EVP,EV,simprocAttr];simp [List.findIdx?_cons,Out.goes]
   ·left;have h':¬c=x:=fun e=>h e.symm;simp (disch:=omega) only [Zh,hc,h,h',N1,X4,EVM,EVC,xe,EVP,EV,simprocAttr];refine ⟨trivial,?_⟩;simp only [List.findIdx?_cons,h',decide_false,Ad,if_false];cases r.findIdx? (·=x) with
    |none=>rfl
    |some j=>simp;omega
  ·simp (disch:=omega) only [Zh,N1,X4,EVM,EVC,xe,EVP,EV,simprocAttr];simp [Out.goes]
 rw [hk];cases h:l.findIdx? (·=x) with
 |none=>
  rw [h] at key;simp (disch:=omega) only [Zh,key,N1,EVM,EVC,xe,EVP,EV,simprocAttr]
 |some j=>
  rw [h] at key;simp (disch:=omega) only [Zh,key,N1,EVM,EVC,xe,EVP,EV,simprocAttr]
theorem g7 (l:List Int) (x:Int) (hl:l.length≤1000000):S c9 2 [Jc l, .i .i64 x]=some [.b (decide (x∈l))]:=by refine Hn5 (N:=1) rfl ?_;obtain ⟨k,h1,h2⟩:=Dh5 l x hl;simp (disch:=omega) only [Hb7,h2,EVM,EVC,xe,EVP,EV,simprocAttr];simp [h1]
theorem Bk6 (r:Rec) (ts:List Int) (hl:ts.length≤1000000):S U6 1 [r.pv,Jc ts]=some [.b (!decide (r.typ∈ts))]:=by refine Hn6 (N:=1) rfl ?_;have h:=g7 ts r.typ hl;simp (disch:=omega) only [Hb8,bv,h,EVC,xe,EVP,EV,simprocAttr]
theorem Wb (g:List Rec) (ts:List Int) (hl:g.length≤1000000) (ht:ts.length≤1000000):S Md 2 [Al g,Jc ts]=some [.b (I9 g ts)]:=by
 refine Hr7 (N:=1) rfl ?_;have h:=Fb g U6 [Jc ts] (fun r=> !decide (r.typ∈ts)) hl (fun r _=>Bk6 r ts ht);have e:(!(g.any fun r=> !decide (r.typ∈ts)))=I9 g ts:=by unfold I9;rw [List.not_any_eq_all_not];simp
 rw [←e];generalize (g.any fun r=> !decide (r.typ∈ts))=b at*;simp (disch:=omega) only [Hc4,bv,By8,h,EVC,xe,EVP,EV,simprocAttr]
theorem ig (g:List Rec) (hl:g.length≤1000000):S dl 1 [Al g]=some [.b (Dl6 g)]:=by
 obtain ⟨N,hN⟩:∃N,N=g.length+2:=⟨_,rfl⟩;refine Hr8 (N:=N) rfl ?_;have key:Cv5.ev S N [Al g]=some (if Dl6 g=true then .yld 0 [] else .ret [.b false]):=by
  cases g with
  |nil=>
   refine G6 0 (fun _=>[.i .i64 1]) (fun _=> .yld 0 []) ?_ (by omega) (fun i hi=>absurd hi (by omega)) ⟨?_,rfl⟩
   ·simp (disch:=omega) only [EVC,xe,EVP,EV,simprocAttr]
   ·have hlt:¬(1:Int)<(([]:List Rec).length:Int):=by simp
    simp (disch:=omega) only [Nv,hlt,EVC,xe,EVP,EV,simprocAttr]
  |cons p r=>
   have hlr:(p::r).length=r.length+1:=rfl;have:=Ew (fn:=S) (N:=N) (η:=[Al (p::r)]) (id:=1) (init:=[.c (.i .i64 1)]) (body:=o6) r (fun i=>[.i .i64 ((i:Int)+1)]) (fun i l=>if (match (p::r)[i]? with|some q=>Uw q l|none=>true)=true then .yld 0 [] else .ret [.b false]) ?_ (by omega) (fun i c l hd hi hc=> ?_) ?_
   ·exact this
   ·simp (disch:=omega) only [EVC,xe,EVP,EV,simprocAttr]
    try rfl
   ·obtain ⟨q,hq⟩:∃q,(p::r)[i]? =some q:=⟨_,Az (by rw [hlr];omega)⟩;have hc':(p::r)[i+1]? =some c:=by simpa using hc
    have e1:((i:Int)+1 - 1).toNat=i:=by omega
    have e2:((i:Int)+1).toNat=i+1:=by omega
    have hlt:(i:Int)+1<((p::r).length:Int):=by rw [hlr];omega
    have hsg:=At2 c.typ;rw [hq,hc'];generalize (p::r)=g' at*;have step:Uw q (c::l)=((!decide (c.typ=q.typ)||(!(decide (c.typ=6)||decide (c.typ=5)||decide (c.typ=39)) && (decide (c.typ=46)||decide (c.ttl=q.ttl)))) && Uw c l):=rfl;by_cases h1:c.typ=q.typ
    ·rcases Ak (decide (c.typ=6)||decide (c.typ=5)||decide (c.typ=39)) with h2|h2
     ·right;have er:Uw q (c::l)=false:=by rw [step,h2];simp [h1]
      rw [h2] at hsg;simp only [er,Ad,if_false];refine ⟨?_,rfl⟩;rw [h1] at hsg;simp (disch:=omega) only [Nv,hlt,e1,e2,hq,hc',h1,hsg,EVC,xe,EVP,EV,simprocAttr]
     ·rw [h2] at hsg;rw [h2] at step;rw [h1] at hsg;by_cases h3:c.typ=46
      ·left;have er:Uw q (c::l)=Uw c l:=by rw [step];simp [h3]
       have h3':q.typ=46:=by rw [←h1];exact h3
       rw [h3'] at hsg;refine ⟨?_,by simp only [er]⟩;simp (disch:=omega) only [Nv,hlt,e1,e2,hq,hc',h1,h3',hsg,EVC,xe,EVP,EV,simprocAttr]
       try simp
      ·have h3':¬q.typ=46:=by rw [←h1];exact h3
       by_cases h4:c.ttl=q.ttl
       ·left;have er:Uw q (c::l)=Uw c l:=by rw [step];simp [h4]
        refine ⟨?_,by simp only [er]⟩;simp (disch:=omega) only [Nv,hlt,e1,e2,hq,hc',h1,h3',h4,hsg,EVC,xe,EVP,EV,simprocAttr]
        try simp
       ·right;have er:Uw q (c::l)=false:=by rw [step];simp [h1,h3',h4]
        simp only [er,Ad,if_false];refine ⟨?_,rfl⟩;simp (disch:=omega) only [Nv,hlt,e1,e2,hq,hc',h1,h3',h4,hsg,EVC,xe,EVP,EV,simprocAttr]
    ·left;have er:Uw q (c::l)=Uw c l:=by rw [step];simp [h1]
     refine ⟨?_,by simp only [er]⟩;simp (disch:=omega) only [Nv,hlt,e1,e2,hq,hc',h1,EVC,xe,EVP,EV,simprocAttr]
     try simp
   ·have hlt:¬(r.length:Int)+1<((p::r).length:Int):=by rw [hlr];omega
    obtain ⟨q,hq⟩:∃q,(p::r)[r.length]? =some q:=⟨_,Az (by rw [hlr];omega)⟩;rw [hq];refine ⟨?_,by simp [Uw,Out.goes]⟩;generalize (p::r)=g' at*;simp (disch:=omega) only [Nv,hlt,EVC,xe,EVP,EV,simprocAttr];simp [Uw]
 rcases Ak (Dl6 g) with h|h
 ·rw [h,if_pos rfl] at key;rw [h];simp (disch:=omega) only [Nv,key,EVC,xe,EVP,EV,simprocAttr]
 ·rw [h,if_neg (by simp)] at key;rw [h];simp (disch:=omega) only [Nv,key,EVC,xe,EVP,EV,simprocAttr]
theorem Dh6 (a b:List Rec) (ha:a.length≤1000000) (hb:b.length≤1000000):S Bp4 2 [Al a,Al b]=some [.b (decide (a=b))]:=by
 obtain ⟨N,hN⟩:∃N,N=a.length+1:=⟨_,rfl⟩;refine Jw9 (N:=N) rfl ?_;by_cases hl:a.length=b.length
 ·have key:Et6.ev S N [Al a,Al b]=some (if a.drop 0=b.drop 0 then .yld 0 [] else .ret [.b false]):=by
   refine G6 a.length (fun i=>[.i .i64 (i:Int)]) (fun i=>if a.drop i=b.drop i then .yld 0 [] else .ret [.b false]) rfl (by omega) (fun i hi=> ?_) ?_
   ·have h1:a[i]? =some a[i]:=Az hi;have h2:b[i]? =some b[i]:=Az (by omega);have d1:a.drop i=a[i]::a.drop (i+1):=Ct hi;have d2:b.drop i=b[i]::b.drop (i+1):=Ct (by omega);rw [d1,d2];generalize a[i]=x at*;generalize b[i]'(by omega)=y at*;have hlt:(i:Int)<(a.length:Int):=by omega
    by_cases h:x=y
    ·left;subst h;refine ⟨?_,by simp⟩;simp (disch:=omega) only [Ab3,hlt,h1,h2,EVC,xe,EVP,EV,simprocAttr]
     try simp
    ·right;rw [if_neg (by simp [h])];refine ⟨?_,rfl⟩;simp (disch:=omega) only [Ab3,hlt,h1,h2,h,EVC,xe,EVP,EV,simprocAttr]
   ·have hlt:¬(a.length:Int)<(a.length:Int):=by omega
    have e:a.drop a.length=b.drop a.length:=by rw [List.drop_length,hl,List.drop_length]
    rw [if_pos e];refine ⟨?_,rfl⟩;simp (disch:=omega) only [Ab3,hlt,EVC,xe,EVP,EV,simprocAttr]
  have hl':(a.length:Int)=(b.length:Int):=by omega
  rw [D3,D3] at key;by_cases h:a=b
  ·rw [if_pos h] at key;have e:decide (a=b)=true:=by simp [h]
   rw [e];simp (disch:=omega) only [Ab3,hl',key,EVC,xe,EVP,EV,simprocAttr]
  ·rw [if_neg h] at key;have e:decide (a=b)=false:=by simp [h]
   rw [e];simp (disch:=omega) only [Ab3,hl',key,EVC,xe,EVP,EV,simprocAttr]
 ·have hl':¬(a.length:Int)=(b.length:Int):=by omega
  have e:decide (a=b)=false:=decide_eq_false fun q=>hl (by rw [q]);rw [e];simp (disch:=omega) only [Ab3,hl',EVC,xe,EVP,EV,simprocAttr]
end Go.X.G
/- Zones in the program: proper. -/
namespace Go.X.G
open Go Go.X
section
variable (o cut red:List UInt8) (g:List Rec) (x:Rec) (N:Nat)
def Ac7 (n:List UInt8):Bool:=decide (n[0]? =some 42)
theorem Jc1 (hx:g[0]? =some x) (hl:g.length≤1000000) (hn:x.name≠[]) (p4 p5 p6 p7 p8 p9 p10 p11 p12 p13:PV):
  Cp8.ev S N [.s o,Al g, .s cut, .s red,p4,p5,p6,p7,p8,p9,p10,p11,p12,p13]=some (.ret [.b (!Ac7 x.name||(!F3 g 2 && !F3 g 39))]):=by
 have k2:=J3 g 2 hl;have k39:=J3 g 39 hl;obtain ⟨c,hc⟩:∃c,x.name[0]? =some c:=⟨_,Az (Bb.2 hn)⟩;unfold Ac7;rw [hc];by_cases h1:c=42
 ·have h1':(c.toNat:Int)=42:=by rw [h1];rfl
  rcases Ak (F3 g 2) with h2|h2
  ·rw [h2] at k2;simp (disch:=omega) only [Gz1,hx,hc,h1',k2,EVC,xe,EVP,EV,simprocAttr];simp [h1,h2]
  ·rw [h2] at k2;simp (disch:=omega) only [Gz1,hx,hc,h1',k2,k39,EVC,xe,EVP,EV,simprocAttr];simp [h1,h2]
 ·have h1':¬(c.toNat:Int)=42:=fun q=>h1 (UInt8.toNat_inj.1 (show c.toNat=42 by omega));simp (disch:=omega) only [Gz1,hx,hc,h1',EVC,xe,EVP,EV,simprocAttr];simp [h1]
theorem Jc0 (hx:g[0]? =some x) (hl:g.length≤1000000) (hn:x.name≠[]) (p4 p5 p6 p7 p8 p9 p10:PV):
  yc.ev S N [.s o,Al g, .s cut, .s red,p4,p5,p6,p7,p8,p9,p10]=some (.ret [.b ((if (!decide (x.name=o) && F3 g 2)=true then I9 g [2,43,47,46,1,28] else !F3 g 43) && (!Ac7 x.name||(!F3 g 2 && !F3 g 39)))]):=by
 have k2:=J3 g 2 hl;have k43:=J3 g 43 hl;have kd:S Md 2 [Al g, .l 1 [.i .i64 2, .i .i64 43, .i .i64 47, .i .i64 46, .i .i64 1, .i .i64 28]]=some [.b (I9 g [2,43,47,46,1,28])]:=Wb g [2,43,47,46,1,28] hl (by decide);have hlit:Jj 1 [.i .i64 2, .i .i64 43, .i .i64 47, .i .i64 46, .i .i64 1, .i .i64 28]=some (.l 1 [.i .i64 2, .i .i64 43, .i .i64 47, .i .i64 46, .i .i64 1, .i .i64 28]):=rfl;have t:=fun p11 p12 p13=>Jc1 o cut red g x N hx hl hn p4 p5 p6 p7 p8 p9 p10 p11 p12 p13;have x7:=Bj yc.eq_1;have x6:=Bj Cf1.eq_1;have x5:=Bj Cg1.eq_1;have x4:=Bj Ch7.eq_1;have x3:=Bj Cm6.eq_1;by_cases h0:x.name=o
 ·rcases Ak (F3 g 43) with h1|h1<;>rw [h1] at k43<;>simp (disch:=omega) only [x7,x6,x5,x4,x3,t,hx,h0,k43,hlit,EVC,xe,EVP,EV,simprocAttr]<;>simp [h1]
 ·rcases Ak (F3 g 2) with h2|h2
  ·rw [h2] at k2;rcases Ak (I9 g [2,43,47,46,1,28]) with h3|h3<;>rw [h3] at kd<;>simp (disch:=omega) only [x7,x6,x5,x4,x3,t,hx,h0,k2,kd,hlit,EVC,xe,EVP,EV,simprocAttr]<;>simp [h0,h2,h3]
  ·rw [h2] at k2;rcases Ak (F3 g 43) with h1|h1<;>rw [h1] at k43<;>simp (disch:=omega) only [x7,x6,x5,x4,x3,t,hx,h0,k2,k43,hlit,EVC,xe,EVP,EV,simprocAttr]<;>simp [h0,h1,h2]
theorem Ij9 (hx:g[0]? =some x) (hl:g.length≤1000000) (hn:x.name≠[]) (p4 p5 p6 p7:PV):
  Ym.ev S N [.s o,Al g, .s cut, .s red,p4,p5,p6,p7]=some (.ret [.b ((!F3 g 5||I9 g [5,46,47]) && decide (red=[]) && (decide (cut=[])||I9 g [1,28]) && ((if (!decide (x.name=o) && F3 g 2)=true then I9 g [2,43,47,46,1,28] else !F3 g 43) && (!Ac7 x.name||(!F3 g 2 && !F3 g 39))))]):=by
 have k5:=J3 g 5 hl;have kc:S Md 2 [Al g, .l 1 [.i .i64 5, .i .i64 46, .i .i64 47]]=some [.b (I9 g [5,46,47])]:=Wb g [5,46,47] hl (by decide);have ka:S Md 2 [Al g, .l 1 [.i .i64 1, .i .i64 28]]=some [.b (I9 g [1,28])]:=Wb g [1,28] hl (by decide);have hlit1:Jj 1 [.i .i64 5, .i .i64 46, .i .i64 47]=some (.l 1 [.i .i64 5, .i .i64 46, .i .i64 47]):=rfl;have hlit2:Jj 1 [.i .i64 1, .i .i64 28]=some (.l 1 [.i .i64 1, .i .i64 28]):=rfl;have t:=fun p8 p9 p10=>Jc0 o cut red g x N hx hl hn p4 p5 p6 p7 p8 p9 p10;generalize ((if (!decide (x.name=o) && F3 g 2)=true then I9 g [2,43,47,46,1,28] else !F3 g 43) && (!Ac7 x.name||(!F3 g 2 && !F3 g 39)))=B at*;have x13:=Bj Ym.eq_1;have x12:=Bj ox.eq_1;have x11:=Bj oy.eq_1;have x10:=Bj oz.eq_1;have x9:=Bj Cb7.eq_1;have x8:=Bj Cc4.eq_1;rcases Ak (F3 g 5) with h1|h1<;>rw [h1] at k5
 ·rcases Ak (I9 g [5,46,47]) with h2|h2<;>rw [h2] at kc
  ·by_cases h3:red=[]
   ·replace h3:=eq_true h3;by_cases h4:cut=[]
    ·replace h4:=eq_true h4;simp (disch:=omega) only [x13,x12,x11,x10,x9,x8,t,k5,kc,h3,h4,hlit1,hlit2,EVC,xe,EVP,EV,simprocAttr]
     (clear x13 x12 x11 x10 x9 x8 t;simp [*])
    ·rcases Ak (I9 g [1,28]) with h5|h5<;>rw [h5] at ka<;>simp (disch:=omega) only [x13,x12,x11,x10,x9,x8,t,k5,kc,ka,h3,h4,hlit1,hlit2,EVC,xe,EVP,EV,simprocAttr]<;>(clear x13 x12 x11 x10 x9 x8 t;simp [*])
   ·simp (disch:=omega) only [x13,x12,x11,x10,x9,x8,t,k5,kc,h3,hlit1,hlit2,EVC,xe,EVP,EV,simprocAttr]
    (clear x13 x12 x11 x10 x9 x8 t;simp [*])
  ·simp (disch:=omega) only [x13,x12,x11,k5,kc,hlit1,hlit2,EVC,xe,EVP,EV,simprocAttr]
   (clear x13 x12 x11 x10 x9 x8 t;simp [*])
 ·by_cases h3:red=[]
  ·replace h3:=eq_true h3;by_cases h4:cut=[]
   ·replace h4:=eq_true h4;simp (disch:=omega) only [x13,x12,x11,x10,x9,x8,t,k5,h3,h4,hlit1,hlit2,EVC,xe,EVP,EV,simprocAttr]
    (clear x13 x12 x11 x10 x9 x8 t;simp [*])
   ·rcases Ak (I9 g [1,28]) with h5|h5<;>rw [h5] at ka<;>simp (disch:=omega) only [x13,x12,x11,x10,x9,x8,t,k5,ka,h3,h4,hlit1,hlit2,EVC,xe,EVP,EV,simprocAttr]<;>(clear x13 x12 x11 x10 x9 x8 t;simp [*])
  ·simp (disch:=omega) only [x13,x12,x11,x10,x9,x8,t,k5,h3,hlit1,hlit2,EVC,xe,EVP,EV,simprocAttr]
   (clear x13 x12 x11 x10 x9 x8 t;simp [*])
end
theorem Ab2 (o cut red:List UInt8) (g:List Rec) (hg:g≠[]) (hl:g.length≤1000000) (ho:o.length≤9223372036854775807) (hn:(nmG g).length≤9223372036854775807):
  S Bp1 4 [.s o,Al g, .s cut, .s red]=some [.b (propG o g (decide (cut≠[])) (decide (red≠[])))]:=by
 obtain ⟨x,r,rfl⟩:∃x r,g=x::r:=by
  cases g with
  |nil=>exact absurd rfl hg
  |cons x r=>exact ⟨x,r,rfl⟩
 have hx:(x::r)[0]? =some x:=rfl;have hnm:nmG (x::r)=x.name:=rfl;rw [hnm] at hn;unfold propG;rw [hnm];generalize (x::r)=g at*;obtain ⟨N,hN⟩:∃N,N=1:=⟨_,rfl⟩;refine Jw6 (N:=N) rfl ?_;have hu:=E8 x.name o hn ho;have k6:=J3 g 6 hl;have k2:=J3 g 2 hl;have ku:=ig g hl;have xt:=Bj Bw7.eq_1;have x18:=Bj nd.eq_1;have x17:=Bj nr.eq_1;have x16:=Bj nt.eq_1;have x15:=Bj oq.eq_1;have x14:=Bj ov.eq_1;have e1:decide (cut≠[])= !decide (cut=[]):=by simp
 have e2:decide (red≠[])= !decide (red=[]):=by simp
 rw [e1,e2,Bool.not_not,Bool.not_not];rcases Ak (under x.name o) with h0|h0<;>rw [h0] at hu
 ·have hne:x.name≠[]:=ic (Dp.1 h0).1;have t:=fun p4 p5 p6 p7=>Ij9 o cut red g x N hx hl hne p4 p5 p6 p7;have eS:Ac7 x.name=decide (x.name[0]? =some 42):=rfl;rw [eS] at t;generalize hA:(!F3 g 5||I9 g [5,46,47])=A at*;generalize hB:(if (!decide (x.name=o) && F3 g 2)=true then I9 g [2,43,47,46,1,28] else !F3 g 43)=B at*;generalize hC:(!decide (x.name[0]? =some 42)||(!F3 g 2 && !F3 g 39))=C at*;generalize decide (red=[])=D at*;generalize (decide (cut=[])||I9 g [1,28])=E' at*;clear hB hC hA;rcases Ak (F3 g 6) with h6|h6<;>rw [h6] at k6
  ·by_cases hno:x.name=o
   ·replace hno:=eq_true hno;rcases Ak (Dl6 g) with h1|h1<;>rw [h1] at ku
    ·rcases Ak (F3 g 2) with h2|h2<;>rw [h2] at k2
     ·simp (disch:=omega) only [xt,x18,x17,x16,x15,x14,t,hx,hu,k6,hno,ku,k2,EVC,xe,EVP,EV,simprocAttr]
      (clear xt x18 x17 x16 x15 x14 t;simp [*,Bool.and_assoc])
     ·simp (disch:=omega) only [xt,x18,x17,x16,x15,x14,t,hx,hu,k6,hno,ku,k2,EVC,xe,EVP,EV,simprocAttr]
      (clear xt x18 x17 x16 x15 x14 t;simp [*])
    ·simp (disch:=omega) only [xt,x18,x17,x16,x15,x14,t,hx,hu,k6,hno,ku,EVC,xe,EVP,EV,simprocAttr]
     (clear xt x18 x17 x16 x15 x14 t;simp [*])
   ·simp (disch:=omega) only [xt,x18,x17,x16,x15,x14,t,hx,hu,k6,hno,EVC,xe,EVP,EV,simprocAttr]
    (clear xt x18 x17 x16 x15 x14 t;simp [*])
  ·by_cases hno:x.name=o
   ·replace hno:=eq_true hno;simp (disch:=omega) only [xt,x18,x17,x16,x15,x14,t,hx,hu,k6,hno,EVC,xe,EVP,EV,simprocAttr]
    (clear xt x18 x17 x16 x15 x14 t;simp [*])
   ·rcases Ak (Dl6 g) with h1|h1<;>rw [h1] at ku
    ·simp (disch:=omega) only [xt,x18,x17,x16,x15,x14,t,hx,hu,k6,hno,ku,EVC,xe,EVP,EV,simprocAttr]
     (clear xt x18 x17 x16 x15 x14 t;simp [*,Bool.and_assoc])
    ·simp (disch:=omega) only [xt,x18,x17,x16,x15,x14,t,hx,hu,k6,hno,ku,EVC,xe,EVP,EV,simprocAttr]
     (clear xt x18 x17 x16 x15 x14 t;simp [*])
 ·simp (disch:=omega) only [xt,x18,x17,x16,x15,x14,hx,hu,EVC,xe,EVP,EV,simprocAttr]
  (clear xt x18 x17 x16 x15 x14;simp [*])
end Go.X.G
/- Zones in the program: Check and New. -/
namespace Go.X.G
open Go Go.X
def Gj (gs:List (List Rec)):PV:= .l 1 (gs.map Al)
theorem N2 (l:List (List Rec)):F2 (Gj l)=some (.i .i64 (l.length:Int)):=by simp [Gj,F2]
theorem Em (l:List (List Rec)) (k:IntKind) (z:Int) (h:0≤z):Ht 1 (Gj l) (.i k z)=(l[z.toNat]?).map Al:=by simp [Gj,X3 _ _ _ _ h]
theorem Bt9 (x:List Rec):Jj 1 [Al x]=some (Gj [x]):=rfl
theorem gx (l:List (List Rec)) (x:List Rec) (h:l.length+1≤1073741824):Ic 1 (Gj l) (Gj [x])=some (Gj (l++[x])):=by have:=Tf 1 (l.map Al) [Al x] (by simpa using h);simpa [Gj] using this
theorem Gd3 {α:Type} (l:List α) (s i:Nat) (c:α) (h:l[i]? =some c) (hs:s≤i):sl l s (i+1)=sl l s i++[c]:=by unfold sl;have hi:=(Av.1 h).1;rw [Cl,h,Ir (by rw [Ar];omega)];rfl
theorem Cx9 (l:List Rec) (hl:l.length≤1000000):S Bp2 1 [Al l]=some [Gj (grp l)]:=by
 obtain ⟨N,hN⟩:∃N,N=l.length+1:=⟨_,rfl⟩;refine Jw7 (N:=N) rfl ?_;have key:Et5.ev S N [Al l]=some (.yld 0 [Gj ([]++T6 (sl l 0 0) l)]):=by
  refine Fy l (fun i (g:List (List Rec)×Nat)=>[Gj g.1, .i .i64 (g.2:Int), .i .i64 (i:Int)]) (fun i g r=> .yld 0 [Gj (g.1++T6 (sl l g.2 i) r)]) (fun i g=>g.2≤i∧g.1.length≤i) ([],0) ?_ (by simp) (by omega) (fun i g c r hd hi hc hI=> ?_) (fun g hI=> ?_)
  ·rfl
  ·left;obtain ⟨out,st⟩:=g;obtain ⟨hI1,hI2⟩:=hI;simp only at hI1 hI2 ⊢;have hlt:(i:Int)<(l.length:Int):=by omega
   have e1:((i:Int)+1).toNat=i+1:=by omega
   have e2:(i:Int).toNat=i:=by omega
   have e3:(st:Int).toNat=st:=by omega
   have hsl:=Gd3 l st i c hc hI1;have hsl2:List.drop st (List.take (i+1) l)=sl l st i++[c]:=hsl;have hsl3:sl l st st=[]:=by unfold sl;rw [List.drop_eq_nil_iff,Ar];omega
   have hsl4:sl l (i+1) (i+1)=[]:=by unfold sl;rw [List.drop_eq_nil_iff,Ar];omega
   have hr:r=l.drop (i+1):=by have:=congrArg List.tail hd;simpa using this.symm
   by_cases hc2:(match r with|[]=>true|y::_=> !decide (y.name=c.name))=true
   ·refine ⟨(out++[sl l st i++[c]],i+1),?_,⟨by simp,by simp;omega⟩,?_⟩
    ·cases r with
     |nil=>
      have hend:(i:Int)+1=(l.length:Int):=by have:=congrArg List.length hr;simp at this;omega
      simp only;simp (disch:=omega) only [Bq3,hlt,hend.symm,e1,e2,e3,hc,hsl2,Bt9,gx,EVC,xe,EVP,EV,simprocAttr]
      try (congr 3;omega)
     |cons y r'=>
      have hy:l[i+1]? =some y:=by have:=congrArg (fun q=>q[0]?) hr;simpa [A8] using this.symm
      have hyl:=(Av.1 hy).1;have hend:¬(i:Int)+1=(l.length:Int):=by omega
      have hyc:¬y.name=c.name:=by simpa using hc2
      simp only;simp (disch:=omega) only [Bq3,hlt,hend,e1,e2,e3,hc,hy,hyc,hsl2,Bt9,gx,EVC,xe,EVP,EV,simprocAttr]
      try congr 3
    ·have eg:T6 (sl l st i) (c::r)=(sl l st i++[c])::T6 [] r:=by
      cases r with
      |nil=>rfl
      |cons y r'=>rw [T6,if_pos hc2]
     simp only [eg,hsl4];simp
   ·refine ⟨(out,st),?_,⟨by simp;omega,by simp;omega⟩,?_⟩
    ·cases r with
     |nil=>simp at hc2
     |cons y r'=>
      have hy:l[i+1]? =some y:=by have:=congrArg (fun q=>q[0]?) hr;simpa [A8] using this.symm
      have hyl:=(Av.1 hy).1;have hend:¬(i:Int)+1=(l.length:Int):=by omega
      have hyc:y.name=c.name:=by simpa using hc2
      simp only;simp (disch:=omega) only [Bq3,hlt,hend,e1,e2,e3,hc,hy,hyc,EVC,xe,EVP,EV,simprocAttr]
      try rfl
    ·have eg:T6 (sl l st i) (c::r)=T6 (sl l st i++[c]) r:=by
      cases r with
      |nil=>simp at hc2
      |cons y r'=>rw [T6,if_neg hc2]
     simp only [eg,hsl]
  ·have hlt:¬(l.length:Int)<(l.length:Int):=by omega
   refine ⟨?_,rfl⟩;simp (disch:=omega) only [Bq3,hlt,EVC,xe,EVP,EV,simprocAttr];simp [T6]
 have e:[]++T6 (sl l 0 0) l=grp l:=by simp [sl,grp]
 rw [e] at key;generalize grp l=gs at*;simp (disch:=omega) only [Bq3,key,EVC,xe,EVP,EV,simprocAttr]
def As1 (o:List UInt8):List (List Rec)→List UInt8→List UInt8→Bool→Option Bool
 |[],_,_,soa=>some soa
 |g::gs,cut,red,soa=>
  if propG o g (decide (Df (nmG g) cut≠[])) (decide (Df (nmG g) red≠[]))=true then
   As1 o gs (if Df (nmG g) cut=[]∧nmG g≠o∧F3 g 2=true then nmG g else Df (nmG g) cut) (if F3 g 39=true then nmG g else Df (nmG g) red) (soa||decide (nmG g=o))
  else none
theorem Cb3 (o:List UInt8):∀(gs:List (List Rec)) (cut red:List UInt8) (soa:Bool),mr o gs cut red soa=decide (As1 o gs cut red soa=some true)
 |[],_,_,soa=>by simp [mr,As1]
 |g::gs,cut,red,soa=>by
  simp only [mr,As1];split
  ·exact Cb3 o gs _ _ _
  ·simp
def Ip0:Option Bool→Out
 |some b=> .yld 0 [.b b]
 |none=> .ret [.i .i64 13]
section
variable (z:Zone) (g:List Rec) (gs:List (List Rec)) (x:Rec) (N:Nat) (i:Nat) (cut red:List UInt8) (soa:Bool)
theorem Kj0 (hi:gs[i]? =some g) (hx:g[0]? =some x) (hxl:x.name.length≤9223372036854775807) (hcl:cut.length≤9223372036854775807) (p1 p2 p3 p4 p5:PV):
  ∃p11,Tw.ev S N [z.pv,p1,p2,p3,p4,p5,Gj gs, .s cut, .s red, .b soa, .i .i64 (i:Int)]=Tx.ev S N [z.pv,p1,p2,p3,p4,p5,Gj gs, .s cut, .s red, .b soa, .i .i64 (i:Int),p11, .s (Df x.name cut)]:=by
 have x17:=Bj Tw.eq_1;have x16:=Bj oj.eq_1;have x0:=Bj Dy6.eq_1;have hu:=E8 x.name cut hxl hcl;have ei:(i:Int).toNat=i:=by omega
 by_cases h1:cut=[]
 ·refine ⟨.u,?_⟩;have e:Df x.name cut=cut:=by unfold Df;simp [h1]
  rw [e];replace h1:=eq_true h1;simp (disch:=omega) only [x17,x16,x0,h1,hi,hx,ei,Em,EVC,xe,EVP,EV,simprocAttr]
 ·rcases Ak (under x.name cut) with h2|h2<;>rw [h2] at hu
  ·refine ⟨.b true,?_⟩;have e:Df x.name cut=cut:=by unfold Df;simp [h2]
   rw [e];simp (disch:=omega) only [x17,x16,x0,h1,hu,hi,hx,ei,Em,EVC,xe,EVP,EV,simprocAttr]
  ·refine ⟨.b false,?_⟩;have e:Df x.name cut=[]:=by unfold Df;simp [h1,h2]
   rw [e];simp (disch:=omega) only [x17,x16,x0,h1,hu,hi,hx,ei,Em,EVC,xe,EVP,EV,simprocAttr]
theorem Jt9 (hi:gs[i]? =some g) (hx:g[0]? =some x) (hxl:x.name.length≤9223372036854775807) (hrl:red.length≤9223372036854775807) (p1 p2 p3 p4 p5 p11 p12:PV):
  ∃p13,Tx.ev S N [z.pv,p1,p2,p3,p4,p5,Gj gs, .s cut, .s red, .b soa, .i .i64 (i:Int),p11,p12]=Yn.ev S N [z.pv,p1,p2,p3,p4,p5,Gj gs, .s cut, .s red, .b soa, .i .i64 (i:Int),p11,p12,p13, .s (Df x.name red)]:=by
 have x15:=Bj Tx.eq_1;have x14:=Bj ow.eq_1;have x1:=Bj Dj8.eq_1;have hu:=E8 x.name red hxl hrl;have ei:(i:Int).toNat=i:=by omega
 by_cases h1:red=[]
 ·refine ⟨.u,?_⟩;have e:Df x.name red=red:=by unfold Df;simp [h1]
  rw [e];replace h1:=eq_true h1;simp (disch:=omega) only [x15,x14,x1,h1,hi,hx,ei,Em,EVC,xe,EVP,EV,simprocAttr]
 ·rcases Ak (under x.name red) with h2|h2<;>rw [h2] at hu
  ·refine ⟨.b true,?_⟩;have e:Df x.name red=red:=by unfold Df;simp [h2]
   rw [e];simp (disch:=omega) only [x15,x14,x1,h1,hu,hi,hx,ei,Em,EVC,xe,EVP,EV,simprocAttr]
  ·refine ⟨.b false,?_⟩;have e:Df x.name red=[]:=by unfold Df;simp [h1,h2]
   rw [e];simp (disch:=omega) only [x15,x14,x1,h1,hu,hi,hx,ei,Em,EVC,xe,EVP,EV,simprocAttr]
theorem Jt8 (hi:gs[i]? =some g) (hx:g[0]? =some x) (hnm:nmG g=x.name) (hg:g≠[]) (hl:g.length≤1000000) (hil:i≤1000000) (hxl:x.name.length≤9223372036854775807) (hzl:z.origin.length≤9223372036854775807) (cu re:List UInt8) (p1 p2 p3 p4 p5 p7 p8 p11 p13:PV):
  Yn.ev S N [z.pv,p1,p2,p3,p4,p5,Gj gs,p7,p8, .b soa, .i .i64 (i:Int),p11, .s cu,p13, .s re]=
   some (if propG z.origin g (decide (cu≠[])) (decide (re≠[]))=true then .yld 1 [.s (if cu=[]∧x.name≠z.origin∧F3 g 2=true then x.name else cu), .s (if F3 g 39=true then x.name else re), .b (soa||decide (x.name=z.origin)), .i .i64 ((i:Int)+1)] else .ret [.i .i64 13]):=by
 have hp:=Ab2 z.origin cu re g hg hl hzl (by rw [hnm];exact hxl);have k2:=J3 g 2 hl;have k39:=J3 g 39 hl;have ei:(i:Int).toNat=i:=by omega
 generalize propG z.origin g (decide (cu≠[])) (decide (re≠[]))=P at*;cases P
 ·simp (disch:=omega) only [Rk,hp,hi,hx,ei,Em,EVC,xe,EVP,EV,simprocAttr]
  try simp
 ·by_cases h1:cu=[]
  ·by_cases h2:x.name=z.origin
   ·rcases Ak (F3 g 39) with h3|h3<;>rw [h3] at k39
    ·cases soa<;>(have h1':=eq_true h1;have h2':=eq_true h2;simp (disch:=omega) only [Rk,hp,hi,hx,ei,h1',h2',k39,Em,EVC,xe,EVP,EV,simprocAttr];simp [h2,h3])
    ·cases soa<;>(have h1':=eq_true h1;have h2':=eq_true h2;simp (disch:=omega) only [Rk,hp,hi,hx,ei,h1',h2',k39,Em,EVC,xe,EVP,EV,simprocAttr];simp [h2,h3])
   ·rcases Ak (F3 g 2) with h4|h4<;>rw [h4] at k2
    ·rcases Ak (F3 g 39) with h3|h3<;>rw [h3] at k39
     ·cases soa<;>(have h1':=eq_true h1;simp (disch:=omega) only [Rk,hp,hi,hx,ei,h1',h2,k2,k39,Em,EVC,xe,EVP,EV,simprocAttr];simp [h1,h2,h3,h4])
     ·cases soa<;>(have h1':=eq_true h1;simp (disch:=omega) only [Rk,hp,hi,hx,ei,h1',h2,k2,k39,Em,EVC,xe,EVP,EV,simprocAttr];simp [h1,h2,h3,h4])
    ·rcases Ak (F3 g 39) with h3|h3<;>rw [h3] at k39
     ·cases soa<;>(have h1':=eq_true h1;simp (disch:=omega) only [Rk,hp,hi,hx,ei,h1',h2,k2,k39,Em,EVC,xe,EVP,EV,simprocAttr];simp [h2,h3,h4])
     ·cases soa<;>(have h1':=eq_true h1;simp (disch:=omega) only [Rk,hp,hi,hx,ei,h1',h2,k2,k39,Em,EVC,xe,EVP,EV,simprocAttr];simp [h2,h3,h4])
  ·by_cases h2:x.name=z.origin
   ·rcases Ak (F3 g 39) with h3|h3<;>rw [h3] at k39
    ·cases soa<;>(have h2':=eq_true h2;simp (disch:=omega) only [Rk,hp,hi,hx,ei,h1,h2',k39,Em,EVC,xe,EVP,EV,simprocAttr];simp [h1,h2,h3])
    ·cases soa<;>(have h2':=eq_true h2;simp (disch:=omega) only [Rk,hp,hi,hx,ei,h1,h2',k39,Em,EVC,xe,EVP,EV,simprocAttr];simp [h1,h2,h3])
   ·rcases Ak (F3 g 39) with h3|h3<;>rw [h3] at k39
    ·cases soa<;>(simp (disch:=omega) only [Rk,hp,hi,hx,ei,h1,h2,k39,Em,EVC,xe,EVP,EV,simprocAttr];simp [h1,h2,h3])
    ·cases soa<;>(simp (disch:=omega) only [Rk,hp,hi,hx,ei,h1,h2,k39,Em,EVC,xe,EVP,EV,simprocAttr];simp [h1,h2,h3])
end
theorem xv:∀(n:Nat) (l:List Rec),l.length≤n→(∀g∈grp l,g≠[]∧∀x∈g,x∈l)∧(grp l).length≤l.length
 |_,[],_=>by simp [grp,T6]
 |0,x::r,hn=>by simp at hn
 |n+1,x::r,hn=>by
  obtain ⟨g,l',h1,h2,h3,h4,h5⟩:=Q2 x r;have hlen:=congrArg List.length h1;have hg0:0<g.length:=Bb.2 h2;simp only [Ac,A3] at hlen hn;obtain ⟨i1,i2⟩:=xv n l' (by omega);rw [h5];refine ⟨fun g' hg'=> ?_,by simp;omega⟩;rcases Am.1 hg' with rfl|hg'
  ·exact ⟨h2,fun w hw=>by rw [h1];exact Cq _ hw⟩
  ·obtain ⟨j1,j2⟩:=i1 g' hg';exact ⟨j1,fun w hw=>by rw [h1];exact Bm _ (j2 w hw)⟩
theorem Cw8 (p:Prop) [Decidable p] (a b:List UInt8) (ha:a.length≤9223372036854775807) (hb:b.length≤9223372036854775807):(if p then a else b).length≤9223372036854775807:=by split<;>assumption
theorem Jr9 (z:Zone) (hz:z.wf) (hl:z.recs.length≤1000000) (N:Nat) (hN:z.recs.length+1<N) (p1 p2 p3 p4 p5:PV):
  Fj4.ev S N [z.pv,p1,p2,p3,p4,p5,Gj (grp z.recs)]=some (Ip0 (As1 z.origin (grp z.recs) [] [] false)):=by
 obtain ⟨gf1,gf2⟩:=xv z.recs.length z.recs (Af _);have hgl:∀g∈grp z.recs,g.length≤1000000:=fun g hg=>by
  have:∀(n:Nat) (l:List Rec),l.length≤n→∀g∈grp l,g.length≤l.length:=by
   intro n
   induction n with
   |zero=>intro l hl g hg;cases l with
    |nil=>simp [grp,T6] at hg
    |cons x r=>simp at hl
   |succ n ih=>
    intro l hl g hg;cases l with
    |nil=>simp [grp,T6] at hg
    |cons x r=>
     obtain ⟨g0,l',h1,h2,h3,h4,h5⟩:=Q2 x r;have hlen:=congrArg List.length h1;have hg0:0<g0.length:=Bb.2 h2;simp only [Ac,A3] at hlen hl;rw [h5] at hg;rcases Am.1 hg with rfl|hg
     ·simp only [A3];omega
     ·have:=ih l' (by omega) g hg;simp only [A3];omega
  exact C4 (this _ _ (Af _) g hg) hl
 generalize grp z.recs=gs at*;have:=Fy (fn:=S) (N:=N) (η:=[z.pv,p1,p2,p3,p4,p5,Gj gs]) (id:=1) (init:=[.c (.s []), .c (.s []), .c (.b false), .c (.i .i64 0)]) (body:=V8) gs (fun i (a:List UInt8×List UInt8×Bool)=>[.s a.1, .s a.2.1, .b a.2.2, .i .i64 (i:Int)]) (fun i a r=>Ip0 (As1 z.origin r a.1 a.2.1 a.2.2)) (fun i a=>a.1.length≤9223372036854775807∧a.2.1.length≤9223372036854775807) ([],[],false) ?_ (by simp) (by omega) (fun i a g r hd hi hc hI=> ?_) (fun a hI=> ?_)
 ·exact this
 ·simp (disch:=omega) only [EVC,xe,EVP,EV,simprocAttr]
  try rfl
 ·obtain ⟨cut,red,soa⟩:=a;obtain ⟨hI1,hI2⟩:=hI;simp only at hI1 hI2 ⊢;have hgm:=A9 hc;obtain ⟨hg,hgz⟩:=gf1 g hgm;obtain ⟨x,hx,hxm⟩:∃x,g[0]? =some x∧x∈g:=by
   cases g with
   |nil=>exact absurd rfl hg
   |cons x r=>exact ⟨x,rfl, .head _⟩
  have hnm:nmG g=x.name:=by
   cases g with
   |nil=>exact absurd rfl hg
   |cons y r=>simp at hx;rw [←hx];rfl
  have hxl:x.name.length≤9223372036854775807:=(hz.recs.2 x (hgz x hxm)).name;have hzl:z.origin.length≤9223372036854775807:=hz.origin;obtain ⟨p11,kA⟩:=Kj0 z g gs x N i cut red soa hc hx hxl hI1 p1 p2 p3 p4 p5;have hku:(Df x.name cut).length≤9223372036854775807:=by unfold Df;split<;>simp [hI1]
  have hkr:(Df x.name red).length≤9223372036854775807:=by unfold Df;split<;>simp [hI2]
  obtain ⟨p13,kB⟩:=Jt9 z g gs x N i cut red soa hc hx hxl hI2 p1 p2 p3 p4 p5 p11 (.s (Df x.name cut));have kC:=Jt8 z g gs x N i soa hc hx hnm hg (hgl g hgm) (by omega) hxl hzl (Df x.name cut) (Df x.name red) p1 p2 p3 p4 p5 (.s cut) (.s red) p11 p13;have kall:=kA.trans (kB.trans kC);have hlt:(i:Int)<(gs.length:Int):=by omega
  have hb:V8.ev S N [z.pv,p1,p2,p3,p4,p5,Gj gs, .s cut, .s red, .b soa, .i .i64 (i:Int)]=Tw.ev S N [z.pv,p1,p2,p3,p4,p5,Gj gs, .s cut, .s red, .b soa, .i .i64 (i:Int)]:=by have xb:=Bj V8.eq_1;simp (disch:=omega) only [xb,hlt,N2,EVC,xe,EVP,EV,simprocAttr]
  have hb2:=hb.trans kall;have estep:As1 z.origin (g::r) cut red soa=if propG z.origin g (decide (Df x.name cut≠[])) (decide (Df x.name red≠[]))=true then As1 z.origin r (if Df x.name cut=[]∧x.name≠z.origin∧F3 g 2=true then x.name else Df x.name cut) (if F3 g 39=true then x.name else Df x.name red) (soa||decide (x.name=z.origin)) else none:=by simp only [As1,hnm]
  by_cases hP:propG z.origin g (decide (Df x.name cut≠[])) (decide (Df x.name red≠[]))=true
  ·left;rw [if_pos hP] at hb2 estep;refine ⟨(if Df x.name cut=[]∧x.name≠z.origin∧F3 g 2=true then x.name else Df x.name cut,if F3 g 39=true then x.name else Df x.name red,soa||decide (x.name=z.origin)),hb2,⟨?_,?_⟩,?_⟩
   ·exact Cw8 _ _ _ hxl hku
   ·exact Cw8 _ _ _ hxl hkr
   ·rw [estep]
  ·right;rw [if_neg hP] at hb2 estep;rw [estep];exact ⟨hb2,rfl⟩
 ·have hlt:¬(gs.length:Int)<(gs.length:Int):=by omega
  have xb:=Bj V8.eq_1;refine ⟨?_,rfl⟩;simp (disch:=omega) only [xb,hlt,N2,EVC,xe,EVP,EV,simprocAttr];rfl
theorem pn (z:Zone) (hz:z.wf):P7 z=if vld z.origin=false then 2 else if 2048<z.recs.length∨P6 z.recs=true then 9 else if z.recs.all Om=false then 5 else if z.recs≠sortR z.recs then 7 else if As1 z.origin (grp z.recs) [] [] false=some true then 0 else 13:=by
 unfold P7;rcases Ak (vld z.origin) with h1|h1
 ·have n1:¬vld z.origin=false:=by simp [h1]
  rw [if_neg n1,if_neg n1];by_cases h2:2048<z.recs.length
  ·rw [if_pos h2,if_pos (.inl h2)]
  ·rw [if_neg h2];have hcr:=Ar7 z.recs;rcases Ak (z.recs.all fun r=>decide ((findR z.recs r.name r.typ).length≤64)) with h3|h3
   ·rw [h3] at hcr;have hn2:¬(2048<z.recs.length∨P6 z.recs=true):=by
     rintro (q|q)
     ·exact h2 q
     ·rw [hcr] at q;cases q
    have n3:¬(z.recs.all fun r=>decide ((findR z.recs r.name r.typ).length≤64))=false:=by simp only [h3];simp
    rw [if_neg n3,if_neg hn2];rcases Ak (z.recs.all Om) with h4|h4
    ·have n4:¬z.recs.all Om=false:=by simp only [h4];simp
     rw [if_neg n4,if_neg n4];by_cases h5:z.recs=sortR z.recs
     ·have n5:¬z.recs≠sortR z.recs:=by simpa using h5
      rw [if_neg n5,if_neg n5];have hv:∀r∈z.recs,Om r=true:=Bz.1 h4;have hr:z.recs.Pairwise ltR:=by rw [h5];exact (Pl z.recs hv).1
      have hk:=yz z (fun r h=>Z0 (hv r h)) (Bz4 hr) z.recs.length [] z.recs [] [] false (Af _) rfl (by simp) ⟨by simp,by simp,by simp,by simp⟩;rw [Cb3,decide_eq_true_eq] at hk;have hk2:=Bb7 z hv hr;have hk3:As1 z.origin (grp z.recs) [] [] false=some true↔(findR z.recs z.origin 6).length=1∧fk z.recs z.origin 2=true∧∀r∈z.recs,R3 z r=true:=by rw [hk,←hk2];simp
      by_cases h6:As1 z.origin (grp z.recs) [] [] false=some true
      ·obtain ⟨a,b,c⟩:=hk3.1 h6;have c':z.recs.all (R3 z)=true:=Bz.2 c;have n7:¬((findR z.recs z.origin 6).length≠1∨fk z.recs z.origin 2=false):=by simp [a,b]
       have n8:¬z.recs.all (R3 z)=false:=by simp only [c'];simp
       rw [if_pos h6,if_neg n7,if_neg n8]
      ·rw [if_neg h6];by_cases h7:(findR z.recs z.origin 6).length≠1∨fk z.recs z.origin 2=false
       ·rw [if_pos h7]
       ·rw [if_neg h7];by_cases h8:z.recs.all (R3 z)=false
        ·rw [if_pos h8]
        ·exfalso;simp only [not_or,ne_eq,Jx,Ff] at h7 h8;exact h6 (hk3.2 ⟨h7.1,h7.2,Bz.1 h8⟩)
     ·rw [if_pos h5,if_pos h5]
    ·rw [if_pos h4,if_pos h4]
   ·rw [h3] at hcr;rw [if_pos h3,if_pos (.inr hcr)]
 ·rw [if_pos h1,if_pos h1]
theorem Dl2 (z:Zone) (hz:z.wf) (hl:z.recs.length≤1000000):S Bs5 1 [z.pv]=some [.i .i64 (P7 z)]:=by
 obtain ⟨N,hN⟩:∃N,N=z.recs.length+2:=⟨_,rfl⟩;refine Jb0 (N:=N) rfl ?_;rw [pn z hz];have hzl:z.origin.length≤9223372036854775807:=hz.origin;have k1:=Br z.origin hzl;have k2:=Ar6 z.recs hl;have k3:=Fb z.recs Bp6 [] (fun r=> !Om r) hl (fun r hr=>by refine Jx1 (N:=1) rfl ?_;have:=Dg9 r (hz.recs.2 r hr);simp (disch:=omega) only [Is5,this,EVC,xe,EVP,EV,simprocAttr])
 have e3:(z.recs.any fun r=> !Om r)= !z.recs.all Om:=by rw [List.not_all_eq_any_not]
 rw [e3] at k3;have k4:=Em0 z.recs hz.recs.2 hl;have hsl:(sortR z.recs).length≤1000000:=by obtain ⟨r,h1,h2,_⟩:=Oc Il9 (by rw [Ec6];exact In8) z.recs hz.recs.2 hl;rw [Ec6] at h1;have:=Yy eqF r;rw [vz h1] at this;omega
 have k5:=Dh6 z.recs (sortR z.recs) hl hsl;have k6:=Cx9 z.recs hl;have k7:=fun p1 p2 p3 p4 p5=>Jr9 z hz hl N (by omega) p1 p2 p3 p4 p5;have xt:=Bj Bw9.eq_1;have x28:=Bj m8.eq_1;have x27:=Bj m9.eq_1;have x26:=Bj nj.eq_1;have x25:=Bj nk.eq_1;have x24:=Bj nq.eq_1;have x23:=Bj nv.eq_1;have x22:=Bj nw.eq_1;have x21:=Bj ny.eq_1;have x20:=Bj nb.eq_1;have x19:=Bj nc.eq_1;have x18:=Bj ng.eq_1;rcases Ak (vld z.origin) with h1|h1
 ·have n1:¬vld z.origin=false:=by simp [h1]
  rw [if_neg n1];rw [h1] at k1;by_cases h2:2048<z.recs.length
  ·rw [if_pos (.inl h2)];have h2':(2048:Int)<(z.recs.length:Int):=by omega
   simp (disch:=omega) only [xt,x28,x27,x26,k1,h2',EVC,xe,EVP,EV,simprocAttr]
  ·have h2':¬(2048:Int)<(z.recs.length:Int):=by omega
   rcases Ak (P6 z.recs) with h3|h3<;>rw [h3] at k2
   ·rw [if_pos (.inr h3)];simp (disch:=omega) only [xt,x28,x27,x26,k1,k2,h2',EVC,xe,EVP,EV,simprocAttr]
   ·have n2:¬(2048<z.recs.length∨P6 z.recs=true):=by simp only [h2,h3];simp
    rw [if_neg n2];rcases Ak (z.recs.all Om) with h4|h4<;>rw [h4] at k3
    ·have n4:¬z.recs.all Om=false:=by simp only [h4];simp
     rw [if_neg n4];by_cases h5:z.recs=sortR z.recs
     ·have n5:¬z.recs≠sortR z.recs:=by simpa using h5
      rw [if_neg n5];have e5:decide (z.recs=sortR z.recs)=true:=decide_eq_true h5;rw [e5] at k5;clear h5 e5;generalize sortR z.recs=sr at*;cases h6:As1 z.origin (grp z.recs) [] [] false with
      |none=>
       rw [h6] at k7;simp only [Ip0] at k7;generalize grp z.recs=gs at*;rw [if_neg (by simp)];simp (disch:=omega) only [xt,x28,x27,x26,x25,x24,x23,x22,x21,x20,x19,x18,k1,k2,h2',k3,k4,k5,k6,k7,N2,EVC,xe,EVP,EV,simprocAttr]
      |some b=>
       rw [h6] at k7;simp only [Ip0] at k7;generalize grp z.recs=gs at*;cases b
       ·rw [if_neg (by simp)];simp (disch:=omega) only [xt,x28,x27,x26,x25,x24,x23,x22,x21,x20,x19,x18,k1,k2,h2',k3,k4,k5,k6,k7,N2,EVC,xe,EVP,EV,simprocAttr]
       ·rw [if_pos rfl];simp (disch:=omega) only [xt,x28,x27,x26,x25,x24,x23,x22,x21,x20,x19,x18,k1,k2,h2',k3,k4,k5,k6,k7,N2,EVC,xe,EVP,EV,simprocAttr]
     ·rw [if_pos h5];have e5:decide (z.recs=sortR z.recs)=false:=decide_eq_false h5;rw [e5] at k5;clear h5 e5;generalize sortR z.recs=sr at*;simp (disch:=omega) only [xt,x28,x27,x26,x25,x24,x23,x22,x21,k1,k2,h2',k3,k4,k5,EVC,xe,EVP,EV,simprocAttr]
    ·rw [if_pos h4];simp (disch:=omega) only [xt,x28,x27,x26,x25,x24,k1,k2,h2',k3,EVC,xe,EVP,EV,simprocAttr]
     try simp
 ·rw [if_pos h1];rw [h1] at k1;simp (disch:=omega) only [xt,x28,k1,EVC,xe,EVP,EV,simprocAttr]
end Go.X.G
/- Delegations and names of a zone, as the reference finds them; what exists. -/
namespace Go.X.G
open Go Go.X
def Cx5 (x:List UInt8):List (List UInt8)→List (List UInt8)
 |[]=>[x]
 |y::r=>if Hf y x<0 then y::Cx5 x r else if y=x then y::r else x::y::r
theorem insN_mem (x z:List UInt8):∀(l:List (List UInt8)),z∈Cx5 x l↔z=x∨z∈l
 |[]=>by simp [Cx5]
 |y::r=>by
  have ih:=insN_mem x z r;simp only [Cx5];split
  ·simp only [Am,ih];grind
  ·split
   ·rename_i h;subst h;simp only [Am];grind
   ·simp only [Am]
theorem Sl (x:List UInt8):∀(l:List (List UInt8)),l.Pairwise ltN→(Cx5 x l).Pairwise ltN
 |[],_=>by simp [Cx5]
 |y::r,h=>by
  obtain ⟨h1,h2⟩:=A0.1 h;have ih:=Sl x r h2;simp only [Cx5];by_cases c:Hf y x<0
  ·rw [if_pos c];refine A0.2 ⟨fun w hw=> ?_,ih⟩;rcases (insN_mem x w r).1 hw with rfl|hw
   ·exact (En _ _).1 c
   ·exact h1 w hw
  ·rw [if_neg c];by_cases e:y=x
   ·rw [if_pos e];exact h
   ·rw [if_neg e];have hxy:ltN x y:=by
     rcases to_N.tri x y with q|q|q
     ·exact q
     ·exact absurd q.symm e
     ·exact absurd ((En _ _).2 q) c
    refine A0.2 ⟨fun w hw=> ?_,h⟩;rcases Am.1 hw with rfl|hw
    ·exact hxy
    ·exact to_N.tr _ _ _ hxy (h1 w hw)
def Es3 (l:List (List UInt8)):List (List UInt8):=l.foldl (fun a x=>Cx5 x a) []
theorem b8 (l:List (List UInt8)):Es3 l=setN l:=by
 have:∀(l a:List (List UInt8)),a.Pairwise ltN→(l.foldl (fun a x=>Cx5 x a) a).Pairwise ltN∧∀z,z∈l.foldl (fun a x=>Cx5 x a) a↔z∈a∨z∈l:=by
  intro l
  induction l with
  |nil=>intro a h;exact ⟨h,fun z=>by simp⟩
  |cons x r ih=>
   intro a h;obtain ⟨h1,h2⟩:=ih (Cx5 x a) (Sl x a h);refine ⟨h1,fun z=> ?_⟩;rw [List.foldl_cons,h2,insN_mem,Am]
   grind
 obtain ⟨h1,h2⟩:=this l [] List.Pairwise.nil;exact Rr to_N _ _ h1 (Mr l) fun x=>by rw [Lr];rw [Es3,h2 x];simp
end Go.X.G
/- What exists in a zone, and what encloses a name; names with another end. -/
namespace Go.X.G
open Go Go.X
theorem Al6 (z:Zone) (hl:z.recs.length≤1000):(namesN z).length≤1000000:=by
 have h1:=Qp (Hz6 z);have h2:∀l:List Rec,(l.flatMap fun r=>upN z.origin r.name).length≤256*l.length:=by
  intro l
  induction l with
  |nil=>simp
  |cons x r ih=>
   have:=i8 z.origin x.name;rw [Jw,Ac,A3];omega
 have h3:=h2 (z.recs.filter fun r=>under r.name z.origin && !lh z r.name);have h4:=Hg (fun r=>under r.name z.origin && !lh z r.name) z.recs;show (setN (Hz6 z)).length≤1000000;unfold Hz6 at h1 ⊢;omega
end Go.X.G
/- Records with names and texts of at most 300 bytes. -/
namespace Go.X.G
open Go Go.X
def c3 (s:List UInt8):List UInt8:=s.take 300
end Go.X.G
/- The laws of zones: what they call. -/
namespace Go.X.G
open Go Go.X
theorem Sp (o:List UInt8) (l:List Rec):PV.a [.s o,Al l]=Zone.pv ⟨o,l⟩:=rfl
theorem X9 (z:Zone):(⟨z.origin,z.recs⟩:Zone)=z:=rfl
end Go.X.G
/- Names with another end; redirections; what records of a name say. -/
namespace Go.X
structure Res where
 kind:Int
 owner:List UInt8
 wild:Bool
 target:List UInt8
 recs:List Rec
 deriving DecidableEq
def Res.cells (x:Res):List PV:=[.i .i64 x.kind, .s x.owner, .b x.wild, .s x.target,Al x.recs]
def Res.pv (x:Res):PV:= .a x.cells
end Go.X
namespace Go.X.G
open Go Go.X
end Go.X.G
/- What a zone says about a question: the program and the reference. -/
namespace Go.X.G
open Go Go.X
theorem Dn0 (z:Zone) (n:List UInt8) (t:Int) (hl:z.recs.length≤1000000):S Br0 3 [z.pv, .s n, .i .i64 t]=some [Al (findR z.recs n t)]:=by refine Jx8 (N:=1) rfl ?_;have k1:=Em2 z.recs n t hl;simp (disch:=omega) only [Is7,k1,EVM,EVC,xe,EVP,EV,simprocAttr]
end Go.X.G
/- nsec: the chain of a zone. -/
namespace Go.X.G
open Go Go.X
def anB (x y:Int):Int:=IntKind.u64.wrap ((BitVec.ofInt IntKind.u64.bits x &&& ~~~ BitVec.ofInt IntKind.u64.bits y).toNat:Int)
def adB (x y:Int):Int:=IntKind.u64.wrap ((BitVec.ofInt IntKind.u64.bits x &&& BitVec.ofInt IntKind.u64.bits y).toNat:Int)
def orB (x y:Int):Int:=IntKind.u64.wrap ((BitVec.ofInt IntKind.u64.bits x|||BitVec.ofInt IntKind.u64.bits y).toNat:Int)
theorem In0 (x y:Int):X.bin .andNot (.i .u64 x) (.i .u64 y)=some (.i .u64 (anB x y)):=by rw [Cv];rfl
theorem In2 (x y:Int):X.bin .and (.i .u64 x) (.i .u64 y)=some (.i .u64 (adB x y)):=by rw [Tb];rfl
theorem Ik5 (x y:Int):X.bin .or (.i .u64 x) (.i .u64 y)=some (.i .u64 (orB x y)):=by rw [Gw3];rfl
theorem Ur (l:List Int) (hk:∀t∈l,knw t=true) (hl:l.length≤1000000):S cj 1 [Hp l]=some [.i .u64 (l.foldl bitO 0)]:=by refine Jx9 (N:=1) rfl ?_;have h:=Dh2 l hk hl;generalize l.foldl bitO 0=v at*;simp (disch:=omega) only [Is8,h,EVC,xe,EVP,EV,simprocAttr]
def Ey7:Int:=211106232532992
def Er8:Int:=8796093022212
theorem Ik3:S cj 1 [.l 1 [.i .i64 47, .i .i64 46]]=some [.i .u64 Ey7]:=by
 have:=Ur [47,46] (by decide) (by decide);have e:[47,46].foldl bitO 0=Ey7:=by kernel_rfl
 rw [e] at this;exact this
theorem Ik2:S cj 1 [.l 1 [.i .i64 2, .i .i64 43]]=some [.i .u64 Er8]:=by
 have:=Ur [2,43] (by decide) (by decide);have e:[2,43].foldl bitO 0=Er8:=by kernel_rfl
 rw [e] at this;exact this
def tyO (z:Zone) (n:List UInt8):Int:=anB ((typesR z.recs n).foldl bitO 0) Ey7
def chBits (z:Zone) (n:List UInt8):Int:=orB (if n∈cutsN z then adB (tyO z n) Er8 else tyO z n) Ey7
def P8 (z:Zone) (ttl:Int) (n:List UInt8):Option Rec:=
 if tyO z n=0 then none else some ⟨n,47,ttl,⟨false,0,0,z.origin,[],[],0,0,0,0,0,0,chBits z n⟩⟩
def chain0 (z:Zone) (ttl:Int):List Rec:=(namesN z).filterMap (P8 z ttl)
def Bt1 (z:Zone):Int:=match findR z.recs z.origin 6 with|[]=>0|r::_=>r.data.e
def Hh5 (h:List UInt8) (r:Rec):Rec:={r with data:={r.data with host:=h}}
def lnk (g:List Rec) (i:Nat):List Rec:=
 if 0<i then match g[i - 1]?,g[i]? with
  |some a,some b=>g.set (i - 1) (Hh5 b.name a)
  |_,_=>g
 else g
def Gl3:Nat→Nat→List Rec→List Rec
 |0,_,g=>g
 |k+1,i,g=>Gl3 k (i+1) (lnk g i)
def chainN (z:Zone):List Rec:=Gl3 (chain0 z (Bt1 z)).length 0 (chain0 z (Bt1 z))
theorem Gl2 (g:List Rec) (i:Nat):(lnk g i).length=g.length:=by
 unfold lnk;split
 ·split
  ·rw [F5]
  ·rfl
 ·rfl
theorem Jq7 (l:List Rec) (j:Nat) (h:List UInt8) (x:Rec) (hx:l[j]? =some x):Rh 16 6 [.s h] (Al l) (.i .i64 (j:Int))=some (Al (l.set j (Hh5 h x))):=by
 have h1:=(Av.1 hx).1;have h3:(l.map Rec.pv)[j]? =some x.pv:=by rw [Bh,hx];rfl
 have h0:(0:Int)≤(j:Int):=by omega
 simp only [Rh,Al,h0,G4,h3,and_self,if_true,Ay];have h4:O4 x.pv 6 [.s h]=some (Hh5 h x).pv:=rfl;rw [h4];simp [List.map_set]
theorem Em4 (z:Zone) (ttl:Int) (s:List Rec) (hz:z.wf) (hl:z.recs.length≤1000000) (cl:(cutsN z).length≤1000000) (hn:(namesN z).length≤1000000) (hs:∃r,s=[r]∧r.data.e=ttl) (p1:PV) (N:Nat) (hN:(namesN z).length<N):
  Fj5.ev S N [z.pv,p1, .i .u64 Ey7, .i .u64 Er8,Al s,Bd (cutsN z),Bd (namesN z)]=some (.yld 0 [Al (chain0 z ttl)]):=by
 obtain ⟨r0,rfl,hr0⟩:=hs;have hor:(chain0 z ttl)=[]++(namesN z).filterMap (P8 z ttl):=rfl;rw [hor];have ki:=fun n=>Pn (cutsN z) n cl;have kt:=fun n=>Dh1 z.recs n hl;refine Fy (N:=N) (namesN z) (fun i (g:List Rec)=>[Al g, .i .i64 (i:Int)]) (fun i g r=> .yld 0 [Al (g++r.filterMap (P8 z ttl))]) (fun i g=>g.length≤i) [] rfl (Cc _) hN (fun i g c r hd hi hc hI=> ?_) (fun g hI=> ?_)
 ·left;have e1:=In0 ((typesR z.recs c).foldl bitO 0) Ey7;have e2:anB ((typesR z.recs c).foldl bitO 0) Ey7=tyO z c:=rfl;rw [e2] at e1;have kt:=kt c;have ki:=ki c;have eb:chBits z c=orB (if c∈cutsN z then adB (tyO z c) Er8 else tyO z c) Ey7:=rfl;have hil:(i:Int)<((namesN z).length:Int):=by omega
  generalize (typesR z.recs c).foldl bitO 0=ty at*;by_cases h0:tyO z c=0
  ·have hci:P8 z ttl c=none:=by unfold P8;rw [if_pos h0]
   refine ⟨g,?_,by omega,by rw [Gy4,hci]⟩;rw [h0] at e1;generalize namesN z=nn at*;generalize cutsN z=cc at*;simp (disch:=omega) only [Wh,hc,hil,kt,ki,e1,EVC,xe,EVP,EV,simprocAttr]
  ·have hci:P8 z ttl c=some ⟨c,47,ttl,⟨false,0,0,z.origin,[],[],0,0,0,0,0,0,chBits z c⟩⟩:=by unfold P8;rw [if_neg h0]
   have ho:=Ik5 (if c∈cutsN z then adB (tyO z c) Er8 else tyO z c) Ey7;rw [←eb] at ho;refine ⟨g++[⟨c,47,ttl,⟨false,0,0,z.origin,[],[],0,0,0,0,0,0,chBits z c⟩⟩],?_,by simp;omega,by rw [Gy4,hci,As];rfl⟩;have ea:=In2 (tyO z c) Er8;generalize chBits z c=bits at*;generalize tyO z c=t at*;generalize adB t Er8=u at*;generalize namesN z=nn at*;by_cases h1:c∈cutsN z
   ·rw [if_pos h1] at ho;generalize cutsN z=cc at*;simp (disch:=omega) only [Wh,hc,hil,kt,ki,e1,ea,ho,h0,h1,hr0,EVC,xe,EVP,EV,simprocAttr]
   ·rw [if_neg h1] at ho;generalize cutsN z=cc at*;simp (disch:=omega) only [Wh,hc,hil,kt,ki,e1,ea,ho,h0,h1,hr0,EVC,xe,EVP,EV,simprocAttr]
 ·generalize namesN z=nn at*;simp (disch:=omega) only [Wh,Int.lt_irrefl,EVC,xe,EVP,EV,simprocAttr];simp [Out.goes]
theorem Em3 (c0:List Rec) (hl:c0.length≤1000000) (N:Nat) (hN:c0.length<N) (p0 p1 p2 p3 p4 p5 p6:PV):
  Es9.ev S N [p0,p1,p2,p3,p4,p5,p6,Al c0]=some (.yld 0 [Al (Gl3 c0.length 0 c0)]):=by
 refine Fy (N:=N) c0 (fun i (g:List Rec)=>[Al g, .i .i64 (i:Int)]) (fun i g r=> .yld 0 [Al (Gl3 r.length i g)]) (fun i g=>g.length=c0.length) c0 rfl rfl hN (fun i g c r hd hi hc hI=> ?_) (fun g hI=> ?_)
 ·left;refine ⟨lnk g i,?_,by rw [Gl2];exact hI,rfl⟩;have hil:(i:Int)<(c0.length:Int):=by omega
  unfold lnk;by_cases h0:0<i
  ·have a1:g[i - 1]? =some (g[i - 1]'(by omega)):=Az (by omega);have a2:g[i]? =some (g[i]'(by omega)):=Az (by omega);generalize g[i - 1]'(by omega)=a at*;generalize g[i]'(by omega)=b at*;rw [if_pos h0,a1,a2];simp only;have e1:(i:Int) - 1=((i - 1:Nat):Int):=by omega
   have e2:IntKind.i64.wrap ((i:Int) - 1)=((i - 1:Nat):Int):=by rw [w64 (by omega) (by omega)];exact e1
   have e3:=Jq7 g (i - 1) b.name a a1;have h0':(0:Int)<(i:Int):=by omega
   simp (disch:=omega) only [Wh,hil,h0',e1,e2,e3,a1,a2,EVC,xe,EVP,EV,simprocAttr]
  ·have h0':¬(0:Int)<(i:Int):=by omega
   rw [if_neg h0];simp (disch:=omega) only [Wh,hil,h0',EVC,xe,EVP,EV,simprocAttr]
 ·simp (disch:=omega) only [Wh,Int.lt_irrefl,EVC,xe,EVP,EV,simprocAttr];simp [Out.goes,Gl3]
theorem As2 (z:Zone) (ttl:Int):(chain0 z ttl).length≤(namesN z).length:=List.length_filterMap_le _ _
theorem Eg7 (z:Zone) (hl:z.recs.length≤1000):(cutsN z).length≤1000000:=by have:=Qp ((z.recs.filter (Et z)).map Rec.name);have h2:=Hg (Et z) z.recs;rw [E9] at this;unfold cutsN;omega
theorem Dl3 (z:Zone) (hz:z.wf) (hl:z.recs.length≤1000):S Bs7 1 [z.pv]=some (if P7 z=0 then [Al (chainN z), .i .i64 0] else [Al [], .i .i64 13]):=by
 have hn:=Al6 z hl;have hc:=Eg7 z hl;have hcl:=As2 z (Bt1 z);refine Jb1 (N:=(namesN z).length+1) rfl ?_;have k1:=Dl2 z hz (by omega);by_cases h:P7 z=0
 ·rw [if_pos h];rw [h] at k1;have ho:=Cb4 h;obtain ⟨s,es⟩:=List.length_eq_one_iff.1 ho.soa;have k2:=Dn0 z z.origin 6 (by omega);have k3:=qw z hz (by omega);have k4:=Bk7 z hz (by omega);have em:Bt1 z=s.data.e:=by unfold Bt1;rw [es]
  have l0:=Em4 z (Bt1 z) [s] hz (by omega) hc hn ⟨s,rfl,em.symm⟩ (.i .i64 0) ((namesN z).length+1) (by omega);have l1:=Em3 (chain0 z (Bt1 z)) (by omega) ((namesN z).length+1) (by omega);rw [es] at k2;have ec:Gl3 (chain0 z (Bt1 z)).length 0 (chain0 z (Bt1 z))=chainN z:=rfl;rw [ec] at l1;generalize chainN z=cn at*;generalize chain0 z (Bt1 z)=c0 at*;generalize cutsN z=cc at*;generalize namesN z=nn at*;have o1:=Ik3;have o2:=Ik2;have q1:Jj 1 [.i .i64 47, .i .i64 46]=some (.l 1 [.i .i64 47, .i .i64 46]):=rfl;have q2:Jj 1 [.i .i64 2, .i .i64 43]=some (.l 1 [.i .i64 2, .i .i64 43]):=rfl;simp (disch:=omega) only [Wh,k1,k2,k3,k4,l0,l1,o1,o2,q1,q2,Sp,X9,EVC,xe,EVP,EV,simprocAttr]
 ·rw [if_neg h];simp (disch:=omega) only [Wh,k1,h,Sp,X9,EVC,xe,EVP,EV,simprocAttr]
end Go.X.G
/- nsec: the sample, and the laws NsecCovers, NsecAbsent, NsecEmpty. -/
namespace Go.X.G
open Go Go.X
def smp20:Zone:=⟨[120,46],[⟨[120,46],2,9,⟨false,0,0,[110,46],[],[],0,0,0,0,0,0,0⟩⟩,
 ⟨[120,46],6,9,⟨false,0,0,[110,46],[109,46],[],3,0,0,0,5,0,0⟩⟩,
 ⟨[98,46,120,46],1,9,⟨false,0,1,[],[],[],0,0,0,0,0,0,0⟩⟩]⟩
theorem jg:S Eb1 0 []=some [smp20.pv]:=(Ms ext_mono).2 ⟨3,by kernel_rfl⟩
theorem Ev6:smp20.wf:=by refine ⟨by unfold Qm;decide,by decide,fun r hr=> ?_⟩;simp only [smp20,Am,Dm6,or_false] at hr;rcases hr with rfl|rfl|rfl<;>(constructor<;>(try constructor))<;>simp [Hy3,ik,Qm]
theorem jd:P7 smp20=0:=by kernel_rfl
theorem jc:namesN smp20=[[120,46],[98,46,120,46]]:=by unfold namesN;rw [←b8];kernel_rfl
theorem Ac9:cutsN smp20=[]:=by unfold cutsN;rw [←b8];kernel_rfl
def c20a:Rec:=⟨[120,46],47,5,⟨false,0,0,[98,46,120,46],[],[],0,0,0,0,0,0,211106232533060⟩⟩
def c20b:Rec:=⟨[98,46,120,46],47,5,⟨false,0,0,[120,46],[],[],0,0,0,0,0,0,211106232532994⟩⟩
theorem jf:chainN smp20=[c20a,c20b]:=by
 have e:chain0 smp20 (Bt1 smp20)=[Hh5 [120,46] c20a,c20b]:=by
  unfold chain0;rw [jc];unfold P8 chBits;rw [Ac9]
  kernel_rfl
 have e2:chainN smp20=Gl3 2 0 [Hh5 [120,46] c20a,c20b]:=by unfold chainN;rw [e];rfl
 exact e2.trans (by kernel_rfl)
theorem Ct6:∀r∈[c20a,c20b],r.wf:=by intro r hr;simp only [Am,Dm6,or_false] at hr;rcases hr with rfl|rfl<;>(constructor<;>(try constructor))<;>simp [Hy3,ik,Qm,c20a,c20b]
theorem As8:S Bt0 0 []=some [.b true]:=by
 refine Jb8 (N:=1) rfl ?_;have k1:=jg;have k2:=Dl3 smp20 Ev6 (by decide);rw [if_pos jd,jf] at k2;have a1:=Wq [c20a,c20b] [120,46] [99,46,120,46] Ct6 (by decide) (by decide) (by decide);have a2:=Wq [c20a,c20b] [120,46] [98,46,120,46] Ct6 (by decide) (by decide) (by decide);have a3:=gt [c20a,c20b] [120,46] ⟨[98,46,120,46],15⟩ Ct6 (by decide) (by decide) (by decide);have e1:Y2 [c20a,c20b] [120,46] [99,46,120,46]=true:=by kernel_rfl
 have e2:Y2 [c20a,c20b] [120,46] [98,46,120,46]=false:=by kernel_rfl
 have e3:fg [c20a,c20b] [120,46] ⟨[98,46,120,46],15⟩=true:=by kernel_rfl
 rw [e1] at a1;rw [e2] at a2;rw [e3] at a3;have h0:[c20a,c20b][0]? =some c20a:=rfl;have h1:[c20a,c20b][1]? =some c20b:=rfl;have hl:[c20a,c20b].length=2:=rfl;have n0:c20a.name=[120,46]:=rfl;have n1:c20a.data.host=[98,46,120,46]:=rfl;have n2:c20b.data.host=[120,46]:=rfl;have n3:c20b.ttl=5:=rfl;generalize [c20a,c20b]=l at*;generalize c20a=ra at*;generalize c20b=rb at*;generalize smp20=z at*;simp (disch:=first|omega|decide) only [It9,k1,k2,a1,a2,a3,h0,h1,hl,n0,n1,n2,n3,Fj8,Sp,X9,EVM,EVC,xe,EVP,EV,simprocAttr]
theorem law_NsecEmpty (l:List Rec) (zone:List UInt8) (q:Ques) (hl:jp l) (hz:Qm zone) (hq:q.wf):S Iv0 3 [Al l, .s zone,q.pv]=some [.b true]:=by
 refine Jt4 (N:=1) rfl ?_;have ka:=As8;have ks:=Ad0 l;unfold Qm at hz;rcases Ak (vb l) with h1|h1
 ·have hll:l.length≤1000000:=by simp [vb] at h1;omega
  by_cases h2:zone.length≤300
  ·by_cases h3:q.name.length≤300
   ·have k1:=gt l zone q hl.2 hll (by omega) (by omega);have k2:=At5 l zone q hl.2 hll (by omega) (by omega);simp (disch:=omega) only [In7,ka,ks,h1,k1,k2,Ih7,beq_self_eq_true,EVM,EVC,xe,EVP,EV,simprocAttr]
   ·simp (disch:=omega) only [In7,ka,ks,h1,EVM,EVC,xe,EVP,EV,simprocAttr]
  ·simp (disch:=omega) only [In7,ka,ks,h1,EVM,EVC,xe,EVP,EV,simprocAttr]
 ·simp (disch:=omega) only [In7,ka,ks,h1,EVM,EVC,xe,EVP,EV,simprocAttr]
end Go.X.G
