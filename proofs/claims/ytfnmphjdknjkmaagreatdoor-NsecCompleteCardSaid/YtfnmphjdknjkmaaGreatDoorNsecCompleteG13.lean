/- Stable sorting: the Ov. -/
import Derived.Test.YtfnmphjdknjkmaaGreatDoorNsecCompleteG12
import Derived.Test.YtfnmphjdknjkmaaGreatDoorNsecCompleteG11
import Derived.Test.YtfnmphjdknjkmaaGreatDoorNsecCompleteG9
import Derived.Test.YtfnmphjdknjkmaaGreatDoorNsecCompleteG8
open Bool renaming eq_false_or_eq_true→Ak,and_eq_true→Av,false_eq_true→Ad,or_eq_true→An,not_eq_true'→A6,eq_iff_iff→Cr,not_eq_false→F8,true_and→Qs
open Classical renaming not_not→F7
open Int renaming toNat_natCast→Ed
open List renaming getElem?_eq_some_iff→Aw,getElem?_eq_getElem→Ay,length_append→Ab,mem_cons→Am,length_take→Ap,append_assoc→As,pairwise_cons→A0,getElem?_append_right→A3,mem_of_getElem?→A4,length_cons→A5,getElem?_drop→A8,all_eq_true→By,mem_filter→Bz,length_pos_iff→Bc,length_nil→Bf,take_append_drop→Bh,getElem?_map→Bl,any_eq_true→Bm,mem_append_right→Bs,length_drop→B3,mem_append→B5,take_add_one→Cq,mem_append_left→Cy,drop_drop→Cf,nil_append→Ch,drop_eq_getElem_cons→Cl,mem_map→Dj,getElem?_of_mem→Dk,take_length→Dq,length_filter_le→Dw,getElem_mem→Dd,suffix_iff_eq_drop→Dr,append_nil→D4,take_of_length_le→D5,length_map→Ew,drop_zero→Ey,isSuffixOf_iff_suffix→Fb,count_cons_of_ne→Gq,map_cons→Gx,length_set→Gh,mem_of_mem_take→G4,count_cons_self→G5,mem_of_mem_drop→I7,getLast_eq_getElem→Jn,flatMap_cons→Jr,drop_of_length_le→Kr,filter_cons→Lt,drop_set_of_lt→Tw,getElem?_set_self→Zd,length_mergeSort→pg,getElem_take→zj,take_take→Bb3,take_left→Bb4,mem_nil_iff→Dk7,filterMap_cons→Ef8,map_mergeSort→Hj5,findIdx?_cons→Hj6,find?_eq_none→Hj7,count_eq_zero→Hj8
open Nat renaming le_refl→Af,mul_le_mul_right→Bd,zero_le→Ct,le_trans→C9,add_zero→Dz,min_eq_left→J9,add_sub_cancel→L3
open Option renaming bind_some→Az,map_some→A7
set_option maxHeartbeats 1000000
set_option linter.defProp false
set_option linter.unusedVariables false
set_option linter.unusedSimpArgs false
namespace Go.X.G
open Go Go.X
def oz {α:Type} {le:α→α→Bool} (ht:TP le) {bs:Nat} {Y LY:List α} (h:Blk le bs Y LY) (hl:Y.length≤2*bs) (hb:bs<Y.length):Stab le (mrg le (Y.take bs) (Y.drop bs)) LY:=by have h1:=h.head;have h2:=(h.tail).all (by rw [B3];omega);have:=Stab.mrg ht h1 h2;rwa [Bh] at this
def Blk.pre {α:Type} {le:α→α→Bool} {bs k:Nat} {Y LY:List α} (h:Blk le bs Y LY):Blk le bs (Y.take (k*bs)) (LY.take (k*bs)):=by
 refine ⟨by simp [h.len],fun j=> ?_⟩;rw [List.drop_take,List.drop_take,Bb3,Bb3];by_cases hj:j<k
 ·have e:(j+1)*bs≤k*bs:=Bd _ hj;rw [Nat.succ_mul] at e;rw [J9 (by omega)];exact h.st j
 ·have e:k*bs≤j*bs:=Bd _ (by omega);rw [show k*bs - j*bs=0 by omega,Nat.min_eq_right (by omega),List.take_zero,List.take_zero];exact Tb le
section
variable {g:Nat} {caps:List PV} {c:Rec→Rec→Int} {P:Rec→Prop}
def Hx0 (hC:Cmp g caps c P) (ht:TP (leC c)) (l:List Rec) (hP:∀y∈l,P y) (hs:l.length≤1000000) (N:Nat) (hN:l.length+2<N):
  ∃(X LX Y:List Rec) (q:Nat),Cd9.ev S N [Ag l, .i .i64 l.length, .f g caps]=some (.yld 0 [.i .i64 X.length,Ag (X++Y)])∧l=LX++Y∧X.length=q*20∧Y.length<20∧Blk (leC c) 20 X LX∧∀y∈X++Y,P y:=by
 have key:=Hl (fn:=S) (N:=N) (η:=[Ag l, .i .i64 l.length, .f g caps]) (id:=1) (init:=[.c (.i .i64 0), .c (.i .i64 20), .v 0]) (body:=yv) (α:=List Rec×List Rec×List Rec×Nat)
  (fun w=>[.i .i64 (w.1.length:Int), .i .i64 ((w.1.length:Int)+20),Ag (w.1++w.2.2.1)])
  (fun o=>∃(X LX Y:List Rec) (q:Nat),o= .yld 0 [.i .i64 X.length,Ag (X++Y)]∧l=LX++Y∧X.length=q*20∧Y.length<20∧Blk (leC c) 20 X LX∧∀y∈X++Y,P y)
  (fun w=>l=w.2.1++w.2.2.1∧w.1.length=w.2.2.2*20∧Blk (leC c) 20 w.1 w.2.1∧∀y∈w.1++w.2.2.1,P y) (fun w=>w.2.2.1.length) ([],[],l,0) ?_ ⟨rfl,by simp,Blk.nil _ _,by simpa using hP⟩ (by simp only;omega) ?_
 ·obtain ⟨o,h1,X,LX,Y,q,rfl,h2⟩:=key;exact ⟨X,LX,Y,q,h1,h2⟩
 ·simp (disch:=omega) only [EVT,EVM,EVC,xe,EVP,EV,simprocAttr]
  try simp
 ·rintro ⟨X,LX,Y,q⟩ ⟨h1,h2,h3,h4⟩;simp only at h1 h2 h3 h4;have hlen:=congrArg List.length h1;simp only [Ab] at hlen;have hXL:=h3.len;by_cases hge:20≤Y.length
  ·left;have eY:Y.take 20++Y.drop 20=Y:=Bh _ _;have l1:(Y.take 20).length=20:=by rw [Ap];omega
   have l2:(Y.drop 20).length=Y.length - 20:=B3;have eXY:X++Y.take 20++Y.drop 20=X++Y:=by rw [As,eY]
   obtain ⟨R,k1,k2,k3⟩:=Yr hC ht X (Y.take 20) (Y.drop 20) (X.length:Int) ((X.length:Int)+20) rfl (by omega) (by rw [eXY];exact h4) (by rw [eXY,Ab];omega);rw [eXY] at k3;refine ⟨(X++R,LX++Y.take 20,Y.drop 20,q+1),?_,⟨by simp only;rw [h1,As,eY],by simp only [Ab];omega,Blk.app h2 h3 (Blk.one k1 k2 (by omega)),fun y hy=>h4 y ?_⟩,by simp only;omega⟩
   ·have e1:((X++R).length:Int)=(X.length:Int)+20:=by simp only [Ab];omega
    have hge':(X.length:Int)+20≤(l.length:Int):=by omega
    simp only;rw [e1];generalize X++R++Y.drop 20=s1 at*;generalize X++Y=s0 at*;simp (disch:=omega) only [R5,hge',k3,Dl,Kj,EVT,EVM,EVC,xe,EVP,EV,simprocAttr]
   ·have:=k1.mem ht y;simp only [B5] at hy;rcases hy with (hy|hy)|hy
    ·simp [hy]
    ·exact Bs _ (G4 (this.1 hy))
    ·exact Bs _ (I7 hy)
  ·right;have hge':¬(X.length:Int)+20≤(l.length:Int):=by omega
   refine ⟨.yld 0 [.i .i64 X.length,Ag (X++Y)],?_,rfl,X,LX,Y,q,rfl,h1,h2,by omega,h3,h4⟩;simp only;generalize X++Y=s0 at*;simp (disch:=omega) only [R5,hge',EVT,EVM,EVC,xe,EVP,EV,simprocAttr]
def Hw9 (hC:Cmp g caps c P) (ht:TP (leC c)) (l r:List Rec) (bs:Nat) (hbs:0<bs) (hbs2:bs<l.length) (hr:Blk (leC c) bs r l) (hP:∀y∈r,P y) (hs:l.length≤1000000) (w0:PV) (w3 w4 w5:PV) (N:Nat) (hN:l.length+2<N):
  ∃(X LX Y LY:List Rec) (q:Nat),Cc0.ev S N [w0, .i .i64 l.length, .f g caps,w3,w4,w5, .i .i64 bs,Ag r]=some (.yld 2 [.i .i64 X.length,Ag (X++Y)])∧l=LX++LY∧X.length=q*(2*bs)∧Y.length<2*bs∧Blk (leC c) (2*bs) X LX∧Blk (leC c) bs Y LY∧∀y∈X++Y,P y:=by
 have key:=Hl (fn:=S) (N:=N) (η:=[w0, .i .i64 l.length, .f g caps,w3,w4,w5, .i .i64 bs,Ag r]) (id:=3) (init:=[.c (.i .i64 0), .bin .mul (.c (.i .i64 2)) (.v 6), .v 7]) (body:=xl) (α:=(List Rec×List Rec)×(List Rec×List Rec)×Nat)
  (fun w=>[.i .i64 (w.1.1.length:Int), .i .i64 ((w.1.1.length:Int)+2*bs),Ag (w.1.1++w.2.1.1)])
  (fun o=>∃(X LX Y LY:List Rec) (q:Nat),o= .yld 2 [.i .i64 X.length,Ag (X++Y)]∧l=LX++LY∧X.length=q*(2*bs)∧Y.length<2*bs∧Blk (leC c) (2*bs) X LX∧Blk (leC c) bs Y LY∧∀y∈X++Y,P y)
  (fun w=>l=w.1.2++w.2.1.2∧w.1.1.length=w.2.2*(2*bs)∧Blk (leC c) (2*bs) w.1.1 w.1.2∧Blk (leC c) bs w.2.1.1 w.2.1.2∧∀y∈w.1.1++w.2.1.1,P y) (fun w=>w.2.1.1.length) (([],[]),(r,l),0) ?_ ⟨rfl,by simp,Blk.nil _ _,hr,by simpa using hP⟩ (by have:=hr.len;simp only;omega) ?_
 ·obtain ⟨o,h1,X,LX,Y,LY,q,rfl,h2⟩:=key;exact ⟨X,LX,Y,LY,q,h1,h2⟩
 ·simp (disch:=omega) only [EVT,EVM,EVC,xe,EVP,EV,simprocAttr];simp
 ·rintro ⟨⟨X,LX⟩,⟨Y,LY⟩,q⟩ ⟨h1,h2,h3,h4,h5⟩;simp only at h1 h2 h3 h4 h5;have hlen:=congrArg List.length h1;simp only [Ab] at hlen;have hXL:=h3.len;have hYL:=h4.len;by_cases hge:2*bs≤Y.length
  ·left;have eY:Y.take (2*bs)++Y.drop (2*bs)=Y:=Bh _ _;have l1:(Y.take (2*bs)).length=2*bs:=by rw [Ap];omega
   have l2:(Y.drop (2*bs)).length=Y.length - 2*bs:=B3;have hp:=h4.pre (k:=2);have hz:Blk (leC c) bs (Y.drop (2*bs)) (LY.drop (2*bs)):=by have:=h4.tail.tail;rwa [Cf,Cf,show bs+bs=2*bs by omega] at this
   have hst:=oz ht hp (by omega) (by omega);have sA:((Y.take (2*bs)).take bs).Pairwise fun x y=>leC c x y=true:=hp.head.sorted;have sB:((Y.take (2*bs)).drop bs).Pairwise fun x y=>leC c x y=true:=(hp.tail.all (by rw [B3];omega)).sorted;have lA:((Y.take (2*bs)).take bs).length=bs:=by rw [Ap];omega
   have lB:((Y.take (2*bs)).drop bs).length=bs:=by rw [B3];omega
   have eAB:(Y.take (2*bs)).take bs++(Y.take (2*bs)).drop bs=Y.take (2*bs):=Bh _ _;generalize (Y.take (2*bs)).take bs=A at*;generalize (Y.take (2*bs)).drop bs=B at*;have eXY:X++A++B++Y.drop (2*bs)=X++Y:=by rw [As X,eAB,As,eY]
   have hm:=K2 hC ht (A.length+B.length) X A B (Y.drop (2*bs)) (X.length:Int) ((X.length:Int)+bs) ((X.length:Int)+2*bs) (Af _) (by intro e;rw [e] at lA;simp at lA;omega) (by intro e;rw [e] at lB;simp at lB;omega) sA sB rfl (by omega) (by omega) (by rw [eXY,Ab];omega) (by rw [eXY];exact h5);rw [eXY] at hm;have lM:=U4 (leC c) A B;have eL:LY.take (2*bs)++LY.drop (2*bs)=LY:=Bh _ _;refine ⟨((X++mrg (leC c) A B,LX++LY.take (2*bs)),(Y.drop (2*bs),LY.drop (2*bs)),q+1),?_,⟨by simp only;rw [h1,As,eL],by simp only [Ab];rw [Nat.succ_mul];omega,Blk.app h2 h3 (Blk.one hst (by rw [lM,Ap];omega) (by omega)),hz,fun y hy=>h5 y ?_⟩,by simp only;omega⟩
   ·have e1:((X++mrg (leC c) A B).length:Int)=(X.length:Int)+2*bs:=by simp only [Ab];omega
    have hge':(X.length:Int)+2*(bs:Int)≤(l.length:Int):=by omega
    simp only;rw [e1];generalize X++mrg (leC c) A B++Y.drop (2*bs)=s1 at*;generalize X++Y=s0 at*;simp (disch:=omega) only [R5,hge',hm,Dl,Kj,EVT,EVM,EVC,xe,EVP,EV,simprocAttr]
   ·rw [←eXY];simp only [B5,mrg_mem] at hy ⊢
    grind
  ·right;have hge':¬(X.length:Int)+2*(bs:Int)≤(l.length:Int):=by omega
   refine ⟨.yld 2 [.i .i64 X.length,Ag (X++Y)],?_,rfl,X,LX,Y,LY,q,rfl,h1,h2,by omega,h3,h4,h5⟩;simp only;generalize X++Y=s0 at*;simp (disch:=omega) only [R5,hge',EVT,EVM,EVC,xe,EVP,EV,simprocAttr]
def Hx1 (hC:Cmp g caps c P) (ht:TP (leC c)) (l r:List Rec) (bs:Nat) (hbs:0<bs) (hbs2:bs<l.length) (hr:Blk (leC c) bs r l) (hP:∀y∈r,P y) (hs:l.length≤1000000) (w0 w3 w4 w5:PV) (N:Nat) (hN:l.length+2<N):
  ∃r',Blk (leC c) (2*bs) r' l∧(∀y∈r',P y)∧ew.ev S N [w0, .i .i64 l.length, .f g caps,w3,w4,w5, .i .i64 bs,Ag r]=some (.yld 1 [.i .i64 ((2*bs:Nat):Int),Ag r']):=by
 obtain ⟨X,LX,Y,LY,q,k,h1,h2,h3,h4,h5,h6⟩:=Hw9 hC ht l r bs hbs hbs2 hr hP hs w0 w3 w4 w5 N hN;have hlen:=congrArg List.length h1;simp only [Ab] at hlen;have hXL:=h4.len;have hYL:=h5.len;have hlt:(bs:Int)<(l.length:Int):=by omega
 have e2:((2*bs:Nat):Int)=(bs:Int)*2:=by omega
 rw [e2];by_cases hge:bs<Y.length
 ·have eY:Y.take bs++Y.drop bs=Y:=Bh _ _;have hst:=oz ht h5 (by omega) hge;have sA:=h5.head.sorted;have sB:=(h5.tail.all (by rw [B3];omega)).sorted;have lA:(Y.take bs).length=bs:=by rw [Ap];omega
  have lB:(Y.drop bs).length=Y.length - bs:=B3;generalize Y.take bs=A at*;generalize Y.drop bs=B at*;have eXY:X++A++B++[]=X++Y:=by rw [D4,As,eY]
  have hm:=K2 hC ht (A.length+B.length) X A B [] (X.length:Int) ((X.length:Int)+bs) (l.length:Int) (Af _) (by intro e;rw [e] at lA;simp at lA;omega) (by intro e;rw [e] at lB;simp at lB;omega) sA sB rfl (by omega) (by omega) (by rw [eXY,Ab];omega) (by rw [eXY];exact h6);rw [eXY,D4] at hm;have lM:=U4 (leC c) A B;refine ⟨X++mrg (leC c) A B,by rw [h1];exact Blk.app h2 h4 (Blk.one hst (by omega) (by omega)),fun y hy=>h6 y (by
   rw [←eXY];simp only [B5,mrg_mem] at hy ⊢
   grind),?_⟩
  have hge':(X.length:Int)+(bs:Int)<(l.length:Int):=by omega
  generalize X++mrg (leC c) A B=s1 at*;generalize X++Y=s0 at*;simp (disch:=omega) only [R5,hlt,hge',k,hm,Dl,Kj,EVT,EVM,EVC,xe,EVP,EV,simprocAttr]
 ·refine ⟨X++Y,by rw [h1];exact Blk.app h2 h4 (Blk.one (h5.all (by omega)) hYL (by omega)),h6,?_⟩;have hge':¬(X.length:Int)+(bs:Int)<(l.length:Int):=by omega
  generalize X++Y=s0 at*;simp (disch:=omega) only [R5,hlt,hge',k,EVT,EVM,EVC,xe,EVP,EV,simprocAttr]
def Bh2 (hC:Cmp g caps c P) (ht:TP (leC c)) (l:List Rec) (hP:∀y∈l,P y) (hs:l.length≤1000000):
  ∃r,Stab (leC c) r l∧r.length=l.length∧S lv 1048579 [Ag l, .i .i64 l.length, .f g caps]=some [Ag r]:=by
 obtain ⟨N,hN⟩:∃N,N=l.length+3:=⟨_,rfl⟩;obtain ⟨X,LX,Y,q,k0,h1,h2,h3,h4,h5⟩:=Hx0 hC ht l hP hs N (by omega);have hlen:=congrArg List.length h1;simp only [Ab] at hlen;have hXL:=h4.len;obtain ⟨R,i1,i2,i3⟩:=Yr hC ht X Y [] (X.length:Int) (l.length:Int) rfl (by omega) (by simpa using h5) (by simp;omega);simp only [D4] at i3;have hB:Blk (leC c) 20 (X++R) l:=by rw [h1];exact Blk.app h2 h4 (Blk.one i1 i2 (by omega))
 have hP':∀y∈X++R,P y:=fun y hy=>h5 y (by
  have:=i1.mem ht y;simp only [B5] at hy ⊢
  grind)
 have key:=Hl (fn:=S) (N:=N) (η:=[Ag l, .i .i64 l.length, .f g caps, .i .i64 X.length,Ag (X++Y),Ag (X++R)]) (id:=1) (init:=[.c (.i .i64 20), .v 5]) (body:=ew) (α:=Nat×List Rec)
  (fun w=>[.i .i64 (w.1:Int),Ag w.2])
  (fun o=>∃r,Stab (leC c) r l∧r.length=l.length∧o= .yld 0 [Ag r])
  (fun w=>0<w.1∧Blk (leC c) w.1 w.2 l∧∀y∈w.2,P y) (fun w=>l.length - w.1) (20,X++R) ?_ ⟨by simp,hB,hP'⟩ (by simp only;omega) ?_
 ·obtain ⟨o,k1,r,k2,k3,rfl⟩:=key;refine ⟨r,k2,k3,?_⟩;refine Fs5 (N:=N) rfl ?_;have k4:Cc5.ev S N [Ag l, .i .i64 l.length, .f g caps, .i .i64 X.length,Ag (X++Y),Ag (X++R)]=_:=k1;clear k1;generalize X++Y=s0 at*;generalize X++R=s1 at*;simp (disch:=omega) only [R5,k0,i3,k4,Dl,Kj,EVT,EVM,EVC,xe,EVP,EV,simprocAttr]
 ·generalize X++Y=s0 at*;generalize X++R=s1 at*;simp (disch:=omega) only [EVT,EVM,EVC,xe,EVP,EV,simprocAttr]
 ·rintro ⟨bs,r⟩ ⟨g1,g2,g3⟩;simp only at g1 g2 g3;have hr:=g2.len;by_cases hlt:bs<l.length
  ·left;obtain ⟨r',k1,k2,k3⟩:=Hx1 hC ht l r bs g1 hlt g2 g3 hs (Ag l) (.i .i64 X.length) (Ag (X++Y)) (Ag (X++R)) N (by omega);exact ⟨(2*bs,r'),k3,⟨by simp only;omega,k1,k2⟩,by simp only;omega⟩
  ·right;have hlt':¬(bs:Int)<(l.length:Int):=by omega
   refine ⟨.yld 0 [Ag r],?_,rfl,r,g2.all (by omega),hr,rfl⟩;generalize X++Y=s0 at*;generalize X++R=s1 at*;simp (disch:=omega) only [R5,hlt',EVT,EVM,EVC,xe,EVP,EV,simprocAttr]
def Qd (hC:Cmp g caps c P) (ht:TP (leC c)) (l:List Rec) (hP:∀y∈l,P y) (hs:l.length≤1000000):
  ∃r,Stab (leC c) r l∧r.length=l.length∧S lr 1048578 [Ag l, .f g caps]=some [Ag r]:=by
 obtain ⟨r,h1,h2,h3⟩:=Bh2 hC ht l hP hs;refine ⟨r,h1,h2,?_⟩;refine Gj9 (N:=1) rfl ?_;simp (disch:=omega) only [Fg0,h3,Dl,Kj,EVT,EVM,EVC,xe,EVP,EV,simprocAttr]
end
end Go.X.G
/- Records compacted: the library's function. -/
namespace Go.X.G
open Go Go.X
def yp (l:List Rec) (g:Nat) (caps:List PV) (eq2:Rec→Rec→Bool) (h:∀x∈l,∀y∈l,S g 2 (x.pv::y.pv::caps)=some [.b (eq2 x y)]) (hl:l.length≤1000000):S lp 1048578 [Ag l, .f g caps]=some [Ag (cpt eq2 l)]:=by
 refine Gj7 (N:=l.length+2) rfl ?_;by_cases h2:(l.length:Int)<2
 ·have e:cpt eq2 l=l:=by
   match l,h2 with
   |[],_=>rfl
   |[x],_=>rfl
   |_::_::_,h=>simp at h;omega
  rw [e];simp (disch:=omega) only [Pj,h2,EVT,EVM,EVC,xe,EVP,EV,simprocAttr]
 ·-- the inner Gp, from a place where two neighbours are equal
  have inner:∀k:Nat,1≤k→k<l.length→cpt eq2 (l.take (k+1))=l.take k→∃s:List Rec,s.length=l.length∧s.take (cpt eq2 l).length=cpt eq2 l∧Cc6.ev S (l.length+2) [Ag l, .f g caps, .i .i64 (k:Int),Ag l, .b true]=some (.yld 2 [.i .i64 ((cpt eq2 l).length:Int),Ag s]):=by
   intro k hk1 hk hcp;have key:=Hl (fn:=S) (N:=l.length+2) (η:=[Ag l, .f g caps, .i .i64 (k:Int),Ag l, .b true]) (id:=3) (init:=[(.v 2),(.c (.i .i64 (1))),(.v 3)]) (body:=xm) (α:=Nat×Nat×List Rec)
    (fun a=>[.i .i64 (a.1:Int), .i .i64 (a.2.1:Int),Ag a.2.2])
    (fun o=>∃s:List Rec,s.length=l.length∧s.take (cpt eq2 l).length=cpt eq2 l∧o= .yld 2 [.i .i64 ((cpt eq2 l).length:Int),Ag s])
    (fun a=>1≤a.2.1∧k+a.2.1≤l.length∧a.1<k+a.2.1∧a.2.2.length=l.length∧a.2.2.take a.1=cpt eq2 (l.take (k+a.2.1))∧(cpt eq2 (l.take (k+a.2.1))).length=a.1∧a.2.2.drop (k+a.2.1 - 1)=l.drop (k+a.2.1 - 1))
    (fun a=>l.length - a.2.1) (k,1,l) (by simp (disch:=omega) only [EVT,EVM,EVC,xe,EVP,EV,simprocAttr])
    ⟨by simp,by simp;omega,by simp,rfl,by simp only;rw [hcp],by simp only;rw [hcp,Ap];omega,rfl⟩ (by simp only;omega) ?_
   ·obtain ⟨o,h3,s,h4,h5,rfl⟩:=key;exact ⟨s,h4,h5,h3⟩
   ·rintro ⟨i,j,s⟩ ⟨a1,a2,a3,a4,a5,a6,a7⟩;simp only at a1 a2 a3 a4 a5 a6 a7;by_cases hj:k+j<l.length
    ·left;have c1:s[k+j]? =l[k+j]? :=by have:=congrArg (fun q=>q[1]?) a7;simp only [A8] at this;rwa [show k+j - 1+1=k+j by omega] at this
     have c0:s[k+j - 1]? =l[k+j - 1]? :=by have:=congrArg (fun q=>q[0]?) a7;simpa only [A8,Dz] using this
     have g1:l[k+j]? =some (l[k+j]'hj):=Ay hj;have g0:l[k+j - 1]? =some (l[k+j - 1]'(by omega)):=Ay (by omega);have tk:l.take (k+(j+1))=l.take (k+j)++[l[k+j]'hj]:=by rw [show k+(j+1)=(k+j)+1 by omega,Cq,g1];rfl
     have ne:l.take (k+j)≠[]:=by intro h;have:=congrArg List.length h;rw [Ap,Bf] at this;omega
     have gl:(l.take (k+j)).getLast ne=l[k+j - 1]'(by omega):=by rw [Jn];simp only [zj,Ap];congr 1;omega
     have cs:=Nh eq2 (l[k+j]'hj) (l.take (k+j)) ne;rw [←tk,gl] at cs;have hc:=h (l[k+j]'hj) (Dd _) (l[k+j - 1]'(by omega)) (Dd _);generalize l[k+j]'hj=x at*;generalize l[k+j - 1]'(by omega)=y at*;have hjj:(j:Int)<(s.length:Int) - (k:Int):=by omega
     have i1:Ht 16 (Ag s) (.i .i64 ((k:Int)+(j:Int)))=some x.pv:=by rw [Lv _ _ _ (by omega),show ((k:Int)+(j:Int)).toNat=k+j by omega,c1,g1];rfl
     have i0:Ht 16 (Ag s) (.i .i64 ((k:Int)+((j:Int) - 1)))=some y.pv:=by rw [Lv _ _ _ (by omega),show ((k:Int)+((j:Int) - 1)).toNat=k+j - 1 by omega,c0,g0];rfl
     have ls:Hh 16 (Ag s) (.i .i64 (k:Int)) (.i .i64 (s.length:Int))=some (Ag (s.drop k)):=by rw [Hg _ _ _ _ _ (by omega) (by omega) (by omega)];simp
     have e1:(s.drop k)[j]? =some x:=by rw [A8,c1,g1]
     have e0:(s.drop k)[j - 1]? =some y:=by rw [A8,show k+(j - 1)=k+j - 1 by omega,c0,g0]
     have si:∃w,s[i]? =some w:=⟨_,Ay (by omega)⟩;obtain ⟨w,si⟩:=si;have ej:((j:Int) - 1).toNat=j - 1:=by omega
     by_cases hxy:eq2 x y=true
     ·refine ⟨(i,j+1,s),?_,⟨by simp,by simp only;omega,by simp only;omega,a4,?_,?_,?_⟩,by simp only;omega⟩
      ·simp (disch:=omega) only [Pj,hjj,i1,i0,ls,e1,e0,ej,hc,hxy,EVT,EVM,EVC,xe,EVP,EV,simprocAttr]
      ·simp only;rw [cs,a5];simp [hxy]
      ·simp only;rw [cs,Ab,a6];simp [hxy]
      ·simp only;rw [show k+(j+1) - 1=(k+j - 1)+1 by omega,←Cf,←Cf,a7]
     ·refine ⟨(i+1,j+1,s.set i x),?_,⟨by simp,by simp only;omega,by simp only;omega,by simpa using a4,?_,?_,?_⟩,by simp only;omega⟩
      ·simp (disch:=omega) only [Pj,hjj,i1,i0,ls,e1,e0,ej,si,hc,hxy,EVT,EVM,EVC,xe,EVP,EV,simprocAttr]
      ·simp only;rw [cs,Cq,Zd (by omega),List.take_set_of_le (by omega),a5];simp [hxy]
      ·simp only;rw [cs,Ab,a6];simp [hxy]
      ·simp only;rw [show k+(j+1) - 1=(k+j - 1)+1 by omega,Tw (by omega),←Cf,←Cf,a7]
    ·right;have ek:k+j=l.length:=by omega
     rw [ek,Dq] at a5 a6;have hjj:¬(j:Int)<(s.length:Int) - (k:Int):=by omega
     refine ⟨.yld 2 [.i .i64 (i:Int),Ag s],?_,rfl,s,a4,by rw [a6];exact a5,by rw [a6]⟩;simp (disch:=omega) only [Pj,hjj,EVT,EVM,EVC,xe,EVP,EV,simprocAttr]
  have key:Cf3.ev S (l.length+2) [Ag l, .f g caps]=some (if cpt eq2 l=l then .yld 0 [Ag l] else .ret [Ag (cpt eq2 l)]):=by
   have:=Hl (fn:=S) (N:=l.length+2) (η:=[Ag l, .f g caps]) (id:=1) (init:=[(.c (.i .i64 (1))),(.v 0)]) (body:=yz) (α:=Nat)
    (fun k=>[.i .i64 (k:Int),Ag l]) (fun o=>o=if cpt eq2 l=l then .yld 0 [Ag l] else .ret [Ag (cpt eq2 l)])
    (fun k=>1≤k∧k≤l.length∧cpt eq2 (l.take k)=l.take k) (fun k=>l.length - k) 1 (by simp (disch:=omega) only [EVT,EVM,EVC,xe,EVP,EV,simprocAttr])
    ⟨Af 1,by omega,by cases l with
     |nil=>simp at h2
     |cons x r=>rfl⟩ (by omega) ?_
   ·obtain ⟨o,h3,h4⟩:=this;rw [←h4];exact h3
   ·rintro k ⟨k1,k2,k3⟩;by_cases hk:k<l.length
    ·have g1:l[k]? =some l[k]:=Ay hk;have g0:l[k - 1]? =some (l[k - 1]'(by omega)):=Ay (by omega);have tk:l.take (k+1)=l.take k++[l[k]]:=by rw [Cq,g1];rfl
     have ne:l.take k≠[]:=by intro h;have:=congrArg List.length h;rw [Ap,Bf] at this;omega
     have gl:(l.take k).getLast ne=l[k - 1]'(by omega):=by rw [Jn];simp only [zj,Ap];congr 1;omega
     have cs:=Nh eq2 l[k] (l.take k) ne;rw [←tk,gl,k3] at cs;have hkk:(k:Int)<(l.length:Int):=by omega
     have i1:Ht 16 (Ag l) (.i .i64 (k:Int))=some (l[k]).pv:=by rw [Lv _ _ _ (by omega),show ((k:Int)).toNat=k by omega,g1];rfl
     have i0:Ht 16 (Ag l) (.i .i64 ((k:Int) - 1))=some (l[k - 1]'(by omega)).pv:=by rw [Lv _ _ _ (by omega),show ((k:Int) - 1).toNat=k - 1 by omega,g0];rfl
     have hc:=h l[k] (Dd _) (l[k - 1]'(by omega)) (Dd _);by_cases hxy:eq2 l[k] (l[k - 1]'(by omega))=true
     ·right;have cs':cpt eq2 (l.take (k+1))=l.take k:=by rw [cs];simp [hxy]
      obtain ⟨s,s1,s2,s3⟩:=inner k k1 hk cs';have hlt:cpt eq2 l≠l:=by
       intro h;have q:(cpt eq2 l).length≤(cpt eq2 (l.take (k+1))).length+(l.drop (k+1)).length:=by
        have:∀(b a:List Rec),a≠[]→(cpt eq2 (a++b)).length≤(cpt eq2 a).length+b.length:=by
         intro b
         induction b with
         |nil=>intro a _;simp
         |cons x r ih=>
          intro a ha;have h1:=ih (a++[x]) (by simp);rw [Nh _ _ _ ha] at h1;rw [show a++x::r=a++[x]++r by simp];refine C9 h1 ?_;rw [Ab];split<;>simp<;>omega
        have h3:=this (l.drop (k+1)) (l.take (k+1)) (by intro h;have:=congrArg List.length h;rw [Ap,Bf] at this;omega);rwa [Bh] at h3
       rw [h,cs',Ap,B3] at q;omega
      have hlen:=dc eq2 l;refine ⟨.ret [Ag (cpt eq2 l)],?_,rfl,by rw [if_neg hlt]⟩;generalize cpt eq2 l=fl at*;have ls:Hh 16 (Ag l) (.i .i64 (k:Int)) (.i .i64 (l.length:Int))=some (Ag (l.drop k)):=by rw [Hg _ _ _ _ _ (by omega) (by omega) (by omega)];simp
      have hsl1:Hh 16 (Ag s) (.i .i64 ((fl.length:Nat):Int)) (.i .i64 (s.length:Int))=some (Ag (s.drop fl.length)):=by rw [Hg _ _ _ _ _ (by omega) (by omega) (by omega)];simp
      have hsl2:Hh 16 (Ag s) (.i .i64 0) (.i .i64 ((fl.length:Nat):Int))=some (Ag fl):=by rw [Hg _ _ _ _ _ (by omega) (by omega) (by omega)];simp [s2]
      have hrep:L0 16 (.i .i64 ((s.length:Int) - (fl.length:Int))) zk=some (Ag (List.replicate (s.length - fl.length) zr)):=by rw [Az1 _ (by omega) (by omega)];congr 3;omega
      have happ:Ih 16 (Ag fl) (Ag (List.replicate (s.length - fl.length) zr))=some (Ag (fl++List.replicate (s.length - fl.length) zr)):=T2 _ _ (by simp;omega);have hsl3:Hh 16 (Ag (fl++List.replicate (s.length - fl.length) zr)) (.i .i64 0) (.i .i64 ((fl.length:Nat):Int))=some (Ag fl):=by rw [Hg _ _ _ _ _ (by omega) (by omega) (by simp;omega)];simp
      simp (disch:=omega) only [Pj,hkk,i1,i0,hc,hxy,ls,s3,hsl1,hsl2,hrep,happ,hsl3,EVT,EVM,EVC,xe,EVP,EV,simprocAttr]
     ·left;refine ⟨k+1,?_,⟨by omega,by omega,?_⟩,by omega⟩
      ·simp (disch:=omega) only [Pj,hkk,i1,i0,hc,hxy,EVT,EVM,EVC,xe,EVP,EV,simprocAttr]
      ·rw [cs,tk];simp [hxy]
    ·right;have e:k=l.length:=by omega
     subst e;rw [Dq] at k3;refine ⟨_,?_,?_,rfl⟩
     ·rw [if_pos k3];simp (disch:=omega) only [Pj,EVT,EVM,EVC,xe,EVP,EV,simprocAttr]
     ·rw [if_pos k3];rfl
  by_cases hh:cpt eq2 l=l
  ·rw [if_pos hh] at key;rw [hh];simp (disch:=omega) only [Pj,h2,key,EVT,EVM,EVC,xe,EVP,EV,simprocAttr]
  ·rw [if_neg hh] at key;simp (disch:=omega) only [Pj,h2,key,EVT,EVM,EVC,xe,EVP,EV,simprocAttr]
end Go.X.G
/- Lists of records in the program: which are valid, their order, their sorting. -/
namespace Go.X.G
open Go Go.X
def Ct1 (r:Rec) (h:r.wf):S Cx2 1 [r.pv]=some [.b (Ql r)]:=by
 refine Hb4 (N:=1) rfl ?_;have g:r.name.length≤9223372036854775807:=h.name;have h1:=B0 r.name g;have h2:=Cp r.typ;have h3:=Xh r.typ r.data h.data;unfold Ql;by_cases k0:0≤r.ttl<;>by_cases k1:r.ttl≤2147483647
 all_goals rcases ch3 (vld r.name) (knw r.typ) (Er r.typ r.data) with e0|⟨e0,e1⟩|⟨e0,e1,e2⟩|⟨e0,e1,e2⟩
 all_goals simp only [*] at h1 h2 h3
 all_goals simp (disch:=omega) only [Hk9,c6,Fl,h1,h2,h3,EVC,xe,EVP,EV,simprocAttr, *]
 all_goals simp
def Ef4 (x:Int):S X2 1 [.i .i64 x]=some [.b false]:=by refine Fr0 (N:=1) rfl ?_;simp (disch:=omega) only [Fd4,EVC,xe,EVP,EV,simprocAttr]
def Dj3 (a b:Int):S X9 2 [.i .i64 a, .i .i64 b]=some [.i .i64 (Ag0 a b)]:=by
 refine Fs4 (N:=1) rfl ?_;have h1:=Ef4 a;have h2:=Ef4 b;unfold Ag0;by_cases k1:a<b
 ·simp (disch:=omega) only [Bd5,h1,h2,k1,EVC,xe,EVP,EV,simprocAttr]
 ·by_cases k2:b<a
  ·simp (disch:=omega) only [Bd5,h1,h2,k1,k2,EVC,xe,EVP,EV,simprocAttr]
  ·simp (disch:=omega) only [Bd5,h1,h2,k1,k2,EVC,xe,EVP,EV,simprocAttr]
def Az5 (a b:Rec) (ha:a.wf) (hb:b.wf):S Yz 2 [a.pv,b.pv]=some [.i .i64 (Wr a b)]:=by
 refine Gj5 (N:=1) rfl ?_;have g1:a.name.length≤9223372036854775807:=ha.name;have g2:b.name.length≤9223372036854775807:=hb.name;have h1:=H4 a.name b.name g1 g2;have h2:=Dj3 a.typ b.typ;have h3:=yn a.typ a.data b.data ha.data hb.data;unfold Wr;by_cases k1:Iy a.name b.name=0
 ·by_cases k2:Ag0 a.typ b.typ=0
  ·rw [k1] at h1;rw [k2] at h2;simp (disch:=omega) only [Bd9,c6,Fl,h1,h2,h3,EVC,xe,EVP,EV,simprocAttr];simp [k1,k2]
  ·rw [k1] at h1;simp (disch:=omega) only [Bd9,h1,h2,k2,EVC,xe,EVP,EV,simprocAttr];simp [k1,k2]
 ·simp (disch:=omega) only [Bd9,h1,k1,EVC,xe,EVP,EV,simprocAttr]
def yh (a b:Rec) (ha:a.wf) (hb:b.wf):S Yc 2 [a.pv,b.pv]=some [.i .i64 (Fw9 a b)]:=by
 refine Gj8 (N:=1) rfl ?_;have h1:=Az5 a b ha hb;have h2:=Dj3 a.ttl b.ttl;unfold Fw9;by_cases k1:Wr a b=0
 ·rw [k1] at h1;simp (disch:=omega) only [Eq8,h1,h2,EVC,xe,EVP,EV,simprocAttr];simp [k1]
 ·simp (disch:=omega) only [Eq8,h1,k1,EVC,xe,EVP,EV,simprocAttr]
def Gr4:Cmp Yc [] Fw9 Rec.wf:=⟨fun x y hx hy=>yh x y hx hy⟩
def Dn9:leC Fw9=leR:=rfl
def Ek1 (a b:Rec) (ha:a.wf) (hb:b.wf):S Yb 2 [a.pv,b.pv]=some [.b (eqF a b)]:=by refine Gj6 (N:=1) rfl ?_;have h1:=Az5 a b ha hb;simp (disch:=omega) only [Ff9,h1,EVC,xe,EVP,EV,simprocAttr]
def Ek0 (l:List Rec) (hw:∀r∈l,r.wf) (hl:l.length≤1000000):S Cx0 1 [Ag l]=some [Ag (sortR l)]:=by refine Hb2 (N:=1) rfl ?_;have h0:=o7 l hl;obtain ⟨r,h1,h2,h3⟩:=Qd Gr4 (by rw [Dn9];exact Gt1) l hw hl;rw [Dn9] at h1;have hm:=h1.mem Gt1;have h4:=yp r Yb [] eqF (fun x hx y hy=>Ek1 x y (hw x ((hm x).1 hx)) (hw y ((hm y).1 hy))) (by omega);rw [Ay5 h1] at h4;simp (disch:=omega) only [Hk8,h0,h3,h4,Dl,Kj,EVT,EVM,EVC,xe,EVP,EV,simprocAttr]
end Go.X.G
/- Delegations and names of a zone, as the program finds them. -/
namespace Go.X.G
open Go Go.X
def Fw3 {z:Zone} {n b:List UInt8} {c:Rec} (hI:b=[]∨under n b=true):(if (C7 z c && under n c.name && (decide (b=[])||decide ((lbl c.name).length<(lbl b).length)))=true then c.name else b)=[]∨under n (if (C7 z c && under n c.name && (decide (b=[])||decide ((lbl c.name).length<(lbl b).length)))=true then c.name else b)=true:=by
 split
 ·rename_i h;simp only [Av] at h;exact .inr h.1.2
 ·exact hI
def Eg0 (z:Zone) (n:List UInt8) (hz:z.wf) (hl:z.recs.length≤1000000) (hn:n.length≤9223372036854775807):S Cw7 2 [z.pv, .s n]=some [.s (cutN z n), .b (decide (cutN z n≠[]))]:=by
 refine Hz4 (N:=z.recs.length+1) rfl ?_;have g1:=hz.origin;unfold Q8 at g1;have key:Ez2.ev S (z.recs.length+1) [z.pv, .s n]=some (.yld 0 [.s (pd z n [] z.recs)]):=by
  refine E8 z.recs (fun i (b:List UInt8)=>[.s b, .i .i64 (i:Int)]) (fun i b r=> .yld 0 [.s (pd z n b r)]) (fun i b=>b=[]∨under n b=true) [] rfl (.inl rfl) (by omega) (fun i b c r hd hi hc hI=> ?_) (fun b hI=> ?_)
  ·left;have g2:=(hz.recs.2 c (A4 hc)).name;unfold Q8 at g2;refine ⟨if C7 z c && under n c.name && (decide (b=[])||decide ((lbl c.name).length<(lbl b).length)) then c.name else b,?_,Fw3 hI,rfl⟩;by_cases h1:c.typ=2
   ·by_cases h2:c.name=z.origin
    ·simp (disch:=omega) only [Zp,hc,h1,h2,EVM,EVC,xe,EVP,EV,simprocAttr];simp [C7,En,h2]
    ·have k1:=Ec c.name z.origin g2 g1;have k2:=Ec n c.name hn g2;rcases Ak (under c.name z.origin) with h3|h3
     ·rcases Ak (under n c.name) with h4|h4
      ·by_cases h5:b=[]
       ·rw [h3] at k1;rw [h4] at k2;simp (disch:=omega) only [Zp,hc,h1,h2,h3,h4,h5,k1,k2,EVM,EVC,xe,EVP,EV,simprocAttr];simp [C7,En,h1,h2,h3,h4,h5]
       ·have hb:=hI.resolve_left h5;have e:=og h4 hb;rw [h3] at k1;rw [h4] at k2;by_cases h6:c.name.length<b.length
        ·have h7:=e.1 h6;have h8:(c.name.length:Int)<(b.length:Int):=by omega
         simp (disch:=omega) only [Zp,hc,h1,h2,h3,h4,h5,h8,k1,k2,EVM,EVC,xe,EVP,EV,simprocAttr];simp [C7,En,h1,h2,h3,h4,h5,h7]
        ·have h7:¬(lbl c.name).length<(lbl b).length:=fun q=>h6 (e.2 q);have h8:¬(c.name.length:Int)<(b.length:Int):=by omega
         simp (disch:=omega) only [Zp,hc,h1,h2,h3,h4,h5,h8,k1,k2,EVM,EVC,xe,EVP,EV,simprocAttr];simp [C7,En,h1,h2,h3,h4,h5,h7]
      ·rw [h3] at k1;rw [h4] at k2;simp (disch:=omega) only [Zp,hc,h1,h2,h3,h4,k1,k2,EVM,EVC,xe,EVP,EV,simprocAttr];simp [C7,En,h1,h2,h3,h4]
     ·rw [h3] at k1;simp (disch:=omega) only [Zp,hc,h1,h2,h3,k1,EVM,EVC,xe,EVP,EV,simprocAttr];simp [C7,En,h1,h2,h3]
   ·simp (disch:=omega) only [Zp,hc,h1,EVM,EVC,xe,EVP,EV,simprocAttr];simp [C7,h1]
  ·simp (disch:=omega) only [Zp,EVM,EVC,xe,EVP,EV,simprocAttr];simp [pd,Out.goes]
 rw [show pd z n [] z.recs=cutN z n from rfl] at key;simp (disch:=omega) only [Zp,key,EVM,EVC,xe,EVP,EV,simprocAttr]
 try simp
def cutsN (z:Zone):List (List UInt8):=setN ((z.recs.filter (C7 z)).map Rec.name)
def V4 (z:Zone) (x:List UInt8):x∈cutsN z↔∃r∈z.recs,C7 z r=true∧r.name=x:=by unfold cutsN;rw [K4,Dj];simp only [Bz,and_assoc]
def Dd4 {l:List (List UInt8)} (h:∀x∈l,x.length≤9223372036854775807):∀x∈setN l,x.length≤9223372036854775807:=fun x hx=>h x ((K4 l x).1 hx)
def zq (z:Zone) (hz:z.wf) (hl:z.recs.length≤1000000):S Bk5 1 [z.pv]=some [Bn (cutsN z)]:=by
 refine Hc0 (N:=z.recs.length+1) rfl ?_;have g1:=hz.origin;unfold Q8 at g1;have key:Eb1.ev S (z.recs.length+1) [z.pv]=some (.yld 0 [Bn ([]++(z.recs.filter (C7 z)).map Rec.name)]):=by
  refine E8 z.recs (fun i (b:List (List UInt8))=>[Bn b, .i .i64 (i:Int)]) (fun i b r=> .yld 0 [Bn (b++(r.filter (C7 z)).map Rec.name)]) (fun i b=>b.length≤i) [] rfl (Ct _) (by omega) (fun i b c r hd hi hc hI=> ?_) (fun b hI=> ?_)
  ·left;have g2:=(hz.recs.2 c (A4 hc)).name;unfold Q8 at g2;refine ⟨if C7 z c then b++[c.name] else b,?_,by split<;>(try rw [Ab,List.length_singleton])<;>omega,by rcases Ak (C7 z c) with q|q<;>simp [q]⟩;by_cases h1:c.typ=2
   ·by_cases h2:c.name=z.origin
    ·simp (disch:=omega) only [Am6,hc,h1,h2,EVM,EVC,xe,EVP,EV,simprocAttr];simp [C7,En,h2]
    ·have k1:=Ec c.name z.origin g2 g1;rcases Ak (under c.name z.origin) with h3|h3
     ·rw [h3] at k1;simp (disch:=omega) only [Am6,hc,h1,h2,h3,k1,EVM,EVC,xe,EVP,EV,simprocAttr];simp [C7,En,h1,h2,h3]
     ·rw [h3] at k1;simp (disch:=omega) only [Am6,hc,h1,h2,h3,k1,EVM,EVC,xe,EVP,EV,simprocAttr];simp [C7,En,h1,h2,h3]
   ·simp (disch:=omega) only [Am6,hc,h1,EVM,EVC,xe,EVP,EV,simprocAttr];simp [C7,h1]
  ·simp (disch:=omega) only [Am6,EVM,EVC,xe,EVP,EV,simprocAttr];simp [Out.goes]
 rw [Ch] at key;have hlen:((z.recs.filter (C7 z)).map Rec.name).length≤1000000:=by rw [Ew];exact C9 (Dw _ _) hl
 have hw:∀x∈(z.recs.filter (C7 z)).map Rec.name,x.length≤9223372036854775807:=fun x hx=>by obtain ⟨r,hr,rfl⟩:=Dj.1 hx;exact (hz.recs.2 r (Bz.1 hr).1).name
 have k1:=fq _ hlen hw;have k2:=Om (((z.recs.filter (C7 z)).map Rec.name).mergeSort fun x y=> !decide (Iy y x<0)) (by rw [pg];exact hlen);rw [show cpt eqs (((z.recs.filter (C7 z)).map Rec.name).mergeSort fun x y=> !decide (Iy y x<0))=cutsN z from rfl] at k2;generalize ((z.recs.filter (C7 z)).map Rec.name).mergeSort (fun x y=> !decide (Iy y x<0))=so at*;generalize (z.recs.filter (C7 z)).map Rec.name=un at*;simp (disch:=omega) only [Am6,key,k1,k2,Dl,Kj,EVM,EVC,xe,EVP,EV,simprocAttr]
def Bn3 (l:List Rec) (hl:l.length≤1000000) (hw:∀r∈l,r.wf):S l5 1 [Ag l]=some [Bn (setN (l.map Rec.name))]:=by
 refine Gk8 (N:=l.length+1) rfl ?_;have key:Cf5.ev S (l.length+1) [Ag l]=some (.yld 0 [Bn ([]++l.map Rec.name)]):=by
  refine E8 l (fun i (b:List (List UInt8))=>[Bn b, .i .i64 (i:Int)]) (fun i b r=> .yld 0 [Bn (b++r.map Rec.name)]) (fun i b=>b.length≤i) [] rfl (Ct _) (by omega) (fun i b c r hd hi hc hI=> ?_) (fun b hI=> ?_)
  ·left;refine ⟨b++[c.name],?_,by simp;omega,by simp⟩;simp (disch:=omega) only [Bf0,hc,EVM,EVC,xe,EVP,EV,simprocAttr]
  ·simp (disch:=omega) only [Bf0,EVM,EVC,xe,EVP,EV,simprocAttr];simp [Out.goes]
 rw [Ch] at key;have hlen:(l.map Rec.name).length≤1000000:=by rw [Ew];exact hl
 have hw:∀x∈l.map Rec.name,x.length≤9223372036854775807:=fun x hx=>by obtain ⟨r,hr,rfl⟩:=Dj.1 hx;exact (hw r hr).name
 have k1:=fq _ hlen hw;have k2:=Om ((l.map Rec.name).mergeSort fun x y=> !decide (Iy y x<0)) (by rw [pg];exact hlen);rw [show cpt eqs ((l.map Rec.name).mergeSort fun x y=> !decide (Iy y x<0))=setN (l.map Rec.name) from rfl] at k2;generalize setN (l.map Rec.name)=se at*;generalize (l.map Rec.name).mergeSort (fun x y=> !decide (Iy y x<0))=so at*;generalize l.map Rec.name=un at*;simp (disch:=omega) only [Bf0,key,k1,k2,Dl,Kj,EVM,EVC,xe,EVP,EV,simprocAttr]
def Ct5 (c owner:List UInt8) (hc:c.length≤9223372036854775807) (ho:owner.length≤9223372036854775807):S Yl 1 [.s c, .s owner]=some [.b (decide (c≠owner) && under owner c)]:=by
 refine Gk7 (N:=1) rfl ?_;have k1:=Ec owner c ho hc;by_cases h:c=owner
 ·simp (disch:=omega) only [Ev1,h,EVM,EVC,xe,EVP,EV,simprocAttr];simp
 ·simp (disch:=omega) only [Ev1,h,k1,EVM,EVC,xe,EVP,EV,simprocAttr];simp
def Bc0 (z:Zone) (acc:List (List UInt8)) (n:List UInt8) (p1 p2 p3 p4 p5 p6:PV) (N:Nat) (hu:under n z.origin=true) (ha:acc.length≤1000000) (hN:1000<N) (hp2:Ht 1 p2 p4=some (.s n)):
  Cc1.ev S N [z.pv,p1,p2,Bn acc,p4,p5,p6]=some (.yld 2 [Bn (acc++upN z.origin n)]):=by
 obtain ⟨v1,v2,_⟩:=Bw.1 hu;have hlb:=Lk n;have h0:jn ((lbl n).drop 0)=n:=cg v1;have e0:upN z.origin n=(upN z.origin n).take ((lbl n).length - (lbl z.origin).length+1):=by rw [D5];simp [upN]
 have:=Gl (fn:=S) (N:=N) (η:=[z.pv,p1,p2,Bn acc,p4,p5,p6]) (id:=3) (init:=[(.v 3),(.proj 0 (.idx 1 (.v 2) (.v 4)))]) (body:=Cs1) ((lbl n).length - (lbl z.origin).length) (fun k=>[Bn (acc++(upN z.origin n).take k), .s (jn ((lbl n).drop k))])
  (fun _=> .yld 2 [Bn (acc++upN z.origin n)]) ?_ (by omega) (fun k hk=> ?_) ?_
 ·exact this
 ·rw [h0];simp (disch:=omega) only [hp2,EVM,EVC,xe,EVP,EV,simprocAttr];simp
 ·left;obtain ⟨q1,q2⟩:=Bf6 hu hk;have q3:¬jn ((lbl n).drop k)=z.origin:=fun h=>by have:=(Xw hu (Nat.le_of_lt hk)).1 h;omega
  have q4:=Yp v1 k;have k1:=N0 (jn ((lbl n).drop k)) (by omega);rw [q1,q2] at k1;have q5:(upN z.origin n).take (k+1)=(upN z.origin n).take k++[jn ((lbl n).drop k)]:=by rw [Cq,Ox (Nat.le_of_lt hk)];rfl
  rw [q5,←As];have q6:(acc++(upN z.origin n).take k).length≤1000300:=by rw [Ab,Ap];omega
  generalize acc++(upN z.origin n).take k=a at*;refine ⟨?_,rfl⟩;generalize jn ((lbl n).drop (k+1))=nx at*;generalize jn ((lbl n).drop k)=cu at*;simp (disch:=omega) only [qc,q3,k1,EVM,EVC,xe,EVP,EV,simprocAttr]
 ·have q3:=(Xw hu (Af _)).2 rfl;have q5:(upN z.origin n)=(upN z.origin n).take ((lbl n).length - (lbl z.origin).length)++[jn ((lbl n).drop ((lbl n).length - (lbl z.origin).length))]:=by have:=Cq (l:=upN z.origin n) (i:=(lbl n).length - (lbl z.origin).length);rw [Ox (Af _)] at this;rw [←e0] at this;exact this
  rw [q3] at q5 ⊢;have q6:(acc++(upN z.origin n).take ((lbl n).length - (lbl z.origin).length)).length≤1000300:=by rw [Ab,Ap];omega
  refine ⟨?_,rfl⟩
  conv=>rhs;rw [q5,←As]
  generalize acc++(upN z.origin n).take ((lbl n).length - (lbl z.origin).length)=a at*;simp (disch:=omega) only [qc,EVM,EVC,xe,EVP,EV,simprocAttr]
def Dt3 (z:Zone) (owner:List UInt8):((cutsN z).any fun c=>decide (c≠owner) && under owner c)=Ng z owner:=by
 rw [Cr];unfold Ng;simp only [Bm,Av,decide_eq_true_eq,V4];constructor
 ·rintro ⟨x,⟨r,hr,h1,rfl⟩,h2,h3⟩;exact ⟨r,hr,⟨h1,h2⟩,h3⟩
 ·rintro ⟨r,hr,⟨h1,h2⟩,h3⟩;exact ⟨r.name,⟨r,hr,h1,rfl⟩,h2,h3⟩
def If (z:Zone) (n:List UInt8):Bool:=under n z.origin && !Ng z n
def T4 (z:Zone) (hz:z.wf) (hl:z.recs.length≤1000):S tv 1 [z.pv]=some [Bn (namesN z)]:=by
 refine Hb9 (N:=z.recs.length+1001) rfl ?_;have g1:=hz.origin;unfold Q8 at g1;have k1:=zq z hz (by omega);have k2:=Bn3 z.recs (by omega) (fun r hr=>hz.recs.2 r hr);have hol:(setN (z.recs.map Rec.name)).length≤z.recs.length:=by have:=Tc (z.recs.map Rec.name);rwa [Ew] at this
 have how:∀x∈setN (z.recs.map Rec.name),x.length≤9223372036854775807:=Dd4 fun x hx=>by obtain ⟨r,hr,rfl⟩:=Dj.1 hx;exact (hz.recs.2 r hr).name
 have hcl:(cutsN z).length≤1000000:=by have:=Tc ((z.recs.filter (C7 z)).map Rec.name);rw [Ew] at this;have h2:=Dw (C7 z) z.recs;show (setN ((z.recs.filter (C7 z)).map Rec.name)).length≤1000000;omega
 have hcw:∀x∈cutsN z,x.length≤9223372036854775807:=fun x hx=>by obtain ⟨r,hr,_,rfl⟩:=(V4 z x).1 hx;exact (hz.recs.2 r hr).name
 have hmem:∀x,x∈((setN (z.recs.map Rec.name)).filter (If z)).flatMap (upN z.origin)↔Eb7 z x:=by
  intro x;unfold Eb7 If;simp only [List.mem_flatMap,Bz,K4,Dj,Av,A6];constructor
  ·rintro ⟨o,⟨⟨r,hr,rfl⟩,h1,h2⟩,h3⟩;obtain ⟨h4,h5⟩:=(Mj h1).1 h3;exact ⟨r,hr,h1,h2,h4,h5⟩
  ·rintro ⟨r,hr,h1,h2,h4,h5⟩;exact ⟨r.name,⟨⟨r,hr,rfl⟩,h1,h2⟩,(Mj h1).2 ⟨h4,h5⟩⟩
 generalize hO:setN (z.recs.map Rec.name)=O at*;have key:Eb0.ev S (z.recs.length+1001) [z.pv,Bn (cutsN z),Bn O]=some (.yld 0 [Bn ([]++(O.filter (If z)).flatMap (upN z.origin))]):=by
  refine E8 O (fun i (b:List (List UInt8))=>[Bn b, .i .i64 (i:Int)]) (fun i b r=> .yld 0 [Bn (b++(r.filter (If z)).flatMap (upN z.origin))]) (fun i b=>b.length≤256*i) [] rfl (Ct _) (by omega) (fun i b c r hd hi hc hI=> ?_) (fun b hI=> ?_)
  ·left;have g2:=how c (A4 hc);have k3:=Ec c z.origin g2 g1;have hid:=Dt3 z c;rcases Ak (under c z.origin) with h1|h1
   ·have k4:=Lr (cutsN z) Yl [.s c] _ hcl (fun x hx=>Ct5 x c (hcw x hx) g2);rw [hid] at k4;rw [h1] at k3;rcases Ak (Ng z c) with h2|h2
    ·refine ⟨b,?_,by omega,by simp [If,h1,h2]⟩;rw [h2] at k4;generalize cutsN z=cz at*;simp (disch:=omega) only [qc,hc,k3,k4,EVM,EVC,xe,EVP,EV,simprocAttr]
    ·have hu:=ql z.origin c;refine ⟨b++upN z.origin c,?_,by rw [Ab];omega,by simp [If,h1,h2]⟩;rw [h2] at k4;have k5:∀p5 p6,Cc1.ev S (z.recs.length+1001) [z.pv,Bn (cutsN z),Bn O,Bn b, .i .i64 (i:Int),p5,p6]=some (.yld 2 [Bn (b++upN z.origin c)]):=fun p5 p6=>Bc0 z b c _ _ (Bn b) _ p5 p6 _ h1 (by omega) (by omega) (by rw [Nf _ _ _ (by omega)];simp [hc]);generalize b++upN z.origin c=b' at*;generalize cutsN z=cz at*;simp (disch:=omega) only [qc,hc,k3,k4,k5,EVM,EVC,xe,EVP,EV,simprocAttr]
   ·refine ⟨b,?_,by omega,by simp [If,h1]⟩;rw [h1] at k3;generalize cutsN z=cz at*;simp (disch:=omega) only [qc,hc,k3,EVM,EVC,xe,EVP,EV,simprocAttr]
  ·generalize cutsN z=cz at*;simp (disch:=omega) only [qc,EVM,EVC,xe,EVP,EV,simprocAttr];simp [Out.goes]
 rw [Ch] at key;have hxl:((O.filter (If z)).flatMap (upN z.origin)).length≤256*O.length:=by
  have:∀l:List (List UInt8),(l.flatMap (upN z.origin)).length≤256*l.length:=by
   intro l
   induction l with
   |nil=>simp
   |cons x r ih=>
    have:=ql z.origin x;rw [Jr,Ab,A5];omega
  refine C9 (this _) ?_;have:=Dw (If z) O;omega
 have hxw:∀x∈(O.filter (If z)).flatMap (upN z.origin),x.length≤9223372036854775807:=fun x hx=>by obtain ⟨r,hr,_,_,h4,_⟩:=(hmem x).1 hx;have:=Gy (Bw.1 h4).2.1;omega
 have he:setN ((O.filter (If z)).flatMap (upN z.origin))=namesN z:=Dm2 z _ hmem;generalize (O.filter (If z)).flatMap (upN z.origin)=un at*;have k6:=fq un (by omega) hxw;have k7:=Om (un.mergeSort fun x y=> !decide (Iy y x<0)) (by rw [pg];omega);rw [show cpt eqs (un.mergeSort fun x y=> !decide (Iy y x<0))=setN un from rfl,he] at k7;generalize un.mergeSort (fun x y=> !decide (Iy y x<0))=so at*;generalize namesN z=nz at*;generalize cutsN z=cz at*;simp (disch:=omega) only [qc,k1,k2,key,k6,k7,Dl,Kj,EVM,EVC,xe,EVP,EV,simprocAttr]
end Go.X.G
/- Zones in the program: what is asked of the records of one name. -/
namespace Go.X.G
open Go Go.X
abbrev ltC:List UInt8×Int→List UInt8×Int→Prop:=fun p q=>ltB p.1 q.1∨(p.1=q.1∧p.2<q.2)
def to_C:TO ltC:=Dj8.prod Fl1
def ltQ (a b:Ques):Prop:=ltC (a.name,a.typ) (b.name,b.typ)
def to_Q:TO ltQ where
 irr:=fun a=>to_C.irr _
 tr:=fun a b c=>to_C.tr _ _ _
 tri:=fun a b=>by
  rcases to_C.tri (a.name,a.typ) (b.name,b.typ) with h|h|h
  ·exact .inl h
  ·injection h with h1 h2;refine .inr (.inl ?_);cases a;cases b;simp only at h1 h2;rw [h1,h2]
  ·exact .inr (.inr h)
def vv (a b:Ques):Int:=if (Op.bytesLess a.name b.name||(decide (a.name=b.name) && decide (a.typ<b.typ)))=true then -1 else if a=b then 0 else 1
def Hq (a b:Ques):vv a b<0↔ltQ a b:=by
 unfold vv ltQ ltC;simp only;have e:(Op.bytesLess a.name b.name||(decide (a.name=b.name) && decide (a.typ<b.typ)))=true↔(ltB a.name b.name∨a.name=b.name∧a.typ<b.typ):=by simp only [An,Av,decide_eq_true_eq,Ww]
 by_cases h:ltB a.name b.name∨a.name=b.name∧a.typ<b.typ
 ·rw [if_pos (e.2 h)];simp [h]
 ·rw [if_neg (fun q=>h (e.1 q))];simp only [h,iff_false];split<;>omega
def vq (a b:Ques):S N7 2 [a.pv,b.pv]=some [.i .i64 (vv a b)]:=by
 refine Gk1 (N:=1) rfl ?_;unfold vv;rcases Ak (Op.bytesLess a.name b.name) with h1|h1
 ·simp (disch:=omega) only [gk,h1,EVM,EVC,xe,EVP,EV,simprocAttr];simp
 ·by_cases h2:a.name=b.name
  ·by_cases h3:a.typ<b.typ
   ·rw [h2] at h1;simp (disch:=omega) only [gk,h1,h2,h3,EVM,EVC,xe,EVP,EV,simprocAttr];simp
   ·rw [h2] at h1;by_cases h4:a=b
    ·simp (disch:=omega) only [gk,h1,h2,h3,EVM,EVC,xe,EVP,EV,simprocAttr];simp [h4]
    ·simp (disch:=omega) only [gk,h1,h2,h3,h4,EVM,EVC,xe,EVP,EV,simprocAttr];simp [h4]
  ·have h4:¬a=b:=fun e=>h2 (by rw [e]);simp (disch:=omega) only [gk,h1,h2,h4,EVM,EVC,xe,EVP,EV,simprocAttr];simp [h4]
def Im (l:List Ques):PV:= .l 2 (l.map Ques.pv)
def Ir (l:List Ques):Gb (Im l)=some (.i .i64 (l.length:Int)):=by simp [Im,Gb]
def Lw (l:List Ques) (k:IntKind) (z:Int) (h:0≤z):Ht 2 (Im l) (.i k z)=(l[z.toNat]?).map Ques.pv:=by simp [Im,cr _ _ _ _ h]
def Dn2 (x:Ques):Jl 2 [x.pv]=some (Im [x]):=rfl
def Cs8 (l:List Ques) (x:Ques) (h:l.length+1≤1073741824):Ih 2 (Im l) (Im [x])=some (Im (l++[x])):=by have:=Wb 2 (l.map Ques.pv) [x.pv] (by simpa using h);simpa [Im] using this
def Az2:PV→PV→Int
 | .a [.s a, .i _ t], .a [.s b, .i _ u]=>vv ⟨a,t⟩ ⟨b,u⟩
 |_,_=>0
def Ej9 (l:List Ques) (hl:l.length≤1000000):S U2 1048578 [Im l, .f N7 []]=some [Im (l.mergeSort fun x y=> !decide (vv y x<0))]:=by
 have hm:∀x∈l.map Ques.pv,∃a∈l,x=a.pv:=fun x hx=>by obtain ⟨a,h1,h2⟩:=Dj.1 hx;exact ⟨a,h1,h2.symm⟩
 have hc:∀a b:Ques,Az2 a.pv b.pv=vv a b:=fun a b=>rfl;have h:=Ay6 (tab:=tab) (xs:=Fk6) (ss:=Wt) (f:=U2) (s:=Bh7) Em2 Em8 (g:=N7) (caps:=[]) (l:=l.map Ques.pv) (by decide) (by simp;omega)
  (fun x hx=>by obtain ⟨a,_,rfl⟩:=hm x hx;rfl) Az2
  (fun x hx y hy=>by obtain ⟨a,ha,rfl⟩:=hm x hx;obtain ⟨b,hb,rfl⟩:=hm y hy;exact vq a b)
  (fun x hx=>by obtain ⟨a,_,rfl⟩:=hm x hx;rw [hc,Hq];exact to_Q.irr a)
  (fun x hx y hy z hz h1 h2=>by obtain ⟨a,_,rfl⟩:=hm x hx;obtain ⟨b,_,rfl⟩:=hm y hy;obtain ⟨c,_,rfl⟩:=hm z hz;rw [hc] at*;exact (Hq a c).2 (to_Q.tr _ _ _ ((Hq a b).1 h1) ((Hq b c).1 h2)))
  (fun x hx y hy z hz h1 h2=>by obtain ⟨a,_,rfl⟩:=hm x hx;obtain ⟨b,_,rfl⟩:=hm y hy;obtain ⟨c,_,rfl⟩:=hm z hz;rw [hc] at*;exact fun h3=>to_Q.ntr (fun q=>h1 ((Hq a b).2 q)) (fun q=>h2 ((Hq b c).2 q)) ((Hq a c).1 h3))
  (fun x hx y hy h1 h2=>by
   obtain ⟨a,_,rfl⟩:=hm x hx;obtain ⟨b,_,rfl⟩:=hm y hy;rw [hc] at*;rcases to_Q.tri a b with q|q|q
   ·exact absurd ((Hq a b).2 q) h1
   ·rw [q]
   ·exact absurd ((Hq b a).2 q) h2)
 have e:(l.map Ques.pv).mergeSort (fun x y=> !decide (Az2 y x<0))=(l.mergeSort fun x y=> !decide (vv y x<0)).map Ques.pv:=(Hj5 (r:=fun x y=> !decide (vv y x<0)) (s:=fun x y=> !decide (Az2 y x<0)) (f:=Ques.pv) fun a _ b _=>rfl).symm;rw [e] at h;exact h
def aj (p:Option Ques) (n:Nat):List Ques→Bool
 |[]=>false
 |k::r=>if 64<(if p=some k then n+1 else 1) then true else aj (some k) (if p=some k then n+1 else 1) r
def Z9:∀(l:List Ques) (p:Ques) (n:Nat),(p::l).Pairwise (fun a b=>¬ltQ b a)→n≤64→(aj (some p) n l=true↔(∃k,k≠p∧64<l.count k)∨64<n+l.count p)
 |[],p,n,_,hn=>by simp [aj];omega
 |k::r,p,n,hs,hn=>by
  obtain ⟨h1,h2⟩:=A0.1 hs;by_cases e:p=k
  ·subst e;by_cases hg:64<n+1
   ·simp only [aj,if_true,hg];refine ⟨fun _=> .inr ?_,fun _=>trivial⟩;rw [G5];omega
   ·simp only [aj,if_true,hg,if_false];rw [Z9 r p (n+1) h2 (by omega),G5];constructor
    ·rintro (⟨q,q1,q2⟩|q)
     ·exact .inl ⟨q,q1,by rw [Gq (fun e=>q1 e.symm)];exact q2⟩
     ·exact .inr (by omega)
    ·rintro (⟨q,q1,q2⟩|q)
     ·exact .inl ⟨q,q1,by rw [Gq (fun e=>q1 e.symm)] at q2;exact q2⟩
     ·exact .inr (by omega)
  ·have e':¬(some p=some k):=fun q=>e (by injection q);simp only [aj,if_neg e',show¬64<1 by omega,if_false];rw [Z9 r k 1 h2 (by omega)];have hlt:ltQ p k:=by
    rcases to_Q.tri p k with q|q|q
    ·exact q
    ·exact absurd q e
    ·exact absurd q (h1 k (.head _))
   have hno:∀y∈k::r,y≠p:=fun y hy q=>by
    subst q;rcases Am.1 hy with q|hy
    ·exact e q
    ·exact (A0.1 h2).1 y hy hlt
   have h0:(k::r).count p=0:=Hj8.2 fun hm=>hno p hm rfl;have h0r:r.count p=0:=Hj8.2 fun hm=>hno p (.tail _ hm) rfl;rw [h0];constructor
   ·rintro (⟨q,q1,q2⟩|q)
    ·refine .inl ⟨q,fun w=>by rw [w,h0r] at q2;omega,?_⟩;rw [Gq (fun w=>q1 w.symm)];exact q2
    ·refine .inl ⟨k,fun w=>e w.symm,?_⟩;rw [G5];omega
   ·rintro (⟨q,q1,q2⟩|q)
    ·by_cases w:q=k
     ·subst w;rw [G5] at q2;exact .inr (by omega)
     ·rw [Gq (fun v=>w v.symm)] at q2;exact .inl ⟨q,w,q2⟩
    ·omega
def Dd9 (l:List Ques) (hs:l.Pairwise (fun a b=>¬ltQ b a)):aj none 0 l=true↔∃k,64<l.count k:=by
 cases l with
 |nil=>simp [aj]
 |cons k r=>
  have e:¬((none:Option Ques)=some k):=by simp
  simp only [aj,if_neg e,show¬64<1 by omega,if_false];rw [Z9 r k 1 hs (by omega)];constructor
  ·rintro (⟨q,q1,q2⟩|q)
   ·exact ⟨q,by rw [Gq (fun w=>q1 w.symm)];exact q2⟩
   ·exact ⟨k,by rw [G5];omega⟩
  ·rintro ⟨q,q2⟩;by_cases w:q=k
   ·subst w;rw [G5] at q2;exact .inr (by omega)
   ·rw [Gq (fun v=>w v.symm)] at q2;exact .inl ⟨q,w,q2⟩
def kyQ (r:Rec):Ques:=⟨r.name,r.typ⟩
def Sg (l:List Rec):Bool:=aj none 0 ((l.map kyQ).mergeSort fun x y=> !decide (vv y x<0))
def dh (n:List UInt8) (t:Int):∀l:List Rec,(l.map kyQ).count ⟨n,t⟩=(findR l n t).length
 |[]=>rfl
 |r::l=>by
  have ih:=dh n t l;unfold findR at ih ⊢;rw [Gx,Lt];by_cases h:isK n t r=true
  ·rw [if_pos h];unfold isK at h;simp only [Av,decide_eq_true_eq] at h;have:kyQ r=⟨n,t⟩:=by unfold kyQ;rw [h.1,h.2]
   rw [this,G5,ih,A5]
  ·rw [if_neg h];have:kyQ r≠⟨n,t⟩:=fun e=>h (by unfold kyQ at e;injection e with e1 e2;unfold isK;simp [e1,e2])
   rw [Gq this,ih]
def Er9 (l:List Ques):(l.mergeSort fun x y=> !decide (vv y x<0)).Pairwise (fun a b=>¬ltQ b a):=by
 have:=List.pairwise_mergeSort (le:=fun x y:Ques=> !decide (vv y x<0)) (fun a b c h1 h2=>by
  simp only [A6,decide_eq_false_iff_not,Hq] at h1 h2 ⊢;exact to_Q.ntr h2 h1) (fun a b=>by
  simp only [An,A6,decide_eq_false_iff_not,Hq];rcases to_Q.tri a b with h|h|h
  ·exact .inl (to_Q.asym h)
  ·subst h;exact .inl (to_Q.irr a)
  ·exact .inr (to_Q.asym h)) l
 refine this.imp fun {a b} h=> ?_;simpa only [A6,decide_eq_false_iff_not,Hq] using h
def Bw8 (l:List Rec):Sg l= !(l.all fun r=>decide ((findR l r.name r.typ).length≤64)):=by
 rw [Cr];unfold Sg;rw [Dd9 _ (Er9 _)];have hc:∀k,((l.map kyQ).mergeSort fun x y=> !decide (vv y x<0)).count k=(l.map kyQ).count k:=fun k=>(List.mergeSort_perm _ _).count_eq k;simp only [hc,A6,List.all_eq_false,decide_eq_true_eq];constructor
 ·rintro ⟨⟨n,t⟩,h⟩;rw [dh] at h;have hp:0<(findR l n t).length:=by omega
  obtain ⟨x,hx⟩:=List.length_pos_iff_exists_mem.1 hp;obtain ⟨h3,h4⟩:=Bz.1 hx;unfold isK at h4;simp only [Av,decide_eq_true_eq] at h4;exact ⟨x,h3,by rw [h4.1,h4.2];omega⟩
 ·rintro ⟨r,h1,h2⟩;exact ⟨kyQ r,by show 64<(l.map kyQ).count ⟨r.name,r.typ⟩;rw [dh];omega⟩
def Bw7 (l:List Rec) (hl:l.length≤1000000):S Cx4 1 [Ag l]=some [.b (Sg l)]:=by
 obtain ⟨N,hN⟩:∃N,N=l.length+1:=⟨_,rfl⟩;refine Hb6 (N:=N) rfl ?_;have k0:Ez7.ev S N [Ag l]=some (.yld 0 [Im (l.map kyQ)]):=by
  refine Fg l (fun i=>[Im ((l.take i).map kyQ), .i .i64 (i:Int)]) (fun i r=> .yld 0 [Im (l.map kyQ)]) rfl (by omega) (fun i c r hd hi hc=> ?_) ?_
  ·left;refine ⟨?_,rfl⟩;have e:(l.take (i+1)).map kyQ=(l.take i).map kyQ++[kyQ c]:=by rw [Cq,hc];simp
   have hsub:Kq 0 2 c.pv=some (kyQ c).pv:=rfl;have hlen:((l.take i).map kyQ).length≤1000000:=by rw [Ew,Ap];omega
   rw [e];generalize (l.take i).map kyQ=a at*;simp (disch:=omega) only [Zr,hc,hsub,Dn2,Cs8,Ir,Lw,EVM,EVC,xe,EVP,EV,simprocAttr]
  ·refine ⟨?_,rfl⟩;have e:l.take l.length=l:=Dq;simp (disch:=omega) only [Zr,e,Ir,Lw,EVM,EVC,xe,EVP,EV,simprocAttr]
 have hs:=Ej9 (l.map kyQ) (by simpa using hl);have hlen:((l.map kyQ).mergeSort fun x y=> !decide (vv y x<0)).length=l.length:=by simp
 unfold Sg;generalize ((l.map kyQ).mergeSort fun x y=> !decide (vv y x<0))=ks at*;have k1:Ey3.ev S N [Ag l,Im (l.map kyQ),Im ks]=some (if aj none 0 ks=true then .ret [.b true] else .yld 0 []):=by
  refine E8 ks (fun i (g:Nat)=>[.i .i64 (g:Int), .i .i64 (i:Int)]) (fun i g r=>if aj (if i=0 then none else ks[i - 1]?) g r=true then .ret [.b true] else .yld 0 []) (fun i g=>g≤64) 0 ?_ (by omega) (by omega) (fun i g c r hd hi hc hg=> ?_) (fun g hg=> ?_)
  ·simp (disch:=omega) only [EVC,xe,EVP,EV,simprocAttr]
  ·have hp:(if i=0 then none else ks[i - 1]?)=some c↔(0<i∧ks[i - 1]? =some c):=by
    by_cases h:i=0
    ·simp [h]
    ·simp [h];omega
   have hci:(if i+1=0 then none else ks[i+1 - 1]?)=some c:=by rw [if_neg (by omega),L3,hc]
   have hsub:Kq 0 2 c.pv=some c.pv:=rfl;have eqq:∀x:Ques,L2 false true [.s,(.i .i64)] x.pv c.pv=some (.b (decide (x=c))):=fun x=>Ik6 false x c;by_cases hsame:0<i∧ks[i - 1]? =some c
   ·have hp':=hp.2 hsame;have hi0:(0:Int)<(i:Int):=by omega
    have ei:((i:Int) - 1).toNat=i - 1:=by omega
    have ei2:(i:Int).toNat=i:=by omega
    by_cases hgt:64<g+1
    ·right;have hgt':(64:Int)<(g:Int)+1:=by omega
     have er:aj (if i=0 then none else ks[i - 1]?) g (c::r)=true:=by rw [hp'];simp [aj,hgt]
     rw [er];refine ⟨?_,rfl⟩;simp (disch:=omega) only [Zr,hc,hsame.2,hi0,ei,ei2,hgt',Ir,Lw,EVM,EVC,xe,EVP,EV,simprocAttr]
    ·left;have hgt':¬(64:Int)<(g:Int)+1:=by omega
     refine ⟨g+1,?_,by omega,?_⟩
     ·simp (disch:=omega) only [Zr,hc,hsame.2,hi0,ei,ei2,hgt',Ir,Lw,EVM,EVC,xe,EVP,EV,simprocAttr]
     ·rw [hp',hci];simp [aj,hgt]
   ·left;have hp':¬(if i=0 then none else ks[i - 1]?)=some c:=fun q=>hsame (hp.1 q);have ei:((i:Int) - 1).toNat=i - 1:=by omega
    have ei2:(i:Int).toNat=i:=by omega
    refine ⟨1,?_,by omega,?_⟩
    ·by_cases hi0:0<i
     ·have hi0':(0:Int)<(i:Int):=by omega
      obtain ⟨y,hy⟩:∃y,ks[i - 1]? =some y:=⟨_,Ay (by omega)⟩;have hyc:¬y=c:=fun q=>hsame ⟨hi0,by rw [hy,q]⟩;simp (disch:=omega) only [Zr,hc,hy,hyc,hi0',ei,ei2,Ir,Lw,EVM,EVC,xe,EVP,EV,simprocAttr]
     ·have hi0':¬(0:Int)<(i:Int):=by omega
      simp (disch:=omega) only [Zr,hc,hi0',ei2,Ir,Lw,EVM,EVC,xe,EVP,EV,simprocAttr]
    ·rw [hci];simp [aj,hp']
  ·refine ⟨?_,by simp [aj,Out.goes]⟩;have hlt:¬(ks.length:Int)<(ks.length:Int):=by omega
   simp (disch:=omega) only [Zr,hlt,Ir,Lw,EVM,EVC,xe,EVP,EV,simprocAttr];simp [aj]
 have hrep:∃p,L0 2 (.i .i64 (l.length:Int)) (Ques.pv ⟨[],0⟩)=some p:=by
  have h1:(l.length:Int)≤(LIM:Int):=by simp only [LIM];omega
  have h2:(Ques.pv ⟨[],0⟩).cells.length=2:=rfl;simp [L0,h1,h2]
 obtain ⟨p,hrep⟩:=hrep;rcases Ak (aj none 0 ks) with h|h
 ·rw [h,if_pos rfl] at k1;rw [h];simp (disch:=omega) only [Zr,hrep,k0,hs,k1,Ir,Dl,Kj,EVM,EVC,xe,EVP,EV,simprocAttr]
 ·rw [h,if_neg (by simp)] at k1;rw [h];simp (disch:=omega) only [Zr,hrep,k0,hs,k1,Ir,Dl,Kj,EVM,EVC,xe,EVP,EV,simprocAttr]
end Go.X.G
/- Zones in the program: Check, the Ov. -/
namespace Go.X.G
open Go Go.X
def By4 (t:Int):S lj 1 [.i .i64 t]=some [.b (decide (t=6)||decide (t=5)||decide (t=39))]:=by
 refine Fs2 (N:=1) rfl ?_;by_cases h1:t=6
 ·simp (disch:=omega) only [Bd4,h1,EVC,xe,EVP,EV,simprocAttr];simp
 ·by_cases h2:t=5
  ·simp (disch:=omega) only [Bd4,h2,EVC,xe,EVP,EV,simprocAttr];simp
  ·simp (disch:=omega) only [Bd4,h1,h2,EVC,xe,EVP,EV,simprocAttr];simp
def Dk9 (r:Rec) (t:Int):S Yy 1 [r.pv, .i .i64 t]=some [.b (decide (r.typ=t))]:=by refine Gj2 (N:=1) rfl ?_;simp (disch:=omega) only [Ff7,EVC,xe,EVP,EV,simprocAttr]
def Ks (g:List Rec) (t:Int) (hl:g.length≤1000000):S Ps 2 [Ag g, .i .i64 t]=some [.b (Gc g t)]:=by refine Hz9 (N:=1) rfl ?_;have h:=F5 g Yy [.i .i64 t] (fun r=>decide (r.typ=t)) hl (fun r _=>Dk9 r t);simp (disch:=omega) only [Hk7,h,EVC,xe,EVP,EV,simprocAttr];rfl
def J4 (l:List Int):PV:= .l 1 (l.map (PV.i .i64))
def P2 (l:List Int):Gb (J4 l)=some (.i .i64 (l.length:Int)):=by simp [J4,Gb]
def ct (l:List Int) (k:IntKind) (z:Int) (h:0≤z):Ht 1 (J4 l) (.i k z)=(l[z.toNat]?).map (PV.i .i64):=by simp [J4,cr _ _ _ _ h]
def jx (l:List Int):Bt 0 (J4 l)=some (J4 l):=rfl
def Bl5 (l:List Int):Jq (J4 l)=some (J4 l):=rfl
def Ct8 (l:List Int) (x:Int) (hl:l.length≤1000000):∃k:Int,(0≤k↔x∈l)∧S ky 2 [J4 l, .i .i64 x]=some [.i .i64 k]:=by
 have go:∀(i:Nat) (l:List Int),∃k:Int,k=(match l.findIdx? (·=x) with|some j=>((i+j:Nat):Int)|none=> -1)∧(0≤k↔x∈l):=by
  intro i l;refine ⟨_,rfl,?_⟩;cases h:l.findIdx? (·=x) with
  |none=>
   rw [List.findIdx?_eq_none_iff] at h;simp only;constructor
   ·intro h2;omega
   ·intro h2;have:=h x h2;simp at this
  |some j=>
   simp only;constructor
   ·intro _;rw [List.findIdx?_eq_some_iff_getElem] at h;obtain ⟨h1,h2,_⟩:=h;simp at h2;rw [←h2];exact Dd _
   ·intro _;omega
 obtain ⟨k,hk,hk2⟩:=go 0 l;refine ⟨k,hk2,?_⟩;refine Fp8 (N:=l.length+1) rfl ?_;have key:Cd6.ev S (l.length+1) [J4 l, .i .i64 x]=some (match l.findIdx? (·=x) with|some j=> .ret [.i .i64 ((0+j:Nat):Int)]|none=> .yld 0 []):=by
  refine Fg l (fun i=>[.i .i64 (i:Int)]) (fun i r=>match r.findIdx? (·=x) with|some j=> .ret [.i .i64 ((i+j:Nat):Int)]|none=> .yld 0 []) rfl (by omega) (fun i c r hd hi hc=> ?_) ?_
  ·by_cases h:x=c
   ·right;subst h;simp (disch:=omega) only [f5,hc,P2,ct,EVM,EVC,xe,EVP,EV,simprocAttr];simp [Hj6,Out.goes]
   ·left;have h':¬c=x:=fun e=>h e.symm;simp (disch:=omega) only [f5,hc,h,h',P2,ct,EVM,EVC,xe,EVP,EV,simprocAttr];refine ⟨trivial,?_⟩;simp only [Hj6,h',decide_false,Ad,if_false];cases r.findIdx? (·=x) with
    |none=>rfl
    |some j=>simp;omega
  ·simp (disch:=omega) only [f5,P2,ct,EVM,EVC,xe,EVP,EV,simprocAttr];simp [Out.goes]
 rw [hk];cases h:l.findIdx? (·=x) with
 |none=>
  rw [h] at key;simp (disch:=omega) only [f5,key,P2,EVM,EVC,xe,EVP,EV,simprocAttr]
 |some j=>
  rw [h] at key;simp (disch:=omega) only [f5,key,P2,EVM,EVC,xe,EVP,EV,simprocAttr]
def o6 (l:List Int) (x:Int) (hl:l.length≤1000000):S km 2 [J4 l, .i .i64 x]=some [.b (decide (x∈l))]:=by refine Fs0 (N:=1) rfl ?_;obtain ⟨k,h1,h2⟩:=Ct8 l x hl;simp (disch:=omega) only [Ff1,h2,EVM,EVC,xe,EVP,EV,simprocAttr];simp [h1]
def Bb7 (r:Rec) (ts:List Int) (hl:ts.length≤1000000):S X8 1 [r.pv,J4 ts]=some [.b (!decide (r.typ∈ts))]:=by refine Fs1 (N:=1) rfl ?_;have h:=o6 ts r.typ hl;simp (disch:=omega) only [Ff2,jx,h,EVC,xe,EVP,EV,simprocAttr]
def Zl (g:List Rec) (ts:List Int) (hl:g.length≤1000000) (ht:ts.length≤1000000):S N6 2 [Ag g,J4 ts]=some [.b (Jg g ts)]:=by
 refine Gj3 (N:=1) rfl ?_;have h:=F5 g X8 [J4 ts] (fun r=> !decide (r.typ∈ts)) hl (fun r _=>Bb7 r ts ht);have e:(!(g.any fun r=> !decide (r.typ∈ts)))=Jg g ts:=by unfold Jg;rw [List.not_any_eq_all_not];simp
 rw [←e];generalize (g.any fun r=> !decide (r.typ∈ts))=b at*;simp (disch:=omega) only [Ff8,jx,Bl5,h,EVC,xe,EVP,EV,simprocAttr]
def qj (g:List Rec) (hl:g.length≤1000000):S ln 1 [Ag g]=some [.b (Dj6 g)]:=by
 obtain ⟨N,hN⟩:∃N,N=g.length+2:=⟨_,rfl⟩;refine Gj4 (N:=N) rfl ?_;have key:Cf2.ev S N [Ag g]=some (if Dj6 g=true then .yld 0 [] else .ret [.b false]):=by
  cases g with
  |nil=>
   refine Gl 0 (fun _=>[.i .i64 1]) (fun _=> .yld 0 []) ?_ (by omega) (fun i hi=>absurd hi (by omega)) ⟨?_,rfl⟩
   ·simp (disch:=omega) only [EVC,xe,EVP,EV,simprocAttr]
   ·have hlt:¬(1:Int)<(([]:List Rec).length:Int):=by simp
    simp (disch:=omega) only [O9,hlt,EVC,xe,EVP,EV,simprocAttr]
  |cons p r=>
   have hlr:(p::r).length=r.length+1:=rfl;have:=Fg (fn:=S) (N:=N) (η:=[Ag (p::r)]) (id:=1) (init:=[.c (.i .i64 1)]) (body:=yy) r (fun i=>[.i .i64 ((i:Int)+1)]) (fun i l=>if (match (p::r)[i]? with|some q=>Xx q l|none=>true)=true then .yld 0 [] else .ret [.b false]) ?_ (by omega) (fun i c l hd hi hc=> ?_) ?_
   ·exact this
   ·simp (disch:=omega) only [EVC,xe,EVP,EV,simprocAttr]
    try rfl
   ·obtain ⟨q,hq⟩:∃q,(p::r)[i]? =some q:=⟨_,Ay (by rw [hlr];omega)⟩;have hc':(p::r)[i+1]? =some c:=by simpa using hc
    have e1:((i:Int)+1 - 1).toNat=i:=by omega
    have e2:((i:Int)+1).toNat=i+1:=by omega
    have hlt:(i:Int)+1<((p::r).length:Int):=by rw [hlr];omega
    have hsg:=By4 c.typ;rw [hq,hc'];generalize (p::r)=g' at*;have step:Xx q (c::l)=((!decide (c.typ=q.typ)||(!(decide (c.typ=6)||decide (c.typ=5)||decide (c.typ=39)) && (decide (c.typ=46)||decide (c.ttl=q.ttl)))) && Xx c l):=rfl;by_cases h1:c.typ=q.typ
    ·rcases Ak (decide (c.typ=6)||decide (c.typ=5)||decide (c.typ=39)) with h2|h2
     ·right;have er:Xx q (c::l)=false:=by rw [step,h2];simp [h1]
      rw [h2] at hsg;simp only [er,Ad,if_false];refine ⟨?_,rfl⟩;rw [h1] at hsg;simp (disch:=omega) only [O9,hlt,e1,e2,hq,hc',h1,hsg,EVC,xe,EVP,EV,simprocAttr]
     ·rw [h2] at hsg;rw [h2] at step;rw [h1] at hsg;by_cases h3:c.typ=46
      ·left;have er:Xx q (c::l)=Xx c l:=by rw [step];simp [h3]
       have h3':q.typ=46:=by rw [←h1];exact h3
       rw [h3'] at hsg;refine ⟨?_,by simp only [er]⟩;simp (disch:=omega) only [O9,hlt,e1,e2,hq,hc',h1,h3',hsg,EVC,xe,EVP,EV,simprocAttr]
       try simp
      ·have h3':¬q.typ=46:=by rw [←h1];exact h3
       by_cases h4:c.ttl=q.ttl
       ·left;have er:Xx q (c::l)=Xx c l:=by rw [step];simp [h4]
        refine ⟨?_,by simp only [er]⟩;simp (disch:=omega) only [O9,hlt,e1,e2,hq,hc',h1,h3',h4,hsg,EVC,xe,EVP,EV,simprocAttr]
        try simp
       ·right;have er:Xx q (c::l)=false:=by rw [step];simp [h1,h3',h4]
        simp only [er,Ad,if_false];refine ⟨?_,rfl⟩;simp (disch:=omega) only [O9,hlt,e1,e2,hq,hc',h1,h3',h4,hsg,EVC,xe,EVP,EV,simprocAttr]
    ·left;have er:Xx q (c::l)=Xx c l:=by rw [step];simp [h1]
     refine ⟨?_,by simp only [er]⟩;simp (disch:=omega) only [O9,hlt,e1,e2,hq,hc',h1,EVC,xe,EVP,EV,simprocAttr]
     try simp
   ·have hlt:¬(r.length:Int)+1<((p::r).length:Int):=by rw [hlr];omega
    obtain ⟨q,hq⟩:∃q,(p::r)[r.length]? =some q:=⟨_,Ay (by rw [hlr];omega)⟩;rw [hq];refine ⟨?_,by simp [Xx,Out.goes]⟩;generalize (p::r)=g' at*;simp (disch:=omega) only [O9,hlt,EVC,xe,EVP,EV,simprocAttr];simp [Xx]
 rcases Ak (Dj6 g) with h|h
 ·rw [h,if_pos rfl] at key;rw [h];simp (disch:=omega) only [O9,key,EVC,xe,EVP,EV,simprocAttr]
 ·rw [h,if_neg (by simp)] at key;rw [h];simp (disch:=omega) only [O9,key,EVC,xe,EVP,EV,simprocAttr]
def Ct9 (a b:List Rec) (ha:a.length≤1000000) (hb:b.length≤1000000):S Cx1 2 [Ag a,Ag b]=some [.b (decide (a=b))]:=by
 obtain ⟨N,hN⟩:∃N,N=a.length+1:=⟨_,rfl⟩;refine Hb3 (N:=N) rfl ?_;by_cases hl:a.length=b.length
 ·have key:Ez6.ev S N [Ag a,Ag b]=some (if a.drop 0=b.drop 0 then .yld 0 [] else .ret [.b false]):=by
   refine Gl a.length (fun i=>[.i .i64 (i:Int)]) (fun i=>if a.drop i=b.drop i then .yld 0 [] else .ret [.b false]) rfl (by omega) (fun i hi=> ?_) ?_
   ·have h1:a[i]? =some a[i]:=Ay hi;have h2:b[i]? =some b[i]:=Ay (by omega);have d1:a.drop i=a[i]::a.drop (i+1):=Cl hi;have d2:b.drop i=b[i]::b.drop (i+1):=Cl (by omega);rw [d1,d2];generalize a[i]=x at*;generalize b[i]'(by omega)=y at*;have hlt:(i:Int)<(a.length:Int):=by omega
    by_cases h:x=y
    ·left;subst h;refine ⟨?_,by simp⟩;simp (disch:=omega) only [Am5,hlt,h1,h2,EVC,xe,EVP,EV,simprocAttr]
     try simp
    ·right;rw [if_neg (by simp [h])];refine ⟨?_,rfl⟩;simp (disch:=omega) only [Am5,hlt,h1,h2,h,EVC,xe,EVP,EV,simprocAttr]
   ·have hlt:¬(a.length:Int)<(a.length:Int):=by omega
    have e:a.drop a.length=b.drop a.length:=by rw [List.drop_length,hl,List.drop_length]
    rw [if_pos e];refine ⟨?_,rfl⟩;simp (disch:=omega) only [Am5,hlt,EVC,xe,EVP,EV,simprocAttr]
  have hl':(a.length:Int)=(b.length:Int):=by omega
  rw [Ey,Ey] at key;by_cases h:a=b
  ·rw [if_pos h] at key;have e:decide (a=b)=true:=by simp [h]
   rw [e];simp (disch:=omega) only [Am5,hl',key,EVC,xe,EVP,EV,simprocAttr]
  ·rw [if_neg h] at key;have e:decide (a=b)=false:=by simp [h]
   rw [e];simp (disch:=omega) only [Am5,hl',key,EVC,xe,EVP,EV,simprocAttr]
 ·have hl':¬(a.length:Int)=(b.length:Int):=by omega
  have e:decide (a=b)=false:=decide_eq_false fun q=>hl (by rw [q]);rw [e];simp (disch:=omega) only [Am5,hl',EVC,xe,EVP,EV,simprocAttr]
end Go.X.G
/- Zones in the program: proper. -/
namespace Go.X.G
open Go Go.X
section
variable (o cut red:List UInt8) (g:List Rec) (x:Rec) (N:Nat)
def An7 (n:List UInt8):Bool:=decide (n[0]? =some 42)
def Hf7 (hx:g[0]? =some x) (hl:g.length≤1000000) (hn:x.name≠[]) (p4 p5 p6 p7 p8 p9 p10 p11 p12 p13:PV):
  Cp5.ev S N [.s o,Ag g, .s cut, .s red,p4,p5,p6,p7,p8,p9,p10,p11,p12,p13]=some (.ret [.b (!An7 x.name||(!Gc g 2 && !Gc g 39))]):=by
 have k2:=Ks g 2 hl;have k39:=Ks g 39 hl;obtain ⟨c,hc⟩:∃c,x.name[0]? =some c:=⟨_,Ay (Bc.2 hn)⟩;unfold An7;rw [hc];by_cases h1:c=42
 ·have h1':(c.toNat:Int)=42:=by rw [h1];rfl
  rcases Ak (Gc g 2) with h2|h2
  ·rw [h2] at k2;simp (disch:=omega) only [Eg6,hx,hc,h1',k2,EVC,xe,EVP,EV,simprocAttr];simp [h1,h2]
  ·rw [h2] at k2;simp (disch:=omega) only [Eg6,hx,hc,h1',k2,k39,EVC,xe,EVP,EV,simprocAttr];simp [h1,h2]
 ·have h1':¬(c.toNat:Int)=42:=fun q=>h1 (UInt8.toNat_inj.1 (show c.toNat=42 by omega));simp (disch:=omega) only [Eg6,hx,hc,h1',EVC,xe,EVP,EV,simprocAttr];simp [h1]
def Hf6 (hx:g[0]? =some x) (hl:g.length≤1000000) (hn:x.name≠[]) (p4 p5 p6 p7 p8 p9 p10:PV):
  Ag6.ev S N [.s o,Ag g, .s cut, .s red,p4,p5,p6,p7,p8,p9,p10]=some (.ret [.b ((if (!decide (x.name=o) && Gc g 2)=true then Jg g [2,43,47,46,1,28] else !Gc g 43) && (!An7 x.name||(!Gc g 2 && !Gc g 39)))]):=by
 have k2:=Ks g 2 hl;have k43:=Ks g 43 hl;have kd:S N6 2 [Ag g, .l 1 [.i .i64 2, .i .i64 43, .i .i64 47, .i .i64 46, .i .i64 1, .i .i64 28]]=some [.b (Jg g [2,43,47,46,1,28])]:=Zl g [2,43,47,46,1,28] hl (by decide);have hlit:Jl 1 [.i .i64 2, .i .i64 43, .i .i64 47, .i .i64 46, .i .i64 1, .i .i64 28]=some (.l 1 [.i .i64 2, .i .i64 43, .i .i64 47, .i .i64 46, .i .i64 1, .i .i64 28]):=rfl;have t:=fun p11 p12 p13=>Hf7 o cut red g x N hx hl hn p4 p5 p6 p7 p8 p9 p10 p11 p12 p13;have x7:=Bj Ag6.eq_1;have x6:=Bj Cn9.eq_1;have x5:=Bj Cp0.eq_1;have x4:=Bj Cp2.eq_1;have x3:=Bj Cp3.eq_1;by_cases h0:x.name=o
 ·rcases Ak (Gc g 43) with h1|h1<;>rw [h1] at k43<;>simp (disch:=omega) only [x7,x6,x5,x4,x3,t,hx,h0,k43,hlit,EVC,xe,EVP,EV,simprocAttr]<;>simp [h1]
 ·rcases Ak (Gc g 2) with h2|h2
  ·rw [h2] at k2;rcases Ak (Jg g [2,43,47,46,1,28]) with h3|h3<;>rw [h3] at kd<;>simp (disch:=omega) only [x7,x6,x5,x4,x3,t,hx,h0,k2,kd,hlit,EVC,xe,EVP,EV,simprocAttr]<;>simp [h0,h2,h3]
  ·rw [h2] at k2;rcases Ak (Gc g 43) with h1|h1<;>rw [h1] at k43<;>simp (disch:=omega) only [x7,x6,x5,x4,x3,t,hx,h0,k2,k43,hlit,EVC,xe,EVP,EV,simprocAttr]<;>simp [h0,h1,h2]
def Gv4 (hx:g[0]? =some x) (hl:g.length≤1000000) (hn:x.name≠[]) (p4 p5 p6 p7:PV):
  d5.ev S N [.s o,Ag g, .s cut, .s red,p4,p5,p6,p7]=some (.ret [.b ((!Gc g 5||Jg g [5,46,47]) && decide (red=[]) && (decide (cut=[])||Jg g [1,28]) && ((if (!decide (x.name=o) && Gc g 2)=true then Jg g [2,43,47,46,1,28] else !Gc g 43) && (!An7 x.name||(!Gc g 2 && !Gc g 39))))]):=by
 have k5:=Ks g 5 hl;have kc:S N6 2 [Ag g, .l 1 [.i .i64 5, .i .i64 46, .i .i64 47]]=some [.b (Jg g [5,46,47])]:=Zl g [5,46,47] hl (by decide);have ka:S N6 2 [Ag g, .l 1 [.i .i64 1, .i .i64 28]]=some [.b (Jg g [1,28])]:=Zl g [1,28] hl (by decide);have hlit1:Jl 1 [.i .i64 5, .i .i64 46, .i .i64 47]=some (.l 1 [.i .i64 5, .i .i64 46, .i .i64 47]):=rfl;have hlit2:Jl 1 [.i .i64 1, .i .i64 28]=some (.l 1 [.i .i64 1, .i .i64 28]):=rfl;have t:=fun p8 p9 p10=>Hf6 o cut red g x N hx hl hn p4 p5 p6 p7 p8 p9 p10;generalize ((if (!decide (x.name=o) && Gc g 2)=true then Jg g [2,43,47,46,1,28] else !Gc g 43) && (!An7 x.name||(!Gc g 2 && !Gc g 39)))=B at*;have x13:=Bj d5.eq_1;have x12:=Bj xq.eq_1;have x11:=Bj xv.eq_1;have x10:=Bj xw.eq_1;have x9:=Bj Cn6.eq_1;have x8:=Bj Cn7.eq_1;rcases Ak (Gc g 5) with h1|h1<;>rw [h1] at k5
 ·rcases Ak (Jg g [5,46,47]) with h2|h2<;>rw [h2] at kc
  ·by_cases h3:red=[]
   ·replace h3:=eq_true h3;by_cases h4:cut=[]
    ·replace h4:=eq_true h4;simp (disch:=omega) only [x13,x12,x11,x10,x9,x8,t,k5,kc,h3,h4,hlit1,hlit2,EVC,xe,EVP,EV,simprocAttr]
     (clear x13 x12 x11 x10 x9 x8 t;simp [*])
    ·rcases Ak (Jg g [1,28]) with h5|h5<;>rw [h5] at ka<;>simp (disch:=omega) only [x13,x12,x11,x10,x9,x8,t,k5,kc,ka,h3,h4,hlit1,hlit2,EVC,xe,EVP,EV,simprocAttr]<;>(clear x13 x12 x11 x10 x9 x8 t;simp [*])
   ·simp (disch:=omega) only [x13,x12,x11,x10,x9,x8,t,k5,kc,h3,hlit1,hlit2,EVC,xe,EVP,EV,simprocAttr]
    (clear x13 x12 x11 x10 x9 x8 t;simp [*])
  ·simp (disch:=omega) only [x13,x12,x11,k5,kc,hlit1,hlit2,EVC,xe,EVP,EV,simprocAttr]
   (clear x13 x12 x11 x10 x9 x8 t;simp [*])
 ·by_cases h3:red=[]
  ·replace h3:=eq_true h3;by_cases h4:cut=[]
   ·replace h4:=eq_true h4;simp (disch:=omega) only [x13,x12,x11,x10,x9,x8,t,k5,h3,h4,hlit1,hlit2,EVC,xe,EVP,EV,simprocAttr]
    (clear x13 x12 x11 x10 x9 x8 t;simp [*])
   ·rcases Ak (Jg g [1,28]) with h5|h5<;>rw [h5] at ka<;>simp (disch:=omega) only [x13,x12,x11,x10,x9,x8,t,k5,ka,h3,h4,hlit1,hlit2,EVC,xe,EVP,EV,simprocAttr]<;>(clear x13 x12 x11 x10 x9 x8 t;simp [*])
  ·simp (disch:=omega) only [x13,x12,x11,x10,x9,x8,t,k5,h3,hlit1,hlit2,EVC,xe,EVP,EV,simprocAttr]
   (clear x13 x12 x11 x10 x9 x8 t;simp [*])
end
def Am2 (o cut red:List UInt8) (g:List Rec) (hg:g≠[]) (hl:g.length≤1000000) (ho:o.length≤9223372036854775807) (hn:(nmG g).length≤9223372036854775807):
  S Cw8 4 [.s o,Ag g, .s cut, .s red]=some [.b (propG o g (decide (cut≠[])) (decide (red≠[])))]:=by
 obtain ⟨x,r,rfl⟩:∃x r,g=x::r:=by
  cases g with
  |nil=>exact absurd rfl hg
  |cons x r=>exact ⟨x,r,rfl⟩
 have hx:(x::r)[0]? =some x:=rfl;have hnm:nmG (x::r)=x.name:=rfl;rw [hnm] at hn;unfold propG;rw [hnm];generalize (x::r)=g at*;obtain ⟨N,hN⟩:∃N,N=1:=⟨_,rfl⟩;refine Hb0 (N:=N) rfl ?_;have hu:=Ec x.name o hn ho;have k6:=Ks g 6 hl;have k2:=Ks g 2 hl;have ku:=qj g hl;have xt:=Bj Bg2.eq_1;have x18:=Bj wl.eq_1;have x17:=Bj wn.eq_1;have x16:=Bj wt.eq_1;have x15:=Bj w7.eq_1;have x14:=Bj w9.eq_1;have e1:decide (cut≠[])= !decide (cut=[]):=by simp
 have e2:decide (red≠[])= !decide (red=[]):=by simp
 rw [e1,e2,Bool.not_not,Bool.not_not];rcases Ak (under x.name o) with h0|h0<;>rw [h0] at hu
 ·have hne:x.name≠[]:=pp (Bw.1 h0).1;have t:=fun p4 p5 p6 p7=>Gv4 o cut red g x N hx hl hne p4 p5 p6 p7;have eS:An7 x.name=decide (x.name[0]? =some 42):=rfl;rw [eS] at t;generalize hA:(!Gc g 5||Jg g [5,46,47])=A at*;generalize hB:(if (!decide (x.name=o) && Gc g 2)=true then Jg g [2,43,47,46,1,28] else !Gc g 43)=B at*;generalize hC:(!decide (x.name[0]? =some 42)||(!Gc g 2 && !Gc g 39))=C at*;generalize decide (red=[])=D at*;generalize (decide (cut=[])||Jg g [1,28])=E' at*;clear hB hC hA;rcases Ak (Gc g 6) with h6|h6<;>rw [h6] at k6
  ·by_cases hno:x.name=o
   ·replace hno:=eq_true hno;rcases Ak (Dj6 g) with h1|h1<;>rw [h1] at ku
    ·rcases Ak (Gc g 2) with h2|h2<;>rw [h2] at k2
     ·simp (disch:=omega) only [xt,x18,x17,x16,x15,x14,t,hx,hu,k6,hno,ku,k2,EVC,xe,EVP,EV,simprocAttr]
      (clear xt x18 x17 x16 x15 x14 t;simp [*,Bool.and_assoc])
     ·simp (disch:=omega) only [xt,x18,x17,x16,x15,x14,t,hx,hu,k6,hno,ku,k2,EVC,xe,EVP,EV,simprocAttr]
      (clear xt x18 x17 x16 x15 x14 t;simp [*])
    ·simp (disch:=omega) only [xt,x18,x17,x16,x15,x14,t,hx,hu,k6,hno,ku,EVC,xe,EVP,EV,simprocAttr]
     (clear xt x18 x17 x16 x15 x14 t;simp [*])
   ·simp (disch:=omega) only [xt,x18,x17,x16,x15,x14,t,hx,hu,k6,hno,EVC,xe,EVP,EV,simprocAttr]
    (clear xt x18 x17 x16 x15 x14 t;simp [*])
  ·by_cases hno:x.name=o
   ·replace hno:=eq_true hno;simp (disch:=omega) only [xt,x18,x17,x16,x15,x14,t,hx,hu,k6,hno,EVC,xe,EVP,EV,simprocAttr]
    (clear xt x18 x17 x16 x15 x14 t;simp [*])
   ·rcases Ak (Dj6 g) with h1|h1<;>rw [h1] at ku
    ·simp (disch:=omega) only [xt,x18,x17,x16,x15,x14,t,hx,hu,k6,hno,ku,EVC,xe,EVP,EV,simprocAttr]
     (clear xt x18 x17 x16 x15 x14 t;simp [*,Bool.and_assoc])
    ·simp (disch:=omega) only [xt,x18,x17,x16,x15,x14,t,hx,hu,k6,hno,ku,EVC,xe,EVP,EV,simprocAttr]
     (clear xt x18 x17 x16 x15 x14 t;simp [*])
 ·simp (disch:=omega) only [xt,x18,x17,x16,x15,x14,hx,hu,EVC,xe,EVP,EV,simprocAttr]
  (clear xt x18 x17 x16 x15 x14;simp [*])
end Go.X.G
/- Zones in the program: Check and New. -/
namespace Go.X.G
open Go Go.X
def Gs (gs:List (List Rec)):PV:= .l 1 (gs.map Ag)
def P3 (l:List (List Rec)):Gb (Gs l)=some (.i .i64 (l.length:Int)):=by simp [Gs,Gb]
def E9 (l:List (List Rec)) (k:IntKind) (z:Int) (h:0≤z):Ht 1 (Gs l) (.i k z)=(l[z.toNat]?).map Ag:=by simp [Gs,cr _ _ _ _ h]
def Cz9 (x:List Rec):Jl 1 [Ag x]=some (Gs [x]):=rfl
def od (l:List (List Rec)) (x:List Rec) (h:l.length+1≤1073741824):Ih 1 (Gs l) (Gs [x])=some (Gs (l++[x])):=by have:=Wb 1 (l.map Ag) [Ag x] (by simpa using h);simpa [Gs] using this
def Em9 {α:Type} (l:List α) (s i:Nat) (c:α) (h:l[i]? =some c) (hs:s≤i):sl l s (i+1)=sl l s i++[c]:=by unfold sl;have hi:=(Aw.1 h).1;rw [Cq,h,List.drop_append_of_le_length (by rw [Ap];omega)];rfl
def Ch2 (l:List Rec) (hl:l.length≤1000000):S Cw9 1 [Ag l]=some [Gs (grp l)]:=by
 obtain ⟨N,hN⟩:∃N,N=l.length+1:=⟨_,rfl⟩;refine Hb1 (N:=N) rfl ?_;have key:Ez5.ev S N [Ag l]=some (.yld 0 [Gs ([]++W6 (sl l 0 0) l)]):=by
  refine E8 l (fun i (g:List (List Rec)×Nat)=>[Gs g.1, .i .i64 (g.2:Int), .i .i64 (i:Int)]) (fun i g r=> .yld 0 [Gs (g.1++W6 (sl l g.2 i) r)]) (fun i g=>g.2≤i∧g.1.length≤i) ([],0) ?_ (by simp) (by omega) (fun i g c r hd hi hc hI=> ?_) (fun g hI=> ?_)
  ·rfl
  ·left;obtain ⟨out,st⟩:=g;obtain ⟨hI1,hI2⟩:=hI;simp only at hI1 hI2 ⊢;have hlt:(i:Int)<(l.length:Int):=by omega
   have e1:((i:Int)+1).toNat=i+1:=by omega
   have e2:(i:Int).toNat=i:=by omega
   have e3:(st:Int).toNat=st:=by omega
   have hsl:=Em9 l st i c hc hI1;have hsl2:List.drop st (List.take (i+1) l)=sl l st i++[c]:=hsl;have hsl3:sl l st st=[]:=by unfold sl;rw [List.drop_eq_nil_iff,Ap];omega
   have hsl4:sl l (i+1) (i+1)=[]:=by unfold sl;rw [List.drop_eq_nil_iff,Ap];omega
   have hr:r=l.drop (i+1):=by have:=congrArg List.tail hd;simpa using this.symm
   by_cases hc2:(match r with|[]=>true|y::_=> !decide (y.name=c.name))=true
   ·refine ⟨(out++[sl l st i++[c]],i+1),?_,⟨by simp,by simp;omega⟩,?_⟩
    ·cases r with
     |nil=>
      have hend:(i:Int)+1=(l.length:Int):=by have:=congrArg List.length hr;simp at this;omega
      simp only;simp (disch:=omega) only [Bc7,hlt,hend.symm,e1,e2,e3,hc,hsl2,Cz9,od,EVC,xe,EVP,EV,simprocAttr]
      try (congr 3;omega)
     |cons y r'=>
      have hy:l[i+1]? =some y:=by have:=congrArg (fun q=>q[0]?) hr;simpa [A8] using this.symm
      have hyl:=(Aw.1 hy).1;have hend:¬(i:Int)+1=(l.length:Int):=by omega
      have hyc:¬y.name=c.name:=by simpa using hc2
      simp only;simp (disch:=omega) only [Bc7,hlt,hend,e1,e2,e3,hc,hy,hyc,hsl2,Cz9,od,EVC,xe,EVP,EV,simprocAttr]
      try congr 3
    ·have eg:W6 (sl l st i) (c::r)=(sl l st i++[c])::W6 [] r:=by
      cases r with
      |nil=>rfl
      |cons y r'=>rw [W6,if_pos hc2]
     simp only [eg,hsl4];simp
   ·refine ⟨(out,st),?_,⟨by simp;omega,by simp;omega⟩,?_⟩
    ·cases r with
     |nil=>simp at hc2
     |cons y r'=>
      have hy:l[i+1]? =some y:=by have:=congrArg (fun q=>q[0]?) hr;simpa [A8] using this.symm
      have hyl:=(Aw.1 hy).1;have hend:¬(i:Int)+1=(l.length:Int):=by omega
      have hyc:y.name=c.name:=by simpa using hc2
      simp only;simp (disch:=omega) only [Bc7,hlt,hend,e1,e2,e3,hc,hy,hyc,EVC,xe,EVP,EV,simprocAttr]
      try rfl
    ·have eg:W6 (sl l st i) (c::r)=W6 (sl l st i++[c]) r:=by
      cases r with
      |nil=>simp at hc2
      |cons y r'=>rw [W6,if_neg hc2]
     simp only [eg,hsl]
  ·have hlt:¬(l.length:Int)<(l.length:Int):=by omega
   refine ⟨?_,rfl⟩;simp (disch:=omega) only [Bc7,hlt,EVC,xe,EVP,EV,simprocAttr];simp [W6]
 have e:[]++W6 (sl l 0 0) l=grp l:=by simp [sl,grp]
 rw [e] at key;generalize grp l=gs at*;simp (disch:=omega) only [Bc7,key,EVC,xe,EVP,EV,simprocAttr]
def Bx4 (o:List UInt8):List (List Rec)→List UInt8→List UInt8→Bool→Option Bool
 |[],_,_,soa=>some soa
 |g::gs,cut,red,soa=>
  if propG o g (decide (D2 (nmG g) cut≠[])) (decide (D2 (nmG g) red≠[]))=true then
   Bx4 o gs (if D2 (nmG g) cut=[]∧nmG g≠o∧Gc g 2=true then nmG g else D2 (nmG g) cut) (if Gc g 39=true then nmG g else D2 (nmG g) red) (soa||decide (nmG g=o))
  else none
def Cn3 (o:List UInt8):∀(gs:List (List Rec)) (cut red:List UInt8) (soa:Bool),vf o gs cut red soa=decide (Bx4 o gs cut red soa=some true)
 |[],_,_,soa=>by simp [vf,Bx4]
 |g::gs,cut,red,soa=>by
  simp only [vf,Bx4];split
  ·exact Cn3 o gs _ _ _
  ·simp
def Gt3:Option Bool→Out
 |some b=> .yld 0 [.b b]
 |none=> .ret [.i .i64 13]
section
variable (z:Zone) (g:List Rec) (gs:List (List Rec)) (x:Rec) (N:Nat) (i:Nat) (cut red:List UInt8) (soa:Bool)
def Iq6 (hi:gs[i]? =some g) (hx:g[0]? =some x) (hxl:x.name.length≤9223372036854775807) (hcl:cut.length≤9223372036854775807) (p1 p2 p3 p4 p5:PV):
  ∃p11,Wq.ev S N [z.pv,p1,p2,p3,p4,p5,Gs gs, .s cut, .s red, .b soa, .i .i64 (i:Int)]=Wv.ev S N [z.pv,p1,p2,p3,p4,p5,Gs gs, .s cut, .s red, .b soa, .i .i64 (i:Int),p11, .s (D2 x.name cut)]:=by
 have x17:=Bj Wq.eq_1;have x16:=Bj w6.eq_1;have x0:=Bj Cr0.eq_1;have hu:=Ec x.name cut hxl hcl;have ei:(i:Int).toNat=i:=by omega
 by_cases h1:cut=[]
 ·refine ⟨.u,?_⟩;have e:D2 x.name cut=cut:=by unfold D2;simp [h1]
  rw [e];replace h1:=eq_true h1;simp (disch:=omega) only [x17,x16,x0,h1,hi,hx,ei,E9,EVC,xe,EVP,EV,simprocAttr]
 ·rcases Ak (under x.name cut) with h2|h2<;>rw [h2] at hu
  ·refine ⟨.b true,?_⟩;have e:D2 x.name cut=cut:=by unfold D2;simp [h2]
   rw [e];simp (disch:=omega) only [x17,x16,x0,h1,hu,hi,hx,ei,E9,EVC,xe,EVP,EV,simprocAttr]
  ·refine ⟨.b false,?_⟩;have e:D2 x.name cut=[]:=by unfold D2;simp [h1,h2]
   rw [e];simp (disch:=omega) only [x17,x16,x0,h1,hu,hi,hx,ei,E9,EVC,xe,EVP,EV,simprocAttr]
def Iq5 (hi:gs[i]? =some g) (hx:g[0]? =some x) (hxl:x.name.length≤9223372036854775807) (hrl:red.length≤9223372036854775807) (p1 p2 p3 p4 p5 p11 p12:PV):
  ∃p13,Wv.ev S N [z.pv,p1,p2,p3,p4,p5,Gs gs, .s cut, .s red, .b soa, .i .i64 (i:Int),p11,p12]=d6.ev S N [z.pv,p1,p2,p3,p4,p5,Gs gs, .s cut, .s red, .b soa, .i .i64 (i:Int),p11,p12,p13, .s (D2 x.name red)]:=by
 have x15:=Bj Wv.eq_1;have x14:=Bj xk.eq_1;have x1:=Bj Cp8.eq_1;have hu:=Ec x.name red hxl hrl;have ei:(i:Int).toNat=i:=by omega
 by_cases h1:red=[]
 ·refine ⟨.u,?_⟩;have e:D2 x.name red=red:=by unfold D2;simp [h1]
  rw [e];replace h1:=eq_true h1;simp (disch:=omega) only [x15,x14,x1,h1,hi,hx,ei,E9,EVC,xe,EVP,EV,simprocAttr]
 ·rcases Ak (under x.name red) with h2|h2<;>rw [h2] at hu
  ·refine ⟨.b true,?_⟩;have e:D2 x.name red=red:=by unfold D2;simp [h2]
   rw [e];simp (disch:=omega) only [x15,x14,x1,h1,hu,hi,hx,ei,E9,EVC,xe,EVP,EV,simprocAttr]
  ·refine ⟨.b false,?_⟩;have e:D2 x.name red=[]:=by unfold D2;simp [h1,h2]
   rw [e];simp (disch:=omega) only [x15,x14,x1,h1,hu,hi,hx,ei,E9,EVC,xe,EVP,EV,simprocAttr]
def Iq4 (hi:gs[i]? =some g) (hx:g[0]? =some x) (hnm:nmG g=x.name) (hg:g≠[]) (hl:g.length≤1000000) (hil:i≤1000000) (hxl:x.name.length≤9223372036854775807) (hzl:z.origin.length≤9223372036854775807) (cu re:List UInt8) (p1 p2 p3 p4 p5 p7 p8 p11 p13:PV):
  d6.ev S N [z.pv,p1,p2,p3,p4,p5,Gs gs,p7,p8, .b soa, .i .i64 (i:Int),p11, .s cu,p13, .s re]=
   some (if propG z.origin g (decide (cu≠[])) (decide (re≠[]))=true then .yld 1 [.s (if cu=[]∧x.name≠z.origin∧Gc g 2=true then x.name else cu), .s (if Gc g 39=true then x.name else re), .b (soa||decide (x.name=z.origin)), .i .i64 ((i:Int)+1)] else .ret [.i .i64 13]):=by
 have hp:=Am2 z.origin cu re g hg hl hzl (by rw [hnm];exact hxl);have k2:=Ks g 2 hl;have k39:=Ks g 39 hl;have ei:(i:Int).toNat=i:=by omega
 generalize propG z.origin g (decide (cu≠[])) (decide (re≠[]))=P at*;cases P
 ·simp (disch:=omega) only [T7,hp,hi,hx,ei,E9,EVC,xe,EVP,EV,simprocAttr]
  try simp
 ·by_cases h1:cu=[]
  ·by_cases h2:x.name=z.origin
   ·rcases Ak (Gc g 39) with h3|h3<;>rw [h3] at k39
    ·cases soa<;>(have h1':=eq_true h1;have h2':=eq_true h2;simp (disch:=omega) only [T7,hp,hi,hx,ei,h1',h2',k39,E9,EVC,xe,EVP,EV,simprocAttr];simp [h2,h3])
    ·cases soa<;>(have h1':=eq_true h1;have h2':=eq_true h2;simp (disch:=omega) only [T7,hp,hi,hx,ei,h1',h2',k39,E9,EVC,xe,EVP,EV,simprocAttr];simp [h2,h3])
   ·rcases Ak (Gc g 2) with h4|h4<;>rw [h4] at k2
    ·rcases Ak (Gc g 39) with h3|h3<;>rw [h3] at k39
     ·cases soa<;>(have h1':=eq_true h1;simp (disch:=omega) only [T7,hp,hi,hx,ei,h1',h2,k2,k39,E9,EVC,xe,EVP,EV,simprocAttr];simp [h1,h2,h3,h4])
     ·cases soa<;>(have h1':=eq_true h1;simp (disch:=omega) only [T7,hp,hi,hx,ei,h1',h2,k2,k39,E9,EVC,xe,EVP,EV,simprocAttr];simp [h1,h2,h3,h4])
    ·rcases Ak (Gc g 39) with h3|h3<;>rw [h3] at k39
     ·cases soa<;>(have h1':=eq_true h1;simp (disch:=omega) only [T7,hp,hi,hx,ei,h1',h2,k2,k39,E9,EVC,xe,EVP,EV,simprocAttr];simp [h2,h3,h4])
     ·cases soa<;>(have h1':=eq_true h1;simp (disch:=omega) only [T7,hp,hi,hx,ei,h1',h2,k2,k39,E9,EVC,xe,EVP,EV,simprocAttr];simp [h2,h3,h4])
  ·by_cases h2:x.name=z.origin
   ·rcases Ak (Gc g 39) with h3|h3<;>rw [h3] at k39
    ·cases soa<;>(have h2':=eq_true h2;simp (disch:=omega) only [T7,hp,hi,hx,ei,h1,h2',k39,E9,EVC,xe,EVP,EV,simprocAttr];simp [h1,h2,h3])
    ·cases soa<;>(have h2':=eq_true h2;simp (disch:=omega) only [T7,hp,hi,hx,ei,h1,h2',k39,E9,EVC,xe,EVP,EV,simprocAttr];simp [h1,h2,h3])
   ·rcases Ak (Gc g 39) with h3|h3<;>rw [h3] at k39
    ·cases soa<;>(simp (disch:=omega) only [T7,hp,hi,hx,ei,h1,h2,k39,E9,EVC,xe,EVP,EV,simprocAttr];simp [h1,h2,h3])
    ·cases soa<;>(simp (disch:=omega) only [T7,hp,hi,hx,ei,h1,h2,k39,E9,EVC,xe,EVP,EV,simprocAttr];simp [h1,h2,h3])
end
def Ad3:∀(n:Nat) (l:List Rec),l.length≤n→(∀g∈grp l,g≠[]∧∀x∈g,x∈l)∧(grp l).length≤l.length
 |_,[],_=>by simp [grp,W6]
 |0,x::r,hn=>by simp at hn
 |n+1,x::r,hn=>by
  obtain ⟨g,l',h1,h2,h3,h4,h5⟩:=Tm x r;have hlen:=congrArg List.length h1;have hg0:0<g.length:=Bc.2 h2;simp only [Ab,A5] at hlen hn;obtain ⟨i1,i2⟩:=Ad3 n l' (by omega);rw [h5];refine ⟨fun g' hg'=> ?_,by simp;omega⟩;rcases Am.1 hg' with rfl|hg'
  ·exact ⟨h2,fun w hw=>by rw [h1];exact Cy _ hw⟩
  ·obtain ⟨j1,j2⟩:=i1 g' hg';exact ⟨j1,fun w hw=>by rw [h1];exact Bs _ (j2 w hw)⟩
def Cg2 (p:Prop) [Decidable p] (a b:List UInt8) (ha:a.length≤9223372036854775807) (hb:b.length≤9223372036854775807):(if p then a else b).length≤9223372036854775807:=by split<;>assumption
def Ij4 (z:Zone) (hz:z.wf) (hl:z.recs.length≤1000000) (N:Nat) (hN:z.recs.length+1<N) (p1 p2 p3 p4 p5:PV):
  Eb4.ev S N [z.pv,p1,p2,p3,p4,p5,Gs (grp z.recs)]=some (Gt3 (Bx4 z.origin (grp z.recs) [] [] false)):=by
 obtain ⟨gf1,gf2⟩:=Ad3 z.recs.length z.recs (Af _);have hgl:∀g∈grp z.recs,g.length≤1000000:=fun g hg=>by
  have:∀(n:Nat) (l:List Rec),l.length≤n→∀g∈grp l,g.length≤l.length:=by
   intro n
   induction n with
   |zero=>intro l hl g hg;cases l with
    |nil=>simp [grp,W6] at hg
    |cons x r=>simp at hl
   |succ n ih=>
    intro l hl g hg;cases l with
    |nil=>simp [grp,W6] at hg
    |cons x r=>
     obtain ⟨g0,l',h1,h2,h3,h4,h5⟩:=Tm x r;have hlen:=congrArg List.length h1;have hg0:0<g0.length:=Bc.2 h2;simp only [Ab,A5] at hlen hl;rw [h5] at hg;rcases Am.1 hg with rfl|hg
     ·simp only [A5];omega
     ·have:=ih l' (by omega) g hg;simp only [A5];omega
  exact C9 (this _ _ (Af _) g hg) hl
 generalize grp z.recs=gs at*;have:=E8 (fn:=S) (N:=N) (η:=[z.pv,p1,p2,p3,p4,p5,Gs gs]) (id:=1) (init:=[.c (.s []), .c (.s []), .c (.b false), .c (.i .i64 0)]) (body:=Zw) gs (fun i (a:List UInt8×List UInt8×Bool)=>[.s a.1, .s a.2.1, .b a.2.2, .i .i64 (i:Int)]) (fun i a r=>Gt3 (Bx4 z.origin r a.1 a.2.1 a.2.2)) (fun i a=>a.1.length≤9223372036854775807∧a.2.1.length≤9223372036854775807) ([],[],false) ?_ (by simp) (by omega) (fun i a g r hd hi hc hI=> ?_) (fun a hI=> ?_)
 ·exact this
 ·simp (disch:=omega) only [EVC,xe,EVP,EV,simprocAttr]
  try rfl
 ·obtain ⟨cut,red,soa⟩:=a;obtain ⟨hI1,hI2⟩:=hI;simp only at hI1 hI2 ⊢;have hgm:=A4 hc;obtain ⟨hg,hgz⟩:=gf1 g hgm;obtain ⟨x,hx,hxm⟩:∃x,g[0]? =some x∧x∈g:=by
   cases g with
   |nil=>exact absurd rfl hg
   |cons x r=>exact ⟨x,rfl, .head _⟩
  have hnm:nmG g=x.name:=by
   cases g with
   |nil=>exact absurd rfl hg
   |cons y r=>simp at hx;rw [←hx];rfl
  have hxl:x.name.length≤9223372036854775807:=(hz.recs.2 x (hgz x hxm)).name;have hzl:z.origin.length≤9223372036854775807:=hz.origin;obtain ⟨p11,kA⟩:=Iq6 z g gs x N i cut red soa hc hx hxl hI1 p1 p2 p3 p4 p5;have hku:(D2 x.name cut).length≤9223372036854775807:=by unfold D2;split<;>simp [hI1]
  have hkr:(D2 x.name red).length≤9223372036854775807:=by unfold D2;split<;>simp [hI2]
  obtain ⟨p13,kB⟩:=Iq5 z g gs x N i cut red soa hc hx hxl hI2 p1 p2 p3 p4 p5 p11 (.s (D2 x.name cut));have kC:=Iq4 z g gs x N i soa hc hx hnm hg (hgl g hgm) (by omega) hxl hzl (D2 x.name cut) (D2 x.name red) p1 p2 p3 p4 p5 (.s cut) (.s red) p11 p13;have kall:=kA.trans (kB.trans kC);have hlt:(i:Int)<(gs.length:Int):=by omega
  have hb:Zw.ev S N [z.pv,p1,p2,p3,p4,p5,Gs gs, .s cut, .s red, .b soa, .i .i64 (i:Int)]=Wq.ev S N [z.pv,p1,p2,p3,p4,p5,Gs gs, .s cut, .s red, .b soa, .i .i64 (i:Int)]:=by have xb:=Bj Zw.eq_1;simp (disch:=omega) only [xb,hlt,P3,EVC,xe,EVP,EV,simprocAttr]
  have hb2:=hb.trans kall;have estep:Bx4 z.origin (g::r) cut red soa=if propG z.origin g (decide (D2 x.name cut≠[])) (decide (D2 x.name red≠[]))=true then Bx4 z.origin r (if D2 x.name cut=[]∧x.name≠z.origin∧Gc g 2=true then x.name else D2 x.name cut) (if Gc g 39=true then x.name else D2 x.name red) (soa||decide (x.name=z.origin)) else none:=by simp only [Bx4,hnm]
  by_cases hP:propG z.origin g (decide (D2 x.name cut≠[])) (decide (D2 x.name red≠[]))=true
  ·left;rw [if_pos hP] at hb2 estep;refine ⟨(if D2 x.name cut=[]∧x.name≠z.origin∧Gc g 2=true then x.name else D2 x.name cut,if Gc g 39=true then x.name else D2 x.name red,soa||decide (x.name=z.origin)),hb2,⟨?_,?_⟩,?_⟩
   ·exact Cg2 _ _ _ hxl hku
   ·exact Cg2 _ _ _ hxl hkr
   ·rw [estep]
  ·right;rw [if_neg hP] at hb2 estep;rw [estep];exact ⟨hb2,rfl⟩
 ·have hlt:¬(gs.length:Int)<(gs.length:Int):=by omega
  have xb:=Bj Zw.eq_1;refine ⟨?_,rfl⟩;simp (disch:=omega) only [xb,hlt,P3,EVC,xe,EVP,EV,simprocAttr];rfl
def yr (z:Zone) (hz:z.wf):Ip z=if vld z.origin=false then 2 else if 2048<z.recs.length∨Sg z.recs=true then 9 else if z.recs.all Ql=false then 5 else if z.recs≠sortR z.recs then 7 else if Bx4 z.origin (grp z.recs) [] [] false=some true then 0 else 13:=by
 unfold Ip;rcases Ak (vld z.origin) with h1|h1
 ·have n1:¬vld z.origin=false:=by simp [h1]
  rw [if_neg n1,if_neg n1];by_cases h2:2048<z.recs.length
  ·rw [if_pos h2,if_pos (.inl h2)]
  ·rw [if_neg h2];have hcr:=Bw8 z.recs;rcases Ak (z.recs.all fun r=>decide ((findR z.recs r.name r.typ).length≤64)) with h3|h3
   ·rw [h3] at hcr;have hn2:¬(2048<z.recs.length∨Sg z.recs=true):=by
     rintro (q|q)
     ·exact h2 q
     ·rw [hcr] at q;cases q
    have n3:¬(z.recs.all fun r=>decide ((findR z.recs r.name r.typ).length≤64))=false:=by simp only [h3];simp
    rw [if_neg n3,if_neg hn2];rcases Ak (z.recs.all Ql) with h4|h4
    ·have n4:¬z.recs.all Ql=false:=by simp only [h4];simp
     rw [if_neg n4,if_neg n4];by_cases h5:z.recs=sortR z.recs
     ·have n5:¬z.recs≠sortR z.recs:=by simpa using h5
      rw [if_neg n5,if_neg n5];have hv:∀r∈z.recs,Ql r=true:=By.1 h4;have hr:z.recs.Pairwise ltR:=by rw [h5];exact (R7 z.recs hv).1
      have hk:=Ag3 z (fun r h=>gz (hv r h)) (Bm2 hr) z.recs.length [] z.recs [] [] false (Af _) rfl (by simp) ⟨by simp,by simp,by simp,by simp⟩;rw [Cn3,decide_eq_true_eq] at hk;have hk2:=Bn7 z hv hr;have hk3:Bx4 z.origin (grp z.recs) [] [] false=some true↔(findR z.recs z.origin 6).length=1∧m8 z.recs z.origin 2=true∧∀r∈z.recs,Rv z r=true:=by rw [hk,←hk2];simp
      by_cases h6:Bx4 z.origin (grp z.recs) [] [] false=some true
      ·obtain ⟨a,b,c⟩:=hk3.1 h6;have c':z.recs.all (Rv z)=true:=By.2 c;have n7:¬((findR z.recs z.origin 6).length≠1∨m8 z.recs z.origin 2=false):=by simp [a,b]
       have n8:¬z.recs.all (Rv z)=false:=by simp only [c'];simp
       rw [if_pos h6,if_neg n7,if_neg n8]
      ·rw [if_neg h6];by_cases h7:(findR z.recs z.origin 6).length≠1∨m8 z.recs z.origin 2=false
       ·rw [if_pos h7]
       ·rw [if_neg h7];by_cases h8:z.recs.all (Rv z)=false
        ·rw [if_pos h8]
        ·exfalso;simp only [not_or,ne_eq,F7,F8] at h7 h8;exact h6 (hk3.2 ⟨h7.1,h7.2,By.1 h8⟩)
     ·rw [if_pos h5,if_pos h5]
    ·rw [if_pos h4,if_pos h4]
   ·rw [h3] at hcr;rw [if_pos h3,if_pos (.inr hcr)]
 ·rw [if_pos h1,if_pos h1]
def o9 (z:Zone) (hz:z.wf) (hl:z.recs.length≤1000000):S Bq4 1 [z.pv]=some [.i .i64 (Ip z)]:=by
 obtain ⟨N,hN⟩:∃N,N=z.recs.length+2:=⟨_,rfl⟩;refine Hd9 (N:=N) rfl ?_;rw [yr z hz];have hzl:z.origin.length≤9223372036854775807:=hz.origin;have k1:=B0 z.origin hzl;have k2:=Bw7 z.recs hl;have k3:=F5 z.recs Cx3 [] (fun r=> !Ql r) hl (fun r hr=>by refine Hb5 (N:=1) rfl ?_;have:=Ct1 r (hz.recs.2 r hr);simp (disch:=omega) only [Hq0,this,EVC,xe,EVP,EV,simprocAttr])
 have e3:(z.recs.any fun r=> !Ql r)= !z.recs.all Ql:=by rw [List.not_all_eq_any_not]
 rw [e3] at k3;have k4:=Ek0 z.recs hz.recs.2 hl;have hsl:(sortR z.recs).length≤1000000:=by obtain ⟨r,h1,h2,_⟩:=Qd Gr4 (by rw [Dn9];exact Gt1) z.recs hz.recs.2 hl;rw [Dn9] at h1;have:=dc eqF r;rw [Ay5 h1] at this;omega
 have k5:=Ct9 z.recs (sortR z.recs) hl hsl;have k6:=Ch2 z.recs hl;have k7:=fun p1 p2 p3 p4 p5=>Ij4 z hz hl N (by omega) p1 p2 p3 p4 p5;have xt:=Bj Bg4.eq_1;have x28:=Bj wj.eq_1;have x27:=Bj wk.eq_1;have x26:=Bj wq.eq_1;have x25:=Bj wv.eq_1;have x24:=Bj ww.eq_1;have x23:=Bj wx.eq_1;have x22:=Bj wz.eq_1;have x21:=Bj wb.eq_1;have x20:=Bj wg.eq_1;have x19:=Bj wh.eq_1;have x18:=Bj wm.eq_1;rcases Ak (vld z.origin) with h1|h1
 ·have n1:¬vld z.origin=false:=by simp [h1]
  rw [if_neg n1];rw [h1] at k1;by_cases h2:2048<z.recs.length
  ·rw [if_pos (.inl h2)];have h2':(2048:Int)<(z.recs.length:Int):=by omega
   simp (disch:=omega) only [xt,x28,x27,x26,k1,h2',EVC,xe,EVP,EV,simprocAttr]
  ·have h2':¬(2048:Int)<(z.recs.length:Int):=by omega
   rcases Ak (Sg z.recs) with h3|h3<;>rw [h3] at k2
   ·rw [if_pos (.inr h3)];simp (disch:=omega) only [xt,x28,x27,x26,k1,k2,h2',EVC,xe,EVP,EV,simprocAttr]
   ·have n2:¬(2048<z.recs.length∨Sg z.recs=true):=by simp only [h2,h3];simp
    rw [if_neg n2];rcases Ak (z.recs.all Ql) with h4|h4<;>rw [h4] at k3
    ·have n4:¬z.recs.all Ql=false:=by simp only [h4];simp
     rw [if_neg n4];by_cases h5:z.recs=sortR z.recs
     ·have n5:¬z.recs≠sortR z.recs:=by simpa using h5
      rw [if_neg n5];have e5:decide (z.recs=sortR z.recs)=true:=decide_eq_true h5;rw [e5] at k5;clear h5 e5;generalize sortR z.recs=sr at*;cases h6:Bx4 z.origin (grp z.recs) [] [] false with
      |none=>
       rw [h6] at k7;simp only [Gt3] at k7;generalize grp z.recs=gs at*;rw [if_neg (by simp)];simp (disch:=omega) only [xt,x28,x27,x26,x25,x24,x23,x22,x21,x20,x19,x18,k1,k2,h2',k3,k4,k5,k6,k7,P3,EVC,xe,EVP,EV,simprocAttr]
      |some b=>
       rw [h6] at k7;simp only [Gt3] at k7;generalize grp z.recs=gs at*;cases b
       ·rw [if_neg (by simp)];simp (disch:=omega) only [xt,x28,x27,x26,x25,x24,x23,x22,x21,x20,x19,x18,k1,k2,h2',k3,k4,k5,k6,k7,P3,EVC,xe,EVP,EV,simprocAttr]
       ·rw [if_pos rfl];simp (disch:=omega) only [xt,x28,x27,x26,x25,x24,x23,x22,x21,x20,x19,x18,k1,k2,h2',k3,k4,k5,k6,k7,P3,EVC,xe,EVP,EV,simprocAttr]
     ·rw [if_pos h5];have e5:decide (z.recs=sortR z.recs)=false:=decide_eq_false h5;rw [e5] at k5;clear h5 e5;generalize sortR z.recs=sr at*;simp (disch:=omega) only [xt,x28,x27,x26,x25,x24,x23,x22,x21,k1,k2,h2',k3,k4,k5,EVC,xe,EVP,EV,simprocAttr]
    ·rw [if_pos h4];simp (disch:=omega) only [xt,x28,x27,x26,x25,x24,k1,k2,h2',k3,EVC,xe,EVP,EV,simprocAttr]
     try simp
 ·rw [if_pos h1];rw [h1] at k1;simp (disch:=omega) only [xt,x28,k1,EVC,xe,EVP,EV,simprocAttr]
end Go.X.G
/- Delegations and names of a zone, as the reference finds them; what exists. -/
namespace Go.X.G
open Go Go.X
def Cg8 (x:List UInt8):List (List UInt8)→List (List UInt8)
 |[]=>[x]
 |y::r=>if Iy y x<0 then y::Cg8 x r else if y=x then y::r else x::y::r
def insN_mem (x z:List UInt8):∀(l:List (List UInt8)),z∈Cg8 x l↔z=x∨z∈l
 |[]=>by simp [Cg8]
 |y::r=>by
  have ih:=insN_mem x z r;simp only [Cg8];split
  ·simp only [Am,ih];grind
  ·split
   ·rename_i h;subst h;simp only [Am];grind
   ·simp only [Am]
def Vz (x:List UInt8):∀(l:List (List UInt8)),l.Pairwise ltN→(Cg8 x l).Pairwise ltN
 |[],_=>by simp [Cg8]
 |y::r,h=>by
  obtain ⟨h1,h2⟩:=A0.1 h;have ih:=Vz x r h2;simp only [Cg8];by_cases c:Iy y x<0
  ·rw [if_pos c];refine A0.2 ⟨fun w hw=> ?_,ih⟩;rcases (insN_mem x w r).1 hw with rfl|hw
   ·exact (Eg _ _).1 c
   ·exact h1 w hw
  ·rw [if_neg c];by_cases e:y=x
   ·rw [if_pos e];exact h
   ·rw [if_neg e];have hxy:ltN x y:=by
     rcases to_N.tri x y with q|q|q
     ·exact q
     ·exact absurd q.symm e
     ·exact absurd ((Eg _ _).2 q) c
    refine A0.2 ⟨fun w hw=> ?_,h⟩;rcases Am.1 hw with rfl|hw
    ·exact hxy
    ·exact to_N.tr _ _ _ hxy (h1 w hw)
def Ex8 (l:List (List UInt8)):List (List UInt8):=l.foldl (fun a x=>Cg8 x a) []
def jt (l:List (List UInt8)):Ex8 l=setN l:=by
 have:∀(l a:List (List UInt8)),a.Pairwise ltN→(l.foldl (fun a x=>Cg8 x a) a).Pairwise ltN∧∀z,z∈l.foldl (fun a x=>Cg8 x a) a↔z∈a∨z∈l:=by
  intro l
  induction l with
  |nil=>intro a h;exact ⟨h,fun z=>by simp⟩
  |cons x r ih=>
   intro a h;obtain ⟨h1,h2⟩:=ih (Cg8 x a) (Vz x a h);refine ⟨h1,fun z=> ?_⟩;rw [List.foldl_cons,h2,insN_mem,Am]
   grind
 obtain ⟨h1,h2⟩:=this l [] List.Pairwise.nil;exact Ug to_N _ _ h1 (Jk l) fun x=>by rw [K4];rw [Ex8,h2 x];simp
end Go.X.G
/- What exists in a zone, and what encloses a name; names with another end. -/
namespace Go.X.G
open Go Go.X
def exB (z:Zone) (x:List UInt8):Bool:=z.recs.any fun r=>under r.name z.origin && !Ng z r.name && under r.name x && under x z.origin
def J5 (z:Zone) (x:List UInt8):exB z x=true↔Eb7 z x:=by unfold exB Eb7;simp only [Bm,Av,A6,and_assoc]
def Lz (z:Zone) (x:List UInt8):decide (x∈namesN z)=exB z x:=by rw [Cr,J5,←Nv];simp
def Nw (z:Zone) (hl:z.recs.length≤1000):(namesN z).length≤1000000:=by
 have h1:=Tc (Fc8 z);have h2:∀l:List Rec,(l.flatMap fun r=>upN z.origin r.name).length≤256*l.length:=by
  intro l
  induction l with
  |nil=>simp
  |cons x r ih=>
   have:=ql z.origin x.name;rw [Jr,Ab,A5];omega
 have h3:=h2 (z.recs.filter fun r=>under r.name z.origin && !Ng z r.name);have h4:=Dw (fun r=>under r.name z.origin && !Ng z r.name) z.recs;show (setN (Fc8 z)).length≤1000000;unfold Fc8 at h1 ⊢;omega
def Am3 (z:Zone) (n:List UInt8) (hz:z.wf) (hl:z.recs.length≤1000):S Cw5 2 [z.pv, .s n]=some [.b (exB z n)]:=by refine Hz2 (N:=1) rfl ?_;have k1:=T4 z hz hl;have k2:=Ss (namesN z) n (Nw z hl);rw [Lz] at k2;generalize namesN z=nz at*;simp (disch:=omega) only [Hk5,k1,k2,EVM,EVC,xe,EVP,EV,simprocAttr]
def Bz4 (z:Zone) (n:List UInt8):Option (List UInt8):=(upN z.origin n).find? (exB z)
def encN (z:Zone) (n:List UInt8):List UInt8:=if under n z.origin=true then (Bz4 z n).getD [] else []
def gy {n:List UInt8} (h:vld n=true):n≠[]:=fun e=>by subst e;simp [vld,nm] at h
def Mp {z:Zone} {n e:List UInt8} (hu:under n z.origin=true) (h:Bz4 z n=some e):under n e=true∧exB z e=true:=by unfold Bz4 at h;have h1:=List.mem_of_find?_eq_some h;have h2:=List.find?_some h;exact ⟨((Mj hu).1 h1).1,h2⟩
def R3 (z:Zone) (n:List UInt8) (hz:z.wf) (hl:z.recs.length≤1000) (hn:n.length≤9223372036854775807):S Bk4 2 [z.pv, .s n]=some [.s (encN z n), .b (decide (encN z n≠[]))]:=by
 refine Hz8 (N:=1000) rfl ?_;have g1:=hz.origin;unfold Q8 at g1;have k0:=Ec n z.origin hn g1;unfold encN;rcases Ak (under n z.origin) with hu|hu
 ·rw [if_pos hu];rw [hu] at k0;have k1:=T4 z hz hl;have hnl:=Nw z hl;have k2:∀x,S W4 2 [Bn (namesN z), .s x]=some [.b (exB z x)]:=fun x=>by rw [←Lz];exact Ss (namesN z) x hnl
  generalize namesN z=nz at*;obtain ⟨v1,v2,_⟩:=Bw.1 hu;have hlb:=Lk n;have h0:jn ((lbl n).drop 0)=n:=cg v1;let res:Option (List UInt8)→Out:=fun o=>match o with|some e=> .yld 0 [.s e]|none=> .ret [.s [], .b false]
  have key:Ez4.ev S 1000 [z.pv, .s n, .b true,Bn nz]=some (res (Bz4 z n)):=by
   have:=Gl (fn:=S) (N:=1000) (η:=[z.pv, .s n, .b true,Bn nz]) (id:=1) (init:=[(.v 1)]) (body:=Cs3) ((lbl n).length - (lbl z.origin).length)
    (fun k=>[.s (jn ((lbl n).drop k))]) (fun k=>res (((upN z.origin n).drop k).find? (exB z))) ?_ (by omega) (fun k hk=> ?_) ?_
   ·exact this
   ·rw [h0];simp (disch:=omega) only [EVM,EVC,xe,EVP,EV,simprocAttr]
   ·have hup:(upN z.origin n)[k]? =some (jn ((lbl n).drop k)):=Ox (Nat.le_of_lt hk);have hd:(upN z.origin n).drop k=jn ((lbl n).drop k)::(upN z.origin n).drop (k+1):=by obtain ⟨h1,h2⟩:=Aw.1 hup;rw [Cl h1,h2]
    obtain ⟨q1,q2⟩:=Bf6 hu hk;have q3:¬jn ((lbl n).drop k)=z.origin:=fun h=>by have:=(Xw hu (Nat.le_of_lt hk)).1 h;omega
    have q4:=Yp v1 k;have k1:=N0 (jn ((lbl n).drop k)) (by omega);rw [q1,q2] at k1;have k3:=k2 (jn ((lbl n).drop k));rw [hd];generalize jn ((lbl n).drop (k+1))=nx at*;generalize jn ((lbl n).drop k)=cu at*;rcases Ak (exB z cu) with h5|h5
    ·right;rw [h5] at k3;rw [List.find?_cons_of_pos h5];refine ⟨?_,rfl⟩;simp (disch:=omega) only [qb,k3,EVM,EVC,xe,EVP,EV,simprocAttr];rfl
    ·left;rw [h5] at k3;rw [List.find?_cons_of_neg (by simp [h5])];refine ⟨?_,rfl⟩;simp (disch:=omega) only [qb,k1,k3,q3,EVM,EVC,xe,EVP,EV,simprocAttr]
   ·have hup:(upN z.origin n)[(lbl n).length - (lbl z.origin).length]? =some (jn ((lbl n).drop ((lbl n).length - (lbl z.origin).length))):=Ox (Af _);have hd:(upN z.origin n).drop ((lbl n).length - (lbl z.origin).length)=[jn ((lbl n).drop ((lbl n).length - (lbl z.origin).length))]:=by obtain ⟨h1,h2⟩:=Aw.1 hup;have h9:(upN z.origin n).drop ((lbl n).length - (lbl z.origin).length+1)=[]:=Kr (by simp [upN]);rw [Cl h1,h2,h9]
    have q3:=(Xw hu (Af _)).2 rfl;rw [hd,q3];have k3:=k2 z.origin;rcases Ak (exB z z.origin) with h5|h5
    ·rw [h5] at k3;rw [List.find?_cons_of_pos h5];refine ⟨?_,rfl⟩;simp (disch:=omega) only [qb,k3,EVM,EVC,xe,EVP,EV,simprocAttr];rfl
    ·rw [h5] at k3;rw [List.find?_cons_of_neg (by simp [h5]),List.find?_nil];refine ⟨?_,rfl⟩;simp (disch:=omega) only [qb,k3,EVM,EVC,xe,EVP,EV,simprocAttr];rfl
  cases he:Bz4 z n with
  |none=>
   rw [he] at key;simp only [res] at key;simp (disch:=omega) only [qb,k0,k1,key,EVM,EVC,xe,EVP,EV,simprocAttr];simp
  |some e=>
   rw [he] at key;simp only [res] at key;have h6:=gy (Bw.1 (Mp hu he).1).2.1;simp (disch:=omega) only [qb,k0,k1,key,EVM,EVC,xe,EVP,EV,simprocAttr];simp [h6]
 ·rw [if_neg (by simp [hu])];rw [hu] at k0;simp (disch:=omega) only [qb,k0,EVM,EVC,xe,EVP,EV,simprocAttr]
  try simp
def bestF (n:List UInt8):List UInt8→List (List UInt8)→List UInt8
 |b,[]=>b
 |b,x::r=>bestF n (if under n x && (decide (b=[])||decide ((lbl b).length<(lbl x).length)) then x else b) r
def T1 (n:List UInt8):∀(l:List (List UInt8)) (b:List UInt8),(b=[]∨under n b=true)→
  (bestF n b l=[]→b=[]∧∀x∈l,under n x=false)∧
  (bestF n b l≠[]→under n (bestF n b l)=true∧(bestF n b l=b∨bestF n b l∈l)∧(b≠[]→(lbl b).length≤(lbl (bestF n b l)).length)∧∀x∈l,under n x=true→(lbl x).length≤(lbl (bestF n b l)).length)
 |[],b,hb=>by simp only [bestF];refine ⟨fun h=>⟨h,fun r hr=>by simp at hr⟩,fun h=>⟨hb.resolve_left h, .inl trivial,fun _=>Af _,fun r hr=>by simp at hr⟩⟩
 |x::rs,b,hb=>by
  simp only [bestF];have hne:under n x=true→x≠[]:=fun h=>gy (Bw.1 h).2.1;by_cases hc:(under n x && (decide (b=[])||decide ((lbl b).length<(lbl x).length)))=true
  ·rw [if_pos hc];simp only [Av,An,decide_eq_true_eq] at hc;obtain ⟨c2,c3⟩:=hc;obtain ⟨h1,h2⟩:=T1 n rs x (.inr c2);refine ⟨fun h=>absurd (h1 h).1 (hne c2),fun h=> ?_⟩;obtain ⟨g1,g2,g3,g4⟩:=h2 h;refine ⟨g1, .inr ?_,fun hb0=> ?_,fun y hy hy2=> ?_⟩
   ·rcases g2 with g2|g2
    ·rw [g2];exact .head _
    ·exact .tail _ g2
   ·have:=g3 (hne c2);rcases c3 with c3|c3
    ·exact absurd c3 hb0
    ·omega
   ·rcases Am.1 hy with rfl|hy
    ·exact g3 (hne c2)
    ·exact g4 y hy hy2
  ·rw [if_neg hc];obtain ⟨h1,h2⟩:=T1 n rs b hb;have hr:under n x=true→b≠[]∧(lbl x).length≤(lbl b).length:=by intro c2;simp only [c2,Qs,An,decide_eq_true_eq,not_or,Nat.not_lt] at hc;exact hc
   refine ⟨fun h=> ?_,fun h=> ?_⟩
   ·obtain ⟨g1,g2⟩:=h1 h;refine ⟨g1,fun y hy=> ?_⟩;rcases Am.1 hy with rfl|hy
    ·rcases Ak (under n y) with h3|h3
     ·exact absurd g1 (hr h3).1
     ·exact h3
    ·exact g2 y hy
   ·obtain ⟨g1,g2,g3,g4⟩:=h2 h;refine ⟨g1,?_,g3,fun y hy hy2=> ?_⟩
    ·rcases g2 with g2|g2
     ·exact .inl g2
     ·exact .inr (.tail _ g2)
    ·rcases Am.1 hy with rfl|hy
     ·obtain ⟨q1,q2⟩:=hr hy2;have:=g3 q1;omega
     ·exact g4 y hy hy2
def J0 {a b c:List UInt8} (h1:under a b=true) (h2:under b c=true):under a c=true:=by obtain ⟨v1,_,s1⟩:=Bw.1 h1;obtain ⟨_,v3,s2⟩:=Bw.1 h2;exact Bw.2 ⟨v1,v3,s2.trans s1⟩
def Cs0 (z:Zone) (n:List UInt8):bestF n [] (namesN z)=encN z n:=by
 obtain ⟨h1,h2⟩:=T1 n (namesN z) [] (.inl rfl);have hin:∀x,x∈namesN z↔exB z x=true:=fun x=>by rw [←Lz];simp
 have hor:∀x,exB z x=true→under x z.origin=true:=fun x hx=>by obtain ⟨_,_,_,_,_,h⟩:=(J5 z x).1 hx;exact h
 unfold encN;by_cases hb:bestF n [] (namesN z)=[]
 ·have:=(h1 hb).2;rw [hb];rcases Ak (under n z.origin) with hu|hu
  ·rw [if_pos hu];cases he:Bz4 z n with
   |none=>rfl
   |some e=>
    obtain ⟨g1,g2⟩:=Mp hu he;have:=this e ((hin e).2 g2);rw [g1] at this;cases this
  ·rw [if_neg (by simp [hu])]
 ·obtain ⟨g1,g2,_,g4⟩:=h2 hb;have g3:exB z (bestF n [] (namesN z))=true:=(hin _).1 (g2.resolve_left hb);have hu:under n z.origin=true:=J0 g1 (hor _ g3);rw [if_pos hu];generalize bestF n [] (namesN z)=b at*;have hm:b∈upN z.origin n:=(Mj hu).2 ⟨g1,hor _ g3⟩;cases he:Bz4 z n with
  |none=>
   unfold Bz4 at he;rw [Hj7] at he;exact absurd g3 (he b hm)
  |some e=>
   obtain ⟨q1,q2⟩:=Mp hu he;have q3:=g4 e ((hin e).2 q2) q1;have q4:(lbl b).length≤(lbl e).length:=by
    unfold Bz4 at he;obtain ⟨_,pa,pb,he2,he3⟩:=List.find?_eq_some_iff_append.1 he;obtain ⟨v1,v2,vs⟩:=Bw.1 hu;have hbm:=hm;rw [he2] at hbm;rcases B5.1 hbm with hbm|hbm
    ·have:=he3 b hbm;rw [g3] at this;cases this
    ·rcases Am.1 hbm with rfl|hbm
     ·exact Af _
     ·obtain ⟨j,hj⟩:=Dk hbm;have e1:(upN z.origin n)[pa.length]? =some e:=by rw [he2,A3 (Af _)];simp
      have e2:(upN z.origin n)[pa.length+1+j]? =some b:=by rw [he2,A3 (by omega),show pa.length+1+j - pa.length=j+1 by omega];simpa using hj
      have l2:=(Aw.1 e2).1;rw [show (upN z.origin n).length=(lbl n).length - (lbl z.origin).length+1 by simp [upN]] at l2;rw [Ox (by omega)] at e1 e2;injection e1 with e1;injection e2 with e2;rw [←e1,←e2,(Jt v1 _).2,(Jt v1 _).2,B3,B3];omega
   obtain ⟨_,vb,sb⟩:=Bw.1 g1;obtain ⟨_,ve,se⟩:=Bw.1 q1;rw [Dr] at sb se;show b=e;refine Lq vb ve ?_;rw [sb,se,Nat.le_antisymm q4 q3]
end Go.X.G
/- Records with names and texts of at most 300 bytes. -/
namespace Go.X.G
open Go Go.X
def c3 (s:List UInt8):List UInt8:=s.take 300
end Go.X.G
/- The laws of zones: what they call. -/
namespace Go.X.G
open Go Go.X
def Cz (o:List UInt8) (l:List Rec):PV.a [.s o,Ag l]=Zone.pv ⟨o,l⟩:=rfl
def C2 (z:Zone):(⟨z.origin,z.recs⟩:Zone)=z:=rfl
end Go.X.G
/- Names with another end; redirections; what records of a name say. -/
namespace Go.X
structure Res where
 kind:Int
 owner:List UInt8
 wild:Bool
 target:List UInt8
 recs:List Rec
 deriving DecidableEq
def Res.cells (x:Res):List PV:=[.i .i64 x.kind, .s x.owner, .b x.wild, .s x.target,Ag x.recs]
def Res.pv (x:Res):PV:= .a x.cells
def Bs7 (x:Res):Bt 0 x.pv=some (.i .i64 x.kind):=rfl
def Bs6 (x:Res):Bt 1 x.pv=some (.s x.owner):=rfl
def Bs5 (x:Res):Bt 2 x.pv=some (.b x.wild):=rfl
def Bs4 (x:Res):Bt 3 x.pv=some (.s x.target):=rfl
def Bs3 (x:Res):Bt 4 x.pv=some (Ag x.recs):=rfl
def El4 (x:Res):Kq 0 5 x.pv=some x.pv:=rfl
def Fj9 (x:Res):S7 5 x.pv=some x.pv:=rfl
def Dr5 (k:Int) (o:List UInt8) (w:Bool) (t:List UInt8) (l:List Rec):PV.a [.i .i64 k, .s o, .b w, .s t,Ag l]=Res.pv ⟨k,o,w,t,l⟩:=rfl
def Bl1 (l:List Rec) (k:IntKind) (z:Int) (n:List UInt8) (x:Rec) (h0:0≤z) (h3:l[z.toNat]? =some x):
  Pf 16 0 [.s n] (Ag l) (.i k z)=some (Ag (l.set z.toNat {x with name:=n})):=by
 have h4:(l.map Rec.pv)[z.toNat]? =some x.pv:=by rw [Bl,h3];rfl
 simp only [Pf,Ag,h0,h4,and_self,if_true,Az];have h5:Oz x.pv 0 [.s n]=some (Rec.pv {x with name:=n}):=rfl;rw [h5];simp [List.map_set]
set_option linter.defProp false in
def EVR:=(And.intro @Bs7 (And.intro @Bs6 (And.intro @Bs5 (And.intro @Bs4 (And.intro @Bs3 (And.intro @El4 (And.intro @Fj9 @Dr5)))))))
end Go.X
namespace Go.X.G
open Go Go.X
def i9 (n top to:List UInt8):List (List UInt8):=(lbl n).take ((lbl n).length - (lbl top).length)++lbl to
def replN (n top to:List UInt8):List UInt8×Int:=
 if vld n=true∧vld top=true∧vld to=true∧(lbl to)[0]? ≠some [42] then
  if under n top=true∧n≠top then
   if (flat (i9 n top to)).length≤254 then (flat (i9 n top to),0) else ([],9)
  else ([],1)
 else ([],2)
def Ml {l:List (List UInt8)} (h:Fh true l=true) (h2:l[0]? ≠some [42]):Fh false l=true:=by
 cases l with
 |nil=>rfl
 |cons p r=>
  simp only [Fh,Av] at h ⊢;refine ⟨⟨h.1.1,?_⟩,h.2⟩;have:p≠[42]:=fun e=>h2 (by rw [e];rfl);simp [this]
def Ap3 {n top to:List UInt8} (hu:under n top=true) (hne:n≠top) (ht:vld to=true) (hs:(lbl to)[0]? ≠some [42]):Fh true (i9 n top to)=true∧i9 n top to≠[]∧(lbl n).take ((lbl n).length - (lbl top).length)≠[]:=by
 obtain ⟨vn,vt,sf⟩:=Bw.1 hu;have hlt:(lbl top).length<(lbl n).length:=by
  have:=sf.length_le;rcases Nat.lt_or_ge (lbl top).length (lbl n).length with h|h
  ·exact h
  ·exact absurd (Hw hu h) hne
 have h1:(lbl n).take ((lbl n).length - (lbl top).length)≠[]:=by intro e;have:=congrArg List.length e;rw [Ap,Bf] at this;omega
 have h2:Fh true ((lbl n).take ((lbl n).length - (lbl top).length))=true:=by have:=K0 vn;rw [←Bh ((lbl n).length - (lbl top).length) (lbl n),Kf,Av] at this;exact this.1
 refine ⟨?_,by unfold i9;simp [h1],h1⟩;unfold i9;rw [Kf,h2,List.isEmpty_eq_false_iff.2 h1];simp [Ml (K0 ht) hs]
def et (s t:List UInt8) (hs:s.length≤9223372036854775807) (h:t.isSuffixOf s=true):S kg 2 [.s s, .s t]=some [.s (s.take (s.length - t.length))]:=by
 have hle:t.length≤s.length:=(Fb.1 h).length_le;have k1:=Qh s t hs;rw [h] at k1;have k2:S kx 2 [.s s, .s t]=some [.s (s.take (s.length - t.length))]:=by
  refine Fp7 (N:=1) rfl ?_;have h6:An8 (.s s) (.i .i64 0) (.i .i64 ((s.length:Int) - (t.length:Int)))=some (.s (s.take (s.length - t.length))):=by
   rw [Fm0 _ _ _ _ _ (by omega) (by omega) (by omega)];have:((s.length:Int) - (t.length:Int)).toNat=s.length - t.length:=by omega
   rw [this];simp
  simp (disch:=omega) only [Fd3,k1,h6,EVM,EVC,xe,EVP,EV,simprocAttr]
 refine Fr9 (N:=1) rfl ?_;simp (disch:=omega) only [Ff0,k2,EVM,EVC,xe,EVP,EV,simprocAttr]
def qv (n top to:List UInt8) (hn:n.length≤9223372036854775807) (ht:top.length≤9223372036854775807) (hto:to.length≤9223372036854775807):S lm 3 [.s n, .s top, .s to]=some [.s (replN n top to).1, .i .i64 (replN n top to).2]:=by
 refine Gj1 (N:=1) rfl ?_;have k1:=B0 n hn;have k2:=B0 top ht;have k3:=B0 to hto;unfold replN;rcases Ak (vld n) with v1|v1
 ·rcases Ak (vld top) with v2|v2
  ·rcases Ak (vld to) with v3|v3
   ·rw [v1] at k1;rw [v2] at k2;rw [v3] at k3;have hp:=Pq v3;have hsf:=Q9 v3;obtain ⟨c,hc⟩:∃c,to[0]? =some c:=⟨_,Ay hp⟩;rw [hc] at hsf;by_cases hs:c=42
    ·rw [if_neg (by rw [hs] at hsf;simp [hsf.1 rfl])];subst hs;simp (disch:=omega) only [L6,k1,k2,k3,hc,EVM,EVC,xe,EVP,EV,simprocAttr]
     try simp
    ·have hs':(lbl to)[0]? ≠some [42]:=fun e=>hs (by have:=hsf.2 e;simpa using this);have hcc:¬(c.toNat:Int)=42:=fun e=>hs (by apply UInt8.toNat.inj;have:(42:UInt8).toNat=42:=rfl;omega)
     rw [if_pos ⟨v1,v2,v3,hs'⟩];have tl:=Gy v2;have k4:=c9 n top hn (by omega);rw [Xy v1 v2] at k4;by_cases he:n=top
     ·rw [if_neg (by simp [he])];simp (disch:=omega) only [L6,k1,k2,k3,hc,hcc,he,EVM,EVC,xe,EVP,EV,simprocAttr]
     ·rcases Ak (under n top) with hu|hu
      ·rw [hu] at k4;rw [if_pos ⟨hu,he⟩];obtain ⟨q1,q2,q3⟩:=Ap3 hu he v3 hs';have nl:=Gy v1;have tol:=Gy v3;have hnr:n≠[46]:=by rintro rfl;have:=(Bw.1 hu).2.2.length_le;rw [Hm] at this;exact he (Lq v1 v2 (by rw [Hm];exact (List.length_eq_zero_iff.1 (by simpa using this)).symm))
       have hnf:n=flat (lbl n):=by have:=L8 v1;unfold jn at this;rwa [if_neg (fun h=>hnr ((Vj v1).1 h))] at this
       have hsp:lbl n=(lbl n).take ((lbl n).length - (lbl top).length)++lbl top:=by
        have:=(Bw.1 hu).2.2;rw [Dr] at this
        conv=>lhs;rw [←Bh ((lbl n).length - (lbl top).length) (lbl n)]
        rw [←this]
       have hhead:∃hd,hd=flat ((lbl n).take ((lbl n).length - (lbl top).length))∧hd.length≤254∧∀p3 p4 p5 p6,v8.ev S 1 [.s n, .s top, .s to,p3,p4,p5,p6]=some (.yld 0 [.s hd]):=by
        refine ⟨_,rfl,?_,fun p3 p4 p5 p6=> ?_⟩
        ·have:(flat (lbl n)).length≤254:=by rw [←hnf];exact nl
         rw [hsp,Ly,Ab] at this;omega
        ·by_cases hr:top=[46]
         ·subst hr;rw [Hm,D4] at hsp;rw [Hm,←hsp,←hnf];simp (disch:=omega) only [L6,EVM,EVC,xe,EVP,EV,simprocAttr]
         ·have htf:top=flat (lbl top):=by have:=L8 v2;unfold jn at this;rwa [if_neg (fun h=>hr ((Vj v2).1 h))] at this
          have hna:n=flat ((lbl n).take ((lbl n).length - (lbl top).length))++top:=by
           conv=>lhs;rw [hnf,hsp,Ly]
           rw [←htf]
          have hsuf:top.isSuffixOf n=true:=Fb.2 ⟨_,hna.symm⟩;have k5:=et n top hn hsuf;have htk:n.take (n.length - top.length)=flat ((lbl n).take ((lbl n).length - (lbl top).length)):=by
           conv=>lhs;rw [hna]
           rw [Ab,L3,Bb4]
          rw [htk] at k5;generalize flat ((lbl n).take ((lbl n).length - (lbl top).length))=hd at*;simp (disch:=omega) only [L6,k5,hr,EVM,EVC,xe,EVP,EV,simprocAttr]
       obtain ⟨hd,hd1,hd2,hd3⟩:=hhead;have hfin:flat (i9 n top to)=if to=[46] then hd else hd++to:=by
        unfold i9;rw [Ly,←hd1];by_cases hr:to=[46]
        ·rw [if_pos hr,hr,Hm];simp [flat]
        ·rw [if_neg hr];have:=L8 v3;unfold jn at this;rw [if_neg (fun h=>hr ((Vj v3).1 h))] at this;rw [←this]
       rw [hfin];by_cases hr:to=[46]
       ·rw [if_pos hr];subst hr;have h1:¬(255:Int)≤(hd.length:Int):=by omega
        rw [if_pos hd2];simp (disch:=omega) only [L6,k1,k2,k3,k4,hc,hcc,he,hd3,h1,EVM,EVC,xe,EVP,EV,simprocAttr]
       ·rw [if_neg hr];by_cases hlen:(hd++to).length≤254
        ·rw [if_pos hlen];have h1:¬(255:Int)≤((hd++to).length:Int):=by omega
         simp (disch:=first|omega|(rw [Ab] at*;omega)) only [L6,k1,k2,k3,k4,hc,hcc,he,hd3,hr,h1,EVM,EVC,xe,EVP,EV,simprocAttr]
        ·rw [if_neg hlen];have h1:(255:Int)≤((hd++to).length:Int):=by omega
         simp (disch:=first|omega|(rw [Ab] at*;omega)) only [L6,k1,k2,k3,k4,hc,hcc,he,hd3,hr,h1,EVM,EVC,xe,EVP,EV,simprocAttr]
      ·rw [hu] at k4;rw [if_neg (by simp [hu])];simp (disch:=omega) only [L6,k1,k2,k3,k4,hc,hcc,he,EVM,EVC,xe,EVP,EV,simprocAttr]
   ·rw [if_neg (by simp [v3])];rw [v1] at k1;rw [v2] at k2;rw [v3] at k3;simp (disch:=omega) only [L6,k1,k2,k3,EVM,EVC,xe,EVP,EV,simprocAttr]
  ·rw [if_neg (by simp [v2])];rw [v1] at k1;rw [v2] at k2;simp (disch:=omega) only [L6,k1,k2,EVM,EVC,xe,EVP,EV,simprocAttr]
 ·rw [if_neg (by simp [v1])];rw [v1] at k1;simp (disch:=omega) only [L6,k1,EVM,EVC,xe,EVP,EV,simprocAttr]
end Go.X.G
/- What a zone says about a question: the program and the reference. -/
namespace Go.X.G
open Go Go.X
def Zn (z:Zone) (n:List UInt8) (t:Int) (hl:z.recs.length≤1000000):S tw 3 [z.pv, .s n, .i .i64 t]=some [Ag (findR z.recs n t)]:=by refine Hc1 (N:=1) rfl ?_;have k1:=Ek2 z.recs n t hl;simp (disch:=omega) only [Hq1,k1,EVM,EVC,xe,EVP,EV,simprocAttr]
abbrev Hk1:Res:=⟨0,[],false,[],[]⟩
def rq (s:List UInt8):List UInt8:=if s[0]? =some 42 then [] else s
def dnB (z:Zone) (u:List UInt8):Bool:=decide (0<(findR z.recs u 39).length)
def Ex1 (z:Zone) (n:List UInt8):Option (List UInt8):=((upN z.origin n).drop 1).find? (dnB z)
def jk (z:Zone) (n u:List UInt8):Res:=
 match findR z.recs u 39 with
 |r::_=>⟨3,u,false,rq (replN n u r.data.host).1,[r]⟩
 |[]=>Hk1
def Bz3 (z:Zone) (n:List UInt8):Option Res:=(Ex1 z n).map (jk z n)
def Ll:Option Res→List PV
 |some x=>[x.pv, .b true]
 |none=>[Hk1.pv, .b false]
def Ds5 {z:Zone} (hz:z.wf) {n:List UInt8} {t:Int} {r:Rec} (h:r∈findR z.recs n t):r.wf:=hz.recs.2 r (Bz.1 h).1
def Bv6 (z:Zone) (n:List UInt8) (t:Int):(findR z.recs n t).length≤z.recs.length:=Dw _ _
def c42 (c:UInt8):(c.toNat:Int)=42↔c=42:=by
 constructor
 ·intro h;apply UInt8.toNat.inj;have:(42:UInt8).toNat=42:=rfl;omega
 ·rintro rfl;rfl
def Ef9 (z:Zone) (n:List UInt8) (hz:z.wf) (hl:z.recs.length≤1000000) (hu:under n z.origin=true) (N:Nat) (hN:1000<N):
  Ez1.ev S N [z.pv, .s n]=some (match Bz3 z n with|some x=> .ret [x.pv, .b true]|none=> .yld 0 [.i .i64 0, .s [], .b false, .s [],Ag []]):=by
 obtain ⟨v1,v2,_⟩:=Bw.1 hu;have hlb:=Lk n;have nl:=Gy v1;have h0:jn ((lbl n).drop 0)=n:=cg v1;let res:Option (List UInt8)→Out:=fun o=>match o.map (jk z n) with|some x=> .ret [x.pv, .b true]|none=> .yld 0 [.i .i64 0, .s [], .b false, .s [],Ag []]
 have:=Gl (fn:=S) (N:=N) (η:=[z.pv, .s n]) (id:=1) (init:=[(.v 1),(.c (.i .i64 (0))),(.c (.s [])),(.c (.b false)),(.c (.s [])),(.c (.l 16 []))]) (body:=Cs2) ((lbl n).length - (lbl z.origin).length)
  (fun k=>[.s (jn ((lbl n).drop k)), .i .i64 0, .s [], .b false, .s [],Ag []]) (fun k=>res (((upN z.origin n).drop (k+1)).find? (dnB z))) ?_ (by omega) (fun k hk=> ?_) ?_
 ·exact this
 ·rw [h0];simp (disch:=omega) only [EVM,EVC,xe,EVP,EV,simprocAttr]
 ·have hup:(upN z.origin n)[k+1]? =some (jn ((lbl n).drop (k+1))):=Ox hk;have hd:(upN z.origin n).drop (k+1)=jn ((lbl n).drop (k+1))::(upN z.origin n).drop (k+1+1):=by obtain ⟨h1,h2⟩:=Aw.1 hup;rw [Cl h1,h2]
  obtain ⟨q1,q2⟩:=Bf6 hu hk;have q3:¬jn ((lbl n).drop k)=z.origin:=fun h=>by have:=(Xw hu (Nat.le_of_lt hk)).1 h;omega
  have q4:=Yp v1 k;have q5:=Yp v1 (k+1);have k1:=N0 (jn ((lbl n).drop k)) (by omega);rw [q1,q2] at k1;have k2:=Zn z (jn ((lbl n).drop (k+1))) 39 hl;rw [hd];generalize jn ((lbl n).drop (k+1))=nx at*;generalize jn ((lbl n).drop k)=cu at*;cases hf:findR z.recs nx 39 with
  |nil=>
   left;have h5:dnB z nx=false:=by unfold dnB;rw [hf];rfl
   rw [hf] at k2;rw [List.find?_cons_of_neg (by simp [h5])];refine ⟨?_,rfl⟩;simp (disch:=omega) only [qz,k1,k2,q3,EVM,EVC,EVR,xe,EVP,EV,simprocAttr]
   try rfl
  |cons r rest=>
   right;have h5:dnB z nx=true:=by unfold dnB;rw [hf];simp
   have hrw:=Ds5 hz (n:=nx) (t:=39) (r:=r) (by rw [hf];exact .head _);have hll:=Bv6 z nx 39;have hh:=hrw.data.host;unfold Q8 at hh;have k3:=qv n nx r.data.host (by omega) (by omega) hh;rw [hf] at k2 hll;rw [List.find?_cons_of_pos h5];have e:res (some nx)= .ret [(Res.mk 3 nx false (rq (replN n nx r.data.host).1) [r]).pv, .b true]:=by simp only [res,A7,jk,hf]
   rw [e];refine ⟨?_,rfl⟩;have hpos:(0:Int)<((r::rest).length:Int):=by simp only [A5];omega
   have hls:Hh 16 (Ag (r::rest)) (.i .i64 0) (.i .i64 1)=some (Ag [r]):=by rw [Hg _ _ _ _ _ (by omega) (by omega) (by omega)];rfl
   have hix:Ht 16 (Ag (r::rest)) (.i .i64 0)=some r.pv:=by rw [Lv _ _ _ (by omega)];rfl
   unfold rq;generalize replN n nx r.data.host=rp at*;obtain ⟨to,er⟩:=rp;generalize (r::rest)=ll at*;cases to with
   |nil=>
    simp (disch:=omega) only [qz,k1,k2,k3,q3,hpos,hls,hix,EVM,EVC,EVR,xe,EVP,EV,simprocAttr]
    try simp
   |cons c tr=>
    by_cases hc:c=42
    ·subst hc;simp (disch:=omega) only [qz,k1,k2,k3,q3,hpos,hls,hix,EVM,EVC,EVR,xe,EVP,EV,simprocAttr]
     try simp
    ·have hc2:¬(c.toNat:Int)=42:=fun h=>hc ((c42 c).1 h);simp (disch:=omega) only [qz,k1,k2,k3,q3,hpos,hls,hix,hc2,EVM,EVC,EVR,xe,EVP,EV,simprocAttr]
     try simp [hc]
 ·have q3:=(Xw hu (Af _)).2 rfl;have h9:(upN z.origin n).drop ((lbl n).length - (lbl z.origin).length+1)=[]:=Kr (by simp [upN]);rw [h9,q3,List.find?_nil];refine ⟨?_,rfl⟩;simp (disch:=omega) only [qz,EVM,EVC,EVR,xe,EVP,EV,simprocAttr]
  try rfl
def fp (z:Zone) (n:List UInt8) (hz:z.wf) (hl:z.recs.length≤1000000) (hu:under n z.origin=true):S Cw6 2 [z.pv, .s n]=some (Ll (Bz3 z n)):=by
 refine Hz3 (N:=1001) rfl ?_;have key:=Ef9 z n hz hl hu 1001 (by omega);cases h:Bz3 z n with
 |none=>
  rw [h] at key;simp (disch:=omega) only [qz,key,Ll,EVM,EVC,EVR,xe,EVP,EV,simprocAttr]
 |some x=>
  rw [h] at key;simp (disch:=omega) only [qz,key,Ll,EVM,EVC,EVR,xe,EVP,EV,simprocAttr]
def allR (z:Zone) (n:List UInt8):List Rec:=z.recs.filter fun r=>decide (r.name=n)
def Fc5 (t:Int):Bool:=decide (t=5)||decide (t=47)||decide (t=46)||decide (t=255)
def typedR (l:List Rec) (t:Int):List Rec:=if t=255 then l else l.filter fun r=>decide (r.typ=t)
def Gs4 (l:List Rec) (t:Int):Option Rec:=if Fc5 t=true then none else l.find? fun r=>decide (r.typ=5)
def saysM (l:List Rec) (t:Int):Res:=
 match Gs4 l t with
 |some c=>⟨2,[],false,c.data.host,[c]⟩
 |none=>if typedR l t=[] then ⟨5,[],false,[],[]⟩ else ⟨1,[],false,[],typedR l t⟩
def Ab0 (z:Zone) (n:List UInt8) (hl:z.recs.length≤1000000):S Bk1 2 [z.pv, .s n]=some [Ag (allR z n)]:=by
 refine Hz0 (N:=z.recs.length+1) rfl ?_;have key:Ez0.ev S (z.recs.length+1) [z.pv, .s n]=some (.yld 0 [Ag ([]++allR z n)]):=by
  refine E8 z.recs (fun i (b:List Rec)=>[Ag b, .i .i64 (i:Int)]) (fun i b r=> .yld 0 [Ag (b++r.filter fun r=>decide (r.name=n))]) (fun i b=>b.length≤i) [] rfl (Ct _) (by omega) (fun i b c r hd hi hc hI=> ?_) (fun b hI=> ?_)
  ·left;by_cases h:c.name=n
   ·refine ⟨b++[c],?_,by simp;omega,by simp [h]⟩;simp (disch:=omega) only [Dq4,hc,h,EVM,EVC,EVR,xe,EVP,EV,simprocAttr]
    try simp [←h]
   ·refine ⟨b,?_,by omega,by simp [h]⟩;simp (disch:=omega) only [Dq4,hc,h,EVM,EVC,EVR,xe,EVP,EV,simprocAttr]
  ·simp (disch:=omega) only [Dq4,EVM,EVC,EVR,xe,EVP,EV,simprocAttr]
   try simp [Out.goes]
 rw [Ch] at key;generalize allR z n=ar at*;simp (disch:=omega) only [Dq4,key,EVM,EVC,EVR,xe,EVP,EV,simprocAttr]
def Bf7 (r:Rec) (t:Int):S X7 1 [r.pv, .i .i64 t]=some [.b (decide (r.typ≠t))]:=by
 refine Fr8 (N:=1) rfl ?_;simp (disch:=omega) only [Fd9,EVM,EVC,EVR,xe,EVP,EV,simprocAttr]
 try simp
def zh (l:List Rec) (t:Int) (hl:l.length≤1000000):S Yx 2 [Ag l, .i .i64 t]=some [Ag (typedR l t)]:=by
 refine Gj0 (N:=1) rfl ?_;unfold typedR;by_cases h:t=255
 ·rw [if_pos h];simp (disch:=omega) only [Eq7,h,EVM,EVC,EVR,xe,EVP,EV,simprocAttr]
 ·rw [if_neg h];have k1:=o7 l hl;have k2:=Zz l X7 [.i .i64 t] _ hl (fun r _=>Bf7 r t);have e:(l.filter fun x=> !decide (x.typ≠t))=l.filter fun r=>decide (r.typ=t):=by congr 1;funext x;simp
  rw [e] at k2;generalize (l.filter fun r=>decide (r.typ=t))=fl at*;simp (disch:=omega) only [Eq7,h,k1,k2,Dl,Kj,EVT,EVM,EVC,EVR,xe,EVP,EV,simprocAttr]
def Cm3 (t:Int):S lh 1 [.i .i64 t]=some [.b (Fc5 t)]:=by
 refine Ft9 (N:=1) rfl ?_;unfold Fc5;by_cases h1:t=5
 ·subst h1;simp (disch:=omega) only [gj,EVM,EVC,EVR,xe,EVP,EV,simprocAttr];try simp
 ·by_cases h2:t=47
  ·subst h2;simp (disch:=omega) only [gj,EVM,EVC,EVR,xe,EVP,EV,simprocAttr];try simp
  ·by_cases h3:t=46
   ·subst h3;simp (disch:=omega) only [gj,EVM,EVC,EVR,xe,EVP,EV,simprocAttr];try simp
   ·by_cases h4:t=255
    ·subst h4;simp (disch:=omega) only [gj,EVM,EVC,EVR,xe,EVP,EV,simprocAttr];try simp
    ·simp (disch:=omega) only [gj,h1,h2,h3,h4,EVM,EVC,EVR,xe,EVP,EV,simprocAttr];try simp [h1,h2,h3,h4]
def Xz (l:List Rec) (t:Int):(typedR l t).length≤l.length:=by
 unfold typedR;split
 ·exact Af _
 ·exact Dw _ _
def Bl7 (l:List Rec) (t:Int) (hl:l.length≤1000000):S Bk3 2 [Ag l, .i .i64 t]=some [(saysM l t).pv]:=by
 refine Hz1 (N:=1) rfl ?_;have k1:=zh l 5 hl;have k2:=zh l t hl;have k3:=Cm3 t;have hh:(typedR l 5).head? =l.find? fun r=>decide (r.typ=5):=by unfold typedR;rw [if_neg (by omega),List.head?_filter]
 have hl2:=Xz l 5;have hl3:=Xz l t;have tail:∀a b,T.ev S 1 Cp1 [Ag l, .i .i64 t,a,b]=some (.ret [(if typedR l t=[] then (⟨5,[],false,[],[]⟩:Res) else ⟨1,[],false,[],typedR l t⟩).pv]):=by
  intro a b;by_cases h:typedR l t=[]
  ·rw [if_pos h];rw [h] at k2;simp (disch:=omega) only [Bc5,k2,EVM,EVC,EVR,xe,EVP,EV,simprocAttr]
   try rfl
  ·rw [if_neg h];have hp:(0:Int)<((typedR l t).length:Int):=by have:=Bc.2 h;omega
   generalize typedR l t=tl at*;simp (disch:=omega) only [Bc5,k2,hp,EVM,EVC,EVR,xe,EVP,EV,simprocAttr]
 unfold saysM Gs4;cases hf:typedR l 5 with
 |nil=>
  rw [hf] at k1 hh;have e:(if Fc5 t=true then none else l.find? fun r=>decide (r.typ=5))=none:=by rw [←hh];simp
  rw [e];simp (disch:=omega) only [↓tail,Bc5,k1,EVM,EVC,EVR,xe,EVP,EV,simprocAttr]
 |cons c r=>
  rw [hf] at k1 hh hl2;rw [List.head?_cons] at hh;rw [←hh];have hp:(0:Int)<((c::r).length:Int):=by simp only [A5];omega
  rcases Ak (Fc5 t) with hd|hd
  ·rw [hd] at k3;simp only [hd,if_true];simp (disch:=omega) only [↓tail,Bc5,k1,k3,hp,EVM,EVC,EVR,xe,EVP,EV,simprocAttr]
  ·rw [hd] at k3;simp only [hd,Ad,if_false];have hls:Hh 16 (Ag (c::r)) (.i .i64 0) (.i .i64 1)=some (Ag [c]):=by rw [Hg _ _ _ _ _ (by omega) (by omega) (by omega)];rfl
   have hix:Ht 16 (Ag (c::r)) (.i .i64 0)=some c.pv:=by rw [Lv _ _ _ (by omega)];rfl
   generalize (c::r)=ll at*;simp (disch:=omega) only [Bc5,k1,k3,hp,hls,hix,EVM,EVC,EVR,xe,EVP,EV,simprocAttr]
end Go.X.G
/- nsec: the chain of a zone. -/
namespace Go.X.G
open Go Go.X
def anB (x y:Int):Int:=IntKind.u64.wrap ((BitVec.ofInt IntKind.u64.bits x &&& ~~~ BitVec.ofInt IntKind.u64.bits y).toNat:Int)
def adB (x y:Int):Int:=IntKind.u64.wrap ((BitVec.ofInt IntKind.u64.bits x &&& BitVec.ofInt IntKind.u64.bits y).toNat:Int)
def orB (x y:Int):Int:=IntKind.u64.wrap ((BitVec.ofInt IntKind.u64.bits x|||BitVec.ofInt IntKind.u64.bits y).toNat:Int)
def Gs3 (x y:Int):X.bin .andNot (.i .u64 x) (.i .u64 y)=some (.i .u64 (anB x y)):=by rw [Cb];rfl
def Gs6 (x y:Int):X.bin .and (.i .u64 x) (.i .u64 y)=some (.i .u64 (adB x y)):=by rw [d7];rfl
def Gw0 (x y:Int):X.bin .or (.i .u64 x) (.i .u64 y)=some (.i .u64 (orB x y)):=by rw [Ef1];rfl
def Xs (l:List Int) (hk:∀t∈l,knw t=true) (hl:l.length≤1000000):S j6 1 [H8 l]=some [.i .u64 (l.foldl bitO 0)]:=by refine Hc2 (N:=1) rfl ?_;have h:=Ct4 l hk hl;generalize l.foldl bitO 0=v at*;simp (disch:=omega) only [Hq2,h,EVC,xe,EVP,EV,simprocAttr]
def Wh:Int:=211106232532992
def Dj9:Int:=8796093022212
def Gv8:S j6 1 [.l 1 [.i .i64 47, .i .i64 46]]=some [.i .u64 Wh]:=by
 have:=Xs [47,46] (by decide) (by decide);have e:[47,46].foldl bitO 0=Wh:=by kernel_rfl
 rw [e] at this;exact this
def Gv7:S j6 1 [.l 1 [.i .i64 2, .i .i64 43]]=some [.i .u64 Dj9]:=by
 have:=Xs [2,43] (by decide) (by decide);have e:[2,43].foldl bitO 0=Dj9:=by kernel_rfl
 rw [e] at this;exact this
def tyO (z:Zone) (n:List UInt8):Int:=anB ((typesR z.recs n).foldl bitO 0) Wh
def chBits (z:Zone) (n:List UInt8):Int:=orB (if n∈cutsN z then adB (tyO z n) Dj9 else tyO z n) Wh
def Km (z:Zone) (ttl:Int) (n:List UInt8):Option Rec:=
 if tyO z n=0 then none else some ⟨n,47,ttl,⟨false,0,0,z.origin,[],[],0,0,0,0,0,0,chBits z n⟩⟩
def chain0 (z:Zone) (ttl:Int):List Rec:=(namesN z).filterMap (Km z ttl)
def Qn (z:Zone):Int:=match findR z.recs z.origin 6 with|[]=>0|r::_=>r.data.e
def En2 (h:List UInt8) (r:Rec):Rec:={r with data:={r.data with host:=h}}
def lnk (g:List Rec) (i:Nat):List Rec:=
 if 0<i then match g[i - 1]?,g[i]? with
  |some a,some b=>g.set (i - 1) (En2 b.name a)
  |_,_=>g
 else g
def Cz6:Nat→Nat→List Rec→List Rec
 |0,_,g=>g
 |k+1,i,g=>Cz6 k (i+1) (lnk g i)
def chainN (z:Zone):List Rec:=Cz6 (chain0 z (Qn z)).length 0 (chain0 z (Qn z))
def b9 (g:List Rec) (i:Nat):(lnk g i).length=g.length:=by
 unfold lnk;split
 ·split
  ·rw [Gh]
  ·rfl
 ·rfl
def Hx9 (l:List Rec) (j:Nat) (h:List UInt8) (x:Rec) (hx:l[j]? =some x):Pf 16 6 [.s h] (Ag l) (.i .i64 (j:Int))=some (Ag (l.set j (En2 h x))):=by
 have h1:=(Aw.1 hx).1;have h3:(l.map Rec.pv)[j]? =some x.pv:=by rw [Bl,hx];rfl
 have h0:(0:Int)≤(j:Int):=by omega
 simp only [Pf,Ag,h0,Ed,h3,and_self,if_true,Az];have h4:Oz x.pv 6 [.s h]=some (En2 h x).pv:=rfl;rw [h4];simp [List.map_set]
def Ek4 (z:Zone) (ttl:Int) (s:List Rec) (hz:z.wf) (hl:z.recs.length≤1000000) (cl:(cutsN z).length≤1000000) (hn:(namesN z).length≤1000000) (hs:∃r,s=[r]∧r.data.e=ttl) (p1:PV) (N:Nat) (hN:(namesN z).length<N):
  Eb5.ev S N [z.pv,p1, .i .u64 Wh, .i .u64 Dj9,Ag s,Bn (cutsN z),Bn (namesN z)]=some (.yld 0 [Ag (chain0 z ttl)]):=by
 obtain ⟨r0,rfl,hr0⟩:=hs;have hor:(chain0 z ttl)=[]++(namesN z).filterMap (Km z ttl):=rfl;rw [hor];have ki:=fun n=>R9 (cutsN z) n cl;have kt:=fun n=>Ct3 z.recs n hl;refine E8 (N:=N) (namesN z) (fun i (g:List Rec)=>[Ag g, .i .i64 (i:Int)]) (fun i g r=> .yld 0 [Ag (g++r.filterMap (Km z ttl))]) (fun i g=>g.length≤i) [] rfl (Ct _) hN (fun i g c r hd hi hc hI=> ?_) (fun g hI=> ?_)
 ·left;have e1:=Gs3 ((typesR z.recs c).foldl bitO 0) Wh;have e2:anB ((typesR z.recs c).foldl bitO 0) Wh=tyO z c:=rfl;rw [e2] at e1;have kt:=kt c;have ki:=ki c;have eb:chBits z c=orB (if c∈cutsN z then adB (tyO z c) Dj9 else tyO z c) Wh:=rfl;have hil:(i:Int)<((namesN z).length:Int):=by omega
  generalize (typesR z.recs c).foldl bitO 0=ty at*;by_cases h0:tyO z c=0
  ·have hci:Km z ttl c=none:=by unfold Km;rw [if_pos h0]
   refine ⟨g,?_,by omega,by rw [Ef8,hci]⟩;rw [h0] at e1;generalize namesN z=nn at*;generalize cutsN z=cc at*;simp (disch:=omega) only [Z0,hc,hil,kt,ki,e1,EVC,xe,EVP,EV,simprocAttr]
  ·have hci:Km z ttl c=some ⟨c,47,ttl,⟨false,0,0,z.origin,[],[],0,0,0,0,0,0,chBits z c⟩⟩:=by unfold Km;rw [if_neg h0]
   have ho:=Gw0 (if c∈cutsN z then adB (tyO z c) Dj9 else tyO z c) Wh;rw [←eb] at ho;refine ⟨g++[⟨c,47,ttl,⟨false,0,0,z.origin,[],[],0,0,0,0,0,0,chBits z c⟩⟩],?_,by simp;omega,by rw [Ef8,hci,As];rfl⟩;have ea:=Gs6 (tyO z c) Dj9;generalize chBits z c=bits at*;generalize tyO z c=t at*;generalize adB t Dj9=u at*;generalize namesN z=nn at*;by_cases h1:c∈cutsN z
   ·rw [if_pos h1] at ho;generalize cutsN z=cc at*;simp (disch:=omega) only [Z0,hc,hil,kt,ki,e1,ea,ho,h0,h1,hr0,EVC,xe,EVP,EV,simprocAttr]
   ·rw [if_neg h1] at ho;generalize cutsN z=cc at*;simp (disch:=omega) only [Z0,hc,hil,kt,ki,e1,ea,ho,h0,h1,hr0,EVC,xe,EVP,EV,simprocAttr]
 ·generalize namesN z=nn at*;simp (disch:=omega) only [Z0,Int.lt_irrefl,EVC,xe,EVP,EV,simprocAttr];simp [Out.goes]
def Ek3 (c0:List Rec) (hl:c0.length≤1000000) (N:Nat) (hN:c0.length<N) (p0 p1 p2 p3 p4 p5 p6:PV):
  Ey4.ev S N [p0,p1,p2,p3,p4,p5,p6,Ag c0]=some (.yld 0 [Ag (Cz6 c0.length 0 c0)]):=by
 refine E8 (N:=N) c0 (fun i (g:List Rec)=>[Ag g, .i .i64 (i:Int)]) (fun i g r=> .yld 0 [Ag (Cz6 r.length i g)]) (fun i g=>g.length=c0.length) c0 rfl rfl hN (fun i g c r hd hi hc hI=> ?_) (fun g hI=> ?_)
 ·left;refine ⟨lnk g i,?_,by rw [b9];exact hI,rfl⟩;have hil:(i:Int)<(c0.length:Int):=by omega
  unfold lnk;by_cases h0:0<i
  ·have a1:g[i - 1]? =some (g[i - 1]'(by omega)):=Ay (by omega);have a2:g[i]? =some (g[i]'(by omega)):=Ay (by omega);generalize g[i - 1]'(by omega)=a at*;generalize g[i]'(by omega)=b at*;rw [if_pos h0,a1,a2];simp only;have e1:(i:Int) - 1=((i - 1:Nat):Int):=by omega
   have e2:IntKind.i64.wrap ((i:Int) - 1)=((i - 1:Nat):Int):=by rw [w64 (by omega) (by omega)];exact e1
   have e3:=Hx9 g (i - 1) b.name a a1;have h0':(0:Int)<(i:Int):=by omega
   simp (disch:=omega) only [Z0,hil,h0',e1,e2,e3,a1,a2,EVC,xe,EVP,EV,simprocAttr]
  ·have h0':¬(0:Int)<(i:Int):=by omega
   rw [if_neg h0];simp (disch:=omega) only [Z0,hil,h0',EVC,xe,EVP,EV,simprocAttr]
 ·simp (disch:=omega) only [Z0,Int.lt_irrefl,EVC,xe,EVP,EV,simprocAttr];simp [Out.goes,Cz6]
def Zk (z:Zone) (ttl:Int):(chain0 z ttl).length≤(namesN z).length:=List.length_filterMap_le _ _
def Dt2 (z:Zone) (hl:z.recs.length≤1000):(cutsN z).length≤1000000:=by have:=Tc ((z.recs.filter (C7 z)).map Rec.name);have h2:=Dw (C7 z) z.recs;rw [Ew] at this;unfold cutsN;omega
def Wg (z:Zone) (hz:z.wf) (hl:z.recs.length≤1000):S tz 1 [z.pv]=some (if Ip z=0 then [Ag (chainN z), .i .i64 0] else [Ag [], .i .i64 13]):=by
 have hn:=Nw z hl;have hc:=Dt2 z hl;have hcl:=Zk z (Qn z);refine Hf0 (N:=(namesN z).length+1) rfl ?_;have k1:=o9 z hz (by omega);by_cases h:Ip z=0
 ·rw [if_pos h];rw [h] at k1;have ho:=V9 h;obtain ⟨s,es⟩:=List.length_eq_one_iff.1 ho.soa;have k2:=Zn z z.origin 6 (by omega);have k3:=zq z hz (by omega);have k4:=T4 z hz (by omega);have em:Qn z=s.data.e:=by unfold Qn;rw [es]
  have l0:=Ek4 z (Qn z) [s] hz (by omega) hc hn ⟨s,rfl,em.symm⟩ (.i .i64 0) ((namesN z).length+1) (by omega);have l1:=Ek3 (chain0 z (Qn z)) (by omega) ((namesN z).length+1) (by omega);rw [es] at k2;have ec:Cz6 (chain0 z (Qn z)).length 0 (chain0 z (Qn z))=chainN z:=rfl;rw [ec] at l1;generalize chainN z=cn at*;generalize chain0 z (Qn z)=c0 at*;generalize cutsN z=cc at*;generalize namesN z=nn at*;have o1:=Gv8;have o2:=Gv7;have q1:Jl 1 [.i .i64 47, .i .i64 46]=some (.l 1 [.i .i64 47, .i .i64 46]):=rfl;have q2:Jl 1 [.i .i64 2, .i .i64 43]=some (.l 1 [.i .i64 2, .i .i64 43]):=rfl;simp (disch:=omega) only [Z0,k1,k2,k3,k4,l0,l1,o1,o2,q1,q2,Cz,C2,EVC,xe,EVP,EV,simprocAttr]
 ·rw [if_neg h];simp (disch:=omega) only [Z0,k1,h,Cz,C2,EVC,xe,EVP,EV,simprocAttr]
end Go.X.G
/- nsec: the sample, and the laws NsecCovers, NsecAbsent, NsecEmpty. -/
namespace Go.X.G
open Go Go.X
def smp20:Zone:=⟨[120,46],[⟨[120,46],2,9,⟨false,0,0,[110,46],[],[],0,0,0,0,0,0,0⟩⟩,
 ⟨[120,46],6,9,⟨false,0,0,[110,46],[109,46],[],3,0,0,0,5,0,0⟩⟩,
 ⟨[98,46,120,46],1,9,⟨false,0,1,[],[],[],0,0,0,0,0,0,0⟩⟩]⟩
def rh:S Dm3 0 []=some [smp20.pv]:=(Ob ext_mono).2 ⟨3,by kernel_rfl⟩
def Dd1:smp20.wf:=by refine ⟨by unfold Q8;decide,by decide,fun r hr=> ?_⟩;simp only [smp20,Am,Dk7,or_false] at hr;rcases hr with rfl|rfl|rfl<;>(constructor<;>(try constructor))<;>simp [Dj7,S6,Q8]
def rc:Ip smp20=0:=by kernel_rfl
def rz:namesN smp20=[[120,46],[98,46,120,46]]:=by unfold namesN;rw [←jt];kernel_rfl
def Ap0:cutsN smp20=[]:=by unfold cutsN;rw [←jt];kernel_rfl
def c20a:Rec:=⟨[120,46],47,5,⟨false,0,0,[98,46,120,46],[],[],0,0,0,0,0,0,211106232533060⟩⟩
def c20b:Rec:=⟨[98,46,120,46],47,5,⟨false,0,0,[120,46],[],[],0,0,0,0,0,0,211106232532994⟩⟩
def rf:chainN smp20=[c20a,c20b]:=by
 have e:chain0 smp20 (Qn smp20)=[En2 [120,46] c20a,c20b]:=by
  unfold chain0;rw [rz];unfold Km chBits;rw [Ap0]
  kernel_rfl
 have e2:chainN smp20=Cz6 2 0 [En2 [120,46] c20a,c20b]:=by unfold chainN;rw [e];rfl
 exact e2.trans (by kernel_rfl)
def Cp6:∀r∈[c20a,c20b],r.wf:=by intro r hr;simp only [Am,Dk7,or_false] at hr;rcases hr with rfl|rfl<;>(constructor<;>(try constructor))<;>simp [Dj7,S6,Q8,c20a,c20b]
def By0:S Cy9 0 []=some [.b true]:=by
 refine Hf4 (N:=1) rfl ?_;have k1:=rh;have k2:=Wg smp20 Dd1 (by decide);rw [if_pos rc,rf] at k2;have a1:=Rt [c20a,c20b] [120,46] [99,46,120,46] Cp6 (by decide) (by decide) (by decide);have a2:=Rt [c20a,c20b] [120,46] [98,46,120,46] Cp6 (by decide) (by decide) (by decide);have a3:=o5 [c20a,c20b] [120,46] ⟨[98,46,120,46],15⟩ Cp6 (by decide) (by decide) (by decide);have e1:Ol [c20a,c20b] [120,46] [99,46,120,46]=true:=by kernel_rfl
 have e2:Ol [c20a,c20b] [120,46] [98,46,120,46]=false:=by kernel_rfl
 have e3:Y6 [c20a,c20b] [120,46] ⟨[98,46,120,46],15⟩=true:=by kernel_rfl
 rw [e1] at a1;rw [e2] at a2;rw [e3] at a3;have h0:[c20a,c20b][0]? =some c20a:=rfl;have h1:[c20a,c20b][1]? =some c20b:=rfl;have hl:[c20a,c20b].length=2:=rfl;have n0:c20a.name=[120,46]:=rfl;have n1:c20a.data.host=[98,46,120,46]:=rfl;have n2:c20b.data.host=[120,46]:=rfl;have n3:c20b.ttl=5:=rfl;generalize [c20a,c20b]=l at*;generalize c20a=ra at*;generalize c20b=rb at*;generalize smp20=z at*;simp (disch:=first|omega|decide) only [Hv1,k1,k2,a1,a2,a3,h0,h1,hl,n0,n1,n2,n3,F0,Cz,C2,EVM,EVC,xe,EVP,EV,simprocAttr]
end Go.X.G
/- What a checked zone says of its names. -/
namespace Go.X.G
open Go Go.X
def Kx {n:List UInt8} (h:vld n=true):under n n=true:=Bw.2 ⟨h,h,List.suffix_refl _⟩
def Q2 {a b:List UInt8} (h1:under a b=true) (h2:under b a=true):a=b:=by refine Hw h1 ?_;exact (Bw.1 h2).2.2.length_le
def Mh {z:Zone} {r:Rec}:C7 z r=true↔r.typ=2∧r.name≠z.origin∧under r.name z.origin=true:=by unfold C7 En;simp only [Av,decide_eq_true_eq,ne_eq]
def Kh {l:List Rec} {n:List UInt8} {t:Int} {r:Rec}:r∈findR l n t↔r∈l∧r.name=n∧r.typ=t:=by unfold findR;rw [Bz];simp only [isK,Av,decide_eq_true_eq]
def ZOk.soaR {z:Zone} (h:ZOk z):∃r∈z.recs,r.name=z.origin∧r.typ=6:=by
 have:=h.soa;cases e:findR z.recs z.origin 6 with
 |nil=>rw [e] at this;cases this
 |cons r l=>
  have:r∈findR z.recs z.origin 6:=by rw [e];exact .head _
  exact ⟨r,(Kh.1 this).1,(Kh.1 this).2⟩
def Yt (z:Zone):Ng z z.origin=false:=by
 cases h:Ng z z.origin with
 |false=>rfl
 |true=>
  unfold Ng at h;simp only [Bm,Av,decide_eq_true_eq] at h;obtain ⟨r,_,⟨h1,_⟩,h3⟩:=h;obtain ⟨_,h4,h5⟩:=Mh.1 h1;exact absurd (Q2 h5 h3) h4
def ZOk.exO {z:Zone} (h:ZOk z):exB z z.origin=true:=by obtain ⟨r,hr,e,_⟩:=h.soaR;have u:=Kx h.origin;exact (J5 z _).2 ⟨r,hr,by rw [e];exact u,by rw [e];exact Yt z,by rw [e];exact u,u⟩
def Tp {z:Zone} {n:List UInt8} (h:exB z n=true):under n z.origin=true:=by obtain ⟨_,_,_,_,_,h⟩:=(J5 z n).1 h;exact h
def Hk0 {z:Zone} (h:ZOk z) {n:List UInt8} (hu:under n z.origin=true):encN z n≠[]∧under n (encN z n)=true∧exB z (encN z n)=true:=by
 unfold encN;rw [if_pos hu];cases e:Bz4 z n with
 |none=>
  unfold Bz4 at e;rw [Hj7] at e;exact absurd h.exO (e _ ((Mj hu).2 ⟨hu,Kx h.origin⟩))
 |some x=>
  obtain ⟨h1,h2⟩:=Mp hu e;exact ⟨gy (Bw.1 h1).2.1,h1,h2⟩
def Cl5 {z:Zone} {n x:List UInt8} (hu:under n x=true) (hx:exB z x=true):(lbl x).length≤(lbl (encN z n)).length:=by
 have hne:=gy (Bw.1 hu).2.1;have h0:=Cs0 z n;obtain ⟨h1,h2⟩:=T1 n (namesN z) [] (.inl rfl);rw [h0] at h1 h2;have hm:x∈namesN z:=by have:=Lz z x;rw [hx] at this;simpa using this
 by_cases hb:encN z n=[]
 ·have:=(h1 hb).2 x hm;rw [hu] at this;cases this
 ·exact (h2 hb).2.2.2 x hm hu
def Uq {a b c:List (List UInt8)} (h1:a<:+c) (h2:b<:+c) (h:a.length≤b.length):a<:+b:=by exact List.suffix_of_suffix_length_le h1 h2 h
def oj {z:Zone} {n:List UInt8} (ho:ZOk z) (h:cutN z n≠[]):
  under n (cutN z n)=true∧cutN z n≠z.origin∧(findR z.recs (cutN z n) 2).length≠0∧encN z n=cutN z n∧under n z.origin=true∧exB z (cutN z n)=true:=by
 obtain ⟨_,h2⟩:=Ms z n z.recs [] (.inl rfl);obtain ⟨g1,g2,_,g4⟩:=h2 h;change under n (cutN z n)=true at g1;change cutN z n=[]∨∃r∈z.recs,C7 z r=true∧r.name=cutN z n at g2;change∀r∈z.recs,C7 z r=true→under n r.name=true→(lbl (cutN z n)).length≤(lbl r.name).length at g4;obtain ⟨r,hr,hc,hn⟩:=g2.resolve_left h;generalize cutN z n=c at*;obtain ⟨c1,c2,c3⟩:=Mh.1 hc;rw [hn] at c2 c3;have hu:=J0 g1 c3;have hh:Ng z c=false:=by
  cases e:Ng z c with
  |false=>rfl
  |true=>
   unfold Ng at e;simp only [Bm,Av,decide_eq_true_eq] at e;obtain ⟨x,hx,⟨x1,x2⟩,x3⟩:=e;have:=g4 x hx x1 (J0 g1 x3);exact absurd (Hw x3 this).symm x2
 have hv:=(Bw.1 c3).1;have hex:exB z c=true:=(J5 z c).2 ⟨r,hr,by rw [hn];exact c3,by rw [hn];exact hh,by rw [hn];exact Kx hv,c3⟩;refine ⟨g1,c2,?_,?_,hu,hex⟩
 ·have:r∈findR z.recs c 2:=Kh.2 ⟨hr,hn,c1⟩;intro e;rw [List.length_eq_zero_iff.1 e] at this;cases this
 ·obtain ⟨_,e1,e2⟩:=(Hk0 ho hu);have hm:=Cl5 g1 hex;generalize encN z n=e at*;obtain ⟨_,_,s1⟩:=Bw.1 g1;obtain ⟨_,ve,s2⟩:=Bw.1 e1;have s3:=Uq s1 s2 hm;have ec:under e c=true:=Bw.2 ⟨ve,hv,s3⟩;by_cases hl:(lbl e).length≤(lbl c).length
  ·exact Hw ec hl
  ·exfalso;obtain ⟨x,hx,x1,x2,x3,_⟩:=(J5 z e).1 e2;have hxc:=J0 x3 ec;have:Ng z x.name=true:=by unfold Ng;simp only [Bm,Av,decide_eq_true_eq];refine ⟨r,hr,⟨hc,fun q=> ?_⟩,by rw [hn];exact hxc⟩;have:=(Bw.1 x3).2.2.length_le;rw [←q,hn] at this;exact hl this
   rw [x2] at this;cases this
end Go.X.G
