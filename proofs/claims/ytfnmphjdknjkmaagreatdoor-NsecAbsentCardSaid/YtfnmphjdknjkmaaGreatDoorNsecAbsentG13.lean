/- Stable sorting: the Ml. -/
import Derived.Test.YtfnmphjdknjkmaaGreatDoorNsecAbsentG12
import Derived.Test.YtfnmphjdknjkmaaGreatDoorNsecAbsentG11
import Derived.Test.YtfnmphjdknjkmaaGreatDoorNsecAbsentG9
import Derived.Test.YtfnmphjdknjkmaaGreatDoorNsecAbsentG8
open Bool renaming eq_false_or_eq_true→Ak,and_eq_true→Aw,false_eq_true→Ad,or_eq_true→Ap,not_eq_true'→A7,eq_iff_iff→C2,not_eq_false→Fc
open Classical renaming not_not→Jv
open Int renaming toNat_natCast→G3
open List renaming getElem?_eq_some_iff→Av,getElem?_eq_getElem→Az,length_append→Ac,mem_cons→Am,length_take→Ar,append_assoc→As,pairwise_cons→A0,length_cons→A3,getElem?_drop→A8,mem_of_getElem?→A9,all_eq_true→Bz,length_pos_iff→Bb,length_nil→Bf,getElem?_map→Bh,mem_append_right→Bm,take_append_drop→Bs,mem_append→Bt,mem_filter→B0,length_drop→B3,mem_append_left→Cq,nil_append→Cb,any_eq_true→Cd,take_add_one→Cl,drop_eq_getElem_cons→Ct,drop_drop→C0,take_length→Dq,take_of_length_le→Df,mem_map→Ds,append_nil→Dt,getElem_mem→D1,drop_zero→D3,length_map→E8,count_cons_of_ne→Fl,map_cons→Fs,length_set→F4,mem_of_mem_take→Gz,mem_of_mem_drop→Gb,count_cons_self→Gc,length_filter_le→Hf,drop_append_of_le_length→Ip,getLast_eq_getElem→Jj,flatMap_cons→Jq,filter_cons→Kp,length_mergeSort→gt,getElem_take→pc,take_take→At8,mem_nil_iff→Dl9,drop_set_of_lt→Gw7,map_mergeSort→In3,count_eq_zero→In4
open Nat renaming le_refl→Af,mul_le_mul_right→By,zero_le→Cc,le_trans→C4,add_zero→C8,add_sub_cancel→V9,min_eq_left→Zj
open Option renaming bind_some→Ay
set_option maxHeartbeats 1000000
set_option linter.unusedVariables false
set_option linter.unusedSimpArgs false
namespace Go.X.G
open Go Go.X
theorem fh {α:Type} {le:α→α→Bool} (ht:TP le) {bs:Nat} {Y LY:List α} (h:Blk le bs Y LY) (hl:Y.length≤2*bs) (hb:bs<Y.length):Stab le (mrg le (Y.take bs) (Y.drop bs)) LY:=by have h1:=h.head;have h2:=(h.tail).all (by rw [B3];omega);have:=Stab.mrg ht h1 h2;rwa [Bs] at this
theorem Blk.pre {α:Type} {le:α→α→Bool} {bs k:Nat} {Y LY:List α} (h:Blk le bs Y LY):Blk le bs (Y.take (k*bs)) (LY.take (k*bs)):=by
 refine ⟨by simp [h.len],fun j=> ?_⟩;rw [List.drop_take,List.drop_take,At8,At8];by_cases hj:j<k
 ·have e:(j+1)*bs≤k*bs:=By _ hj;rw [Nat.succ_mul] at e;rw [Zj (by omega)];exact h.st j
 ·have e:k*bs≤j*bs:=By _ (by omega);rw [show k*bs - j*bs=0 by omega,Nat.min_eq_right (by omega),List.take_zero,List.take_zero];exact Ql le
section
variable {g:Nat} {caps:List PV} {c:Rec→Rec→Int} {P:Rec→Prop}
theorem It7 (hC:Cmp g caps c P) (ht:TP (leC c)) (l:List Rec) (hP:∀y∈l,P y) (hs:l.length≤1000000) (N:Nat) (hN:l.length+2<N):
  ∃(X LX Y:List Rec) (q:Nat),Cq3.ev S N [Al l, .i .i64 l.length, .f g caps]=some (.yld 0 [.i .i64 X.length,Al (X++Y)])∧l=LX++Y∧X.length=q*20∧Y.length<20∧Blk (leC c) 20 X LX∧∀y∈X++Y,P y:=by
 have key:=G6 (fn:=S) (N:=N) (η:=[Al l, .i .i64 l.length, .f g caps]) (id:=1) (init:=[.c (.i .i64 0), .c (.i .i64 20), .v 0]) (body:=ob) (α:=List Rec×List Rec×List Rec×Nat)
  (fun w=>[.i .i64 (w.1.length:Int), .i .i64 ((w.1.length:Int)+20),Al (w.1++w.2.2.1)])
  (fun o=>∃(X LX Y:List Rec) (q:Nat),o= .yld 0 [.i .i64 X.length,Al (X++Y)]∧l=LX++Y∧X.length=q*20∧Y.length<20∧Blk (leC c) 20 X LX∧∀y∈X++Y,P y)
  (fun w=>l=w.2.1++w.2.2.1∧w.1.length=w.2.2.2*20∧Blk (leC c) 20 w.1 w.2.1∧∀y∈w.1++w.2.2.1,P y) (fun w=>w.2.2.1.length) ([],[],l,0) ?_ ⟨rfl,by simp,Blk.nil _ _,by simpa using hP⟩ (by simp only;omega) ?_
 ·obtain ⟨o,h1,X,LX,Y,q,rfl,h2⟩:=key;exact ⟨X,LX,Y,q,h1,h2⟩
 ·simp (disch:=omega) only [EVT,EVM,EVC,xe,EVP,EV,simprocAttr]
  try simp
 ·rintro ⟨X,LX,Y,q⟩ ⟨h1,h2,h3,h4⟩;simp only at h1 h2 h3 h4;have hlen:=congrArg List.length h1;simp only [Ac] at hlen;have hXL:=h3.len;by_cases hge:20≤Y.length
  ·left;have eY:Y.take 20++Y.drop 20=Y:=Bs _ _;have l1:(Y.take 20).length=20:=by rw [Ar];omega
   have l2:(Y.drop 20).length=Y.length - 20:=B3;have eXY:X++Y.take 20++Y.drop 20=X++Y:=by rw [As,eY]
   obtain ⟨R,k1,k2,k3⟩:=Vf hC ht X (Y.take 20) (Y.drop 20) (X.length:Int) ((X.length:Int)+20) rfl (by omega) (by rw [eXY];exact h4) (by rw [eXY,Ac];omega);rw [eXY] at k3;refine ⟨(X++R,LX++Y.take 20,Y.drop 20,q+1),?_,⟨by simp only;rw [h1,As,eY],by simp only [Ac];omega,Blk.app h2 h3 (Blk.one k1 k2 (by omega)),fun y hy=>h4 y ?_⟩,by simp only;omega⟩
   ·have e1:((X++R).length:Int)=(X.length:Int)+20:=by simp only [Ac];omega
    have hge':(X.length:Int)+20≤(l.length:Int):=by omega
    simp only;rw [e1];generalize X++R++Y.drop 20=s1 at*;generalize X++Y=s0 at*;simp (disch:=omega) only [Pd,hge',k3,D4,K1,EVT,EVM,EVC,xe,EVP,EV,simprocAttr]
   ·have:=k1.mem ht y;simp only [Bt] at hy;rcases hy with (hy|hy)|hy
    ·simp [hy]
    ·exact Bm _ (Gz (this.1 hy))
    ·exact Bm _ (Gb hy)
  ·right;have hge':¬(X.length:Int)+20≤(l.length:Int):=by omega
   refine ⟨.yld 0 [.i .i64 X.length,Al (X++Y)],?_,rfl,X,LX,Y,q,rfl,h1,h2,by omega,h3,h4⟩;simp only;generalize X++Y=s0 at*;simp (disch:=omega) only [Pd,hge',EVT,EVM,EVC,xe,EVP,EV,simprocAttr]
theorem It6 (hC:Cmp g caps c P) (ht:TP (leC c)) (l r:List Rec) (bs:Nat) (hbs:0<bs) (hbs2:bs<l.length) (hr:Blk (leC c) bs r l) (hP:∀y∈r,P y) (hs:l.length≤1000000) (w0:PV) (w3 w4 w5:PV) (N:Nat) (hN:l.length+2<N):
  ∃(X LX Y LY:List Rec) (q:Nat),Cj4.ev S N [w0, .i .i64 l.length, .f g caps,w3,w4,w5, .i .i64 bs,Al r]=some (.yld 2 [.i .i64 X.length,Al (X++Y)])∧l=LX++LY∧X.length=q*(2*bs)∧Y.length<2*bs∧Blk (leC c) (2*bs) X LX∧Blk (leC c) bs Y LY∧∀y∈X++Y,P y:=by
 have key:=G6 (fn:=S) (N:=N) (η:=[w0, .i .i64 l.length, .f g caps,w3,w4,w5, .i .i64 bs,Al r]) (id:=3) (init:=[.c (.i .i64 0), .bin .mul (.c (.i .i64 2)) (.v 6), .v 7]) (body:=oq) (α:=(List Rec×List Rec)×(List Rec×List Rec)×Nat)
  (fun w=>[.i .i64 (w.1.1.length:Int), .i .i64 ((w.1.1.length:Int)+2*bs),Al (w.1.1++w.2.1.1)])
  (fun o=>∃(X LX Y LY:List Rec) (q:Nat),o= .yld 2 [.i .i64 X.length,Al (X++Y)]∧l=LX++LY∧X.length=q*(2*bs)∧Y.length<2*bs∧Blk (leC c) (2*bs) X LX∧Blk (leC c) bs Y LY∧∀y∈X++Y,P y)
  (fun w=>l=w.1.2++w.2.1.2∧w.1.1.length=w.2.2*(2*bs)∧Blk (leC c) (2*bs) w.1.1 w.1.2∧Blk (leC c) bs w.2.1.1 w.2.1.2∧∀y∈w.1.1++w.2.1.1,P y) (fun w=>w.2.1.1.length) (([],[]),(r,l),0) ?_ ⟨rfl,by simp,Blk.nil _ _,hr,by simpa using hP⟩ (by have:=hr.len;simp only;omega) ?_
 ·obtain ⟨o,h1,X,LX,Y,LY,q,rfl,h2⟩:=key;exact ⟨X,LX,Y,LY,q,h1,h2⟩
 ·simp (disch:=omega) only [EVT,EVM,EVC,xe,EVP,EV,simprocAttr];simp
 ·rintro ⟨⟨X,LX⟩,⟨Y,LY⟩,q⟩ ⟨h1,h2,h3,h4,h5⟩;simp only at h1 h2 h3 h4 h5;have hlen:=congrArg List.length h1;simp only [Ac] at hlen;have hXL:=h3.len;have hYL:=h4.len;by_cases hge:2*bs≤Y.length
  ·left;have eY:Y.take (2*bs)++Y.drop (2*bs)=Y:=Bs _ _;have l1:(Y.take (2*bs)).length=2*bs:=by rw [Ar];omega
   have l2:(Y.drop (2*bs)).length=Y.length - 2*bs:=B3;have hp:=h4.pre (k:=2);have hz:Blk (leC c) bs (Y.drop (2*bs)) (LY.drop (2*bs)):=by have:=h4.tail.tail;rwa [C0,C0,show bs+bs=2*bs by omega] at this
   have hst:=fh ht hp (by omega) (by omega);have sA:((Y.take (2*bs)).take bs).Pairwise fun x y=>leC c x y=true:=hp.head.sorted;have sB:((Y.take (2*bs)).drop bs).Pairwise fun x y=>leC c x y=true:=(hp.tail.all (by rw [B3];omega)).sorted;have lA:((Y.take (2*bs)).take bs).length=bs:=by rw [Ar];omega
   have lB:((Y.take (2*bs)).drop bs).length=bs:=by rw [B3];omega
   have eAB:(Y.take (2*bs)).take bs++(Y.take (2*bs)).drop bs=Y.take (2*bs):=Bs _ _;generalize (Y.take (2*bs)).take bs=A at*;generalize (Y.take (2*bs)).drop bs=B at*;have eXY:X++A++B++Y.drop (2*bs)=X++Y:=by rw [As X,eAB,As,eY]
   have hm:=J6 hC ht (A.length+B.length) X A B (Y.drop (2*bs)) (X.length:Int) ((X.length:Int)+bs) ((X.length:Int)+2*bs) (Af _) (by intro e;rw [e] at lA;simp at lA;omega) (by intro e;rw [e] at lB;simp at lB;omega) sA sB rfl (by omega) (by omega) (by rw [eXY,Ac];omega) (by rw [eXY];exact h5);rw [eXY] at hm;have lM:=Sj (leC c) A B;have eL:LY.take (2*bs)++LY.drop (2*bs)=LY:=Bs _ _;refine ⟨((X++mrg (leC c) A B,LX++LY.take (2*bs)),(Y.drop (2*bs),LY.drop (2*bs)),q+1),?_,⟨by simp only;rw [h1,As,eL],by simp only [Ac];rw [Nat.succ_mul];omega,Blk.app h2 h3 (Blk.one hst (by rw [lM,Ar];omega) (by omega)),hz,fun y hy=>h5 y ?_⟩,by simp only;omega⟩
   ·have e1:((X++mrg (leC c) A B).length:Int)=(X.length:Int)+2*bs:=by simp only [Ac];omega
    have hge':(X.length:Int)+2*(bs:Int)≤(l.length:Int):=by omega
    simp only;rw [e1];generalize X++mrg (leC c) A B++Y.drop (2*bs)=s1 at*;generalize X++Y=s0 at*;simp (disch:=omega) only [Pd,hge',hm,D4,K1,EVT,EVM,EVC,xe,EVP,EV,simprocAttr]
   ·rw [←eXY];simp only [Bt,mrg_mem] at hy ⊢
    grind
  ·right;have hge':¬(X.length:Int)+2*(bs:Int)≤(l.length:Int):=by omega
   refine ⟨.yld 2 [.i .i64 X.length,Al (X++Y)],?_,rfl,X,LX,Y,LY,q,rfl,h1,h2,by omega,h3,h4,h5⟩;simp only;generalize X++Y=s0 at*;simp (disch:=omega) only [Pd,hge',EVT,EVM,EVC,xe,EVP,EV,simprocAttr]
theorem It8 (hC:Cmp g caps c P) (ht:TP (leC c)) (l r:List Rec) (bs:Nat) (hbs:0<bs) (hbs2:bs<l.length) (hr:Blk (leC c) bs r l) (hP:∀y∈r,P y) (hs:l.length≤1000000) (w0 w3 w4 w5:PV) (N:Nat) (hN:l.length+2<N):
  ∃r',Blk (leC c) (2*bs) r' l∧(∀y∈r',P y)∧Yl.ev S N [w0, .i .i64 l.length, .f g caps,w3,w4,w5, .i .i64 bs,Al r]=some (.yld 1 [.i .i64 ((2*bs:Nat):Int),Al r']):=by
 obtain ⟨X,LX,Y,LY,q,k,h1,h2,h3,h4,h5,h6⟩:=It6 hC ht l r bs hbs hbs2 hr hP hs w0 w3 w4 w5 N hN;have hlen:=congrArg List.length h1;simp only [Ac] at hlen;have hXL:=h4.len;have hYL:=h5.len;have hlt:(bs:Int)<(l.length:Int):=by omega
 have e2:((2*bs:Nat):Int)=(bs:Int)*2:=by omega
 rw [e2];by_cases hge:bs<Y.length
 ·have eY:Y.take bs++Y.drop bs=Y:=Bs _ _;have hst:=fh ht h5 (by omega) hge;have sA:=h5.head.sorted;have sB:=(h5.tail.all (by rw [B3];omega)).sorted;have lA:(Y.take bs).length=bs:=by rw [Ar];omega
  have lB:(Y.drop bs).length=Y.length - bs:=B3;generalize Y.take bs=A at*;generalize Y.drop bs=B at*;have eXY:X++A++B++[]=X++Y:=by rw [Dt,As,eY]
  have hm:=J6 hC ht (A.length+B.length) X A B [] (X.length:Int) ((X.length:Int)+bs) (l.length:Int) (Af _) (by intro e;rw [e] at lA;simp at lA;omega) (by intro e;rw [e] at lB;simp at lB;omega) sA sB rfl (by omega) (by omega) (by rw [eXY,Ac];omega) (by rw [eXY];exact h6);rw [eXY,Dt] at hm;have lM:=Sj (leC c) A B;refine ⟨X++mrg (leC c) A B,by rw [h1];exact Blk.app h2 h4 (Blk.one hst (by omega) (by omega)),fun y hy=>h6 y (by
   rw [←eXY];simp only [Bt,mrg_mem] at hy ⊢
   grind),?_⟩
  have hge':(X.length:Int)+(bs:Int)<(l.length:Int):=by omega
  generalize X++mrg (leC c) A B=s1 at*;generalize X++Y=s0 at*;simp (disch:=omega) only [Pd,hlt,hge',k,hm,D4,K1,EVT,EVM,EVC,xe,EVP,EV,simprocAttr]
 ·refine ⟨X++Y,by rw [h1];exact Blk.app h2 h4 (Blk.one (h5.all (by omega)) hYL (by omega)),h6,?_⟩;have hge':¬(X.length:Int)+(bs:Int)<(l.length:Int):=by omega
  generalize X++Y=s0 at*;simp (disch:=omega) only [Pd,hlt,hge',k,EVT,EVM,EVC,xe,EVP,EV,simprocAttr]
theorem Bw3 (hC:Cmp g caps c P) (ht:TP (leC c)) (l:List Rec) (hP:∀y∈l,P y) (hs:l.length≤1000000):
  ∃r,Stab (leC c) r l∧r.length=l.length∧S cp 1048579 [Al l, .i .i64 l.length, .f g caps]=some [Al r]:=by
 obtain ⟨N,hN⟩:∃N,N=l.length+3:=⟨_,rfl⟩;obtain ⟨X,LX,Y,q,k0,h1,h2,h3,h4,h5⟩:=It7 hC ht l hP hs N (by omega);have hlen:=congrArg List.length h1;simp only [Ac] at hlen;have hXL:=h4.len;obtain ⟨R,i1,i2,i3⟩:=Vf hC ht X Y [] (X.length:Int) (l.length:Int) rfl (by omega) (by simpa using h5) (by simp;omega);simp only [Dt] at i3;have hB:Blk (leC c) 20 (X++R) l:=by rw [h1];exact Blk.app h2 h4 (Blk.one i1 i2 (by omega))
 have hP':∀y∈X++R,P y:=fun y hy=>h5 y (by
  have:=i1.mem ht y;simp only [Bt] at hy ⊢
  grind)
 have key:=G6 (fn:=S) (N:=N) (η:=[Al l, .i .i64 l.length, .f g caps, .i .i64 X.length,Al (X++Y),Al (X++R)]) (id:=1) (init:=[.c (.i .i64 20), .v 5]) (body:=Yl) (α:=Nat×List Rec)
  (fun w=>[.i .i64 (w.1:Int),Al w.2])
  (fun o=>∃r,Stab (leC c) r l∧r.length=l.length∧o= .yld 0 [Al r])
  (fun w=>0<w.1∧Blk (leC c) w.1 w.2 l∧∀y∈w.2,P y) (fun w=>l.length - w.1) (20,X++R) ?_ ⟨by simp,hB,hP'⟩ (by simp only;omega) ?_
 ·obtain ⟨o,k1,r,k2,k3,rfl⟩:=key;refine ⟨r,k2,k3,?_⟩;refine Hm0 (N:=N) rfl ?_;have k4:Cj8.ev S N [Al l, .i .i64 l.length, .f g caps, .i .i64 X.length,Al (X++Y),Al (X++R)]=_:=k1;clear k1;generalize X++Y=s0 at*;generalize X++R=s1 at*;simp (disch:=omega) only [Pd,k0,i3,k4,D4,K1,EVT,EVM,EVC,xe,EVP,EV,simprocAttr]
 ·generalize X++Y=s0 at*;generalize X++R=s1 at*;simp (disch:=omega) only [EVT,EVM,EVC,xe,EVP,EV,simprocAttr]
 ·rintro ⟨bs,r⟩ ⟨g1,g2,g3⟩;simp only at g1 g2 g3;have hr:=g2.len;by_cases hlt:bs<l.length
  ·left;obtain ⟨r',k1,k2,k3⟩:=It8 hC ht l r bs g1 hlt g2 g3 hs (Al l) (.i .i64 X.length) (Al (X++Y)) (Al (X++R)) N (by omega);exact ⟨(2*bs,r'),k3,⟨by simp only;omega,k1,k2⟩,by simp only;omega⟩
  ·right;have hlt':¬(bs:Int)<(l.length:Int):=by omega
   refine ⟨.yld 0 [Al r],?_,rfl,r,g2.all (by omega),hr,rfl⟩;generalize X++Y=s0 at*;generalize X++R=s1 at*;simp (disch:=omega) only [Pd,hlt',EVT,EVM,EVC,xe,EVP,EV,simprocAttr]
theorem Oy (hC:Cmp g caps c P) (ht:TP (leC c)) (l:List Rec) (hP:∀y∈l,P y) (hs:l.length≤1000000):
  ∃r,Stab (leC c) r l∧r.length=l.length∧S dw 1048578 [Al l, .f g caps]=some [Al r]:=by
 obtain ⟨r,h1,h2,h3⟩:=Bw3 hC ht l hP hs;refine ⟨r,h1,h2,?_⟩;refine Hp3 (N:=1) rfl ?_;simp (disch:=omega) only [Hz6,h3,D4,K1,EVT,EVM,EVC,xe,EVP,EV,simprocAttr]
end
end Go.X.G
/- Records compacted: the library's function. -/
namespace Go.X.G
open Go Go.X
theorem pj (l:List Rec) (g:Nat) (caps:List PV) (eq2:Rec→Rec→Bool) (h:∀x∈l,∀y∈l,S g 2 (x.pv::y.pv::caps)=some [.b (eq2 x y)]) (hl:l.length≤1000000):S dv 1048578 [Al l, .f g caps]=some [Al (cpt eq2 l)]:=by
 refine Hp1 (N:=l.length+2) rfl ?_;by_cases h2:(l.length:Int)<2
 ·have e:cpt eq2 l=l:=by
   match l,h2 with
   |[],_=>rfl
   |[x],_=>rfl
   |_::_::_,h=>simp at h;omega
  rw [e];simp (disch:=omega) only [Nq,h2,EVT,EVM,EVC,xe,EVP,EV,simprocAttr]
 ·-- the inner F7, from a place where two neighbours are equal
  have inner:∀k:Nat,1≤k→k<l.length→cpt eq2 (l.take (k+1))=l.take k→∃s:List Rec,s.length=l.length∧s.take (cpt eq2 l).length=cpt eq2 l∧Cj9.ev S (l.length+2) [Al l, .f g caps, .i .i64 (k:Int),Al l, .b true]=some (.yld 2 [.i .i64 ((cpt eq2 l).length:Int),Al s]):=by
   intro k hk1 hk hcp;have key:=G6 (fn:=S) (N:=l.length+2) (η:=[Al l, .f g caps, .i .i64 (k:Int),Al l, .b true]) (id:=3) (init:=[(.v 2),(.c (.i .i64 (1))),(.v 3)]) (body:=ov) (α:=Nat×Nat×List Rec)
    (fun a=>[.i .i64 (a.1:Int), .i .i64 (a.2.1:Int),Al a.2.2])
    (fun o=>∃s:List Rec,s.length=l.length∧s.take (cpt eq2 l).length=cpt eq2 l∧o= .yld 2 [.i .i64 ((cpt eq2 l).length:Int),Al s])
    (fun a=>1≤a.2.1∧k+a.2.1≤l.length∧a.1<k+a.2.1∧a.2.2.length=l.length∧a.2.2.take a.1=cpt eq2 (l.take (k+a.2.1))∧(cpt eq2 (l.take (k+a.2.1))).length=a.1∧a.2.2.drop (k+a.2.1 - 1)=l.drop (k+a.2.1 - 1))
    (fun a=>l.length - a.2.1) (k,1,l) (by simp (disch:=omega) only [EVT,EVM,EVC,xe,EVP,EV,simprocAttr])
    ⟨by simp,by simp;omega,by simp,rfl,by simp only;rw [hcp],by simp only;rw [hcp,Ar];omega,rfl⟩ (by simp only;omega) ?_
   ·obtain ⟨o,h3,s,h4,h5,rfl⟩:=key;exact ⟨s,h4,h5,h3⟩
   ·rintro ⟨i,j,s⟩ ⟨a1,a2,a3,a4,a5,a6,a7⟩;simp only at a1 a2 a3 a4 a5 a6 a7;by_cases hj:k+j<l.length
    ·left;have c1:s[k+j]? =l[k+j]? :=by have:=congrArg (fun q=>q[1]?) a7;simp only [A8] at this;rwa [show k+j - 1+1=k+j by omega] at this
     have c0:s[k+j - 1]? =l[k+j - 1]? :=by have:=congrArg (fun q=>q[0]?) a7;simpa only [A8,C8] using this
     have g1:l[k+j]? =some (l[k+j]'hj):=Az hj;have g0:l[k+j - 1]? =some (l[k+j - 1]'(by omega)):=Az (by omega);have tk:l.take (k+(j+1))=l.take (k+j)++[l[k+j]'hj]:=by rw [show k+(j+1)=(k+j)+1 by omega,Cl,g1];rfl
     have ne:l.take (k+j)≠[]:=by intro h;have:=congrArg List.length h;rw [Ar,Bf] at this;omega
     have gl:(l.take (k+j)).getLast ne=l[k+j - 1]'(by omega):=by rw [Jj];simp only [pc,Ar];congr 1;omega
     have cs:=L8 eq2 (l[k+j]'hj) (l.take (k+j)) ne;rw [←tk,gl] at cs;have hc:=h (l[k+j]'hj) (D1 _) (l[k+j - 1]'(by omega)) (D1 _);generalize l[k+j]'hj=x at*;generalize l[k+j - 1]'(by omega)=y at*;have hjj:(j:Int)<(s.length:Int) - (k:Int):=by omega
     have i1:Hs 16 (Al s) (.i .i64 ((k:Int)+(j:Int)))=some x.pv:=by rw [N6 _ _ _ (by omega),show ((k:Int)+(j:Int)).toNat=k+j by omega,c1,g1];rfl
     have i0:Hs 16 (Al s) (.i .i64 ((k:Int)+((j:Int) - 1)))=some y.pv:=by rw [N6 _ _ _ (by omega),show ((k:Int)+((j:Int) - 1)).toNat=k+j - 1 by omega,c0,g0];rfl
     have ls:Iw 16 (Al s) (.i .i64 (k:Int)) (.i .i64 (s.length:Int))=some (Al (s.drop k)):=by rw [L3 _ _ _ _ _ (by omega) (by omega) (by omega)];simp
     have e1:(s.drop k)[j]? =some x:=by rw [A8,c1,g1]
     have e0:(s.drop k)[j - 1]? =some y:=by rw [A8,show k+(j - 1)=k+j - 1 by omega,c0,g0]
     have si:∃w,s[i]? =some w:=⟨_,Az (by omega)⟩;obtain ⟨w,si⟩:=si;have ej:((j:Int) - 1).toNat=j - 1:=by omega
     by_cases hxy:eq2 x y=true
     ·refine ⟨(i,j+1,s),?_,⟨by simp,by simp only;omega,by simp only;omega,a4,?_,?_,?_⟩,by simp only;omega⟩
      ·simp (disch:=omega) only [Nq,hjj,i1,i0,ls,e1,e0,ej,hc,hxy,EVT,EVM,EVC,xe,EVP,EV,simprocAttr]
      ·simp only;rw [cs,a5];simp [hxy]
      ·simp only;rw [cs,Ac,a6];simp [hxy]
      ·simp only;rw [show k+(j+1) - 1=(k+j - 1)+1 by omega,←C0,←C0,a7]
     ·refine ⟨(i+1,j+1,s.set i x),?_,⟨by simp,by simp only;omega,by simp only;omega,by simpa using a4,?_,?_,?_⟩,by simp only;omega⟩
      ·simp (disch:=omega) only [Nq,hjj,i1,i0,ls,e1,e0,ej,si,hc,hxy,EVT,EVM,EVC,xe,EVP,EV,simprocAttr]
      ·simp only;rw [cs,Cl,List.getElem?_set_self (by omega),List.take_set_of_le (by omega),a5];simp [hxy]
      ·simp only;rw [cs,Ac,a6];simp [hxy]
      ·simp only;rw [show k+(j+1) - 1=(k+j - 1)+1 by omega,Gw7 (by omega),←C0,←C0,a7]
    ·right;have ek:k+j=l.length:=by omega
     rw [ek,Dq] at a5 a6;have hjj:¬(j:Int)<(s.length:Int) - (k:Int):=by omega
     refine ⟨.yld 2 [.i .i64 (i:Int),Al s],?_,rfl,s,a4,by rw [a6];exact a5,by rw [a6]⟩;simp (disch:=omega) only [Nq,hjj,EVT,EVM,EVC,xe,EVP,EV,simprocAttr]
  have key:Cq8.ev S (l.length+2) [Al l, .f g caps]=some (if cpt eq2 l=l then .yld 0 [Al l] else .ret [Al (cpt eq2 l)]):=by
   have:=G6 (fn:=S) (N:=l.length+2) (η:=[Al l, .f g caps]) (id:=1) (init:=[(.c (.i .i64 (1))),(.v 0)]) (body:=oh) (α:=Nat)
    (fun k=>[.i .i64 (k:Int),Al l]) (fun o=>o=if cpt eq2 l=l then .yld 0 [Al l] else .ret [Al (cpt eq2 l)])
    (fun k=>1≤k∧k≤l.length∧cpt eq2 (l.take k)=l.take k) (fun k=>l.length - k) 1 (by simp (disch:=omega) only [EVT,EVM,EVC,xe,EVP,EV,simprocAttr])
    ⟨Af 1,by omega,by cases l with
     |nil=>simp at h2
     |cons x r=>rfl⟩ (by omega) ?_
   ·obtain ⟨o,h3,h4⟩:=this;rw [←h4];exact h3
   ·rintro k ⟨k1,k2,k3⟩;by_cases hk:k<l.length
    ·have g1:l[k]? =some l[k]:=Az hk;have g0:l[k - 1]? =some (l[k - 1]'(by omega)):=Az (by omega);have tk:l.take (k+1)=l.take k++[l[k]]:=by rw [Cl,g1];rfl
     have ne:l.take k≠[]:=by intro h;have:=congrArg List.length h;rw [Ar,Bf] at this;omega
     have gl:(l.take k).getLast ne=l[k - 1]'(by omega):=by rw [Jj];simp only [pc,Ar];congr 1;omega
     have cs:=L8 eq2 l[k] (l.take k) ne;rw [←tk,gl,k3] at cs;have hkk:(k:Int)<(l.length:Int):=by omega
     have i1:Hs 16 (Al l) (.i .i64 (k:Int))=some (l[k]).pv:=by rw [N6 _ _ _ (by omega),show ((k:Int)).toNat=k by omega,g1];rfl
     have i0:Hs 16 (Al l) (.i .i64 ((k:Int) - 1))=some (l[k - 1]'(by omega)).pv:=by rw [N6 _ _ _ (by omega),show ((k:Int) - 1).toNat=k - 1 by omega,g0];rfl
     have hc:=h l[k] (D1 _) (l[k - 1]'(by omega)) (D1 _);by_cases hxy:eq2 l[k] (l[k - 1]'(by omega))=true
     ·right;have cs':cpt eq2 (l.take (k+1))=l.take k:=by rw [cs];simp [hxy]
      obtain ⟨s,s1,s2,s3⟩:=inner k k1 hk cs';have hlt:cpt eq2 l≠l:=by
       intro h;have q:(cpt eq2 l).length≤(cpt eq2 (l.take (k+1))).length+(l.drop (k+1)).length:=by
        have:∀(b a:List Rec),a≠[]→(cpt eq2 (a++b)).length≤(cpt eq2 a).length+b.length:=by
         intro b
         induction b with
         |nil=>intro a _;simp
         |cons x r ih=>
          intro a ha;have h1:=ih (a++[x]) (by simp);rw [L8 _ _ _ ha] at h1;rw [show a++x::r=a++[x]++r by simp];refine C4 h1 ?_;rw [Ac];split<;>simp<;>omega
        have h3:=this (l.drop (k+1)) (l.take (k+1)) (by intro h;have:=congrArg List.length h;rw [Ar,Bf] at this;omega);rwa [Bs] at h3
       rw [h,cs',Ar,B3] at q;omega
      have hlen:=Yj eq2 l;refine ⟨.ret [Al (cpt eq2 l)],?_,rfl,by rw [if_neg hlt]⟩;generalize cpt eq2 l=fl at*;have ls:Iw 16 (Al l) (.i .i64 (k:Int)) (.i .i64 (l.length:Int))=some (Al (l.drop k)):=by rw [L3 _ _ _ _ _ (by omega) (by omega) (by omega)];simp
      have hsl1:Iw 16 (Al s) (.i .i64 ((fl.length:Nat):Int)) (.i .i64 (s.length:Int))=some (Al (s.drop fl.length)):=by rw [L3 _ _ _ _ _ (by omega) (by omega) (by omega)];simp
      have hsl2:Iw 16 (Al s) (.i .i64 0) (.i .i64 ((fl.length:Nat):Int))=some (Al fl):=by rw [L3 _ _ _ _ _ (by omega) (by omega) (by omega)];simp [s2]
      have hrep:K6 16 (.i .i64 ((s.length:Int) - (fl.length:Int))) Bj2=some (Al (List.replicate (s.length - fl.length) zr)):=by rw [Ev8 _ (by omega) (by omega)];congr 3;omega
      have happ:Ib 16 (Al fl) (Al (List.replicate (s.length - fl.length) zr))=some (Al (fl++List.replicate (s.length - fl.length) zr)):=Yn _ _ (by simp;omega);have hsl3:Iw 16 (Al (fl++List.replicate (s.length - fl.length) zr)) (.i .i64 0) (.i .i64 ((fl.length:Nat):Int))=some (Al fl):=by rw [L3 _ _ _ _ _ (by omega) (by omega) (by simp;omega)];simp
      simp (disch:=omega) only [Nq,hkk,i1,i0,hc,hxy,ls,s3,hsl1,hsl2,hrep,happ,hsl3,EVT,EVM,EVC,xe,EVP,EV,simprocAttr]
     ·left;refine ⟨k+1,?_,⟨by omega,by omega,?_⟩,by omega⟩
      ·simp (disch:=omega) only [Nq,hkk,i1,i0,hc,hxy,EVT,EVM,EVC,xe,EVP,EV,simprocAttr]
      ·rw [cs,tk];simp [hxy]
    ·right;have e:k=l.length:=by omega
     subst e;rw [Dq] at k3;refine ⟨_,?_,?_,rfl⟩
     ·rw [if_pos k3];simp (disch:=omega) only [Nq,EVT,EVM,EVC,xe,EVP,EV,simprocAttr]
     ·rw [if_pos k3];rfl
  by_cases hh:cpt eq2 l=l
  ·rw [if_pos hh] at key;rw [hh];simp (disch:=omega) only [Nq,h2,key,EVT,EVM,EVC,xe,EVP,EV,simprocAttr]
  ·rw [if_neg hh] at key;simp (disch:=omega) only [Nq,h2,key,EVT,EVM,EVC,xe,EVP,EV,simprocAttr]
end Go.X.G
/- Lists of records in the program: which are valid, their order, their sorting. -/
namespace Go.X.G
open Go Go.X
theorem Dg0 (r:Rec) (h:r.wf):S Bn5 1 [r.pv]=some [.b (Og r)]:=by
 refine Jv0 (N:=1) rfl ?_;have g:r.name.length≤9223372036854775807:=h.name;have h1:=Br r.name g;have h2:=Cg r.typ;have h3:=Uz r.typ r.data h.data;unfold Og;by_cases k0:0≤r.ttl<;>by_cases k1:r.ttl≤2147483647
 all_goals rcases ch3 (vld r.name) (knw r.typ) (Ej r.typ r.data) with e0|⟨e0,e1⟩|⟨e0,e1,e2⟩|⟨e0,e1,e2⟩
 all_goals simp only [*] at h1 h2 h3
 all_goals simp (disch:=omega) only [Ip4,X1,E5,h1,h2,h3,EVC,xe,EVP,EV,simprocAttr, *]
 all_goals simp
theorem Gw4 (x:Int):S Up 1 [.i .i64 x]=some [.b false]:=by refine Hh7 (N:=1) rfl ?_;simp (disch:=omega) only [Hy2,EVC,xe,EVP,EV,simprocAttr]
theorem Dh2 (a b:Int):S U2 2 [.i .i64 a, .i .i64 b]=some [.i .i64 (xn a b)]:=by
 refine Hl9 (N:=1) rfl ?_;have h1:=Gw4 a;have h2:=Gw4 b;unfold xn;by_cases k1:a<b
 ·simp (disch:=omega) only [Bq0,h1,h2,k1,EVC,xe,EVP,EV,simprocAttr]
 ·by_cases k2:b<a
  ·simp (disch:=omega) only [Bq0,h1,h2,k1,k2,EVC,xe,EVP,EV,simprocAttr]
  ·simp (disch:=omega) only [Bq0,h1,h2,k1,k2,EVC,xe,EVP,EV,simprocAttr]
theorem vb (a b:Rec) (ha:a.wf) (hb:b.wf):S U8 2 [a.pv,b.pv]=some [.i .i64 (Tm a b)]:=by
 refine Hn9 (N:=1) rfl ?_;have g1:a.name.length≤9223372036854775807:=ha.name;have g2:b.name.length≤9223372036854775807:=hb.name;have h1:=Hz a.name b.name g1 g2;have h2:=Dh2 a.typ b.typ;have h3:=o9 a.typ a.data b.data ha.data hb.data;unfold Tm;by_cases k1:Hd a.name b.name=0
 ·by_cases k2:xn a.typ b.typ=0
  ·rw [k1] at h1;rw [k2] at h2;simp (disch:=omega) only [Bq5,X1,E5,h1,h2,h3,EVC,xe,EVP,EV,simprocAttr];simp [k1,k2]
  ·rw [k1] at h1;simp (disch:=omega) only [Bq5,h1,h2,k2,EVC,xe,EVP,EV,simprocAttr];simp [k1,k2]
 ·simp (disch:=omega) only [Bq5,h1,k1,EVC,xe,EVP,EV,simprocAttr]
theorem o6 (a b:Rec) (ha:a.wf) (hb:b.wf):S Vj 2 [a.pv,b.pv]=some [.i .i64 (Gp6 a b)]:=by
 refine Hp2 (N:=1) rfl ?_;have h1:=vb a b ha hb;have h2:=Dh2 a.ttl b.ttl;unfold Gp6;by_cases k1:Tm a b=0
 ·rw [k1] at h1;simp (disch:=omega) only [En1,h1,h2,EVC,xe,EVP,EV,simprocAttr];simp [k1]
 ·simp (disch:=omega) only [En1,h1,k1,EVC,xe,EVP,EV,simprocAttr]
theorem Ih0:Cmp Vj [] Gp6 Rec.wf:=⟨fun x y hx hy=>o6 x y hx hy⟩
theorem Eb9:leC Gp6=leR:=rfl
theorem El5 (a b:Rec) (ha:a.wf) (hb:b.wf):S U9 2 [a.pv,b.pv]=some [.b (eqF a b)]:=by refine Hp0 (N:=1) rfl ?_;have h1:=vb a b ha hb;simp (disch:=omega) only [Hz5,h1,EVC,xe,EVP,EV,simprocAttr]
theorem El4 (l:List Rec) (hw:∀r∈l,r.wf) (hl:l.length≤1000000):S Bn3 1 [Al l]=some [Al (sortR l)]:=by refine Jq8 (N:=1) rfl ?_;have h0:=Dh3 l hl;obtain ⟨r,h1,h2,h3⟩:=Oy Ih0 (by rw [Eb9];exact Il9) l hw hl;rw [Eb9] at h1;have hm:=h1.mem Il9;have h4:=pj r U9 [] eqF (fun x hx y hy=>El5 x y (hw x ((hm x).1 hx)) (hw y ((hm y).1 hy))) (by omega);rw [u7 h1] at h4;simp (disch:=omega) only [Ip3,h0,h3,h4,D4,K1,EVT,EVM,EVC,xe,EVP,EV,simprocAttr]
end Go.X.G
/- Delegations and names of a zone, as the program finds them. -/
namespace Go.X.G
open Go Go.X
def cutsN (z:Zone):List (List UInt8):=setN ((z.recs.filter (Es z)).map Rec.name)
theorem fb (z:Zone) (x:List UInt8):x∈cutsN z↔∃r∈z.recs,Es z r=true∧r.name=x:=by unfold cutsN;rw [Lr,Ds];simp only [B0,and_assoc]
theorem Ev2 {l:List (List UInt8)} (h:∀x∈l,x.length≤9223372036854775807):∀x∈setN l,x.length≤9223372036854775807:=fun x hx=>h x ((Lr l x).1 hx)
theorem pf (z:Zone) (hz:z.wf) (hl:z.recs.length≤1000000):S Al5 1 [z.pv]=some [Bd (cutsN z)]:=by
 refine Jv7 (N:=z.recs.length+1) rfl ?_;have g1:=hz.origin;unfold Qh at g1;have key:Et5.ev S (z.recs.length+1) [z.pv]=some (.yld 0 [Bd ([]++(z.recs.filter (Es z)).map Rec.name)]):=by
  refine Fx z.recs (fun i (b:List (List UInt8))=>[Bd b, .i .i64 (i:Int)]) (fun i b r=> .yld 0 [Bd (b++(r.filter (Es z)).map Rec.name)]) (fun i b=>b.length≤i) [] rfl (Cc _) (by omega) (fun i b c r hd hi hc hI=> ?_) (fun b hI=> ?_)
  ·left;have g2:=(hz.recs.2 c (A9 hc)).name;unfold Qh at g2;refine ⟨if Es z c then b++[c.name] else b,?_,by split<;>(try rw [Ac,List.length_singleton])<;>omega,by rcases Ak (Es z c) with q|q<;>simp [q]⟩;by_cases h1:c.typ=2
   ·by_cases h2:c.name=z.origin
    ·simp (disch:=omega) only [Az8,hc,h1,h2,EVM,EVC,xe,EVP,EV,simprocAttr];simp [Es,Fw,h2]
    ·have k1:=E7 c.name z.origin g2 g1;rcases Ak (under c.name z.origin) with h3|h3
     ·rw [h3] at k1;simp (disch:=omega) only [Az8,hc,h1,h2,h3,k1,EVM,EVC,xe,EVP,EV,simprocAttr];simp [Es,Fw,h1,h2,h3]
     ·rw [h3] at k1;simp (disch:=omega) only [Az8,hc,h1,h2,h3,k1,EVM,EVC,xe,EVP,EV,simprocAttr];simp [Es,Fw,h1,h2,h3]
   ·simp (disch:=omega) only [Az8,hc,h1,EVM,EVC,xe,EVP,EV,simprocAttr];simp [Es,h1]
  ·simp (disch:=omega) only [Az8,EVM,EVC,xe,EVP,EV,simprocAttr];simp [Out.goes]
 rw [Cb] at key;have hlen:((z.recs.filter (Es z)).map Rec.name).length≤1000000:=by rw [E8];exact C4 (Hf _ _) hl
 have hw:∀x∈(z.recs.filter (Es z)).map Rec.name,x.length≤9223372036854775807:=fun x hx=>by obtain ⟨r,hr,rfl⟩:=Ds.1 hx;exact (hz.recs.2 r (B0.1 hr).1).name
 have k1:=Ys _ hlen hw;have k2:=M2 (((z.recs.filter (Es z)).map Rec.name).mergeSort fun x y=> !decide (Hd y x<0)) (by rw [gt];exact hlen);rw [show cpt eqs (((z.recs.filter (Es z)).map Rec.name).mergeSort fun x y=> !decide (Hd y x<0))=cutsN z from rfl] at k2;generalize ((z.recs.filter (Es z)).map Rec.name).mergeSort (fun x y=> !decide (Hd y x<0))=so at*;generalize (z.recs.filter (Es z)).map Rec.name=un at*;simp (disch:=omega) only [Az8,key,k1,k2,D4,K1,EVM,EVC,xe,EVP,EV,simprocAttr]
theorem Bz0 (l:List Rec) (hl:l.length≤1000000) (hw:∀r∈l,r.wf):S db 1 [Al l]=some [Bd (setN (l.map Rec.name))]:=by
 refine Hr3 (N:=l.length+1) rfl ?_;have key:Cv1.ev S (l.length+1) [Al l]=some (.yld 0 [Bd ([]++l.map Rec.name)]):=by
  refine Fx l (fun i (b:List (List UInt8))=>[Bd b, .i .i64 (i:Int)]) (fun i b r=> .yld 0 [Bd (b++r.map Rec.name)]) (fun i b=>b.length≤i) [] rfl (Cc _) (by omega) (fun i b c r hd hi hc hI=> ?_) (fun b hI=> ?_)
  ·left;refine ⟨b++[c.name],?_,by simp;omega,by simp⟩;simp (disch:=omega) only [Bq6,hc,EVM,EVC,xe,EVP,EV,simprocAttr]
  ·simp (disch:=omega) only [Bq6,EVM,EVC,xe,EVP,EV,simprocAttr];simp [Out.goes]
 rw [Cb] at key;have hlen:(l.map Rec.name).length≤1000000:=by rw [E8];exact hl
 have hw:∀x∈l.map Rec.name,x.length≤9223372036854775807:=fun x hx=>by obtain ⟨r,hr,rfl⟩:=Ds.1 hx;exact (hw r hr).name
 have k1:=Ys _ hlen hw;have k2:=M2 ((l.map Rec.name).mergeSort fun x y=> !decide (Hd y x<0)) (by rw [gt];exact hlen);rw [show cpt eqs ((l.map Rec.name).mergeSort fun x y=> !decide (Hd y x<0))=setN (l.map Rec.name) from rfl] at k2;generalize setN (l.map Rec.name)=se at*;generalize (l.map Rec.name).mergeSort (fun x y=> !decide (Hd y x<0))=so at*;generalize l.map Rec.name=un at*;simp (disch:=omega) only [Bq6,key,k1,k2,D4,K1,EVM,EVC,xe,EVP,EV,simprocAttr]
theorem Dg4 (c owner:List UInt8) (hc:c.length≤9223372036854775807) (ho:owner.length≤9223372036854775807):S Vy 1 [.s c, .s owner]=some [.b (decide (c≠owner) && under owner c)]:=by
 refine Hr2 (N:=1) rfl ?_;have k1:=E7 owner c ho hc;by_cases h:c=owner
 ·simp (disch:=omega) only [En3,h,EVM,EVC,xe,EVP,EV,simprocAttr];simp
 ·simp (disch:=omega) only [En3,h,k1,EVM,EVC,xe,EVP,EV,simprocAttr];simp
theorem Bj5 (z:Zone) (acc:List (List UInt8)) (n:List UInt8) (p1 p2 p3 p4 p5 p6:PV) (N:Nat) (hu:under n z.origin=true) (ha:acc.length≤1000000) (hN:1000<N) (hp2:Hs 1 p2 p4=some (.s n)):
  Cj5.ev S N [z.pv,p1,p2,Bd acc,p4,p5,p6]=some (.yld 2 [Bd (acc++upN z.origin n)]):=by
 obtain ⟨v1,v2,_⟩:=Dn.1 hu;have hlb:=G7 n;have h0:jn ((lbl n).drop 0)=n:=Gh7 v1;have e0:upN z.origin n=(upN z.origin n).take ((lbl n).length - (lbl z.origin).length+1):=by rw [Df];simp [upN]
 have:=G5 (fn:=S) (N:=N) (η:=[z.pv,p1,p2,Bd acc,p4,p5,p6]) (id:=3) (init:=[(.v 3),(.proj 0 (.idx 1 (.v 2) (.v 4)))]) (body:=Dc7) ((lbl n).length - (lbl z.origin).length) (fun k=>[Bd (acc++(upN z.origin n).take k), .s (jn ((lbl n).drop k))])
  (fun _=> .yld 2 [Bd (acc++upN z.origin n)]) ?_ (by omega) (fun k hk=> ?_) ?_
 ·exact this
 ·rw [h0];simp (disch:=omega) only [hp2,EVM,EVC,xe,EVP,EV,simprocAttr];simp
 ·left;obtain ⟨q1,q2⟩:=Hc7 hu hk;have q3:¬jn ((lbl n).drop k)=z.origin:=fun h=>by have:=(En4 hu (Nat.le_of_lt hk)).1 h;omega
  have q4:=Cv6 v1 k;have k1:=V6 (jn ((lbl n).drop k)) (by omega);rw [q1,q2] at k1;have q5:(upN z.origin n).take (k+1)=(upN z.origin n).take k++[jn ((lbl n).drop k)]:=by rw [Cl,Bq9 (Nat.le_of_lt hk)];rfl
  rw [q5,←As];have q6:(acc++(upN z.origin n).take k).length≤1000300:=by rw [Ac,Ar];omega
  generalize acc++(upN z.origin n).take k=a at*;refine ⟨?_,rfl⟩;generalize jn ((lbl n).drop (k+1))=nx at*;generalize jn ((lbl n).drop k)=cu at*;simp (disch:=omega) only [ik,q3,k1,EVM,EVC,xe,EVP,EV,simprocAttr]
 ·have q3:=(En4 hu (Af _)).2 rfl;have q5:(upN z.origin n)=(upN z.origin n).take ((lbl n).length - (lbl z.origin).length)++[jn ((lbl n).drop ((lbl n).length - (lbl z.origin).length))]:=by have:=Cl (l:=upN z.origin n) (i:=(lbl n).length - (lbl z.origin).length);rw [Bq9 (Af _)] at this;rw [←e0] at this;exact this
  rw [q3] at q5 ⊢;have q6:(acc++(upN z.origin n).take ((lbl n).length - (lbl z.origin).length)).length≤1000300:=by rw [Ac,Ar];omega
  refine ⟨?_,rfl⟩
  conv=>rhs;rw [q5,←As]
  generalize acc++(upN z.origin n).take ((lbl n).length - (lbl z.origin).length)=a at*;simp (disch:=omega) only [ik,EVM,EVC,xe,EVP,EV,simprocAttr]
theorem Eg1 (z:Zone) (owner:List UInt8):((cutsN z).any fun c=>decide (c≠owner) && under owner c)=lq z owner:=by
 rw [C2];unfold lq;simp only [Cd,Aw,decide_eq_true_eq,fb];constructor
 ·rintro ⟨x,⟨r,hr,h1,rfl⟩,h2,h3⟩;exact ⟨r,hr,⟨h1,h2⟩,h3⟩
 ·rintro ⟨r,hr,⟨h1,h2⟩,h3⟩;exact ⟨r.name,⟨r,hr,h1,rfl⟩,h2,h3⟩
def H8 (z:Zone) (n:List UInt8):Bool:=under n z.origin && !lq z n
theorem Bj4 (z:Zone) (hz:z.wf) (hl:z.recs.length≤1000):S Bn9 1 [z.pv]=some [Bd (namesN z)]:=by
 refine Jv6 (N:=z.recs.length+1001) rfl ?_;have g1:=hz.origin;unfold Qh at g1;have k1:=pf z hz (by omega);have k2:=Bz0 z.recs (by omega) (fun r hr=>hz.recs.2 r hr);have hol:(setN (z.recs.map Rec.name)).length≤z.recs.length:=by have:=Qm (z.recs.map Rec.name);rwa [E8] at this
 have how:∀x∈setN (z.recs.map Rec.name),x.length≤9223372036854775807:=Ev2 fun x hx=>by obtain ⟨r,hr,rfl⟩:=Ds.1 hx;exact (hz.recs.2 r hr).name
 have hcl:(cutsN z).length≤1000000:=by have:=Qm ((z.recs.filter (Es z)).map Rec.name);rw [E8] at this;have h2:=Hf (Es z) z.recs;show (setN ((z.recs.filter (Es z)).map Rec.name)).length≤1000000;omega
 have hcw:∀x∈cutsN z,x.length≤9223372036854775807:=fun x hx=>by obtain ⟨r,hr,_,rfl⟩:=(fb z x).1 hx;exact (hz.recs.2 r hr).name
 have hmem:∀x,x∈((setN (z.recs.map Rec.name)).filter (H8 z)).flatMap (upN z.origin)↔Ib9 z x:=by
  intro x;unfold Ib9 H8;simp only [List.mem_flatMap,B0,Lr,Ds,Aw,A7];constructor
  ·rintro ⟨o,⟨⟨r,hr,rfl⟩,h1,h2⟩,h3⟩;obtain ⟨h4,h5⟩:=(Wc h1).1 h3;exact ⟨r,hr,h1,h2,h4,h5⟩
  ·rintro ⟨r,hr,h1,h2,h4,h5⟩;exact ⟨r.name,⟨⟨r,hr,rfl⟩,h1,h2⟩,(Wc h1).2 ⟨h4,h5⟩⟩
 generalize hO:setN (z.recs.map Rec.name)=O at*;have key:Et4.ev S (z.recs.length+1001) [z.pv,Bd (cutsN z),Bd O]=some (.yld 0 [Bd ([]++(O.filter (H8 z)).flatMap (upN z.origin))]):=by
  refine Fx O (fun i (b:List (List UInt8))=>[Bd b, .i .i64 (i:Int)]) (fun i b r=> .yld 0 [Bd (b++(r.filter (H8 z)).flatMap (upN z.origin))]) (fun i b=>b.length≤256*i) [] rfl (Cc _) (by omega) (fun i b c r hd hi hc hI=> ?_) (fun b hI=> ?_)
  ·left;have g2:=how c (A9 hc);have k3:=E7 c z.origin g2 g1;have hid:=Eg1 z c;rcases Ak (under c z.origin) with h1|h1
   ·have k4:=Km (cutsN z) Vy [.s c] _ hcl (fun x hx=>Dg4 x c (hcw x hx) g2);rw [hid] at k4;rw [h1] at k3;rcases Ak (lq z c) with h2|h2
    ·refine ⟨b,?_,by omega,by simp [H8,h1,h2]⟩;rw [h2] at k4;generalize cutsN z=cz at*;simp (disch:=omega) only [ik,hc,k3,k4,EVM,EVC,xe,EVP,EV,simprocAttr]
    ·have hu:=ib z.origin c;refine ⟨b++upN z.origin c,?_,by rw [Ac];omega,by simp [H8,h1,h2]⟩;rw [h2] at k4;have k5:∀p5 p6,Cj5.ev S (z.recs.length+1001) [z.pv,Bd (cutsN z),Bd O,Bd b, .i .i64 (i:Int),p5,p6]=some (.yld 2 [Bd (b++upN z.origin c)]):=fun p5 p6=>Bj5 z b c _ _ (Bd b) _ p5 p6 _ h1 (by omega) (by omega) (by rw [L6 _ _ _ (by omega)];simp [hc]);generalize b++upN z.origin c=b' at*;generalize cutsN z=cz at*;simp (disch:=omega) only [ik,hc,k3,k4,k5,EVM,EVC,xe,EVP,EV,simprocAttr]
   ·refine ⟨b,?_,by omega,by simp [H8,h1]⟩;rw [h1] at k3;generalize cutsN z=cz at*;simp (disch:=omega) only [ik,hc,k3,EVM,EVC,xe,EVP,EV,simprocAttr]
  ·generalize cutsN z=cz at*;simp (disch:=omega) only [ik,EVM,EVC,xe,EVP,EV,simprocAttr];simp [Out.goes]
 rw [Cb] at key;have hxl:((O.filter (H8 z)).flatMap (upN z.origin)).length≤256*O.length:=by
  have:∀l:List (List UInt8),(l.flatMap (upN z.origin)).length≤256*l.length:=by
   intro l
   induction l with
   |nil=>simp
   |cons x r ih=>
    have:=ib z.origin x;rw [Jq,Ac,A3];omega
  refine C4 (this _) ?_;have:=Hf (H8 z) O;omega
 have hxw:∀x∈(O.filter (H8 z)).flatMap (upN z.origin),x.length≤9223372036854775807:=fun x hx=>by obtain ⟨r,hr,_,_,h4,_⟩:=(hmem x).1 hx;have:=Jh (Dn.1 h4).2.1;omega
 have he:setN ((O.filter (H8 z)).flatMap (upN z.origin))=namesN z:=Ez3 z _ hmem;generalize (O.filter (H8 z)).flatMap (upN z.origin)=un at*;have k6:=Ys un (by omega) hxw;have k7:=M2 (un.mergeSort fun x y=> !decide (Hd y x<0)) (by rw [gt];omega);rw [show cpt eqs (un.mergeSort fun x y=> !decide (Hd y x<0))=setN un from rfl,he] at k7;generalize un.mergeSort (fun x y=> !decide (Hd y x<0))=so at*;generalize namesN z=nz at*;generalize cutsN z=cz at*;simp (disch:=omega) only [ik,k1,k2,key,k6,k7,D4,K1,EVM,EVC,xe,EVP,EV,simprocAttr]
end Go.X.G
/- Zones in the program: what is asked of the records of one name. -/
namespace Go.X.G
open Go Go.X
abbrev ltC:List UInt8×Int→List UInt8×Int→Prop:=fun p q=>ltB p.1 q.1∨(p.1=q.1∧p.2<q.2)
theorem to_C:TO ltC:=Dh9.prod Hd0
def ltQ (a b:Ques):Prop:=ltC (a.name,a.typ) (b.name,b.typ)
theorem to_Q:TO ltQ where
 irr:=fun a=>to_C.irr _
 tr:=fun a b c=>to_C.tr _ _ _
 tri:=fun a b=>by
  rcases to_C.tri (a.name,a.typ) (b.name,b.typ) with h|h|h
  ·exact .inl h
  ·injection h with h1 h2;refine .inr (.inl ?_);cases a;cases b;simp only at h1 h2;rw [h1,h2]
  ·exact .inr (.inr h)
def l8 (a b:Ques):Int:=if (Op.bytesLess a.name b.name||(decide (a.name=b.name) && decide (a.typ<b.typ)))=true then -1 else if a=b then 0 else 1
theorem Gm (a b:Ques):l8 a b<0↔ltQ a b:=by
 unfold l8 ltQ ltC;simp only;have e:(Op.bytesLess a.name b.name||(decide (a.name=b.name) && decide (a.typ<b.typ)))=true↔(ltB a.name b.name∨a.name=b.name∧a.typ<b.typ):=by simp only [Ap,Aw,decide_eq_true_eq,S9]
 by_cases h:ltB a.name b.name∨a.name=b.name∧a.typ<b.typ
 ·rw [if_pos (e.2 h)];simp [h]
 ·rw [if_neg (fun q=>h (e.1 q))];simp only [h,iff_false];split<;>omega
theorem l7 (a b:Ques):S Mc 2 [a.pv,b.pv]=some [.i .i64 (l8 a b)]:=by
 refine Hp5 (N:=1) rfl ?_;unfold l8;rcases Ak (Op.bytesLess a.name b.name) with h1|h1
 ·simp (disch:=omega) only [Zz,h1,EVM,EVC,xe,EVP,EV,simprocAttr];simp
 ·by_cases h2:a.name=b.name
  ·by_cases h3:a.typ<b.typ
   ·rw [h2] at h1;simp (disch:=omega) only [Zz,h1,h2,h3,EVM,EVC,xe,EVP,EV,simprocAttr];simp
   ·rw [h2] at h1;by_cases h4:a=b
    ·simp (disch:=omega) only [Zz,h1,h2,h3,EVM,EVC,xe,EVP,EV,simprocAttr];simp [h4]
    ·simp (disch:=omega) only [Zz,h1,h2,h3,h4,EVM,EVC,xe,EVP,EV,simprocAttr];simp [h4]
  ·have h4:¬a=b:=fun e=>h2 (by rw [e]);simp (disch:=omega) only [Zz,h1,h2,h4,EVM,EVC,xe,EVP,EV,simprocAttr];simp [h4]
def Ik (l:List Ques):PV:= .l 2 (l.map Ques.pv)
theorem Ix (l:List Ques):F1 (Ik l)=some (.i .i64 (l.length:Int)):=by simp [Ik,F1]
theorem Kw (l:List Ques) (k:IntKind) (z:Int) (h:0≤z):Hs 2 (Ik l) (.i k z)=(l[z.toNat]?).map Ques.pv:=by simp [Ik,Xs _ _ _ _ h]
theorem Eb1 (x:Ques):I8 2 [x.pv]=some (Ik [x]):=rfl
theorem Df7 (l:List Ques) (x:Ques) (h:l.length+1≤1073741824):Ib 2 (Ik l) (Ik [x])=some (Ik (l++[x])):=by have:=Tx 2 (l.map Ques.pv) [x.pv] (by simpa using h);simpa [Ik] using this
def vz:PV→PV→Int
 | .a [.s a, .i _ t], .a [.s b, .i _ u]=>l8 ⟨a,t⟩ ⟨b,u⟩
 |_,_=>0
theorem El3 (l:List Ques) (hl:l.length≤1000000):S R8 1048578 [Ik l, .f Mc []]=some [Ik (l.mergeSort fun x y=> !decide (l8 y x<0))]:=by
 have hm:∀x∈l.map Ques.pv,∃a∈l,x=a.pv:=fun x hx=>by obtain ⟨a,h1,h2⟩:=Ds.1 hx;exact ⟨a,h1,h2.symm⟩
 have hc:∀a b:Ques,vz a.pv b.pv=l8 a b:=fun a b=>rfl;have h:=vj (tab:=tab) (xs:=Gl8) (ss:=Tn) (f:=R8) (s:=Bw9) Gz8 Gb4 (g:=Mc) (caps:=[]) (l:=l.map Ques.pv) (by decide) (by simp;omega)
  (fun x hx=>by obtain ⟨a,_,rfl⟩:=hm x hx;rfl) vz
  (fun x hx y hy=>by obtain ⟨a,ha,rfl⟩:=hm x hx;obtain ⟨b,hb,rfl⟩:=hm y hy;exact l7 a b)
  (fun x hx=>by obtain ⟨a,_,rfl⟩:=hm x hx;rw [hc,Gm];exact to_Q.irr a)
  (fun x hx y hy z hz h1 h2=>by obtain ⟨a,_,rfl⟩:=hm x hx;obtain ⟨b,_,rfl⟩:=hm y hy;obtain ⟨c,_,rfl⟩:=hm z hz;rw [hc] at*;exact (Gm a c).2 (to_Q.tr _ _ _ ((Gm a b).1 h1) ((Gm b c).1 h2)))
  (fun x hx y hy z hz h1 h2=>by obtain ⟨a,_,rfl⟩:=hm x hx;obtain ⟨b,_,rfl⟩:=hm y hy;obtain ⟨c,_,rfl⟩:=hm z hz;rw [hc] at*;exact fun h3=>to_Q.ntr (fun q=>h1 ((Gm a b).2 q)) (fun q=>h2 ((Gm b c).2 q)) ((Gm a c).1 h3))
  (fun x hx y hy h1 h2=>by
   obtain ⟨a,_,rfl⟩:=hm x hx;obtain ⟨b,_,rfl⟩:=hm y hy;rw [hc] at*;rcases to_Q.tri a b with q|q|q
   ·exact absurd ((Gm a b).2 q) h1
   ·rw [q]
   ·exact absurd ((Gm b a).2 q) h2)
 have e:(l.map Ques.pv).mergeSort (fun x y=> !decide (vz y x<0))=(l.mergeSort fun x y=> !decide (l8 y x<0)).map Ques.pv:=(In3 (r:=fun x y=> !decide (l8 y x<0)) (s:=fun x y=> !decide (vz y x<0)) (f:=Ques.pv) fun a _ b _=>rfl).symm;rw [e] at h;exact h
def Wt (p:Option Ques) (n:Nat):List Ques→Bool
 |[]=>false
 |k::r=>if 64<(if p=some k then n+1 else 1) then true else Wt (some k) (if p=some k then n+1 else 1) r
theorem Ws:∀(l:List Ques) (p:Ques) (n:Nat),(p::l).Pairwise (fun a b=>¬ltQ b a)→n≤64→(Wt (some p) n l=true↔(∃k,k≠p∧64<l.count k)∨64<n+l.count p)
 |[],p,n,_,hn=>by simp [Wt];omega
 |k::r,p,n,hs,hn=>by
  obtain ⟨h1,h2⟩:=A0.1 hs;by_cases e:p=k
  ·subst e;by_cases hg:64<n+1
   ·simp only [Wt,if_true,hg];refine ⟨fun _=> .inr ?_,fun _=>trivial⟩;rw [Gc];omega
   ·simp only [Wt,if_true,hg,if_false];rw [Ws r p (n+1) h2 (by omega),Gc];constructor
    ·rintro (⟨q,q1,q2⟩|q)
     ·exact .inl ⟨q,q1,by rw [Fl (fun e=>q1 e.symm)];exact q2⟩
     ·exact .inr (by omega)
    ·rintro (⟨q,q1,q2⟩|q)
     ·exact .inl ⟨q,q1,by rw [Fl (fun e=>q1 e.symm)] at q2;exact q2⟩
     ·exact .inr (by omega)
  ·have e':¬(some p=some k):=fun q=>e (by injection q);simp only [Wt,if_neg e',show¬64<1 by omega,if_false];rw [Ws r k 1 h2 (by omega)];have hlt:ltQ p k:=by
    rcases to_Q.tri p k with q|q|q
    ·exact q
    ·exact absurd q e
    ·exact absurd q (h1 k (.head _))
   have hno:∀y∈k::r,y≠p:=fun y hy q=>by
    subst q;rcases Am.1 hy with q|hy
    ·exact e q
    ·exact (A0.1 h2).1 y hy hlt
   have h0:(k::r).count p=0:=In4.2 fun hm=>hno p hm rfl;have h0r:r.count p=0:=In4.2 fun hm=>hno p (.tail _ hm) rfl;rw [h0];constructor
   ·rintro (⟨q,q1,q2⟩|q)
    ·refine .inl ⟨q,fun w=>by rw [w,h0r] at q2;omega,?_⟩;rw [Fl (fun w=>q1 w.symm)];exact q2
    ·refine .inl ⟨k,fun w=>e w.symm,?_⟩;rw [Gc];omega
   ·rintro (⟨q,q1,q2⟩|q)
    ·by_cases w:q=k
     ·subst w;rw [Gc] at q2;exact .inr (by omega)
     ·rw [Fl (fun v=>w v.symm)] at q2;exact .inl ⟨q,w,q2⟩
    ·omega
theorem Ev6 (l:List Ques) (hs:l.Pairwise (fun a b=>¬ltQ b a)):Wt none 0 l=true↔∃k,64<l.count k:=by
 cases l with
 |nil=>simp [Wt]
 |cons k r=>
  have e:¬((none:Option Ques)=some k):=by simp
  simp only [Wt,if_neg e,show¬64<1 by omega,if_false];rw [Ws r k 1 hs (by omega)];constructor
  ·rintro (⟨q,q1,q2⟩|q)
   ·exact ⟨q,by rw [Fl (fun w=>q1 w.symm)];exact q2⟩
   ·exact ⟨k,by rw [Gc];omega⟩
  ·rintro ⟨q,q2⟩;by_cases w:q=k
   ·subst w;rw [Gc] at q2;exact .inr (by omega)
   ·rw [Fl (fun v=>w v.symm)] at q2;exact .inl ⟨q,w,q2⟩
def kyQ (r:Rec):Ques:=⟨r.name,r.typ⟩
def P6 (l:List Rec):Bool:=Wt none 0 ((l.map kyQ).mergeSort fun x y=> !decide (l8 y x<0))
theorem Yq (n:List UInt8) (t:Int):∀l:List Rec,(l.map kyQ).count ⟨n,t⟩=(findR l n t).length
 |[]=>rfl
 |r::l=>by
  have ih:=Yq n t l;unfold findR at ih ⊢;rw [Fs,Kp];by_cases h:isK n t r=true
  ·rw [if_pos h];unfold isK at h;simp only [Aw,decide_eq_true_eq] at h;have:kyQ r=⟨n,t⟩:=by unfold kyQ;rw [h.1,h.2]
   rw [this,Gc,ih,A3]
  ·rw [if_neg h];have:kyQ r≠⟨n,t⟩:=fun e=>h (by unfold kyQ at e;injection e with e1 e2;unfold isK;simp [e1,e2])
   rw [Fl this,ih]
theorem Gf3 (l:List Ques):(l.mergeSort fun x y=> !decide (l8 y x<0)).Pairwise (fun a b=>¬ltQ b a):=by
 have:=List.pairwise_mergeSort (le:=fun x y:Ques=> !decide (l8 y x<0)) (fun a b c h1 h2=>by
  simp only [A7,decide_eq_false_iff_not,Gm] at h1 h2 ⊢;exact to_Q.ntr h2 h1) (fun a b=>by
  simp only [Ap,A7,decide_eq_false_iff_not,Gm];rcases to_Q.tri a b with h|h|h
  ·exact .inl (to_Q.asym h)
  ·subst h;exact .inl (to_Q.irr a)
  ·exact .inr (to_Q.asym h)) l
 refine this.imp fun {a b} h=> ?_;simpa only [A7,decide_eq_false_iff_not,Gm] using h
theorem Ap6 (l:List Rec):P6 l= !(l.all fun r=>decide ((findR l r.name r.typ).length≤64)):=by
 rw [C2];unfold P6;rw [Ev6 _ (Gf3 _)];have hc:∀k,((l.map kyQ).mergeSort fun x y=> !decide (l8 y x<0)).count k=(l.map kyQ).count k:=fun k=>(List.mergeSort_perm _ _).count_eq k;simp only [hc,A7,List.all_eq_false,decide_eq_true_eq];constructor
 ·rintro ⟨⟨n,t⟩,h⟩;rw [Yq] at h;have hp:0<(findR l n t).length:=by omega
  obtain ⟨x,hx⟩:=List.length_pos_iff_exists_mem.1 hp;obtain ⟨h3,h4⟩:=B0.1 hx;unfold isK at h4;simp only [Aw,decide_eq_true_eq] at h4;exact ⟨x,h3,by rw [h4.1,h4.2];omega⟩
 ·rintro ⟨r,h1,h2⟩;exact ⟨kyQ r,by show 64<(l.map kyQ).count ⟨r.name,r.typ⟩;rw [Yq];omega⟩
theorem Ap5 (l:List Rec) (hl:l.length≤1000000):S Bn7 1 [Al l]=some [.b (P6 l)]:=by
 obtain ⟨N,hN⟩:∃N,N=l.length+1:=⟨_,rfl⟩;refine Jv2 (N:=N) rfl ?_;have k0:Et1.ev S N [Al l]=some (.yld 0 [Ik (l.map kyQ)]):=by
  refine Ew l (fun i=>[Ik ((l.take i).map kyQ), .i .i64 (i:Int)]) (fun i r=> .yld 0 [Ik (l.map kyQ)]) rfl (by omega) (fun i c r hd hi hc=> ?_) ?_
  ·left;refine ⟨?_,rfl⟩;have e:(l.take (i+1)).map kyQ=(l.take i).map kyQ++[kyQ c]:=by rw [Cl,hc];simp
   have hsub:Jp 0 2 c.pv=some (kyQ c).pv:=rfl;have hlen:((l.take i).map kyQ).length≤1000000:=by rw [E8,Ar];omega
   rw [e];generalize (l.take i).map kyQ=a at*;simp (disch:=omega) only [Ww,hc,hsub,Eb1,Df7,Ix,Kw,EVM,EVC,xe,EVP,EV,simprocAttr]
  ·refine ⟨?_,rfl⟩;have e:l.take l.length=l:=Dq;simp (disch:=omega) only [Ww,e,Ix,Kw,EVM,EVC,xe,EVP,EV,simprocAttr]
 have hs:=El3 (l.map kyQ) (by simpa using hl);have hlen:((l.map kyQ).mergeSort fun x y=> !decide (l8 y x<0)).length=l.length:=by simp
 unfold P6;generalize ((l.map kyQ).mergeSort fun x y=> !decide (l8 y x<0))=ks at*;have k1:Es2.ev S N [Al l,Ik (l.map kyQ),Ik ks]=some (if Wt none 0 ks=true then .ret [.b true] else .yld 0 []):=by
  refine Fx ks (fun i (g:Nat)=>[.i .i64 (g:Int), .i .i64 (i:Int)]) (fun i g r=>if Wt (if i=0 then none else ks[i - 1]?) g r=true then .ret [.b true] else .yld 0 []) (fun i g=>g≤64) 0 ?_ (by omega) (by omega) (fun i g c r hd hi hc hg=> ?_) (fun g hg=> ?_)
  ·simp (disch:=omega) only [EVC,xe,EVP,EV,simprocAttr]
  ·have hp:(if i=0 then none else ks[i - 1]?)=some c↔(0<i∧ks[i - 1]? =some c):=by
    by_cases h:i=0
    ·simp [h]
    ·simp [h];omega
   have hci:(if i+1=0 then none else ks[i+1 - 1]?)=some c:=by rw [if_neg (by omega),V9,hc]
   have hsub:Jp 0 2 c.pv=some c.pv:=rfl;have eqq:∀x:Ques,Kr false true [.s,(.i .i64)] x.pv c.pv=some (.b (decide (x=c))):=fun x=>Jp7 false x c;by_cases hsame:0<i∧ks[i - 1]? =some c
   ·have hp':=hp.2 hsame;have hi0:(0:Int)<(i:Int):=by omega
    have ei:((i:Int) - 1).toNat=i - 1:=by omega
    have ei2:(i:Int).toNat=i:=by omega
    by_cases hgt:64<g+1
    ·right;have hgt':(64:Int)<(g:Int)+1:=by omega
     have er:Wt (if i=0 then none else ks[i - 1]?) g (c::r)=true:=by rw [hp'];simp [Wt,hgt]
     rw [er];refine ⟨?_,rfl⟩;simp (disch:=omega) only [Ww,hc,hsame.2,hi0,ei,ei2,hgt',Ix,Kw,EVM,EVC,xe,EVP,EV,simprocAttr]
    ·left;have hgt':¬(64:Int)<(g:Int)+1:=by omega
     refine ⟨g+1,?_,by omega,?_⟩
     ·simp (disch:=omega) only [Ww,hc,hsame.2,hi0,ei,ei2,hgt',Ix,Kw,EVM,EVC,xe,EVP,EV,simprocAttr]
     ·rw [hp',hci];simp [Wt,hgt]
   ·left;have hp':¬(if i=0 then none else ks[i - 1]?)=some c:=fun q=>hsame (hp.1 q);have ei:((i:Int) - 1).toNat=i - 1:=by omega
    have ei2:(i:Int).toNat=i:=by omega
    refine ⟨1,?_,by omega,?_⟩
    ·by_cases hi0:0<i
     ·have hi0':(0:Int)<(i:Int):=by omega
      obtain ⟨y,hy⟩:∃y,ks[i - 1]? =some y:=⟨_,Az (by omega)⟩;have hyc:¬y=c:=fun q=>hsame ⟨hi0,by rw [hy,q]⟩;simp (disch:=omega) only [Ww,hc,hy,hyc,hi0',ei,ei2,Ix,Kw,EVM,EVC,xe,EVP,EV,simprocAttr]
     ·have hi0':¬(0:Int)<(i:Int):=by omega
      simp (disch:=omega) only [Ww,hc,hi0',ei2,Ix,Kw,EVM,EVC,xe,EVP,EV,simprocAttr]
    ·rw [hci];simp [Wt,hp']
  ·refine ⟨?_,by simp [Wt,Out.goes]⟩;have hlt:¬(ks.length:Int)<(ks.length:Int):=by omega
   simp (disch:=omega) only [Ww,hlt,Ix,Kw,EVM,EVC,xe,EVP,EV,simprocAttr];simp [Wt]
 have hrep:∃p,K6 2 (.i .i64 (l.length:Int)) (Ques.pv ⟨[],0⟩)=some p:=by
  have h1:(l.length:Int)≤(LIM:Int):=by simp only [LIM];omega
  have h2:(Ques.pv ⟨[],0⟩).cells.length=2:=rfl;simp [K6,h1,h2]
 obtain ⟨p,hrep⟩:=hrep;rcases Ak (Wt none 0 ks) with h|h
 ·rw [h,if_pos rfl] at k1;rw [h];simp (disch:=omega) only [Ww,hrep,k0,hs,k1,Ix,D4,K1,EVM,EVC,xe,EVP,EV,simprocAttr]
 ·rw [h,if_neg (by simp)] at k1;rw [h];simp (disch:=omega) only [Ww,hrep,k0,hs,k1,Ix,D4,K1,EVM,EVC,xe,EVP,EV,simprocAttr]
end Go.X.G
/- Zones in the program: Check, the Ml. -/
namespace Go.X.G
open Go Go.X
theorem As2 (t:Int):S cg 1 [.i .i64 t]=some [.b (decide (t=6)||decide (t=5)||decide (t=39))]:=by
 refine Hl7 (N:=1) rfl ?_;by_cases h1:t=6
 ·simp (disch:=omega) only [Bk9,h1,EVC,xe,EVP,EV,simprocAttr];simp
 ·by_cases h2:t=5
  ·simp (disch:=omega) only [Bk9,h2,EVC,xe,EVP,EV,simprocAttr];simp
  ·simp (disch:=omega) only [Bk9,h1,h2,EVC,xe,EVP,EV,simprocAttr];simp
theorem Dm0 (r:Rec) (t:Int):S U7 1 [r.pv, .i .i64 t]=some [.b (decide (r.typ=t))]:=by refine Hn6 (N:=1) rfl ?_;simp (disch:=omega) only [Hz3,EVC,xe,EVP,EV,simprocAttr]
theorem J3 (g:List Rec) (t:Int) (hl:g.length≤1000000):S Nr 2 [Al g, .i .i64 t]=some [.b (F2 g t)]:=by refine Jq5 (N:=1) rfl ?_;have h:=Fz g U7 [.i .i64 t] (fun r=>decide (r.typ=t)) hl (fun r _=>Dm0 r t);simp (disch:=omega) only [Ip2,h,EVC,xe,EVP,EV,simprocAttr];rfl
def Jb (l:List Int):PV:= .l 1 (l.map (PV.i .i64))
theorem N0 (l:List Int):F1 (Jb l)=some (.i .i64 (l.length:Int)):=by simp [Jb,F1]
theorem Xt (l:List Int) (k:IntKind) (z:Int) (h:0≤z):Hs 1 (Jb l) (.i k z)=(l[z.toNat]?).map (PV.i .i64):=by simp [Jb,Xs _ _ _ _ h]
theorem az (l:List Int):Bn 0 (Jb l)=some (Jb l):=rfl
theorem Bx5 (l:List Int):It (Jb l)=some (Jb l):=rfl
theorem Dg6 (l:List Int) (x:Int) (hl:l.length≤1000000):∃k:Int,(0≤k↔x∈l)∧S b9 2 [Jb l, .i .i64 x]=some [.i .i64 k]:=by
 have go:∀(i:Nat) (l:List Int),∃k:Int,k=(match l.findIdx? (·=x) with|some j=>((i+j:Nat):Int)|none=> -1)∧(0≤k↔x∈l):=by
  intro i l;refine ⟨_,rfl,?_⟩;cases h:l.findIdx? (·=x) with
  |none=>
   rw [List.findIdx?_eq_none_iff] at h;simp only;constructor
   ·intro h2;omega
   ·intro h2;have:=h x h2;simp at this
  |some j=>
   simp only;constructor
   ·intro _;rw [List.findIdx?_eq_some_iff_getElem] at h;obtain ⟨h1,h2,_⟩:=h;simp at h2;rw [←h2];exact D1 _
   ·intro _;omega
 obtain ⟨k,hk,hk2⟩:=go 0 l;refine ⟨k,hk2,?_⟩;refine Hh5 (N:=l.length+1) rfl ?_;have key:Cq0.ev S (l.length+1) [Jb l, .i .i64 x]=some (match l.findIdx? (·=x) with|some j=> .ret [.i .i64 ((0+j:Nat):Int)]|none=> .yld 0 []):=by
  refine Ew l (fun i=>[.i .i64 (i:Int)]) (fun i r=>match r.findIdx? (·=x) with|some j=> .ret [.i .i64 ((i+j:Nat):Int)]|none=> .yld 0 []) rfl (by omega) (fun i c r hd hi hc=> ?_) ?_
  ·by_cases h:x=c
   ·right;subst h;simp (disch:=omega) only [Zw,hc,N0,Xt,EVM,EVC,xe,EVP,EV,simprocAttr];simp [List.findIdx?_cons,Out.goes]
   ·left;have h':¬c=x:=fun e=>h e.symm;simp (disch:=omega) only [Zw,hc,h,h',N0,Xt,EVM,EVC,xe,EVP,EV,simprocAttr];refine ⟨trivial,?_⟩;simp only [List.findIdx?_cons,h',decide_false,Ad,if_false];cases r.findIdx? (·=x) with
    |none=>rfl
    |some j=>simp;omega
  ·simp (disch:=omega) only [Zw,N0,Xt,EVM,EVC,xe,EVP,EV,simprocAttr];simp [Out.goes]
 rw [hk];cases h:l.findIdx? (·=x) with
 |none=>
  rw [h] at key;simp (disch:=omega) only [Zw,key,N0,EVM,EVC,xe,EVP,EV,simprocAttr]
 |some j=>
  rw [h] at key;simp (disch:=omega) only [Zw,key,N0,EVM,EVC,xe,EVP,EV,simprocAttr]
theorem gq (l:List Int) (x:Int) (hl:l.length≤1000000):S cw 2 [Jb l, .i .i64 x]=some [.b (decide (x∈l))]:=by refine Hl5 (N:=1) rfl ?_;obtain ⟨k,h1,h2⟩:=Dg6 l x hl;simp (disch:=omega) only [Hy7,h2,EVM,EVC,xe,EVP,EV,simprocAttr];simp [h1]
theorem Bj3 (r:Rec) (ts:List Int) (hl:ts.length≤1000000):S U1 1 [r.pv,Jb ts]=some [.b (!decide (r.typ∈ts))]:=by refine Hl6 (N:=1) rfl ?_;have h:=gq ts r.typ hl;simp (disch:=omega) only [Hy8,az,h,EVC,xe,EVP,EV,simprocAttr]
theorem Wq (g:List Rec) (ts:List Int) (hl:g.length≤1000000) (ht:ts.length≤1000000):S Mb 2 [Al g,Jb ts]=some [.b (I7 g ts)]:=by
 refine Hn7 (N:=1) rfl ?_;have h:=Fz g U1 [Jb ts] (fun r=> !decide (r.typ∈ts)) hl (fun r _=>Bj3 r ts ht);have e:(!(g.any fun r=> !decide (r.typ∈ts)))=I7 g ts:=by unfold I7;rw [List.not_any_eq_all_not];simp
 rw [←e];generalize (g.any fun r=> !decide (r.typ∈ts))=b at*;simp (disch:=omega) only [Hz4,az,Bx5,h,EVC,xe,EVP,EV,simprocAttr]
theorem g9 (g:List Rec) (hl:g.length≤1000000):S dq 1 [Al g]=some [.b (Dh8 g)]:=by
 obtain ⟨N,hN⟩:∃N,N=g.length+2:=⟨_,rfl⟩;refine Hn8 (N:=N) rfl ?_;have key:Cq7.ev S N [Al g]=some (if Dh8 g=true then .yld 0 [] else .ret [.b false]):=by
  cases g with
  |nil=>
   refine G5 0 (fun _=>[.i .i64 1]) (fun _=> .yld 0 []) ?_ (by omega) (fun i hi=>absurd hi (by omega)) ⟨?_,rfl⟩
   ·simp (disch:=omega) only [EVC,xe,EVP,EV,simprocAttr]
   ·have hlt:¬(1:Int)<(([]:List Rec).length:Int):=by simp
    simp (disch:=omega) only [Nk,hlt,EVC,xe,EVP,EV,simprocAttr]
  |cons p r=>
   have hlr:(p::r).length=r.length+1:=rfl;have:=Ew (fn:=S) (N:=N) (η:=[Al (p::r)]) (id:=1) (init:=[.c (.i .i64 1)]) (body:=og) r (fun i=>[.i .i64 ((i:Int)+1)]) (fun i l=>if (match (p::r)[i]? with|some q=>T9 q l|none=>true)=true then .yld 0 [] else .ret [.b false]) ?_ (by omega) (fun i c l hd hi hc=> ?_) ?_
   ·exact this
   ·simp (disch:=omega) only [EVC,xe,EVP,EV,simprocAttr]
    try rfl
   ·obtain ⟨q,hq⟩:∃q,(p::r)[i]? =some q:=⟨_,Az (by rw [hlr];omega)⟩;have hc':(p::r)[i+1]? =some c:=by simpa using hc
    have e1:((i:Int)+1 - 1).toNat=i:=by omega
    have e2:((i:Int)+1).toNat=i+1:=by omega
    have hlt:(i:Int)+1<((p::r).length:Int):=by rw [hlr];omega
    have hsg:=As2 c.typ;rw [hq,hc'];generalize (p::r)=g' at*;have step:T9 q (c::l)=((!decide (c.typ=q.typ)||(!(decide (c.typ=6)||decide (c.typ=5)||decide (c.typ=39)) && (decide (c.typ=46)||decide (c.ttl=q.ttl)))) && T9 c l):=rfl;by_cases h1:c.typ=q.typ
    ·rcases Ak (decide (c.typ=6)||decide (c.typ=5)||decide (c.typ=39)) with h2|h2
     ·right;have er:T9 q (c::l)=false:=by rw [step,h2];simp [h1]
      rw [h2] at hsg;simp only [er,Ad,if_false];refine ⟨?_,rfl⟩;rw [h1] at hsg;simp (disch:=omega) only [Nk,hlt,e1,e2,hq,hc',h1,hsg,EVC,xe,EVP,EV,simprocAttr]
     ·rw [h2] at hsg;rw [h2] at step;rw [h1] at hsg;by_cases h3:c.typ=46
      ·left;have er:T9 q (c::l)=T9 c l:=by rw [step];simp [h3]
       have h3':q.typ=46:=by rw [←h1];exact h3
       rw [h3'] at hsg;refine ⟨?_,by simp only [er]⟩;simp (disch:=omega) only [Nk,hlt,e1,e2,hq,hc',h1,h3',hsg,EVC,xe,EVP,EV,simprocAttr]
       try simp
      ·have h3':¬q.typ=46:=by rw [←h1];exact h3
       by_cases h4:c.ttl=q.ttl
       ·left;have er:T9 q (c::l)=T9 c l:=by rw [step];simp [h4]
        refine ⟨?_,by simp only [er]⟩;simp (disch:=omega) only [Nk,hlt,e1,e2,hq,hc',h1,h3',h4,hsg,EVC,xe,EVP,EV,simprocAttr]
        try simp
       ·right;have er:T9 q (c::l)=false:=by rw [step];simp [h1,h3',h4]
        simp only [er,Ad,if_false];refine ⟨?_,rfl⟩;simp (disch:=omega) only [Nk,hlt,e1,e2,hq,hc',h1,h3',h4,hsg,EVC,xe,EVP,EV,simprocAttr]
    ·left;have er:T9 q (c::l)=T9 c l:=by rw [step];simp [h1]
     refine ⟨?_,by simp only [er]⟩;simp (disch:=omega) only [Nk,hlt,e1,e2,hq,hc',h1,EVC,xe,EVP,EV,simprocAttr]
     try simp
   ·have hlt:¬(r.length:Int)+1<((p::r).length:Int):=by rw [hlr];omega
    obtain ⟨q,hq⟩:∃q,(p::r)[r.length]? =some q:=⟨_,Az (by rw [hlr];omega)⟩;rw [hq];refine ⟨?_,by simp [T9,Out.goes]⟩;generalize (p::r)=g' at*;simp (disch:=omega) only [Nk,hlt,EVC,xe,EVP,EV,simprocAttr];simp [T9]
 rcases Ak (Dh8 g) with h|h
 ·rw [h,if_pos rfl] at key;rw [h];simp (disch:=omega) only [Nk,key,EVC,xe,EVP,EV,simprocAttr]
 ·rw [h,if_neg (by simp)] at key;rw [h];simp (disch:=omega) only [Nk,key,EVC,xe,EVP,EV,simprocAttr]
theorem Dg7 (a b:List Rec) (ha:a.length≤1000000) (hb:b.length≤1000000):S Bn4 2 [Al a,Al b]=some [.b (decide (a=b))]:=by
 obtain ⟨N,hN⟩:∃N,N=a.length+1:=⟨_,rfl⟩;refine Jq9 (N:=N) rfl ?_;by_cases hl:a.length=b.length
 ·have key:Et0.ev S N [Al a,Al b]=some (if a.drop 0=b.drop 0 then .yld 0 [] else .ret [.b false]):=by
   refine G5 a.length (fun i=>[.i .i64 (i:Int)]) (fun i=>if a.drop i=b.drop i then .yld 0 [] else .ret [.b false]) rfl (by omega) (fun i hi=> ?_) ?_
   ·have h1:a[i]? =some a[i]:=Az hi;have h2:b[i]? =some b[i]:=Az (by omega);have d1:a.drop i=a[i]::a.drop (i+1):=Ct hi;have d2:b.drop i=b[i]::b.drop (i+1):=Ct (by omega);rw [d1,d2];generalize a[i]=x at*;generalize b[i]'(by omega)=y at*;have hlt:(i:Int)<(a.length:Int):=by omega
    by_cases h:x=y
    ·left;subst h;refine ⟨?_,by simp⟩;simp (disch:=omega) only [Az7,hlt,h1,h2,EVC,xe,EVP,EV,simprocAttr]
     try simp
    ·right;rw [if_neg (by simp [h])];refine ⟨?_,rfl⟩;simp (disch:=omega) only [Az7,hlt,h1,h2,h,EVC,xe,EVP,EV,simprocAttr]
   ·have hlt:¬(a.length:Int)<(a.length:Int):=by omega
    have e:a.drop a.length=b.drop a.length:=by rw [List.drop_length,hl,List.drop_length]
    rw [if_pos e];refine ⟨?_,rfl⟩;simp (disch:=omega) only [Az7,hlt,EVC,xe,EVP,EV,simprocAttr]
  have hl':(a.length:Int)=(b.length:Int):=by omega
  rw [D3,D3] at key;by_cases h:a=b
  ·rw [if_pos h] at key;have e:decide (a=b)=true:=by simp [h]
   rw [e];simp (disch:=omega) only [Az7,hl',key,EVC,xe,EVP,EV,simprocAttr]
  ·rw [if_neg h] at key;have e:decide (a=b)=false:=by simp [h]
   rw [e];simp (disch:=omega) only [Az7,hl',key,EVC,xe,EVP,EV,simprocAttr]
 ·have hl':¬(a.length:Int)=(b.length:Int):=by omega
  have e:decide (a=b)=false:=decide_eq_false fun q=>hl (by rw [q]);rw [e];simp (disch:=omega) only [Az7,hl',EVC,xe,EVP,EV,simprocAttr]
end Go.X.G
/- Zones in the program: proper. -/
namespace Go.X.G
open Go Go.X
section
variable (o cut red:List UInt8) (g:List Rec) (x:Rec) (N:Nat)
def Ac0 (n:List UInt8):Bool:=decide (n[0]? =some 42)
theorem Jz0 (hx:g[0]? =some x) (hl:g.length≤1000000) (hn:x.name≠[]) (p4 p5 p6 p7 p8 p9 p10 p11 p12 p13:PV):
  Cp2.ev S N [.s o,Al g, .s cut, .s red,p4,p5,p6,p7,p8,p9,p10,p11,p12,p13]=some (.ret [.b (!Ac0 x.name||(!F2 g 2 && !F2 g 39))]):=by
 have k2:=J3 g 2 hl;have k39:=J3 g 39 hl;obtain ⟨c,hc⟩:∃c,x.name[0]? =some c:=⟨_,Az (Bb.2 hn)⟩;unfold Ac0;rw [hc];by_cases h1:c=42
 ·have h1':(c.toNat:Int)=42:=by rw [h1];rfl
  rcases Ak (F2 g 2) with h2|h2
  ·rw [h2] at k2;simp (disch:=omega) only [Gx3,hx,hc,h1',k2,EVC,xe,EVP,EV,simprocAttr];simp [h1,h2]
  ·rw [h2] at k2;simp (disch:=omega) only [Gx3,hx,hc,h1',k2,k39,EVC,xe,EVP,EV,simprocAttr];simp [h1,h2]
 ·have h1':¬(c.toNat:Int)=42:=fun q=>h1 (UInt8.toNat_inj.1 (show c.toNat=42 by omega));simp (disch:=omega) only [Gx3,hx,hc,h1',EVC,xe,EVP,EV,simprocAttr];simp [h1]
theorem Jy9 (hx:g[0]? =some x) (hl:g.length≤1000000) (hn:x.name≠[]) (p4 p5 p6 p7 p8 p9 p10:PV):
  yv.ev S N [.s o,Al g, .s cut, .s red,p4,p5,p6,p7,p8,p9,p10]=some (.ret [.b ((if (!decide (x.name=o) && F2 g 2)=true then I7 g [2,43,47,46,1,28] else !F2 g 43) && (!Ac0 x.name||(!F2 g 2 && !F2 g 39)))]):=by
 have k2:=J3 g 2 hl;have k43:=J3 g 43 hl;have kd:S Mb 2 [Al g, .l 1 [.i .i64 2, .i .i64 43, .i .i64 47, .i .i64 46, .i .i64 1, .i .i64 28]]=some [.b (I7 g [2,43,47,46,1,28])]:=Wq g [2,43,47,46,1,28] hl (by decide);have hlit:I8 1 [.i .i64 2, .i .i64 43, .i .i64 47, .i .i64 46, .i .i64 1, .i .i64 28]=some (.l 1 [.i .i64 2, .i .i64 43, .i .i64 47, .i .i64 46, .i .i64 1, .i .i64 28]):=rfl;have t:=fun p11 p12 p13=>Jz0 o cut red g x N hx hl hn p4 p5 p6 p7 p8 p9 p10 p11 p12 p13;have x7:=Bj yv.eq_1;have x6:=Bj Cd5.eq_1;have x5:=Bj Cf5.eq_1;have x4:=Bj Ch1.eq_1;have x3:=Bj Cm0.eq_1;by_cases h0:x.name=o
 ·rcases Ak (F2 g 43) with h1|h1<;>rw [h1] at k43<;>simp (disch:=omega) only [x7,x6,x5,x4,x3,t,hx,h0,k43,hlit,EVC,xe,EVP,EV,simprocAttr]<;>simp [h1]
 ·rcases Ak (F2 g 2) with h2|h2
  ·rw [h2] at k2;rcases Ak (I7 g [2,43,47,46,1,28]) with h3|h3<;>rw [h3] at kd<;>simp (disch:=omega) only [x7,x6,x5,x4,x3,t,hx,h0,k2,kd,hlit,EVC,xe,EVP,EV,simprocAttr]<;>simp [h0,h2,h3]
  ·rw [h2] at k2;rcases Ak (F2 g 43) with h1|h1<;>rw [h1] at k43<;>simp (disch:=omega) only [x7,x6,x5,x4,x3,t,hx,h0,k2,k43,hlit,EVC,xe,EVP,EV,simprocAttr]<;>simp [h0,h1,h2]
theorem Hs9 (hx:g[0]? =some x) (hl:g.length≤1000000) (hn:x.name≠[]) (p4 p5 p6 p7:PV):
  Yc.ev S N [.s o,Al g, .s cut, .s red,p4,p5,p6,p7]=some (.ret [.b ((!F2 g 5||I7 g [5,46,47]) && decide (red=[]) && (decide (cut=[])||I7 g [1,28]) && ((if (!decide (x.name=o) && F2 g 2)=true then I7 g [2,43,47,46,1,28] else !F2 g 43) && (!Ac0 x.name||(!F2 g 2 && !F2 g 39))))]):=by
 have k5:=J3 g 5 hl;have kc:S Mb 2 [Al g, .l 1 [.i .i64 5, .i .i64 46, .i .i64 47]]=some [.b (I7 g [5,46,47])]:=Wq g [5,46,47] hl (by decide);have ka:S Mb 2 [Al g, .l 1 [.i .i64 1, .i .i64 28]]=some [.b (I7 g [1,28])]:=Wq g [1,28] hl (by decide);have hlit1:I8 1 [.i .i64 5, .i .i64 46, .i .i64 47]=some (.l 1 [.i .i64 5, .i .i64 46, .i .i64 47]):=rfl;have hlit2:I8 1 [.i .i64 1, .i .i64 28]=some (.l 1 [.i .i64 1, .i .i64 28]):=rfl;have t:=fun p8 p9 p10=>Jy9 o cut red g x N hx hl hn p4 p5 p6 p7 p8 p9 p10;generalize ((if (!decide (x.name=o) && F2 g 2)=true then I7 g [2,43,47,46,1,28] else !F2 g 43) && (!Ac0 x.name||(!F2 g 2 && !F2 g 39)))=B at*;have x13:=Bj Yc.eq_1;have x12:=Bj nc.eq_1;have x11:=Bj nd.eq_1;have x10:=Bj ng.eq_1;have x9:=Bj Cb1.eq_1;have x8:=Bj Cb8.eq_1;rcases Ak (F2 g 5) with h1|h1<;>rw [h1] at k5
 ·rcases Ak (I7 g [5,46,47]) with h2|h2<;>rw [h2] at kc
  ·by_cases h3:red=[]
   ·replace h3:=eq_true h3;by_cases h4:cut=[]
    ·replace h4:=eq_true h4;simp (disch:=omega) only [x13,x12,x11,x10,x9,x8,t,k5,kc,h3,h4,hlit1,hlit2,EVC,xe,EVP,EV,simprocAttr]
     (clear x13 x12 x11 x10 x9 x8 t;simp [*])
    ·rcases Ak (I7 g [1,28]) with h5|h5<;>rw [h5] at ka<;>simp (disch:=omega) only [x13,x12,x11,x10,x9,x8,t,k5,kc,ka,h3,h4,hlit1,hlit2,EVC,xe,EVP,EV,simprocAttr]<;>(clear x13 x12 x11 x10 x9 x8 t;simp [*])
   ·simp (disch:=omega) only [x13,x12,x11,x10,x9,x8,t,k5,kc,h3,hlit1,hlit2,EVC,xe,EVP,EV,simprocAttr]
    (clear x13 x12 x11 x10 x9 x8 t;simp [*])
  ·simp (disch:=omega) only [x13,x12,x11,k5,kc,hlit1,hlit2,EVC,xe,EVP,EV,simprocAttr]
   (clear x13 x12 x11 x10 x9 x8 t;simp [*])
 ·by_cases h3:red=[]
  ·replace h3:=eq_true h3;by_cases h4:cut=[]
   ·replace h4:=eq_true h4;simp (disch:=omega) only [x13,x12,x11,x10,x9,x8,t,k5,h3,h4,hlit1,hlit2,EVC,xe,EVP,EV,simprocAttr]
    (clear x13 x12 x11 x10 x9 x8 t;simp [*])
   ·rcases Ak (I7 g [1,28]) with h5|h5<;>rw [h5] at ka<;>simp (disch:=omega) only [x13,x12,x11,x10,x9,x8,t,k5,ka,h3,h4,hlit1,hlit2,EVC,xe,EVP,EV,simprocAttr]<;>(clear x13 x12 x11 x10 x9 x8 t;simp [*])
  ·simp (disch:=omega) only [x13,x12,x11,x10,x9,x8,t,k5,h3,hlit1,hlit2,EVC,xe,EVP,EV,simprocAttr]
   (clear x13 x12 x11 x10 x9 x8 t;simp [*])
end
theorem Az6 (o cut red:List UInt8) (g:List Rec) (hg:g≠[]) (hl:g.length≤1000000) (ho:o.length≤9223372036854775807) (hn:(nmG g).length≤9223372036854775807):
  S Bn1 4 [.s o,Al g, .s cut, .s red]=some [.b (propG o g (decide (cut≠[])) (decide (red≠[])))]:=by
 obtain ⟨x,r,rfl⟩:∃x r,g=x::r:=by
  cases g with
  |nil=>exact absurd rfl hg
  |cons x r=>exact ⟨x,r,rfl⟩
 have hx:(x::r)[0]? =some x:=rfl;have hnm:nmG (x::r)=x.name:=rfl;rw [hnm] at hn;unfold propG;rw [hnm];generalize (x::r)=g at*;obtain ⟨N,hN⟩:∃N,N=1:=⟨_,rfl⟩;refine Jq6 (N:=N) rfl ?_;have hu:=E7 x.name o hn ho;have k6:=J3 g 6 hl;have k2:=J3 g 2 hl;have ku:=g9 g hl;have xt:=Bj Bv4.eq_1;have x18:=Bj m9.eq_1;have x17:=Bj nk.eq_1;have x16:=Bj nq.eq_1;have x15:=Bj nw.eq_1;have x14:=Bj ny.eq_1;have e1:decide (cut≠[])= !decide (cut=[]):=by simp
 have e2:decide (red≠[])= !decide (red=[]):=by simp
 rw [e1,e2,Bool.not_not,Bool.not_not];rcases Ak (under x.name o) with h0|h0<;>rw [h0] at hu
 ·have hne:x.name≠[]:=g8 (Dn.1 h0).1;have t:=fun p4 p5 p6 p7=>Hs9 o cut red g x N hx hl hne p4 p5 p6 p7;have eS:Ac0 x.name=decide (x.name[0]? =some 42):=rfl;rw [eS] at t;generalize hA:(!F2 g 5||I7 g [5,46,47])=A at*;generalize hB:(if (!decide (x.name=o) && F2 g 2)=true then I7 g [2,43,47,46,1,28] else !F2 g 43)=B at*;generalize hC:(!decide (x.name[0]? =some 42)||(!F2 g 2 && !F2 g 39))=C at*;generalize decide (red=[])=D at*;generalize (decide (cut=[])||I7 g [1,28])=E' at*;clear hB hC hA;rcases Ak (F2 g 6) with h6|h6<;>rw [h6] at k6
  ·by_cases hno:x.name=o
   ·replace hno:=eq_true hno;rcases Ak (Dh8 g) with h1|h1<;>rw [h1] at ku
    ·rcases Ak (F2 g 2) with h2|h2<;>rw [h2] at k2
     ·simp (disch:=omega) only [xt,x18,x17,x16,x15,x14,t,hx,hu,k6,hno,ku,k2,EVC,xe,EVP,EV,simprocAttr]
      (clear xt x18 x17 x16 x15 x14 t;simp [*,Bool.and_assoc])
     ·simp (disch:=omega) only [xt,x18,x17,x16,x15,x14,t,hx,hu,k6,hno,ku,k2,EVC,xe,EVP,EV,simprocAttr]
      (clear xt x18 x17 x16 x15 x14 t;simp [*])
    ·simp (disch:=omega) only [xt,x18,x17,x16,x15,x14,t,hx,hu,k6,hno,ku,EVC,xe,EVP,EV,simprocAttr]
     (clear xt x18 x17 x16 x15 x14 t;simp [*])
   ·simp (disch:=omega) only [xt,x18,x17,x16,x15,x14,t,hx,hu,k6,hno,EVC,xe,EVP,EV,simprocAttr]
    (clear xt x18 x17 x16 x15 x14 t;simp [*])
  ·by_cases hno:x.name=o
   ·replace hno:=eq_true hno;simp (disch:=omega) only [xt,x18,x17,x16,x15,x14,t,hx,hu,k6,hno,EVC,xe,EVP,EV,simprocAttr]
    (clear xt x18 x17 x16 x15 x14 t;simp [*])
   ·rcases Ak (Dh8 g) with h1|h1<;>rw [h1] at ku
    ·simp (disch:=omega) only [xt,x18,x17,x16,x15,x14,t,hx,hu,k6,hno,ku,EVC,xe,EVP,EV,simprocAttr]
     (clear xt x18 x17 x16 x15 x14 t;simp [*,Bool.and_assoc])
    ·simp (disch:=omega) only [xt,x18,x17,x16,x15,x14,t,hx,hu,k6,hno,ku,EVC,xe,EVP,EV,simprocAttr]
     (clear xt x18 x17 x16 x15 x14 t;simp [*])
 ·simp (disch:=omega) only [xt,x18,x17,x16,x15,x14,hx,hu,EVC,xe,EVP,EV,simprocAttr]
  (clear xt x18 x17 x16 x15 x14;simp [*])
end Go.X.G
/- Zones in the program: Check and New. -/
namespace Go.X.G
open Go Go.X
def F9 (gs:List (List Rec)):PV:= .l 1 (gs.map Al)
theorem N1 (l:List (List Rec)):F1 (F9 l)=some (.i .i64 (l.length:Int)):=by simp [F9,F1]
theorem Eg (l:List (List Rec)) (k:IntKind) (z:Int) (h:0≤z):Hs 1 (F9 l) (.i k z)=(l[z.toNat]?).map Al:=by simp [F9,Xs _ _ _ _ h]
theorem Bt1 (x:List Rec):I8 1 [Al x]=some (F9 [x]):=rfl
theorem f3 (l:List (List Rec)) (x:List Rec) (h:l.length+1≤1073741824):Ib 1 (F9 l) (F9 [x])=some (F9 (l++[x])):=by have:=Tx 1 (l.map Al) [Al x] (by simpa using h);simpa [F9] using this
theorem Gb5 {α:Type} (l:List α) (s i:Nat) (c:α) (h:l[i]? =some c) (hs:s≤i):sl l s (i+1)=sl l s i++[c]:=by unfold sl;have hi:=(Av.1 h).1;rw [Cl,h,Ip (by rw [Ar];omega)];rfl
theorem Cx1 (l:List Rec) (hl:l.length≤1000000):S Bn2 1 [Al l]=some [F9 (grp l)]:=by
 obtain ⟨N,hN⟩:∃N,N=l.length+1:=⟨_,rfl⟩;refine Jq7 (N:=N) rfl ?_;have key:Es9.ev S N [Al l]=some (.yld 0 [F9 ([]++T1 (sl l 0 0) l)]):=by
  refine Fx l (fun i (g:List (List Rec)×Nat)=>[F9 g.1, .i .i64 (g.2:Int), .i .i64 (i:Int)]) (fun i g r=> .yld 0 [F9 (g.1++T1 (sl l g.2 i) r)]) (fun i g=>g.2≤i∧g.1.length≤i) ([],0) ?_ (by simp) (by omega) (fun i g c r hd hi hc hI=> ?_) (fun g hI=> ?_)
  ·rfl
  ·left;obtain ⟨out,st⟩:=g;obtain ⟨hI1,hI2⟩:=hI;simp only at hI1 hI2 ⊢;have hlt:(i:Int)<(l.length:Int):=by omega
   have e1:((i:Int)+1).toNat=i+1:=by omega
   have e2:(i:Int).toNat=i:=by omega
   have e3:(st:Int).toNat=st:=by omega
   have hsl:=Gb5 l st i c hc hI1;have hsl2:List.drop st (List.take (i+1) l)=sl l st i++[c]:=hsl;have hsl3:sl l st st=[]:=by unfold sl;rw [List.drop_eq_nil_iff,Ar];omega
   have hsl4:sl l (i+1) (i+1)=[]:=by unfold sl;rw [List.drop_eq_nil_iff,Ar];omega
   have hr:r=l.drop (i+1):=by have:=congrArg List.tail hd;simpa using this.symm
   by_cases hc2:(match r with|[]=>true|y::_=> !decide (y.name=c.name))=true
   ·refine ⟨(out++[sl l st i++[c]],i+1),?_,⟨by simp,by simp;omega⟩,?_⟩
    ·cases r with
     |nil=>
      have hend:(i:Int)+1=(l.length:Int):=by have:=congrArg List.length hr;simp at this;omega
      simp only;simp (disch:=omega) only [Bk0,hlt,hend.symm,e1,e2,e3,hc,hsl2,Bt1,f3,EVC,xe,EVP,EV,simprocAttr]
      try (congr 3;omega)
     |cons y r'=>
      have hy:l[i+1]? =some y:=by have:=congrArg (fun q=>q[0]?) hr;simpa [A8] using this.symm
      have hyl:=(Av.1 hy).1;have hend:¬(i:Int)+1=(l.length:Int):=by omega
      have hyc:¬y.name=c.name:=by simpa using hc2
      simp only;simp (disch:=omega) only [Bk0,hlt,hend,e1,e2,e3,hc,hy,hyc,hsl2,Bt1,f3,EVC,xe,EVP,EV,simprocAttr]
      try congr 3
    ·have eg:T1 (sl l st i) (c::r)=(sl l st i++[c])::T1 [] r:=by
      cases r with
      |nil=>rfl
      |cons y r'=>rw [T1,if_pos hc2]
     simp only [eg,hsl4];simp
   ·refine ⟨(out,st),?_,⟨by simp;omega,by simp;omega⟩,?_⟩
    ·cases r with
     |nil=>simp at hc2
     |cons y r'=>
      have hy:l[i+1]? =some y:=by have:=congrArg (fun q=>q[0]?) hr;simpa [A8] using this.symm
      have hyl:=(Av.1 hy).1;have hend:¬(i:Int)+1=(l.length:Int):=by omega
      have hyc:y.name=c.name:=by simpa using hc2
      simp only;simp (disch:=omega) only [Bk0,hlt,hend,e1,e2,e3,hc,hy,hyc,EVC,xe,EVP,EV,simprocAttr]
      try rfl
    ·have eg:T1 (sl l st i) (c::r)=T1 (sl l st i++[c]) r:=by
      cases r with
      |nil=>simp at hc2
      |cons y r'=>rw [T1,if_neg hc2]
     simp only [eg,hsl]
  ·have hlt:¬(l.length:Int)<(l.length:Int):=by omega
   refine ⟨?_,rfl⟩;simp (disch:=omega) only [Bk0,hlt,EVC,xe,EVP,EV,simprocAttr];simp [T1]
 have e:[]++T1 (sl l 0 0) l=grp l:=by simp [sl,grp]
 rw [e] at key;generalize grp l=gs at*;simp (disch:=omega) only [Bk0,key,EVC,xe,EVP,EV,simprocAttr]
def Ar0 (o:List UInt8):List (List Rec)→List UInt8→List UInt8→Bool→Option Bool
 |[],_,_,soa=>some soa
 |g::gs,cut,red,soa=>
  if propG o g (decide (Dd (nmG g) cut≠[])) (decide (Dd (nmG g) red≠[]))=true then
   Ar0 o gs (if Dd (nmG g) cut=[]∧nmG g≠o∧F2 g 2=true then nmG g else Dd (nmG g) cut) (if F2 g 39=true then nmG g else Dd (nmG g) red) (soa||decide (nmG g=o))
  else none
theorem Cz7 (o:List UInt8):∀(gs:List (List Rec)) (cut red:List UInt8) (soa:Bool),mw o gs cut red soa=decide (Ar0 o gs cut red soa=some true)
 |[],_,_,soa=>by simp [mw,Ar0]
 |g::gs,cut,red,soa=>by
  simp only [mw,Ar0];split
  ·exact Cz7 o gs _ _ _
  ·simp
def Im1:Option Bool→Out
 |some b=> .yld 0 [.b b]
 |none=> .ret [.i .i64 13]
section
variable (z:Zone) (g:List Rec) (gs:List (List Rec)) (x:Rec) (N:Nat) (i:Nat) (cut red:List UInt8) (soa:Bool)
theorem Jr7 (hi:gs[i]? =some g) (hx:g[0]? =some x) (hxl:x.name.length≤9223372036854775807) (hcl:cut.length≤9223372036854775807) (p1 p2 p3 p4 p5:PV):
  ∃p11,S7.ev S N [z.pv,p1,p2,p3,p4,p5,F9 gs, .s cut, .s red, .b soa, .i .i64 (i:Int)]=S8.ev S N [z.pv,p1,p2,p3,p4,p5,F9 gs, .s cut, .s red, .b soa, .i .i64 (i:Int),p11, .s (Dd x.name cut)]:=by
 have x17:=Bj S7.eq_1;have x16:=Bj nv.eq_1;have x0:=Bj Dx9.eq_1;have hu:=E7 x.name cut hxl hcl;have ei:(i:Int).toNat=i:=by omega
 by_cases h1:cut=[]
 ·refine ⟨.u,?_⟩;have e:Dd x.name cut=cut:=by unfold Dd;simp [h1]
  rw [e];replace h1:=eq_true h1;simp (disch:=omega) only [x17,x16,x0,h1,hi,hx,ei,Eg,EVC,xe,EVP,EV,simprocAttr]
 ·rcases Ak (under x.name cut) with h2|h2<;>rw [h2] at hu
  ·refine ⟨.b true,?_⟩;have e:Dd x.name cut=cut:=by unfold Dd;simp [h2]
   rw [e];simp (disch:=omega) only [x17,x16,x0,h1,hu,hi,hx,ei,Eg,EVC,xe,EVP,EV,simprocAttr]
  ·refine ⟨.b false,?_⟩;have e:Dd x.name cut=[]:=by unfold Dd;simp [h1,h2]
   rw [e];simp (disch:=omega) only [x17,x16,x0,h1,hu,hi,hx,ei,Eg,EVC,xe,EVP,EV,simprocAttr]
theorem Jr6 (hi:gs[i]? =some g) (hx:g[0]? =some x) (hxl:x.name.length≤9223372036854775807) (hrl:red.length≤9223372036854775807) (p1 p2 p3 p4 p5 p11 p12:PV):
  ∃p13,S8.ev S N [z.pv,p1,p2,p3,p4,p5,F9 gs, .s cut, .s red, .b soa, .i .i64 (i:Int),p11,p12]=Yd.ev S N [z.pv,p1,p2,p3,p4,p5,F9 gs, .s cut, .s red, .b soa, .i .i64 (i:Int),p11,p12,p13, .s (Dd x.name red)]:=by
 have x15:=Bj S8.eq_1;have x14:=Bj nb.eq_1;have x1:=Bj Dj2.eq_1;have hu:=E7 x.name red hxl hrl;have ei:(i:Int).toNat=i:=by omega
 by_cases h1:red=[]
 ·refine ⟨.u,?_⟩;have e:Dd x.name red=red:=by unfold Dd;simp [h1]
  rw [e];replace h1:=eq_true h1;simp (disch:=omega) only [x15,x14,x1,h1,hi,hx,ei,Eg,EVC,xe,EVP,EV,simprocAttr]
 ·rcases Ak (under x.name red) with h2|h2<;>rw [h2] at hu
  ·refine ⟨.b true,?_⟩;have e:Dd x.name red=red:=by unfold Dd;simp [h2]
   rw [e];simp (disch:=omega) only [x15,x14,x1,h1,hu,hi,hx,ei,Eg,EVC,xe,EVP,EV,simprocAttr]
  ·refine ⟨.b false,?_⟩;have e:Dd x.name red=[]:=by unfold Dd;simp [h1,h2]
   rw [e];simp (disch:=omega) only [x15,x14,x1,h1,hu,hi,hx,ei,Eg,EVC,xe,EVP,EV,simprocAttr]
theorem Jr5 (hi:gs[i]? =some g) (hx:g[0]? =some x) (hnm:nmG g=x.name) (hg:g≠[]) (hl:g.length≤1000000) (hil:i≤1000000) (hxl:x.name.length≤9223372036854775807) (hzl:z.origin.length≤9223372036854775807) (cu re:List UInt8) (p1 p2 p3 p4 p5 p7 p8 p11 p13:PV):
  Yd.ev S N [z.pv,p1,p2,p3,p4,p5,F9 gs,p7,p8, .b soa, .i .i64 (i:Int),p11, .s cu,p13, .s re]=
   some (if propG z.origin g (decide (cu≠[])) (decide (re≠[]))=true then .yld 1 [.s (if cu=[]∧x.name≠z.origin∧F2 g 2=true then x.name else cu), .s (if F2 g 39=true then x.name else re), .b (soa||decide (x.name=z.origin)), .i .i64 ((i:Int)+1)] else .ret [.i .i64 13]):=by
 have hp:=Az6 z.origin cu re g hg hl hzl (by rw [hnm];exact hxl);have k2:=J3 g 2 hl;have k39:=J3 g 39 hl;have ei:(i:Int).toNat=i:=by omega
 generalize propG z.origin g (decide (cu≠[])) (decide (re≠[]))=P at*;cases P
 ·simp (disch:=omega) only [Q7,hp,hi,hx,ei,Eg,EVC,xe,EVP,EV,simprocAttr]
  try simp
 ·by_cases h1:cu=[]
  ·by_cases h2:x.name=z.origin
   ·rcases Ak (F2 g 39) with h3|h3<;>rw [h3] at k39
    ·cases soa<;>(have h1':=eq_true h1;have h2':=eq_true h2;simp (disch:=omega) only [Q7,hp,hi,hx,ei,h1',h2',k39,Eg,EVC,xe,EVP,EV,simprocAttr];simp [h2,h3])
    ·cases soa<;>(have h1':=eq_true h1;have h2':=eq_true h2;simp (disch:=omega) only [Q7,hp,hi,hx,ei,h1',h2',k39,Eg,EVC,xe,EVP,EV,simprocAttr];simp [h2,h3])
   ·rcases Ak (F2 g 2) with h4|h4<;>rw [h4] at k2
    ·rcases Ak (F2 g 39) with h3|h3<;>rw [h3] at k39
     ·cases soa<;>(have h1':=eq_true h1;simp (disch:=omega) only [Q7,hp,hi,hx,ei,h1',h2,k2,k39,Eg,EVC,xe,EVP,EV,simprocAttr];simp [h1,h2,h3,h4])
     ·cases soa<;>(have h1':=eq_true h1;simp (disch:=omega) only [Q7,hp,hi,hx,ei,h1',h2,k2,k39,Eg,EVC,xe,EVP,EV,simprocAttr];simp [h1,h2,h3,h4])
    ·rcases Ak (F2 g 39) with h3|h3<;>rw [h3] at k39
     ·cases soa<;>(have h1':=eq_true h1;simp (disch:=omega) only [Q7,hp,hi,hx,ei,h1',h2,k2,k39,Eg,EVC,xe,EVP,EV,simprocAttr];simp [h2,h3,h4])
     ·cases soa<;>(have h1':=eq_true h1;simp (disch:=omega) only [Q7,hp,hi,hx,ei,h1',h2,k2,k39,Eg,EVC,xe,EVP,EV,simprocAttr];simp [h2,h3,h4])
  ·by_cases h2:x.name=z.origin
   ·rcases Ak (F2 g 39) with h3|h3<;>rw [h3] at k39
    ·cases soa<;>(have h2':=eq_true h2;simp (disch:=omega) only [Q7,hp,hi,hx,ei,h1,h2',k39,Eg,EVC,xe,EVP,EV,simprocAttr];simp [h1,h2,h3])
    ·cases soa<;>(have h2':=eq_true h2;simp (disch:=omega) only [Q7,hp,hi,hx,ei,h1,h2',k39,Eg,EVC,xe,EVP,EV,simprocAttr];simp [h1,h2,h3])
   ·rcases Ak (F2 g 39) with h3|h3<;>rw [h3] at k39
    ·cases soa<;>(simp (disch:=omega) only [Q7,hp,hi,hx,ei,h1,h2,k39,Eg,EVC,xe,EVP,EV,simprocAttr];simp [h1,h2,h3])
    ·cases soa<;>(simp (disch:=omega) only [Q7,hp,hi,hx,ei,h1,h2,k39,Eg,EVC,xe,EVP,EV,simprocAttr];simp [h1,h2,h3])
end
theorem wt:∀(n:Nat) (l:List Rec),l.length≤n→(∀g∈grp l,g≠[]∧∀x∈g,x∈l)∧(grp l).length≤l.length
 |_,[],_=>by simp [grp,T1]
 |0,x::r,hn=>by simp at hn
 |n+1,x::r,hn=>by
  obtain ⟨g,l',h1,h2,h3,h4,h5⟩:=Qt x r;have hlen:=congrArg List.length h1;have hg0:0<g.length:=Bb.2 h2;simp only [Ac,A3] at hlen hn;obtain ⟨i1,i2⟩:=wt n l' (by omega);rw [h5];refine ⟨fun g' hg'=> ?_,by simp;omega⟩;rcases Am.1 hg' with rfl|hg'
  ·exact ⟨h2,fun w hw=>by rw [h1];exact Cq _ hw⟩
  ·obtain ⟨j1,j2⟩:=i1 g' hg';exact ⟨j1,fun w hw=>by rw [h1];exact Bm _ (j2 w hw)⟩
theorem Cw0 (p:Prop) [Decidable p] (a b:List UInt8) (ha:a.length≤9223372036854775807) (hb:b.length≤9223372036854775807):(if p then a else b).length≤9223372036854775807:=by split<;>assumption
theorem Jn6 (z:Zone) (hz:z.wf) (hl:z.recs.length≤1000000) (N:Nat) (hN:z.recs.length+1<N) (p1 p2 p3 p4 p5:PV):
  Et8.ev S N [z.pv,p1,p2,p3,p4,p5,F9 (grp z.recs)]=some (Im1 (Ar0 z.origin (grp z.recs) [] [] false)):=by
 obtain ⟨gf1,gf2⟩:=wt z.recs.length z.recs (Af _);have hgl:∀g∈grp z.recs,g.length≤1000000:=fun g hg=>by
  have:∀(n:Nat) (l:List Rec),l.length≤n→∀g∈grp l,g.length≤l.length:=by
   intro n
   induction n with
   |zero=>intro l hl g hg;cases l with
    |nil=>simp [grp,T1] at hg
    |cons x r=>simp at hl
   |succ n ih=>
    intro l hl g hg;cases l with
    |nil=>simp [grp,T1] at hg
    |cons x r=>
     obtain ⟨g0,l',h1,h2,h3,h4,h5⟩:=Qt x r;have hlen:=congrArg List.length h1;have hg0:0<g0.length:=Bb.2 h2;simp only [Ac,A3] at hlen hl;rw [h5] at hg;rcases Am.1 hg with rfl|hg
     ·simp only [A3];omega
     ·have:=ih l' (by omega) g hg;simp only [A3];omega
  exact C4 (this _ _ (Af _) g hg) hl
 generalize grp z.recs=gs at*;have:=Fx (fn:=S) (N:=N) (η:=[z.pv,p1,p2,p3,p4,p5,F9 gs]) (id:=1) (init:=[.c (.s []), .c (.s []), .c (.b false), .c (.i .i64 0)]) (body:=V3) gs (fun i (a:List UInt8×List UInt8×Bool)=>[.s a.1, .s a.2.1, .b a.2.2, .i .i64 (i:Int)]) (fun i a r=>Im1 (Ar0 z.origin r a.1 a.2.1 a.2.2)) (fun i a=>a.1.length≤9223372036854775807∧a.2.1.length≤9223372036854775807) ([],[],false) ?_ (by simp) (by omega) (fun i a g r hd hi hc hI=> ?_) (fun a hI=> ?_)
 ·exact this
 ·simp (disch:=omega) only [EVC,xe,EVP,EV,simprocAttr]
  try rfl
 ·obtain ⟨cut,red,soa⟩:=a;obtain ⟨hI1,hI2⟩:=hI;simp only at hI1 hI2 ⊢;have hgm:=A9 hc;obtain ⟨hg,hgz⟩:=gf1 g hgm;obtain ⟨x,hx,hxm⟩:∃x,g[0]? =some x∧x∈g:=by
   cases g with
   |nil=>exact absurd rfl hg
   |cons x r=>exact ⟨x,rfl, .head _⟩
  have hnm:nmG g=x.name:=by
   cases g with
   |nil=>exact absurd rfl hg
   |cons y r=>simp at hx;rw [←hx];rfl
  have hxl:x.name.length≤9223372036854775807:=(hz.recs.2 x (hgz x hxm)).name;have hzl:z.origin.length≤9223372036854775807:=hz.origin;obtain ⟨p11,kA⟩:=Jr7 z g gs x N i cut red soa hc hx hxl hI1 p1 p2 p3 p4 p5;have hku:(Dd x.name cut).length≤9223372036854775807:=by unfold Dd;split<;>simp [hI1]
  have hkr:(Dd x.name red).length≤9223372036854775807:=by unfold Dd;split<;>simp [hI2]
  obtain ⟨p13,kB⟩:=Jr6 z g gs x N i cut red soa hc hx hxl hI2 p1 p2 p3 p4 p5 p11 (.s (Dd x.name cut));have kC:=Jr5 z g gs x N i soa hc hx hnm hg (hgl g hgm) (by omega) hxl hzl (Dd x.name cut) (Dd x.name red) p1 p2 p3 p4 p5 (.s cut) (.s red) p11 p13;have kall:=kA.trans (kB.trans kC);have hlt:(i:Int)<(gs.length:Int):=by omega
  have hb:V3.ev S N [z.pv,p1,p2,p3,p4,p5,F9 gs, .s cut, .s red, .b soa, .i .i64 (i:Int)]=S7.ev S N [z.pv,p1,p2,p3,p4,p5,F9 gs, .s cut, .s red, .b soa, .i .i64 (i:Int)]:=by have xb:=Bj V3.eq_1;simp (disch:=omega) only [xb,hlt,N1,EVC,xe,EVP,EV,simprocAttr]
  have hb2:=hb.trans kall;have estep:Ar0 z.origin (g::r) cut red soa=if propG z.origin g (decide (Dd x.name cut≠[])) (decide (Dd x.name red≠[]))=true then Ar0 z.origin r (if Dd x.name cut=[]∧x.name≠z.origin∧F2 g 2=true then x.name else Dd x.name cut) (if F2 g 39=true then x.name else Dd x.name red) (soa||decide (x.name=z.origin)) else none:=by simp only [Ar0,hnm]
  by_cases hP:propG z.origin g (decide (Dd x.name cut≠[])) (decide (Dd x.name red≠[]))=true
  ·left;rw [if_pos hP] at hb2 estep;refine ⟨(if Dd x.name cut=[]∧x.name≠z.origin∧F2 g 2=true then x.name else Dd x.name cut,if F2 g 39=true then x.name else Dd x.name red,soa||decide (x.name=z.origin)),hb2,⟨?_,?_⟩,?_⟩
   ·exact Cw0 _ _ _ hxl hku
   ·exact Cw0 _ _ _ hxl hkr
   ·rw [estep]
  ·right;rw [if_neg hP] at hb2 estep;rw [estep];exact ⟨hb2,rfl⟩
 ·have hlt:¬(gs.length:Int)<(gs.length:Int):=by omega
  have xb:=Bj V3.eq_1;refine ⟨?_,rfl⟩;simp (disch:=omega) only [xb,hlt,N1,EVC,xe,EVP,EV,simprocAttr];rfl
theorem pk (z:Zone) (hz:z.wf):P7 z=if vld z.origin=false then 2 else if 2048<z.recs.length∨P6 z.recs=true then 9 else if z.recs.all Og=false then 5 else if z.recs≠sortR z.recs then 7 else if Ar0 z.origin (grp z.recs) [] [] false=some true then 0 else 13:=by
 unfold P7;rcases Ak (vld z.origin) with h1|h1
 ·have n1:¬vld z.origin=false:=by simp [h1]
  rw [if_neg n1,if_neg n1];by_cases h2:2048<z.recs.length
  ·rw [if_pos h2,if_pos (.inl h2)]
  ·rw [if_neg h2];have hcr:=Ap6 z.recs;rcases Ak (z.recs.all fun r=>decide ((findR z.recs r.name r.typ).length≤64)) with h3|h3
   ·rw [h3] at hcr;have hn2:¬(2048<z.recs.length∨P6 z.recs=true):=by
     rintro (q|q)
     ·exact h2 q
     ·rw [hcr] at q;cases q
    have n3:¬(z.recs.all fun r=>decide ((findR z.recs r.name r.typ).length≤64))=false:=by simp only [h3];simp
    rw [if_neg n3,if_neg hn2];rcases Ak (z.recs.all Og) with h4|h4
    ·have n4:¬z.recs.all Og=false:=by simp only [h4];simp
     rw [if_neg n4,if_neg n4];by_cases h5:z.recs=sortR z.recs
     ·have n5:¬z.recs≠sortR z.recs:=by simpa using h5
      rw [if_neg n5,if_neg n5];have hv:∀r∈z.recs,Og r=true:=Bz.1 h4;have hr:z.recs.Pairwise ltR:=by rw [h5];exact (Ph z.recs hv).1
      have hk:=yj z (fun r h=>Zg (hv r h)) (By1 hr) z.recs.length [] z.recs [] [] false (Af _) rfl (by simp) ⟨by simp,by simp,by simp,by simp⟩;rw [Cz7,decide_eq_true_eq] at hk;have hk2:=Bz4 z hv hr;have hk3:Ar0 z.origin (grp z.recs) [] [] false=some true↔(findR z.recs z.origin 6).length=1∧d8 z.recs z.origin 2=true∧∀r∈z.recs,Rp z r=true:=by rw [hk,←hk2];simp
      by_cases h6:Ar0 z.origin (grp z.recs) [] [] false=some true
      ·obtain ⟨a,b,c⟩:=hk3.1 h6;have c':z.recs.all (Rp z)=true:=Bz.2 c;have n7:¬((findR z.recs z.origin 6).length≠1∨d8 z.recs z.origin 2=false):=by simp [a,b]
       have n8:¬z.recs.all (Rp z)=false:=by simp only [c'];simp
       rw [if_pos h6,if_neg n7,if_neg n8]
      ·rw [if_neg h6];by_cases h7:(findR z.recs z.origin 6).length≠1∨d8 z.recs z.origin 2=false
       ·rw [if_pos h7]
       ·rw [if_neg h7];by_cases h8:z.recs.all (Rp z)=false
        ·rw [if_pos h8]
        ·exfalso;simp only [not_or,ne_eq,Jv,Fc] at h7 h8;exact h6 (hk3.2 ⟨h7.1,h7.2,Bz.1 h8⟩)
     ·rw [if_pos h5,if_pos h5]
    ·rw [if_pos h4,if_pos h4]
   ·rw [h3] at hcr;rw [if_pos h3,if_pos (.inr hcr)]
 ·rw [if_pos h1,if_pos h1]
theorem Dh4 (z:Zone) (hz:z.wf) (hl:z.recs.length≤1000000):S Br6 1 [z.pv]=some [.i .i64 (P7 z)]:=by
 obtain ⟨N,hN⟩:∃N,N=z.recs.length+2:=⟨_,rfl⟩;refine Jx9 (N:=N) rfl ?_;rw [pk z hz];have hzl:z.origin.length≤9223372036854775807:=hz.origin;have k1:=Br z.origin hzl;have k2:=Ap5 z.recs hl;have k3:=Fz z.recs Bn6 [] (fun r=> !Og r) hl (fun r hr=>by refine Jv1 (N:=1) rfl ?_;have:=Dg0 r (hz.recs.2 r hr);simp (disch:=omega) only [Ip5,this,EVC,xe,EVP,EV,simprocAttr])
 have e3:(z.recs.any fun r=> !Og r)= !z.recs.all Og:=by rw [List.not_all_eq_any_not]
 rw [e3] at k3;have k4:=El4 z.recs hz.recs.2 hl;have hsl:(sortR z.recs).length≤1000000:=by obtain ⟨r,h1,h2,_⟩:=Oy Ih0 (by rw [Eb9];exact Il9) z.recs hz.recs.2 hl;rw [Eb9] at h1;have:=Yj eqF r;rw [u7 h1] at this;omega
 have k5:=Dg7 z.recs (sortR z.recs) hl hsl;have k6:=Cx1 z.recs hl;have k7:=fun p1 p2 p3 p4 p5=>Jn6 z hz hl N (by omega) p1 p2 p3 p4 p5;have xt:=Bj Bv6.eq_1;have x28:=Bj mc.eq_1;have x27:=Bj md.eq_1;have x26:=Bj mf.eq_1;have x25:=Bj ml.eq_1;have x24:=Bj mm.eq_1;have x23:=Bj mr.eq_1;have x22:=Bj ms.eq_1;have x21:=Bj mt.eq_1;have x20:=Bj m7.eq_1;have x19:=Bj m8.eq_1;have x18:=Bj nj.eq_1;rcases Ak (vld z.origin) with h1|h1
 ·have n1:¬vld z.origin=false:=by simp [h1]
  rw [if_neg n1];rw [h1] at k1;by_cases h2:2048<z.recs.length
  ·rw [if_pos (.inl h2)];have h2':(2048:Int)<(z.recs.length:Int):=by omega
   simp (disch:=omega) only [xt,x28,x27,x26,k1,h2',EVC,xe,EVP,EV,simprocAttr]
  ·have h2':¬(2048:Int)<(z.recs.length:Int):=by omega
   rcases Ak (P6 z.recs) with h3|h3<;>rw [h3] at k2
   ·rw [if_pos (.inr h3)];simp (disch:=omega) only [xt,x28,x27,x26,k1,k2,h2',EVC,xe,EVP,EV,simprocAttr]
   ·have n2:¬(2048<z.recs.length∨P6 z.recs=true):=by simp only [h2,h3];simp
    rw [if_neg n2];rcases Ak (z.recs.all Og) with h4|h4<;>rw [h4] at k3
    ·have n4:¬z.recs.all Og=false:=by simp only [h4];simp
     rw [if_neg n4];by_cases h5:z.recs=sortR z.recs
     ·have n5:¬z.recs≠sortR z.recs:=by simpa using h5
      rw [if_neg n5];have e5:decide (z.recs=sortR z.recs)=true:=decide_eq_true h5;rw [e5] at k5;clear h5 e5;generalize sortR z.recs=sr at*;cases h6:Ar0 z.origin (grp z.recs) [] [] false with
      |none=>
       rw [h6] at k7;simp only [Im1] at k7;generalize grp z.recs=gs at*;rw [if_neg (by simp)];simp (disch:=omega) only [xt,x28,x27,x26,x25,x24,x23,x22,x21,x20,x19,x18,k1,k2,h2',k3,k4,k5,k6,k7,N1,EVC,xe,EVP,EV,simprocAttr]
      |some b=>
       rw [h6] at k7;simp only [Im1] at k7;generalize grp z.recs=gs at*;cases b
       ·rw [if_neg (by simp)];simp (disch:=omega) only [xt,x28,x27,x26,x25,x24,x23,x22,x21,x20,x19,x18,k1,k2,h2',k3,k4,k5,k6,k7,N1,EVC,xe,EVP,EV,simprocAttr]
       ·rw [if_pos rfl];simp (disch:=omega) only [xt,x28,x27,x26,x25,x24,x23,x22,x21,x20,x19,x18,k1,k2,h2',k3,k4,k5,k6,k7,N1,EVC,xe,EVP,EV,simprocAttr]
     ·rw [if_pos h5];have e5:decide (z.recs=sortR z.recs)=false:=decide_eq_false h5;rw [e5] at k5;clear h5 e5;generalize sortR z.recs=sr at*;simp (disch:=omega) only [xt,x28,x27,x26,x25,x24,x23,x22,x21,k1,k2,h2',k3,k4,k5,EVC,xe,EVP,EV,simprocAttr]
    ·rw [if_pos h4];simp (disch:=omega) only [xt,x28,x27,x26,x25,x24,k1,k2,h2',k3,EVC,xe,EVP,EV,simprocAttr]
     try simp
 ·rw [if_pos h1];rw [h1] at k1;simp (disch:=omega) only [xt,x28,k1,EVC,xe,EVP,EV,simprocAttr]
end Go.X.G
/- Delegations and names of a zone, as the reference finds them; what exists. -/
namespace Go.X.G
open Go Go.X
def Cw7 (x:List UInt8):List (List UInt8)→List (List UInt8)
 |[]=>[x]
 |y::r=>if Hd y x<0 then y::Cw7 x r else if y=x then y::r else x::y::r
theorem insN_mem (x z:List UInt8):∀(l:List (List UInt8)),z∈Cw7 x l↔z=x∨z∈l
 |[]=>by simp [Cw7]
 |y::r=>by
  have ih:=insN_mem x z r;simp only [Cw7];split
  ·simp only [Am,ih];grind
  ·split
   ·rename_i h;subst h;simp only [Am];grind
   ·simp only [Am]
theorem Sb (x:List UInt8):∀(l:List (List UInt8)),l.Pairwise ltN→(Cw7 x l).Pairwise ltN
 |[],_=>by simp [Cw7]
 |y::r,h=>by
  obtain ⟨h1,h2⟩:=A0.1 h;have ih:=Sb x r h2;simp only [Cw7];by_cases c:Hd y x<0
  ·rw [if_pos c];refine A0.2 ⟨fun w hw=> ?_,ih⟩;rcases (insN_mem x w r).1 hw with rfl|hw
   ·exact (Em _ _).1 c
   ·exact h1 w hw
  ·rw [if_neg c];by_cases e:y=x
   ·rw [if_pos e];exact h
   ·rw [if_neg e];have hxy:ltN x y:=by
     rcases to_N.tri x y with q|q|q
     ·exact q
     ·exact absurd q.symm e
     ·exact absurd ((Em _ _).2 q) c
    refine A0.2 ⟨fun w hw=> ?_,h⟩;rcases Am.1 hw with rfl|hw
    ·exact hxy
    ·exact to_N.tr _ _ _ hxy (h1 w hw)
def Er7 (l:List (List UInt8)):List (List UInt8):=l.foldl (fun a x=>Cw7 x a) []
theorem bw (l:List (List UInt8)):Er7 l=setN l:=by
 have:∀(l a:List (List UInt8)),a.Pairwise ltN→(l.foldl (fun a x=>Cw7 x a) a).Pairwise ltN∧∀z,z∈l.foldl (fun a x=>Cw7 x a) a↔z∈a∨z∈l:=by
  intro l
  induction l with
  |nil=>intro a h;exact ⟨h,fun z=>by simp⟩
  |cons x r ih=>
   intro a h;obtain ⟨h1,h2⟩:=ih (Cw7 x a) (Sb x a h);refine ⟨h1,fun z=> ?_⟩;rw [List.foldl_cons,h2,insN_mem,Am]
   grind
 obtain ⟨h1,h2⟩:=this l [] List.Pairwise.nil;exact Rl to_N _ _ h1 (Mn l) fun x=>by rw [Lr];rw [Er7,h2 x];simp
end Go.X.G
/- What exists in a zone, and what encloses a name; names with another end. -/
namespace Go.X.G
open Go Go.X
theorem Ah8 (z:Zone) (hl:z.recs.length≤1000):(namesN z).length≤1000000:=by
 have h1:=Qm (Hx6 z);have h2:∀l:List Rec,(l.flatMap fun r=>upN z.origin r.name).length≤256*l.length:=by
  intro l
  induction l with
  |nil=>simp
  |cons x r ih=>
   have:=ib z.origin x.name;rw [Jq,Ac,A3];omega
 have h3:=h2 (z.recs.filter fun r=>under r.name z.origin && !lq z r.name);have h4:=Hf (fun r=>under r.name z.origin && !lq z r.name) z.recs;show (setN (Hx6 z)).length≤1000000;unfold Hx6 at h1 ⊢;omega
end Go.X.G
/- Records with names and texts of at most 300 bytes. -/
namespace Go.X.G
open Go Go.X
def c3 (s:List UInt8):List UInt8:=s.take 300
end Go.X.G
/- The laws of zones: what they call. -/
namespace Go.X.G
open Go Go.X
theorem Sg (o:List UInt8) (l:List Rec):PV.a [.s o,Al l]=Zone.pv ⟨o,l⟩:=rfl
theorem X4 (z:Zone):(⟨z.origin,z.recs⟩:Zone)=z:=rfl
end Go.X.G
/- Names with another end; redirections; what records of a name say. -/
namespace Go.X
structure Res where
 kind:Int
 owner:List UInt8
 wild:Bool
 target:List UInt8
 recs:List Rec
 deriving DecidableEq
def Res.cells (x:Res):List PV:=[.i .i64 x.kind, .s x.owner, .b x.wild, .s x.target,Al x.recs]
def Res.pv (x:Res):PV:= .a x.cells
end Go.X
namespace Go.X.G
open Go Go.X
end Go.X.G
/- What a zone says about a question: the program and the reference. -/
namespace Go.X.G
open Go Go.X
theorem Dm3 (z:Zone) (n:List UInt8) (t:Int) (hl:z.recs.length≤1000000):S Bp0 3 [z.pv, .s n, .i .i64 t]=some [Al (findR z.recs n t)]:=by refine Jv8 (N:=1) rfl ?_;have k1:=El6 z.recs n t hl;simp (disch:=omega) only [Ip7,k1,EVM,EVC,xe,EVP,EV,simprocAttr]
end Go.X.G
/- nsec: the chain of a zone. -/
namespace Go.X.G
open Go Go.X
def anB (x y:Int):Int:=IntKind.u64.wrap ((BitVec.ofInt IntKind.u64.bits x &&& ~~~ BitVec.ofInt IntKind.u64.bits y).toNat:Int)
def adB (x y:Int):Int:=IntKind.u64.wrap ((BitVec.ofInt IntKind.u64.bits x &&& BitVec.ofInt IntKind.u64.bits y).toNat:Int)
def orB (x y:Int):Int:=IntKind.u64.wrap ((BitVec.ofInt IntKind.u64.bits x|||BitVec.ofInt IntKind.u64.bits y).toNat:Int)
theorem Il1 (x y:Int):X.bin .andNot (.i .u64 x) (.i .u64 y)=some (.i .u64 (anB x y)):=by rw [Cv];rfl
theorem Il3 (x y:Int):X.bin .and (.i .u64 x) (.i .u64 y)=some (.i .u64 (adB x y)):=by rw [Tq];rfl
theorem Ht5 (x y:Int):X.bin .or (.i .u64 x) (.i .u64 y)=some (.i .u64 (orB x y)):=by rw [Gq4];rfl
theorem Uh (l:List Int) (hk:∀t∈l,knw t=true) (hl:l.length≤1000000):S bd 1 [Hm l]=some [.i .u64 (l.foldl bitO 0)]:=by refine Jv9 (N:=1) rfl ?_;have h:=Dg3 l hk hl;generalize l.foldl bitO 0=v at*;simp (disch:=omega) only [Ip8,h,EVC,xe,EVP,EV,simprocAttr]
def Ey0:Int:=211106232532992
def Er2:Int:=8796093022212
theorem Ht3:S bd 1 [.l 1 [.i .i64 47, .i .i64 46]]=some [.i .u64 Ey0]:=by
 have:=Uh [47,46] (by decide) (by decide);have e:[47,46].foldl bitO 0=Ey0:=by kernel_rfl
 rw [e] at this;exact this
theorem Ht2:S bd 1 [.l 1 [.i .i64 2, .i .i64 43]]=some [.i .u64 Er2]:=by
 have:=Uh [2,43] (by decide) (by decide);have e:[2,43].foldl bitO 0=Er2:=by kernel_rfl
 rw [e] at this;exact this
def tyO (z:Zone) (n:List UInt8):Int:=anB ((typesR z.recs n).foldl bitO 0) Ey0
def chBits (z:Zone) (n:List UInt8):Int:=orB (if n∈cutsN z then adB (tyO z n) Er2 else tyO z n) Ey0
def P8 (z:Zone) (ttl:Int) (n:List UInt8):Option Rec:=
 if tyO z n=0 then none else some ⟨n,47,ttl,⟨false,0,0,z.origin,[],[],0,0,0,0,0,0,chBits z n⟩⟩
def chain0 (z:Zone) (ttl:Int):List Rec:=(namesN z).filterMap (P8 z ttl)
def Bs3 (z:Zone):Int:=match findR z.recs z.origin 6 with|[]=>0|r::_=>r.data.e
def Hf5 (h:List UInt8) (r:Rec):Rec:={r with data:={r.data with host:=h}}
def lnk (g:List Rec) (i:Nat):List Rec:=
 if 0<i then match g[i - 1]?,g[i]? with
  |some a,some b=>g.set (i - 1) (Hf5 b.name a)
  |_,_=>g
 else g
def Gg3:Nat→Nat→List Rec→List Rec
 |0,_,g=>g
 |k+1,i,g=>Gg3 k (i+1) (lnk g i)
def chainN (z:Zone):List Rec:=Gg3 (chain0 z (Bs3 z)).length 0 (chain0 z (Bs3 z))
theorem Gg2 (g:List Rec) (i:Nat):(lnk g i).length=g.length:=by
 unfold lnk;split
 ·split
  ·rw [F4]
  ·rfl
 ·rfl
theorem Jj7 (l:List Rec) (j:Nat) (h:List UInt8) (x:Rec) (hx:l[j]? =some x):Rz 16 6 [.s h] (Al l) (.i .i64 (j:Int))=some (Al (l.set j (Hf5 h x))):=by
 have h1:=(Av.1 hx).1;have h3:(l.map Rec.pv)[j]? =some x.pv:=by rw [Bh,hx];rfl
 have h0:(0:Int)≤(j:Int):=by omega
 simp only [Rz,Al,h0,G3,h3,and_self,if_true,Ay];have h4:O0 x.pv 6 [.s h]=some (Hf5 h x).pv:=rfl;rw [h4];simp [List.map_set]
theorem El8 (z:Zone) (ttl:Int) (s:List Rec) (hz:z.wf) (hl:z.recs.length≤1000000) (cl:(cutsN z).length≤1000000) (hn:(namesN z).length≤1000000) (hs:∃r,s=[r]∧r.data.e=ttl) (p1:PV) (N:Nat) (hN:(namesN z).length<N):
  Et9.ev S N [z.pv,p1, .i .u64 Ey0, .i .u64 Er2,Al s,Bd (cutsN z),Bd (namesN z)]=some (.yld 0 [Al (chain0 z ttl)]):=by
 obtain ⟨r0,rfl,hr0⟩:=hs;have hor:(chain0 z ttl)=[]++(namesN z).filterMap (P8 z ttl):=rfl;rw [hor];have ki:=fun n=>Pm (cutsN z) n cl;have kt:=fun n=>Dg2 z.recs n hl;refine Fx (N:=N) (namesN z) (fun i (g:List Rec)=>[Al g, .i .i64 (i:Int)]) (fun i g r=> .yld 0 [Al (g++r.filterMap (P8 z ttl))]) (fun i g=>g.length≤i) [] rfl (Cc _) hN (fun i g c r hd hi hc hI=> ?_) (fun g hI=> ?_)
 ·left;have e1:=Il1 ((typesR z.recs c).foldl bitO 0) Ey0;have e2:anB ((typesR z.recs c).foldl bitO 0) Ey0=tyO z c:=rfl;rw [e2] at e1;have kt:=kt c;have ki:=ki c;have eb:chBits z c=orB (if c∈cutsN z then adB (tyO z c) Er2 else tyO z c) Ey0:=rfl;have hil:(i:Int)<((namesN z).length:Int):=by omega
  generalize (typesR z.recs c).foldl bitO 0=ty at*;by_cases h0:tyO z c=0
  ·have hci:P8 z ttl c=none:=by unfold P8;rw [if_pos h0]
   refine ⟨g,?_,by omega,by rw [List.filterMap_cons,hci]⟩;rw [h0] at e1;generalize namesN z=nn at*;generalize cutsN z=cc at*;simp (disch:=omega) only [Wy,hc,hil,kt,ki,e1,EVC,xe,EVP,EV,simprocAttr]
  ·have hci:P8 z ttl c=some ⟨c,47,ttl,⟨false,0,0,z.origin,[],[],0,0,0,0,0,0,chBits z c⟩⟩:=by unfold P8;rw [if_neg h0]
   have ho:=Ht5 (if c∈cutsN z then adB (tyO z c) Er2 else tyO z c) Ey0;rw [←eb] at ho;refine ⟨g++[⟨c,47,ttl,⟨false,0,0,z.origin,[],[],0,0,0,0,0,0,chBits z c⟩⟩],?_,by simp;omega,by rw [List.filterMap_cons,hci,As];rfl⟩;have ea:=Il3 (tyO z c) Er2;generalize chBits z c=bits at*;generalize tyO z c=t at*;generalize adB t Er2=u at*;generalize namesN z=nn at*;by_cases h1:c∈cutsN z
   ·rw [if_pos h1] at ho;generalize cutsN z=cc at*;simp (disch:=omega) only [Wy,hc,hil,kt,ki,e1,ea,ho,h0,h1,hr0,EVC,xe,EVP,EV,simprocAttr]
   ·rw [if_neg h1] at ho;generalize cutsN z=cc at*;simp (disch:=omega) only [Wy,hc,hil,kt,ki,e1,ea,ho,h0,h1,hr0,EVC,xe,EVP,EV,simprocAttr]
 ·generalize namesN z=nn at*;simp (disch:=omega) only [Wy,Int.lt_irrefl,EVC,xe,EVP,EV,simprocAttr];simp [Out.goes]
theorem El7 (c0:List Rec) (hl:c0.length≤1000000) (N:Nat) (hN:c0.length<N) (p0 p1 p2 p3 p4 p5 p6:PV):
  Es3.ev S N [p0,p1,p2,p3,p4,p5,p6,Al c0]=some (.yld 0 [Al (Gg3 c0.length 0 c0)]):=by
 refine Fx (N:=N) c0 (fun i (g:List Rec)=>[Al g, .i .i64 (i:Int)]) (fun i g r=> .yld 0 [Al (Gg3 r.length i g)]) (fun i g=>g.length=c0.length) c0 rfl rfl hN (fun i g c r hd hi hc hI=> ?_) (fun g hI=> ?_)
 ·left;refine ⟨lnk g i,?_,by rw [Gg2];exact hI,rfl⟩;have hil:(i:Int)<(c0.length:Int):=by omega
  unfold lnk;by_cases h0:0<i
  ·have a1:g[i - 1]? =some (g[i - 1]'(by omega)):=Az (by omega);have a2:g[i]? =some (g[i]'(by omega)):=Az (by omega);generalize g[i - 1]'(by omega)=a at*;generalize g[i]'(by omega)=b at*;rw [if_pos h0,a1,a2];simp only;have e1:(i:Int) - 1=((i - 1:Nat):Int):=by omega
   have e2:IntKind.i64.wrap ((i:Int) - 1)=((i - 1:Nat):Int):=by rw [w64 (by omega) (by omega)];exact e1
   have e3:=Jj7 g (i - 1) b.name a a1;have h0':(0:Int)<(i:Int):=by omega
   simp (disch:=omega) only [Wy,hil,h0',e1,e2,e3,a1,a2,EVC,xe,EVP,EV,simprocAttr]
  ·have h0':¬(0:Int)<(i:Int):=by omega
   rw [if_neg h0];simp (disch:=omega) only [Wy,hil,h0',EVC,xe,EVP,EV,simprocAttr]
 ·simp (disch:=omega) only [Wy,Int.lt_irrefl,EVC,xe,EVP,EV,simprocAttr];simp [Out.goes,Gg3]
theorem Ar1 (z:Zone) (ttl:Int):(chain0 z ttl).length≤(namesN z).length:=List.length_filterMap_le _ _
theorem Eg0 (z:Zone) (hl:z.recs.length≤1000):(cutsN z).length≤1000000:=by have:=Qm ((z.recs.filter (Es z)).map Rec.name);have h2:=Hf (Es z) z.recs;rw [E8] at this;unfold cutsN;omega
theorem Dh5 (z:Zone) (hz:z.wf) (hl:z.recs.length≤1000):S Br8 1 [z.pv]=some (if P7 z=0 then [Al (chainN z), .i .i64 0] else [Al [], .i .i64 13]):=by
 have hn:=Ah8 z hl;have hc:=Eg0 z hl;have hcl:=Ar1 z (Bs3 z);refine Jy0 (N:=(namesN z).length+1) rfl ?_;have k1:=Dh4 z hz (by omega);by_cases h:P7 z=0
 ·rw [if_pos h];rw [h] at k1;have ho:=Cz8 h;obtain ⟨s,es⟩:=List.length_eq_one_iff.1 ho.soa;have k2:=Dm3 z z.origin 6 (by omega);have k3:=pf z hz (by omega);have k4:=Bj4 z hz (by omega);have em:Bs3 z=s.data.e:=by unfold Bs3;rw [es]
  have l0:=El8 z (Bs3 z) [s] hz (by omega) hc hn ⟨s,rfl,em.symm⟩ (.i .i64 0) ((namesN z).length+1) (by omega);have l1:=El7 (chain0 z (Bs3 z)) (by omega) ((namesN z).length+1) (by omega);rw [es] at k2;have ec:Gg3 (chain0 z (Bs3 z)).length 0 (chain0 z (Bs3 z))=chainN z:=rfl;rw [ec] at l1;generalize chainN z=cn at*;generalize chain0 z (Bs3 z)=c0 at*;generalize cutsN z=cc at*;generalize namesN z=nn at*;have o1:=Ht3;have o2:=Ht2;have q1:I8 1 [.i .i64 47, .i .i64 46]=some (.l 1 [.i .i64 47, .i .i64 46]):=rfl;have q2:I8 1 [.i .i64 2, .i .i64 43]=some (.l 1 [.i .i64 2, .i .i64 43]):=rfl;simp (disch:=omega) only [Wy,k1,k2,k3,k4,l0,l1,o1,o2,q1,q2,Sg,X4,EVC,xe,EVP,EV,simprocAttr]
 ·rw [if_neg h];simp (disch:=omega) only [Wy,k1,h,Sg,X4,EVC,xe,EVP,EV,simprocAttr]
end Go.X.G
/- nsec: the sample, and the laws NsecCovers, NsecAbsent, NsecEmpty. -/
namespace Go.X.G
open Go Go.X
def smp20:Zone:=⟨[120,46],[⟨[120,46],2,9,⟨false,0,0,[110,46],[],[],0,0,0,0,0,0,0⟩⟩,
 ⟨[120,46],6,9,⟨false,0,0,[110,46],[109,46],[],3,0,0,0,5,0,0⟩⟩,
 ⟨[98,46,120,46],1,9,⟨false,0,1,[],[],[],0,0,0,0,0,0,0⟩⟩]⟩
theorem jq:S Ez4 0 []=some [smp20.pv]:=(Mp ext_mono).2 ⟨3,by kernel_rfl⟩
theorem Eq8:smp20.wf:=by refine ⟨by unfold Qh;decide,by decide,fun r hr=> ?_⟩;simp only [smp20,Am,Dl9,or_false] at hr;rcases hr with rfl|rfl|rfl<;>(constructor<;>(try constructor))<;>simp [Hw3,gy,Qh]
theorem jj:P7 smp20=0:=by kernel_rfl
theorem i9:namesN smp20=[[120,46],[98,46,120,46]]:=by unfold namesN;rw [←bw];kernel_rfl
theorem Ac2:cutsN smp20=[]:=by unfold cutsN;rw [←bw];kernel_rfl
def c20a:Rec:=⟨[120,46],47,5,⟨false,0,0,[98,46,120,46],[],[],0,0,0,0,0,0,211106232533060⟩⟩
def c20b:Rec:=⟨[98,46,120,46],47,5,⟨false,0,0,[120,46],[],[],0,0,0,0,0,0,211106232532994⟩⟩
theorem jk:chainN smp20=[c20a,c20b]:=by
 have e:chain0 smp20 (Bs3 smp20)=[Hf5 [120,46] c20a,c20b]:=by
  unfold chain0;rw [i9];unfold P8 chBits;rw [Ac2]
  kernel_rfl
 have e2:chainN smp20=Gg3 2 0 [Hf5 [120,46] c20a,c20b]:=by unfold chainN;rw [e];rfl
 exact e2.trans (by kernel_rfl)
theorem Ct0:∀r∈[c20a,c20b],r.wf:=by intro r hr;simp only [Am,Dl9,or_false] at hr;rcases hr with rfl|rfl<;>(constructor<;>(try constructor))<;>simp [Hw3,gy,Qh,c20a,c20b]
theorem Ar8:S Bs2 0 []=some [.b true]:=by
 refine Jy7 (N:=1) rfl ?_;have k1:=jq;have k2:=Dh5 smp20 Eq8 (by decide);rw [if_pos jj,jk] at k2;have a1:=Pz [c20a,c20b] [120,46] [99,46,120,46] Ct0 (by decide) (by decide) (by decide);have a2:=Pz [c20a,c20b] [120,46] [98,46,120,46] Ct0 (by decide) (by decide) (by decide);have a3:=Dg8 [c20a,c20b] [120,46] ⟨[98,46,120,46],15⟩ Ct0 (by decide) (by decide) (by decide);have e1:M1 [c20a,c20b] [120,46] [99,46,120,46]=true:=by kernel_rfl
 have e2:M1 [c20a,c20b] [120,46] [98,46,120,46]=false:=by kernel_rfl
 have e3:Cx9 [c20a,c20b] [120,46] ⟨[98,46,120,46],15⟩=true:=by kernel_rfl
 rw [e1] at a1;rw [e2] at a2;rw [e3] at a3;have h0:[c20a,c20b][0]? =some c20a:=rfl;have h1:[c20a,c20b][1]? =some c20b:=rfl;have hl:[c20a,c20b].length=2:=rfl;have n0:c20a.name=[120,46]:=rfl;have n1:c20a.data.host=[98,46,120,46]:=rfl;have n2:c20b.data.host=[120,46]:=rfl;have n3:c20b.ttl=5:=rfl;generalize [c20a,c20b]=l at*;generalize c20a=ra at*;generalize c20b=rb at*;generalize smp20=z at*;simp (disch:=first|omega|decide) only [Ir9,k1,k2,a1,a2,a3,h0,h1,hl,n0,n1,n2,n3,Fj2,Sg,X4,EVM,EVC,xe,EVP,EV,simprocAttr]
theorem law_NsecAbsent (l:List Rec) (zone name:List UInt8) (hl:jy l) (hz:Qh zone) (hn:Qh name):S Ik0 3 [Al l, .s zone, .s name]=some [.b true]:=by
 refine Jr1 (N:=1) rfl ?_;have ka:=Ar8;have ks:=Ac3 l;unfold Qh at hz hn;rcases Ak (u9 l) with h1|h1
 ·have hll:l.length≤1000000:=by simp [u9] at h1;omega
  by_cases h2:zone.length≤300
  ·by_cases h3:name.length≤300
   ·have k1:=Pz l zone name hl.2 hll (by omega) (by omega);have k2:=pq l zone name hl.2 hll (by omega) (by omega);simp (disch:=omega) only [Il8,ka,ks,h1,k1,k2,If7,beq_self_eq_true,EVM,EVC,xe,EVP,EV,simprocAttr]
   ·simp (disch:=omega) only [Il8,ka,ks,h1,EVM,EVC,xe,EVP,EV,simprocAttr]
  ·simp (disch:=omega) only [Il8,ka,ks,h1,EVM,EVC,xe,EVP,EV,simprocAttr]
 ·simp (disch:=omega) only [Il8,ka,ks,h1,EVM,EVC,xe,EVP,EV,simprocAttr]
end Go.X.G
