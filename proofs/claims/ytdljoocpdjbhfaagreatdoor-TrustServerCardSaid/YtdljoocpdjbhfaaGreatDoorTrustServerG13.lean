/- Stable sorting: the library's functions. -/
import Derived.Test.YtdljoocpdjbhfaaGreatDoorTrustServerG12
import Derived.Test.YtdljoocpdjbhfaaGreatDoorTrustServerG11
import Derived.Test.YtdljoocpdjbhfaaGreatDoorTrustServerG9
open Bool renaming eq_false_or_eq_true→Aq,and_eq_true→Aw,false_eq_true→Ad,or_eq_true→Am,not_eq_true'→A9,eq_iff_iff→Cn,not_eq_false→Fh,true_and→Pf
open Classical renaming not_not→I8
open Int renaming toNat_natCast→G4
open List renaming getElem?_eq_some_iff→Av,length_append→Az,getElem?_eq_getElem→Ab,mem_cons→An,length_take→Ap,append_assoc→As,length_cons→A0,getElem?_append_right→A3,pairwise_cons→A5,mem_of_getElem?→A6,getElem?_drop→A8,length_pos_iff→Bw,length_nil→By,all_eq_true→Bc,mem_filter→Bf,mem_append→Bg,getElem?_map→Bn,take_append_drop→Br,mem_append_right→Bs,length_drop→B4,any_eq_true→B6,nil_append→Cy,take_add_one→Cz,length_filter_le→Cb,mem_append_left→Cf,drop_eq_getElem_cons→Cp,drop_drop→Cr,getElem?_of_mem→C7,take_length→C8,getElem_mem→Dy,mem_map→Dd,length_singleton→Df,append_nil→Dr,take_of_length_le→Ds,length_map→Eb,drop_zero→Ec,suffix_iff_eq_drop→E3,pairwise_append→E6,isSuffixOf_iff_suffix→E8,count_cons_of_ne→F0,map_cons→F2,mem_of_mem_take→Gc,count_cons_self→Gd,flatMap_cons→G2,length_set→Hv,mem_of_mem_drop→Ig,getLast_eq_getElem→I6,find?_cons_of_pos→J9,drop_of_length_le→Kj,filter_cons→K5,set_append_right→L9,drop_set_of_lt→Rn,length_mergeSort→lh,getElem_take→uk,take_take→Bq2,take_left→Bq3,getElem?_set_ne→Bq4,map_mergeSort→Jc5,findIdx?_cons→Jc6,count_eq_zero→Jc7
open Nat renaming le_refl→Af,mul_le_mul_right→Bb,zero_le→Cc,le_trans→Cd,add_zero→Dv,min_eq_left→Jz,add_sub_cancel→Lw
open Option renaming bind_some→Ay,map_some→A4
set_option maxHeartbeats 1000000
set_option linter.unusedVariables false
set_option linter.unusedSimpArgs false
namespace Go.X.G
open Go Go.X
section
variable {g:Nat} {caps:List PV} {c:Rec→Rec→Int} {P:Rec→Prop}
theorem Kb3 (hC:Cmp g caps c P) (L L':List Rec) (i:Nat) (x y:Rec) (g0:L[i]? =some y) (g1:L[i+1]? =some x) (sw:(L.set (i+1) y).set i x=L') (k e:Int) (hk:k=i+1) (he:e<k) (he2:0≤e) (hx:P x) (hy:P y) (hlt:c x y<0) (hL:L.length≤1000000) (w0 w2 w4 w5:PV) (N:Nat):
  L5.ev S N [w0, .i .i64 e,w2, .f g caps,w4,w5, .i .i64 k,Ag L]=some (.yld 3 [.i .i64 (k - 1),Ag L']):=by
 have hi:=(Av.1 g1).1;have ti0:(k - 1).toNat=i:=by omega
 have ti1:k.toNat=i+1:=by omega
 have g2:(L.set (i+1) y)[i]? =some y:=by rw [Bq4 (by omega)];exact g0
 have hc:=hC.ok x y hx hy;simp (disch:=first|omega|(rw [Hv];omega)) only [Qc,I9,L3,he,ti0,ti1,g0,g1,g2,sw,hc,hlt,EVT,EVM,EVC,xe,EVP,EV,simprocAttr]
theorem Cx7 (hC:Cmp g caps c P) (L:List Rec) (i:Nat) (x y:Rec) (g0:L[i]? =some y) (g1:L[i+1]? =some x) (k e:Int) (hk:k=i+1) (he:e<k) (hx:P x) (hy:P y) (hlt:¬c x y<0) (hL:L.length≤1000000) (w0 w2 w4 w5:PV) (N:Nat):
  L5.ev S N [w0, .i .i64 e,w2, .f g caps,w4,w5, .i .i64 k,Ag L]=some (.yld 2 [Ag L]):=by
 have hi:=(Av.1 g1).1;have ti0:(k - 1).toNat=i:=by omega
 have ti1:k.toNat=i+1:=by omega
 have hc:=hC.ok x y hx hy;simp (disch:=omega) only [Qc,I9,L3,he,ti0,ti1,g0,g1,hc,hlt,EVT,EVM,EVC,xe,EVP,EV,simprocAttr]
theorem Et0 (L:List Rec) (k e:Int) (he:¬e<k) (w0 w2 w3 w4 w5:PV) (N:Nat):
  L5.ev S N [w0, .i .i64 e,w2,w3,w4,w5, .i .i64 k,Ag L]=some (.yld 2 [Ag L]):=by
 simp (disch:=omega) only [Qc,I9,L3,he,EVT,EVM,EVC,xe,EVP,EV,simprocAttr]
theorem Kb2 (hC:Cmp g caps c P) (ht:TP (leC c)) (X R Y:List Rec) (x:Rec) (hR:R.Pairwise fun a b=>leC c a b=true) (hP:∀y∈X++R++x::Y,P y) (hs:(X++R++x::Y).length≤1000000) (a k:Int) (ha:a=X.length) (hk:k=a+R.length) (w0 w2:PV) (N:Nat) (hN:R.length<N):
  ∃R1 R2,R=R1++R2∧(∀y∈R1,leC c y x=true)∧(∀y∈R2,leC c y x=false)∧
   Cq9.ev S N [w0, .i .i64 a,w2, .f g caps, .i .i64 k,Ag (X++R++x::Y)]=some (.yld 2 [Ag (X++(R1++x::R2)++Y)]):=by
 have hx:P x:=hP x (by simp);have hs2:=hs;simp only [Az,A0] at hs2;have key:=Hj (fn:=S) (N:=N) (η:=[w0, .i .i64 a,w2, .f g caps, .i .i64 k,Ag (X++R++x::Y)]) (id:=3) (init:=[.v 4, .v 5]) (body:=L5) (α:=List Rec×List Rec)
  (fun w=>[.i .i64 (a+w.1.length),Ag (X++w.1++x::(w.2++Y))])
  (fun o=>∃R1 R2,R=R1++R2∧(∀y∈R1,leC c y x=true)∧(∀y∈R2,leC c y x=false)∧o= .yld 2 [Ag (X++(R1++x::R2)++Y)])
  (fun w=>R=w.1++w.2∧∀y∈w.2,leC c y x=false) (fun w=>w.1.length) (R,[]) ?_ ⟨by simp,by simp⟩ hN ?_
 ·obtain ⟨o,h1,R1,R2,h2,h3,h4,rfl⟩:=key;exact ⟨R1,R2,h2,h3,h4,h1⟩
 ·subst hk;simp only [Cy];generalize X++R++x::Y=s at*;simp (disch:=omega) only [EVT,EVM,EVC,xe,EVP,EV,simprocAttr]
 ·rintro ⟨R1,R2⟩ ⟨h1,h2⟩;simp only at h1 h2;have hlen:=congrArg List.length h1;simp only [Az] at hlen;rcases List.eq_nil_or_concat R1 with rfl|⟨R0,y,rfl⟩
  ·right;refine ⟨_,Et0 _ _ a (by simp) _ _ _ _ _ N,rfl,[],R2,h1,by simp,h2,?_⟩;simp
  ·rw [List.concat_eq_append] at*;simp only [Az,A0,By] at hlen;have hy:P y:=hP y (by rw [h1];simp);have lP:(X++R0).length=X.length+R0.length:=Az;have g0:=i9 (X++R0) (x::(R2++Y)) y;have g1:=ot (X++R0) (R2++Y) y x;rw [lP] at g0 g1;have e0:X++(R0++[y])++x::(R2++Y)=X++R0++y::x::(R2++Y):=by simp
   have lL:(X++R0++y::x::(R2++Y)).length≤1000000:=by simp only [Az,A0];omega
   by_cases hlt:c x y<0
   ·left;have sw0:((X++R0++y::x::(R2++Y)).set (X.length+R0.length+1) y).set (X.length+R0.length) x=X++R0++x::(y::R2++Y):=by rw [←lP,List.set_comm _ _ (by omega)];exact Hk3 (X++R0) (R2++Y) y x
    refine ⟨(R0,y::R2),?_,⟨by simp only;rw [h1];simp,fun w hw=> ?_⟩,by simp⟩
    ·have:=Kb3 hC _ _ (X.length+R0.length) x y g0 g1 sw0 (a+((R0++[y]).length:Nat)) a (by simp;omega) (by simp;omega) (by omega) hx hy hlt lL w0 w2 (.i .i64 k) (Ag (X++R++x::Y)) N;have e1:a+((R0++[y]).length:Nat) - 1=a+(R0.length:Int):=by simp;omega
     rw [e1] at this;show L5.ev S N [w0, .i .i64 a,w2, .f g caps, .i .i64 k,Ag (X++R++x::Y), .i .i64 (a+((R0++[y]).length:Nat)),Ag (X++(R0++[y])++x::(R2++Y))]=_;rw [e0];exact this
    ·rcases An.1 hw with rfl|hw
     ·exact Es0.2 hlt
     ·exact h2 w hw
   ·right;have hle:leC c y x=true:=Er9.2 hlt;refine ⟨_,?_,rfl,R0++[y],R2,h1,mr ht (by rw [h1] at hR;exact (E6.1 hR).1) hle,h2,rfl⟩;have:=Cx7 hC _ (X.length+R0.length) x y g0 g1 (a+((R0++[y]).length:Nat)) a (by simp;omega) (by simp;omega) hx hy hlt lL w0 w2 (.i .i64 k) (Ag (X++R++x::Y)) N;show L5.ev S N [w0, .i .i64 a,w2, .f g caps, .i .i64 k,Ag (X++R++x::Y), .i .i64 (a+((R0++[y]).length:Nat)),Ag (X++(R0++[y])++x::(R2++Y))]=_;rw [e0,this,←e0];simp
theorem Wn (hC:Cmp g caps c P) (ht:TP (leC c)) (X A Y:List Rec) (a b:Int) (ha:a=X.length) (hb:b=a+A.length) (hP:∀y∈X++A++Y,P y) (hs:(X++A++Y).length≤1000000):
  ∃R,Stab (leC c) R A∧R.length=A.length∧S Wq 1048580 [Ag (X++A++Y), .i .i64 a, .i .i64 b, .f g caps]=some [Ag (X++R++Y)]:=by
 have hs2:=hs;simp only [Az] at hs2;cases A with
 |nil=>
  refine ⟨[],Rt _,rfl,?_⟩;refine Fz3 (N:=2) rfl ?_;simp only [By] at hb;have h1:¬a+1<b:=by omega
  have key:oy.ev S 2 [Ag (X++[]++Y), .i .i64 a, .i .i64 b, .f g caps]=some (.yld 0 [Ag (X++[]++Y)]):=by
   generalize X++[]++Y=s at*;refine F7 0 (fun _=>[.i .i64 (a+1),Ag s]) (fun _=> .yld 0 [Ag s]) ?_ (by omega) (fun i hi=>absurd hi (by omega)) ⟨?_,rfl⟩
   ·simp (disch:=omega) only [EVT,EVM,EVC,xe,EVP,EV,simprocAttr]
   ·simp (disch:=omega) only [Qc,I9,L3,h1,EVT,EVM,EVC,xe,EVP,EV,simprocAttr]
  generalize X++[]++Y=s at*;simp (disch:=omega) only [Qc,I9,L3,key,EVT,EVM,EVC,xe,EVP,EV,simprocAttr]
 |cons x0 A=>
  obtain ⟨N,hN⟩:∃N,N=A.length+3:=⟨_,rfl⟩;simp only [A0] at hb hs2;have key:=Hj (fn:=S) (N:=N) (η:=[Ag (X++x0::A++Y), .i .i64 a, .i .i64 b, .f g caps]) (id:=1) (init:=[.bin .add (.v 1) (.c (.i .i64 1)), .v 0]) (body:=Z5) (α:=List Rec×List Rec×List Rec)
   (fun w=>[.i .i64 (a+w.1.length),Ag (X++w.1++(w.2.2++Y))])
   (fun o=>∃R,Stab (leC c) R (x0::A)∧R.length=(x0::A).length∧o= .yld 0 [Ag (X++R++Y)])
   (fun w=>x0::A=w.2.1++w.2.2∧Stab (leC c) w.1 w.2.1∧w.1.length=w.2.1.length) (fun w=>w.2.2.length) ([x0],[x0],A) ?_ ⟨rfl,mf _ _,rfl⟩ (by simp only;omega) ?_
  ·obtain ⟨o,h1,R,h2,h3,rfl⟩:=key;refine ⟨R,h2,h3,?_⟩;refine Fz3 (N:=N) rfl ?_;have h4:oy.ev S N [Ag (X++x0::A++Y), .i .i64 a, .i .i64 b, .f g caps]=_:=h1;clear h1;generalize X++x0::A++Y=s at*;generalize X++R++Y=u at*;simp (disch:=omega) only [Qc,I9,L3,h4,EVT,EVM,EVC,xe,EVP,EV,simprocAttr]
  ·simp only [A0,By];have e:X++[x0]++(A++Y)=X++x0::A++Y:=by simp
   rw [e];have e1:a+((0+1:Nat):Int)=a+1:=by omega
   rw [e1];generalize X++x0::A++Y=s at*;simp (disch:=omega) only [EVT,EVM,EVC,xe,EVP,EV,simprocAttr]
  ·rintro ⟨R,D,Z⟩ ⟨h1,h2,h3⟩;simp only at h1 h2 h3;have hlen:=congrArg List.length h1;simp only [Az,A0] at hlen;cases Z with
   |nil=>
    right;rw [Dr] at h1;subst h1;refine ⟨_,?_,rfl,R,h2,h3,rfl⟩;have hlt:¬a+(R.length:Int)<b:=by simp only [A0] at h3;omega
    simp only [Cy];generalize X++x0::A++Y=s at*;have hu:(X++R++Y).length≤1000000:=by simp only [Az];omega
    generalize X++R++Y=u at*;simp (disch:=omega) only [Qc,I9,L3,hlt,EVT,EVM,EVC,xe,EVP,EV,simprocAttr]
   |cons x Z=>
    left;simp only [A0] at hlen;have hmem:∀y∈X++R++x::(Z++Y),P y:=fun y hy=>hP y (by
     rw [h1];have:=h2.mem ht y;simp only [Bg,An] at hy ⊢
     grind)
    have hlen2:(X++R++x::(Z++Y)).length≤1000000:=by simp only [Az,A0];omega
    obtain ⟨R1,R2,rfl,k1,k2,k3⟩:=Kb2 hC ht X R (Z++Y) x h2.sorted hmem hlen2 a (a+R.length) ha rfl (Ag (X++x0::A++Y)) (.i .i64 b) N (by omega);refine ⟨(R1++x::R2,D++[x],Z),?_,⟨by simp only;rw [h1];simp,Eg7 ht h2 k1 k2,by simp at h3 ⊢;omega⟩,by simp⟩;have e1:a+((R1++x::R2).length:Nat)=a+((R1++R2).length:Nat)+1:=by simp;omega
    have hlt:a+((R1++R2).length:Nat)<b:=by omega
    show Z5.ev S N [Ag (X++x0::A++Y), .i .i64 a, .i .i64 b, .f g caps, .i .i64 (a+((R1++R2).length:Nat)),Ag (X++(R1++R2)++x::(Z++Y))]=some (.yld 1 [.i .i64 (a+((R1++x::R2).length:Nat)),Ag (X++(R1++x::R2)++(Z++Y))]);rw [e1];have hb2:(R1++R2).length≤1000000:=by simp only [Az] at hlen2 ⊢;omega
    generalize (R1++R2).length=n at*;generalize X++(R1++R2)++x::(Z++Y)=s1 at*;generalize X++(R1++x::R2)++(Z++Y)=s2 at*;generalize X++x0::A++Y=s at*;simp (disch:=omega) only [Qc,I9,L3,hlt,k3,EVT,EVM,EVC,xe,EVP,EV,simprocAttr]
end
end Go.X.G
/- Stable sorting: the Nj. -/
namespace Go.X.G
open Go Go.X
theorem j5 {α:Type} {le:α→α→Bool} (ht:TP le) {bs:Nat} {Y LY:List α} (h:Blk le bs Y LY) (hl:Y.length≤2*bs) (hb:bs<Y.length):Stab le (mrg le (Y.take bs) (Y.drop bs)) LY:=by have h1:=h.head;have h2:=(h.tail).all (by rw [B4];omega);have:=Stab.mrg ht h1 h2;rwa [Br] at this
theorem Blk.pre {α:Type} {le:α→α→Bool} {bs k:Nat} {Y LY:List α} (h:Blk le bs Y LY):Blk le bs (Y.take (k*bs)) (LY.take (k*bs)):=by
 refine ⟨by simp [h.len],fun j=> ?_⟩;rw [List.drop_take,List.drop_take,Bq2,Bq2];by_cases hj:j<k
 ·have e:(j+1)*bs≤k*bs:=Bb _ hj;rw [Nat.succ_mul] at e;rw [Jz (by omega)];exact h.st j
 ·have e:k*bs≤j*bs:=Bb _ (by omega);rw [show k*bs - j*bs=0 by omega,Nat.min_eq_right (by omega),List.take_zero,List.take_zero];exact Rt le
section
variable {g:Nat} {caps:List PV} {c:Rec→Rec→Int} {P:Rec→Prop}
theorem Jh7 (hC:Cmp g caps c P) (ht:TP (leC c)) (l:List Rec) (hP:∀y∈l,P y) (hs:l.length≤1000000) (N:Nat) (hN:l.length+2<N):
  ∃(X LX Y:List Rec) (q:Nat),Cw7.ev S N [Ag l, .i .i64 l.length, .f g caps]=some (.yld 0 [.i .i64 X.length,Ag (X++Y)])∧l=LX++Y∧X.length=q*20∧Y.length<20∧Blk (leC c) 20 X LX∧∀y∈X++Y,P y:=by
 have key:=Hj (fn:=S) (N:=N) (η:=[Ag l, .i .i64 l.length, .f g caps]) (id:=1) (init:=[.c (.i .i64 0), .c (.i .i64 20), .v 0]) (body:=s9) (α:=List Rec×List Rec×List Rec×Nat)
  (fun w=>[.i .i64 (w.1.length:Int), .i .i64 ((w.1.length:Int)+20),Ag (w.1++w.2.2.1)])
  (fun o=>∃(X LX Y:List Rec) (q:Nat),o= .yld 0 [.i .i64 X.length,Ag (X++Y)]∧l=LX++Y∧X.length=q*20∧Y.length<20∧Blk (leC c) 20 X LX∧∀y∈X++Y,P y)
  (fun w=>l=w.2.1++w.2.2.1∧w.1.length=w.2.2.2*20∧Blk (leC c) 20 w.1 w.2.1∧∀y∈w.1++w.2.2.1,P y) (fun w=>w.2.2.1.length) ([],[],l,0) ?_ ⟨rfl,by simp,Blk.nil _ _,by simpa using hP⟩ (by simp only;omega) ?_
 ·obtain ⟨o,h1,X,LX,Y,q,rfl,h2⟩:=key;exact ⟨X,LX,Y,q,h1,h2⟩
 ·simp (disch:=omega) only [EVT,EVM,EVC,xe,EVP,EV,simprocAttr]
  try simp
 ·rintro ⟨X,LX,Y,q⟩ ⟨h1,h2,h3,h4⟩;simp only at h1 h2 h3 h4;have hlen:=congrArg List.length h1;simp only [Az] at hlen;have hXL:=h3.len;by_cases hge:20≤Y.length
  ·left;have eY:Y.take 20++Y.drop 20=Y:=Br _ _;have l1:(Y.take 20).length=20:=by rw [Ap];omega
   have l2:(Y.drop 20).length=Y.length - 20:=B4;have eXY:X++Y.take 20++Y.drop 20=X++Y:=by rw [As,eY]
   obtain ⟨R,k1,k2,k3⟩:=Wn hC ht X (Y.take 20) (Y.drop 20) (X.length:Int) ((X.length:Int)+20) rfl (by omega) (by rw [eXY];exact h4) (by rw [eXY,Az];omega);rw [eXY] at k3;refine ⟨(X++R,LX++Y.take 20,Y.drop 20,q+1),?_,⟨by simp only;rw [h1,As,eY],by simp only [Az];omega,Blk.app h2 h3 (Blk.one k1 k2 (by omega)),fun y hy=>h4 y ?_⟩,by simp only;omega⟩
   ·have e1:((X++R).length:Int)=(X.length:Int)+20:=by simp only [Az];omega
    have hge':(X.length:Int)+20≤(l.length:Int):=by omega
    simp only;rw [e1];generalize X++R++Y.drop 20=s1 at*;generalize X++Y=s0 at*;simp (disch:=omega) only [Qd,hge',k3,D4,K7,EVT,EVM,EVC,xe,EVP,EV,simprocAttr]
   ·have:=k1.mem ht y;simp only [Bg] at hy;rcases hy with (hy|hy)|hy
    ·simp [hy]
    ·exact Bs _ (Gc (this.1 hy))
    ·exact Bs _ (Ig hy)
  ·right;have hge':¬(X.length:Int)+20≤(l.length:Int):=by omega
   refine ⟨.yld 0 [.i .i64 X.length,Ag (X++Y)],?_,rfl,X,LX,Y,q,rfl,h1,h2,by omega,h3,h4⟩;simp only;generalize X++Y=s0 at*;simp (disch:=omega) only [Qd,hge',EVT,EVM,EVC,xe,EVP,EV,simprocAttr]
theorem Jh6 (hC:Cmp g caps c P) (ht:TP (leC c)) (l r:List Rec) (bs:Nat) (hbs:0<bs) (hbs2:bs<l.length) (hr:Blk (leC c) bs r l) (hP:∀y∈r,P y) (hs:l.length≤1000000) (w0:PV) (w3 w4 w5:PV) (N:Nat) (hN:l.length+2<N):
  ∃(X LX Y LY:List Rec) (q:Nat),Cq6.ev S N [w0, .i .i64 l.length, .f g caps,w3,w4,w5, .i .i64 bs,Ag r]=some (.yld 2 [.i .i64 X.length,Ag (X++Y)])∧l=LX++LY∧X.length=q*(2*bs)∧Y.length<2*bs∧Blk (leC c) (2*bs) X LX∧Blk (leC c) bs Y LY∧∀y∈X++Y,P y:=by
 have key:=Hj (fn:=S) (N:=N) (η:=[w0, .i .i64 l.length, .f g caps,w3,w4,w5, .i .i64 bs,Ag r]) (id:=3) (init:=[.c (.i .i64 0), .bin .mul (.c (.i .i64 2)) (.v 6), .v 7]) (body:=sk) (α:=(List Rec×List Rec)×(List Rec×List Rec)×Nat)
  (fun w=>[.i .i64 (w.1.1.length:Int), .i .i64 ((w.1.1.length:Int)+2*bs),Ag (w.1.1++w.2.1.1)])
  (fun o=>∃(X LX Y LY:List Rec) (q:Nat),o= .yld 2 [.i .i64 X.length,Ag (X++Y)]∧l=LX++LY∧X.length=q*(2*bs)∧Y.length<2*bs∧Blk (leC c) (2*bs) X LX∧Blk (leC c) bs Y LY∧∀y∈X++Y,P y)
  (fun w=>l=w.1.2++w.2.1.2∧w.1.1.length=w.2.2*(2*bs)∧Blk (leC c) (2*bs) w.1.1 w.1.2∧Blk (leC c) bs w.2.1.1 w.2.1.2∧∀y∈w.1.1++w.2.1.1,P y) (fun w=>w.2.1.1.length) (([],[]),(r,l),0) ?_ ⟨rfl,by simp,Blk.nil _ _,hr,by simpa using hP⟩ (by have:=hr.len;simp only;omega) ?_
 ·obtain ⟨o,h1,X,LX,Y,LY,q,rfl,h2⟩:=key;exact ⟨X,LX,Y,LY,q,h1,h2⟩
 ·simp (disch:=omega) only [EVT,EVM,EVC,xe,EVP,EV,simprocAttr];simp
 ·rintro ⟨⟨X,LX⟩,⟨Y,LY⟩,q⟩ ⟨h1,h2,h3,h4,h5⟩;simp only at h1 h2 h3 h4 h5;have hlen:=congrArg List.length h1;simp only [Az] at hlen;have hXL:=h3.len;have hYL:=h4.len;by_cases hge:2*bs≤Y.length
  ·left;have eY:Y.take (2*bs)++Y.drop (2*bs)=Y:=Br _ _;have l1:(Y.take (2*bs)).length=2*bs:=by rw [Ap];omega
   have l2:(Y.drop (2*bs)).length=Y.length - 2*bs:=B4;have hp:=h4.pre (k:=2);have hz:Blk (leC c) bs (Y.drop (2*bs)) (LY.drop (2*bs)):=by have:=h4.tail.tail;rwa [Cr,Cr,show bs+bs=2*bs by omega] at this
   have hst:=j5 ht hp (by omega) (by omega);have sA:((Y.take (2*bs)).take bs).Pairwise fun x y=>leC c x y=true:=hp.head.sorted;have sB:((Y.take (2*bs)).drop bs).Pairwise fun x y=>leC c x y=true:=(hp.tail.all (by rw [B4];omega)).sorted;have lA:((Y.take (2*bs)).take bs).length=bs:=by rw [Ap];omega
   have lB:((Y.take (2*bs)).drop bs).length=bs:=by rw [B4];omega
   have eAB:(Y.take (2*bs)).take bs++(Y.take (2*bs)).drop bs=Y.take (2*bs):=Br _ _;generalize (Y.take (2*bs)).take bs=A at*;generalize (Y.take (2*bs)).drop bs=B at*;have eXY:X++A++B++Y.drop (2*bs)=X++Y:=by rw [As X,eAB,As,eY]
   have hm:=Kw hC ht (A.length+B.length) X A B (Y.drop (2*bs)) (X.length:Int) ((X.length:Int)+bs) ((X.length:Int)+2*bs) (Af _) (by intro e;rw [e] at lA;simp at lA;omega) (by intro e;rw [e] at lB;simp at lB;omega) sA sB rfl (by omega) (by omega) (by rw [eXY,Az];omega) (by rw [eXY];exact h5);rw [eXY] at hm;have lM:=Tm (leC c) A B;have eL:LY.take (2*bs)++LY.drop (2*bs)=LY:=Br _ _;refine ⟨((X++mrg (leC c) A B,LX++LY.take (2*bs)),(Y.drop (2*bs),LY.drop (2*bs)),q+1),?_,⟨by simp only;rw [h1,As,eL],by simp only [Az];rw [Nat.succ_mul];omega,Blk.app h2 h3 (Blk.one hst (by rw [lM,Ap];omega) (by omega)),hz,fun y hy=>h5 y ?_⟩,by simp only;omega⟩
   ·have e1:((X++mrg (leC c) A B).length:Int)=(X.length:Int)+2*bs:=by simp only [Az];omega
    have hge':(X.length:Int)+2*(bs:Int)≤(l.length:Int):=by omega
    simp only;rw [e1];generalize X++mrg (leC c) A B++Y.drop (2*bs)=s1 at*;generalize X++Y=s0 at*;simp (disch:=omega) only [Qd,hge',hm,D4,K7,EVT,EVM,EVC,xe,EVP,EV,simprocAttr]
   ·rw [←eXY];simp only [Bg,mrg_mem] at hy ⊢
    grind
  ·right;have hge':¬(X.length:Int)+2*(bs:Int)≤(l.length:Int):=by omega
   refine ⟨.yld 2 [.i .i64 X.length,Ag (X++Y)],?_,rfl,X,LX,Y,LY,q,rfl,h1,h2,by omega,h3,h4,h5⟩;simp only;generalize X++Y=s0 at*;simp (disch:=omega) only [Qd,hge',EVT,EVM,EVC,xe,EVP,EV,simprocAttr]
theorem Jh8 (hC:Cmp g caps c P) (ht:TP (leC c)) (l r:List Rec) (bs:Nat) (hbs:0<bs) (hbs2:bs<l.length) (hr:Blk (leC c) bs r l) (hP:∀y∈r,P y) (hs:l.length≤1000000) (w0 w3 w4 w5:PV) (N:Nat) (hN:l.length+2<N):
  ∃r',Blk (leC c) (2*bs) r' l∧(∀y∈r',P y)∧Z4.ev S N [w0, .i .i64 l.length, .f g caps,w3,w4,w5, .i .i64 bs,Ag r]=some (.yld 1 [.i .i64 ((2*bs:Nat):Int),Ag r']):=by
 obtain ⟨X,LX,Y,LY,q,k,h1,h2,h3,h4,h5,h6⟩:=Jh6 hC ht l r bs hbs hbs2 hr hP hs w0 w3 w4 w5 N hN;have hlen:=congrArg List.length h1;simp only [Az] at hlen;have hXL:=h4.len;have hYL:=h5.len;have hlt:(bs:Int)<(l.length:Int):=by omega
 have e2:((2*bs:Nat):Int)=(bs:Int)*2:=by omega
 rw [e2];by_cases hge:bs<Y.length
 ·have eY:Y.take bs++Y.drop bs=Y:=Br _ _;have hst:=j5 ht h5 (by omega) hge;have sA:=h5.head.sorted;have sB:=(h5.tail.all (by rw [B4];omega)).sorted;have lA:(Y.take bs).length=bs:=by rw [Ap];omega
  have lB:(Y.drop bs).length=Y.length - bs:=B4;generalize Y.take bs=A at*;generalize Y.drop bs=B at*;have eXY:X++A++B++[]=X++Y:=by rw [Dr,As,eY]
  have hm:=Kw hC ht (A.length+B.length) X A B [] (X.length:Int) ((X.length:Int)+bs) (l.length:Int) (Af _) (by intro e;rw [e] at lA;simp at lA;omega) (by intro e;rw [e] at lB;simp at lB;omega) sA sB rfl (by omega) (by omega) (by rw [eXY,Az];omega) (by rw [eXY];exact h6);rw [eXY,Dr] at hm;have lM:=Tm (leC c) A B;refine ⟨X++mrg (leC c) A B,by rw [h1];exact Blk.app h2 h4 (Blk.one hst (by omega) (by omega)),fun y hy=>h6 y (by
   rw [←eXY];simp only [Bg,mrg_mem] at hy ⊢
   grind),?_⟩
  have hge':(X.length:Int)+(bs:Int)<(l.length:Int):=by omega
  generalize X++mrg (leC c) A B=s1 at*;generalize X++Y=s0 at*;simp (disch:=omega) only [Qd,hlt,hge',k,hm,D4,K7,EVT,EVM,EVC,xe,EVP,EV,simprocAttr]
 ·refine ⟨X++Y,by rw [h1];exact Blk.app h2 h4 (Blk.one (h5.all (by omega)) hYL (by omega)),h6,?_⟩;have hge':¬(X.length:Int)+(bs:Int)<(l.length:Int):=by omega
  generalize X++Y=s0 at*;simp (disch:=omega) only [Qd,hlt,hge',k,EVT,EVM,EVC,xe,EVP,EV,simprocAttr]
theorem By9 (hC:Cmp g caps c P) (ht:TP (leC c)) (l:List Rec) (hP:∀y∈l,P y) (hs:l.length≤1000000):
  ∃r,Stab (leC c) r l∧r.length=l.length∧S gn 1048579 [Ag l, .i .i64 l.length, .f g caps]=some [Ag r]:=by
 obtain ⟨N,hN⟩:∃N,N=l.length+3:=⟨_,rfl⟩;obtain ⟨X,LX,Y,q,k0,h1,h2,h3,h4,h5⟩:=Jh7 hC ht l hP hs N (by omega);have hlen:=congrArg List.length h1;simp only [Az] at hlen;have hXL:=h4.len;obtain ⟨R,i1,i2,i3⟩:=Wn hC ht X Y [] (X.length:Int) (l.length:Int) rfl (by omega) (by simpa using h5) (by simp;omega);simp only [Dr] at i3;have hB:Blk (leC c) 20 (X++R) l:=by rw [h1];exact Blk.app h2 h4 (Blk.one i1 i2 (by omega))
 have hP':∀y∈X++R,P y:=fun y hy=>h5 y (by
  have:=i1.mem ht y;simp only [Bg] at hy ⊢
  grind)
 have key:=Hj (fn:=S) (N:=N) (η:=[Ag l, .i .i64 l.length, .f g caps, .i .i64 X.length,Ag (X++Y),Ag (X++R)]) (id:=1) (init:=[.c (.i .i64 20), .v 5]) (body:=Z4) (α:=Nat×List Rec)
  (fun w=>[.i .i64 (w.1:Int),Ag w.2])
  (fun o=>∃r,Stab (leC c) r l∧r.length=l.length∧o= .yld 0 [Ag r])
  (fun w=>0<w.1∧Blk (leC c) w.1 w.2 l∧∀y∈w.2,P y) (fun w=>l.length - w.1) (20,X++R) ?_ ⟨by simp,hB,hP'⟩ (by simp only;omega) ?_
 ·obtain ⟨o,k1,r,k2,k3,rfl⟩:=key;refine ⟨r,k2,k3,?_⟩;refine If2 (N:=N) rfl ?_;have k4:Cv1.ev S N [Ag l, .i .i64 l.length, .f g caps, .i .i64 X.length,Ag (X++Y),Ag (X++R)]=_:=k1;clear k1;generalize X++Y=s0 at*;generalize X++R=s1 at*;simp (disch:=omega) only [Qd,k0,i3,k4,D4,K7,EVT,EVM,EVC,xe,EVP,EV,simprocAttr]
 ·generalize X++Y=s0 at*;generalize X++R=s1 at*;simp (disch:=omega) only [EVT,EVM,EVC,xe,EVP,EV,simprocAttr]
 ·rintro ⟨bs,r⟩ ⟨g1,g2,g3⟩;simp only at g1 g2 g3;have hr:=g2.len;by_cases hlt:bs<l.length
  ·left;obtain ⟨r',k1,k2,k3⟩:=Jh8 hC ht l r bs g1 hlt g2 g3 hs (Ag l) (.i .i64 X.length) (Ag (X++Y)) (Ag (X++R)) N (by omega);exact ⟨(2*bs,r'),k3,⟨by simp only;omega,k1,k2⟩,by simp only;omega⟩
  ·right;have hlt':¬(bs:Int)<(l.length:Int):=by omega
   refine ⟨.yld 0 [Ag r],?_,rfl,r,g2.all (by omega),hr,rfl⟩;generalize X++Y=s0 at*;generalize X++R=s1 at*;simp (disch:=omega) only [Qd,hlt',EVT,EVM,EVC,xe,EVP,EV,simprocAttr]
theorem Pq (hC:Cmp g caps c P) (ht:TP (leC c)) (l:List Rec) (hP:∀y∈l,P y) (hs:l.length≤1000000):
  ∃r,Stab (leC c) r l∧r.length=l.length∧S Bs1 1048578 [Ag l, .f g caps]=some [Ag r]:=by
 obtain ⟨r,h1,h2,h3⟩:=By9 hC ht l hP hs;refine ⟨r,h1,h2,?_⟩;refine Jm9 (N:=1) rfl ?_;simp (disch:=omega) only [Jd1,h3,D4,K7,EVT,EVM,EVC,xe,EVP,EV,simprocAttr]
end
end Go.X.G
/- Records compacted: the library's function. -/
namespace Go.X.G
open Go Go.X
theorem t7 (l:List Rec) (g:Nat) (caps:List PV) (eq2:Rec→Rec→Bool) (h:∀x∈l,∀y∈l,S g 2 (x.pv::y.pv::caps)=some [.b (eq2 x y)]) (hl:l.length≤1000000):S Bs0 1048578 [Ag l, .f g caps]=some [Ag (cpt eq2 l)]:=by
 refine Jm7 (N:=l.length+2) rfl ?_;by_cases h2:(l.length:Int)<2
 ·have e:cpt eq2 l=l:=by
   match l,h2 with
   |[],_=>rfl
   |[x],_=>rfl
   |_::_::_,h=>simp at h;omega
  rw [e];simp (disch:=omega) only [Xc,h2,EVT,EVM,EVC,xe,EVP,EV,simprocAttr]
 ·-- the inner Gj, from a place where two neighbours are equal
  have inner:∀k:Nat,1≤k→k<l.length→cpt eq2 (l.take (k+1))=l.take k→∃s:List Rec,s.length=l.length∧s.take (cpt eq2 l).length=cpt eq2 l∧Fb4.ev S (l.length+2) [Ag l, .f g caps, .i .i64 (k:Int),Ag l, .b true]=some (.yld 2 [.i .i64 ((cpt eq2 l).length:Int),Ag s]):=by
   intro k hk1 hk hcp;have key:=Hj (fn:=S) (N:=l.length+2) (η:=[Ag l, .f g caps, .i .i64 (k:Int),Ag l, .b true]) (id:=3) (init:=[(.v 2),(.c (.i .i64 (1))),(.v 3)]) (body:=Ds8) (α:=Nat×Nat×List Rec)
    (fun a=>[.i .i64 (a.1:Int), .i .i64 (a.2.1:Int),Ag a.2.2])
    (fun o=>∃s:List Rec,s.length=l.length∧s.take (cpt eq2 l).length=cpt eq2 l∧o= .yld 2 [.i .i64 ((cpt eq2 l).length:Int),Ag s])
    (fun a=>1≤a.2.1∧k+a.2.1≤l.length∧a.1<k+a.2.1∧a.2.2.length=l.length∧a.2.2.take a.1=cpt eq2 (l.take (k+a.2.1))∧(cpt eq2 (l.take (k+a.2.1))).length=a.1∧a.2.2.drop (k+a.2.1 - 1)=l.drop (k+a.2.1 - 1))
    (fun a=>l.length - a.2.1) (k,1,l) (by simp (disch:=omega) only [EVT,EVM,EVC,xe,EVP,EV,simprocAttr])
    ⟨by simp,by simp;omega,by simp,rfl,by simp only;rw [hcp],by simp only;rw [hcp,Ap];omega,rfl⟩ (by simp only;omega) ?_
   ·obtain ⟨o,h3,s,h4,h5,rfl⟩:=key;exact ⟨s,h4,h5,h3⟩
   ·rintro ⟨i,j,s⟩ ⟨a1,a2,a3,a4,a5,a6,a7⟩;simp only at a1 a2 a3 a4 a5 a6 a7;by_cases hj:k+j<l.length
    ·left;have c1:s[k+j]? =l[k+j]? :=by have:=congrArg (fun q=>q[1]?) a7;simp only [A8] at this;rwa [show k+j - 1+1=k+j by omega] at this
     have c0:s[k+j - 1]? =l[k+j - 1]? :=by have:=congrArg (fun q=>q[0]?) a7;simpa only [A8,Dv] using this
     have g1:l[k+j]? =some (l[k+j]'hj):=Ab hj;have g0:l[k+j - 1]? =some (l[k+j - 1]'(by omega)):=Ab (by omega);have tk:l.take (k+(j+1))=l.take (k+j)++[l[k+j]'hj]:=by rw [show k+(j+1)=(k+j)+1 by omega,Cz,g1];rfl
     have ne:l.take (k+j)≠[]:=by intro h;have:=congrArg List.length h;rw [Ap,By] at this;omega
     have gl:(l.take (k+j)).getLast ne=l[k+j - 1]'(by omega):=by rw [I6];simp only [uk,Ap];congr 1;omega
     have cs:=Mp eq2 (l[k+j]'hj) (l.take (k+j)) ne;rw [←tk,gl] at cs;have hc:=h (l[k+j]'hj) (Dy _) (l[k+j - 1]'(by omega)) (Dy _);generalize l[k+j]'hj=x at*;generalize l[k+j - 1]'(by omega)=y at*;have hjj:(j:Int)<(s.length:Int) - (k:Int):=by omega
     have i1:Gt 16 (Ag s) (.i .i64 ((k:Int)+(j:Int)))=some x.pv:=by rw [Jv _ _ _ (by omega),show ((k:Int)+(j:Int)).toNat=k+j by omega,c1,g1];rfl
     have i0:Gt 16 (Ag s) (.i .i64 ((k:Int)+((j:Int) - 1)))=some y.pv:=by rw [Jv _ _ _ (by omega),show ((k:Int)+((j:Int) - 1)).toNat=k+j - 1 by omega,c0,g0];rfl
     have ls:G9 16 (Ag s) (.i .i64 (k:Int)) (.i .i64 (s.length:Int))=some (Ag (s.drop k)):=by rw [G8 _ _ _ _ _ (by omega) (by omega) (by omega)];simp
     have e1:(s.drop k)[j]? =some x:=by rw [A8,c1,g1]
     have e0:(s.drop k)[j - 1]? =some y:=by rw [A8,show k+(j - 1)=k+j - 1 by omega,c0,g0]
     have si:∃w,s[i]? =some w:=⟨_,Ab (by omega)⟩;obtain ⟨w,si⟩:=si;have ej:((j:Int) - 1).toNat=j - 1:=by omega
     by_cases hxy:eq2 x y=true
     ·refine ⟨(i,j+1,s),?_,⟨by simp,by simp only;omega,by simp only;omega,a4,?_,?_,?_⟩,by simp only;omega⟩
      ·simp (disch:=omega) only [Xc,hjj,i1,i0,ls,e1,e0,ej,hc,hxy,EVT,EVM,EVC,xe,EVP,EV,simprocAttr]
      ·simp only;rw [cs,a5];simp [hxy]
      ·simp only;rw [cs,Az,a6];simp [hxy]
      ·simp only;rw [show k+(j+1) - 1=(k+j - 1)+1 by omega,←Cr,←Cr,a7]
     ·refine ⟨(i+1,j+1,s.set i x),?_,⟨by simp,by simp only;omega,by simp only;omega,by simpa using a4,?_,?_,?_⟩,by simp only;omega⟩
      ·simp (disch:=omega) only [Xc,hjj,i1,i0,ls,e1,e0,ej,si,hc,hxy,EVT,EVM,EVC,xe,EVP,EV,simprocAttr]
      ·simp only;rw [cs,Cz,List.getElem?_set_self (by omega),List.take_set_of_le (by omega),a5];simp [hxy]
      ·simp only;rw [cs,Az,a6];simp [hxy]
      ·simp only;rw [show k+(j+1) - 1=(k+j - 1)+1 by omega,Rn (by omega),←Cr,←Cr,a7]
    ·right;have ek:k+j=l.length:=by omega
     rw [ek,C8] at a5 a6;have hjj:¬(j:Int)<(s.length:Int) - (k:Int):=by omega
     refine ⟨.yld 2 [.i .i64 (i:Int),Ag s],?_,rfl,s,a4,by rw [a6];exact a5,by rw [a6]⟩;simp (disch:=omega) only [Xc,hjj,EVT,EVM,EVC,xe,EVP,EV,simprocAttr]
  have key:Fb9.ev S (l.length+2) [Ag l, .f g caps]=some (if cpt eq2 l=l then .yld 0 [Ag l] else .ret [Ag (cpt eq2 l)]):=by
   have:=Hj (fn:=S) (N:=l.length+2) (η:=[Ag l, .f g caps]) (id:=1) (init:=[(.c (.i .i64 (1))),(.v 0)]) (body:=Dt1) (α:=Nat)
    (fun k=>[.i .i64 (k:Int),Ag l]) (fun o=>o=if cpt eq2 l=l then .yld 0 [Ag l] else .ret [Ag (cpt eq2 l)])
    (fun k=>1≤k∧k≤l.length∧cpt eq2 (l.take k)=l.take k) (fun k=>l.length - k) 1 (by simp (disch:=omega) only [EVT,EVM,EVC,xe,EVP,EV,simprocAttr])
    ⟨Af 1,by omega,by cases l with
     |nil=>simp at h2
     |cons x r=>rfl⟩ (by omega) ?_
   ·obtain ⟨o,h3,h4⟩:=this;rw [←h4];exact h3
   ·rintro k ⟨k1,k2,k3⟩;by_cases hk:k<l.length
    ·have g1:l[k]? =some l[k]:=Ab hk;have g0:l[k - 1]? =some (l[k - 1]'(by omega)):=Ab (by omega);have tk:l.take (k+1)=l.take k++[l[k]]:=by rw [Cz,g1];rfl
     have ne:l.take k≠[]:=by intro h;have:=congrArg List.length h;rw [Ap,By] at this;omega
     have gl:(l.take k).getLast ne=l[k - 1]'(by omega):=by rw [I6];simp only [uk,Ap];congr 1;omega
     have cs:=Mp eq2 l[k] (l.take k) ne;rw [←tk,gl,k3] at cs;have hkk:(k:Int)<(l.length:Int):=by omega
     have i1:Gt 16 (Ag l) (.i .i64 (k:Int))=some (l[k]).pv:=by rw [Jv _ _ _ (by omega),show ((k:Int)).toNat=k by omega,g1];rfl
     have i0:Gt 16 (Ag l) (.i .i64 ((k:Int) - 1))=some (l[k - 1]'(by omega)).pv:=by rw [Jv _ _ _ (by omega),show ((k:Int) - 1).toNat=k - 1 by omega,g0];rfl
     have hc:=h l[k] (Dy _) (l[k - 1]'(by omega)) (Dy _);by_cases hxy:eq2 l[k] (l[k - 1]'(by omega))=true
     ·right;have cs':cpt eq2 (l.take (k+1))=l.take k:=by rw [cs];simp [hxy]
      obtain ⟨s,s1,s2,s3⟩:=inner k k1 hk cs';have hlt:cpt eq2 l≠l:=by
       intro h;have q:(cpt eq2 l).length≤(cpt eq2 (l.take (k+1))).length+(l.drop (k+1)).length:=by
        have:∀(b a:List Rec),a≠[]→(cpt eq2 (a++b)).length≤(cpt eq2 a).length+b.length:=by
         intro b
         induction b with
         |nil=>intro a _;simp
         |cons x r ih=>
          intro a ha;have h1:=ih (a++[x]) (by simp);rw [Mp _ _ _ ha] at h1;rw [show a++x::r=a++[x]++r by simp];refine Cd h1 ?_;rw [Az];split<;>simp<;>omega
        have h3:=this (l.drop (k+1)) (l.take (k+1)) (by intro h;have:=congrArg List.length h;rw [Ap,By] at this;omega);rwa [Br] at h3
       rw [h,cs',Ap,B4] at q;omega
      have hlen:=Zd eq2 l;refine ⟨.ret [Ag (cpt eq2 l)],?_,rfl,by rw [if_neg hlt]⟩;generalize cpt eq2 l=fl at*;have ls:G9 16 (Ag l) (.i .i64 (k:Int)) (.i .i64 (l.length:Int))=some (Ag (l.drop k)):=by rw [G8 _ _ _ _ _ (by omega) (by omega) (by omega)];simp
      have hsl1:G9 16 (Ag s) (.i .i64 ((fl.length:Nat):Int)) (.i .i64 (s.length:Int))=some (Ag (s.drop fl.length)):=by rw [G8 _ _ _ _ _ (by omega) (by omega) (by omega)];simp
      have hsl2:G9 16 (Ag s) (.i .i64 0) (.i .i64 ((fl.length:Nat):Int))=some (Ag fl):=by rw [G8 _ _ _ _ _ (by omega) (by omega) (by omega)];simp [s2]
      have hrep:K8 16 (.i .i64 ((s.length:Int) - (fl.length:Int))) uv=some (Ag (List.replicate (s.length - fl.length) zr)):=by rw [yp _ (by omega) (by omega)];congr 3;omega
      have happ:H7 16 (Ag fl) (Ag (List.replicate (s.length - fl.length) zr))=some (Ag (fl++List.replicate (s.length - fl.length) zr)):=Ix _ _ (by simp;omega);have hsl3:G9 16 (Ag (fl++List.replicate (s.length - fl.length) zr)) (.i .i64 0) (.i .i64 ((fl.length:Nat):Int))=some (Ag fl):=by rw [G8 _ _ _ _ _ (by omega) (by omega) (by simp;omega)];simp
      simp (disch:=omega) only [Xc,hkk,i1,i0,hc,hxy,ls,s3,hsl1,hsl2,hrep,happ,hsl3,EVT,EVM,EVC,xe,EVP,EV,simprocAttr]
     ·left;refine ⟨k+1,?_,⟨by omega,by omega,?_⟩,by omega⟩
      ·simp (disch:=omega) only [Xc,hkk,i1,i0,hc,hxy,EVT,EVM,EVC,xe,EVP,EV,simprocAttr]
      ·rw [cs,tk];simp [hxy]
    ·right;have e:k=l.length:=by omega
     subst e;rw [C8] at k3;refine ⟨_,?_,?_,rfl⟩
     ·rw [if_pos k3];simp (disch:=omega) only [Xc,EVT,EVM,EVC,xe,EVP,EV,simprocAttr]
     ·rw [if_pos k3];rfl
  by_cases hh:cpt eq2 l=l
  ·rw [if_pos hh] at key;rw [hh];simp (disch:=omega) only [Xc,h2,key,EVT,EVM,EVC,xe,EVP,EV,simprocAttr]
  ·rw [if_neg hh] at key;simp (disch:=omega) only [Xc,h2,key,EVT,EVM,EVC,xe,EVP,EV,simprocAttr]
end Go.X.G
/- Lists of records in the program: which are valid, their order, their sorting. -/
namespace Go.X.G
open Go Go.X
theorem Ek5 (r:Rec) (h:r.wf):S Bt4 1 [r.pv]=some [.b (Pl r)]:=by
 refine Js0 (N:=1) rfl ?_;have g:r.name.length≤9223372036854775807:=h.name;have h1:=B5 r.name g;have h2:=C1 r.typ;have h3:=V0 r.typ r.data h.data;unfold Pl;by_cases k0:0≤r.ttl<;>by_cases k1:r.ttl≤2147483647
 all_goals rcases ch3 (vld r.name) (knw r.typ) (Ey r.typ r.data) with e0|⟨e0,e1⟩|⟨e0,e1,e2⟩|⟨e0,e1,e2⟩
 all_goals simp only [*] at h1 h2 h3
 all_goals simp (disch:=omega) only [Jf1,Y5,Fq,h1,h2,h3,EVC,xe,EVP,EV,simprocAttr, *]
 all_goals simp
theorem Gs8 (x:Int):S Wk 1 [.i .i64 x]=some [.b false]:=by refine Ic1 (N:=1) rfl ?_;simp (disch:=omega) only [Ik5,EVC,xe,EVP,EV,simprocAttr]
theorem Eq2 (a b:Int):S Wb 2 [.i .i64 a, .i .i64 b]=some [.i .i64 (Aq3 a b)]:=by
 refine If1 (N:=1) rfl ?_;have h1:=Gs8 a;have h2:=Gs8 b;unfold Aq3;by_cases k1:a<b
 ·simp (disch:=omega) only [Bw9,h1,h2,k1,EVC,xe,EVP,EV,simprocAttr]
 ·by_cases k2:b<a
  ·simp (disch:=omega) only [Bw9,h1,h2,k1,k2,EVC,xe,EVP,EV,simprocAttr]
  ·simp (disch:=omega) only [Bw9,h1,h2,k1,k2,EVC,xe,EVP,EV,simprocAttr]
theorem zj (a b:Rec) (ha:a.wf) (hb:b.wf):S Am5 2 [a.pv,b.pv]=some [.i .i64 (Ut a b)]:=by
 refine Jm5 (N:=1) rfl ?_;have g1:a.name.length≤9223372036854775807:=ha.name;have g2:b.name.length≤9223372036854775807:=hb.name;have h1:=Un a.name b.name g1 g2;have h2:=Eq2 a.typ b.typ;have h3:=t6 a.typ a.data b.data ha.data hb.data;unfold Ut;by_cases k1:Jm a.name b.name=0
 ·by_cases k2:Aq3 a.typ b.typ=0
  ·rw [k1] at h1;rw [k2] at h2;simp (disch:=omega) only [Gt4,Y5,Fq,h1,h2,h3,EVC,xe,EVP,EV,simprocAttr];simp [k1,k2]
  ·rw [k1] at h1;simp (disch:=omega) only [Gt4,h1,h2,k2,EVC,xe,EVP,EV,simprocAttr];simp [k1,k2]
 ·simp (disch:=omega) only [Gt4,h1,k1,EVC,xe,EVP,EV,simprocAttr]
theorem tg (a b:Rec) (ha:a.wf) (hb:b.wf):S Am7 2 [a.pv,b.pv]=some [.i .i64 (Hg2 a b)]:=by
 refine Jm8 (N:=1) rfl ?_;have h1:=zj a b ha hb;have h2:=Eq2 a.ttl b.ttl;unfold Hg2;by_cases k1:Ut a b=0
 ·rw [k1] at h1;simp (disch:=omega) only [Ij6,h1,h2,EVC,xe,EVP,EV,simprocAttr];simp [k1]
 ·simp (disch:=omega) only [Ij6,h1,k1,EVC,xe,EVP,EV,simprocAttr]
theorem Jy0:Cmp Am7 [] Hg2 Rec.wf:=⟨fun x y hx hy=>tg x y hx hy⟩
theorem Es1:leC Hg2=leR:=rfl
theorem Fw5 (a b:Rec) (ha:a.wf) (hb:b.wf):S Am6 2 [a.pv,b.pv]=some [.b (eqF a b)]:=by refine Jm6 (N:=1) rfl ?_;have h1:=zj a b ha hb;simp (disch:=omega) only [Jd0,h1,EVC,xe,EVP,EV,simprocAttr]
theorem Fw4 (l:List Rec) (hw:∀r∈l,r.wf) (hl:l.length≤1000000):S Bt2 1 [Ag l]=some [Ag (sortR l)]:=by refine Jr8 (N:=1) rfl ?_;have h0:=kg l hl;obtain ⟨r,h1,h2,h3⟩:=Pq Jy0 (by rw [Es1];exact Jb0) l hw hl;rw [Es1] at h1;have hm:=h1.mem Jb0;have h4:=t7 r Am6 [] eqF (fun x hx y hy=>Fw5 x y (hw x ((hm x).1 hx)) (hw y ((hm y).1 hy))) (by omega);rw [yf h1] at h4;simp (disch:=omega) only [Jf0,h0,h3,h4,D4,K7,EVT,EVM,EVC,xe,EVP,EV,simprocAttr]
end Go.X.G
/- Delegations and names of a zone, as the program finds them. -/
namespace Go.X.G
open Go Go.X
theorem Hf7 {z:Zone} {n b:List UInt8} {c:Rec} (hI:b=[]∨under n b=true):(if (Dq z c && under n c.name && (decide (b=[])||decide ((lbl c.name).length<(lbl b).length)))=true then c.name else b)=[]∨under n (if (Dq z c && under n c.name && (decide (b=[])||decide ((lbl c.name).length<(lbl b).length)))=true then c.name else b)=true:=by
 split
 ·rename_i h;simp only [Aw] at h;exact .inr h.1.2
 ·exact hI
theorem Bq9 (z:Zone) (n:List UInt8) (hz:z.wf) (hl:z.recs.length≤1000000) (hn:n.length≤9223372036854775807):S An9 2 [z.pv, .s n]=some [.s (cutN z n), .b (decide (cutN z n≠[]))]:=by
 refine Jr4 (N:=z.recs.length+1) rfl ?_;have g1:=hz.origin;unfold Jl at g1;have key:Fd2.ev S (z.recs.length+1) [z.pv, .s n]=some (.yld 0 [.s (lf z n [] z.recs)]):=by
  refine Ex z.recs (fun i (b:List UInt8)=>[.s b, .i .i64 (i:Int)]) (fun i b r=> .yld 0 [.s (lf z n b r)]) (fun i b=>b=[]∨under n b=true) [] rfl (.inl rfl) (by omega) (fun i b c r hd hi hc hI=> ?_) (fun b hI=> ?_)
  ·left;have g2:=(hz.recs.2 c (A6 hc)).name;unfold Jl at g2;refine ⟨if Dq z c && under n c.name && (decide (b=[])||decide ((lbl c.name).length<(lbl b).length)) then c.name else b,?_,Hf7 hI,rfl⟩;by_cases h1:c.typ=2
   ·by_cases h2:c.name=z.origin
    ·simp (disch:=omega) only [Xf,hc,h1,h2,EVM,EVC,xe,EVP,EV,simprocAttr];simp [Dq,Ew,h2]
    ·have k1:=D5 c.name z.origin g2 g1;have k2:=D5 n c.name hn g2;rcases Aq (under c.name z.origin) with h3|h3
     ·rcases Aq (under n c.name) with h4|h4
      ·by_cases h5:b=[]
       ·rw [h3] at k1;rw [h4] at k2;simp (disch:=omega) only [Xf,hc,h1,h2,h3,h4,h5,k1,k2,EVM,EVC,xe,EVP,EV,simprocAttr];simp [Dq,Ew,h1,h2,h3,h4,h5]
       ·have hb:=hI.resolve_left h5;have e:=Ek4 h4 hb;rw [h3] at k1;rw [h4] at k2;by_cases h6:c.name.length<b.length
        ·have h7:=e.1 h6;have h8:(c.name.length:Int)<(b.length:Int):=by omega
         simp (disch:=omega) only [Xf,hc,h1,h2,h3,h4,h5,h8,k1,k2,EVM,EVC,xe,EVP,EV,simprocAttr];simp [Dq,Ew,h1,h2,h3,h4,h5,h7]
        ·have h7:¬(lbl c.name).length<(lbl b).length:=fun q=>h6 (e.2 q);have h8:¬(c.name.length:Int)<(b.length:Int):=by omega
         simp (disch:=omega) only [Xf,hc,h1,h2,h3,h4,h5,h8,k1,k2,EVM,EVC,xe,EVP,EV,simprocAttr];simp [Dq,Ew,h1,h2,h3,h4,h5,h7]
      ·rw [h3] at k1;rw [h4] at k2;simp (disch:=omega) only [Xf,hc,h1,h2,h3,h4,k1,k2,EVM,EVC,xe,EVP,EV,simprocAttr];simp [Dq,Ew,h1,h2,h3,h4]
     ·rw [h3] at k1;simp (disch:=omega) only [Xf,hc,h1,h2,h3,k1,EVM,EVC,xe,EVP,EV,simprocAttr];simp [Dq,Ew,h1,h2,h3]
   ·simp (disch:=omega) only [Xf,hc,h1,EVM,EVC,xe,EVP,EV,simprocAttr];simp [Dq,h1]
  ·simp (disch:=omega) only [Xf,EVM,EVC,xe,EVP,EV,simprocAttr];simp [lf,Out.goes]
 rw [show lf z n [] z.recs=cutN z n from rfl] at key;simp (disch:=omega) only [Xf,key,EVM,EVC,xe,EVP,EV,simprocAttr]
 try simp
def cutsN (z:Zone):List (List UInt8):=setN ((z.recs.filter (Dq z)).map Rec.name)
theorem jh (z:Zone) (x:List UInt8):x∈cutsN z↔∃r∈z.recs,Dq z r=true∧r.name=x:=by unfold cutsN;rw [My,Dd];simp only [Bf,and_assoc]
theorem Eh4 {l:List (List UInt8)} (h:∀x∈l,x.length≤9223372036854775807):∀x∈setN l,x.length≤9223372036854775807:=fun x hx=>h x ((My l x).1 hx)
theorem Ev9 (z:Zone) (hz:z.wf) (hl:z.recs.length≤1000000):S gv 1 [z.pv]=some [Bh (cutsN z)]:=by
 refine Id3 (N:=z.recs.length+1) rfl ?_;have g1:=hz.origin;unfold Jl at g1;have key:Cw6.ev S (z.recs.length+1) [z.pv]=some (.yld 0 [Bh ([]++(z.recs.filter (Dq z)).map Rec.name)]):=by
  refine Ex z.recs (fun i (b:List (List UInt8))=>[Bh b, .i .i64 (i:Int)]) (fun i b r=> .yld 0 [Bh (b++(r.filter (Dq z)).map Rec.name)]) (fun i b=>b.length≤i) [] rfl (Cc _) (by omega) (fun i b c r hd hi hc hI=> ?_) (fun b hI=> ?_)
  ·left;have g2:=(hz.recs.2 c (A6 hc)).name;unfold Jl at g2;refine ⟨if Dq z c then b++[c.name] else b,?_,by split<;>(try rw [Az,Df])<;>omega,by rcases Aq (Dq z c) with q|q<;>simp [q]⟩;by_cases h1:c.typ=2
   ·by_cases h2:c.name=z.origin
    ·simp (disch:=omega) only [Vg,hc,h1,h2,EVM,EVC,xe,EVP,EV,simprocAttr];simp [Dq,Ew,h2]
    ·have k1:=D5 c.name z.origin g2 g1;rcases Aq (under c.name z.origin) with h3|h3
     ·rw [h3] at k1;simp (disch:=omega) only [Vg,hc,h1,h2,h3,k1,EVM,EVC,xe,EVP,EV,simprocAttr];simp [Dq,Ew,h1,h2,h3]
     ·rw [h3] at k1;simp (disch:=omega) only [Vg,hc,h1,h2,h3,k1,EVM,EVC,xe,EVP,EV,simprocAttr];simp [Dq,Ew,h1,h2,h3]
   ·simp (disch:=omega) only [Vg,hc,h1,EVM,EVC,xe,EVP,EV,simprocAttr];simp [Dq,h1]
  ·simp (disch:=omega) only [Vg,EVM,EVC,xe,EVP,EV,simprocAttr];simp [Out.goes]
 rw [Cy] at key;have hlen:((z.recs.filter (Dq z)).map Rec.name).length≤1000000:=by rw [Eb];exact Cd (Cb _ _) hl
 have hw:∀x∈(z.recs.filter (Dq z)).map Rec.name,x.length≤9223372036854775807:=fun x hx=>by obtain ⟨r,hr,rfl⟩:=Dd.1 hx;exact (hz.recs.2 r (Bf.1 hr).1).name
 have k1:=aj _ hlen hw;have k2:=Ng (((z.recs.filter (Dq z)).map Rec.name).mergeSort fun x y=> !decide (Jm y x<0)) (by rw [lh];exact hlen);rw [show cpt eqs (((z.recs.filter (Dq z)).map Rec.name).mergeSort fun x y=> !decide (Jm y x<0))=cutsN z from rfl] at k2;generalize ((z.recs.filter (Dq z)).map Rec.name).mergeSort (fun x y=> !decide (Jm y x<0))=so at*;generalize (z.recs.filter (Dq z)).map Rec.name=un at*;simp (disch:=omega) only [Vg,key,k1,k2,D4,K7,EVM,EVC,xe,EVP,EV,simprocAttr]
theorem Bd0 (l:List Rec) (hl:l.length≤1000000) (hw:∀r∈l,r.wf):S gk 1 [Ag l]=some [Bh (setN (l.map Rec.name))]:=by
 refine Id2 (N:=l.length+1) rfl ?_;have key:Cw5.ev S (l.length+1) [Ag l]=some (.yld 0 [Bh ([]++l.map Rec.name)]):=by
  refine Ex l (fun i (b:List (List UInt8))=>[Bh b, .i .i64 (i:Int)]) (fun i b r=> .yld 0 [Bh (b++r.map Rec.name)]) (fun i b=>b.length≤i) [] rfl (Cc _) (by omega) (fun i b c r hd hi hc hI=> ?_) (fun b hI=> ?_)
  ·left;refine ⟨b++[c.name],?_,by simp;omega,by simp⟩;simp (disch:=omega) only [Bw7,hc,EVM,EVC,xe,EVP,EV,simprocAttr]
  ·simp (disch:=omega) only [Bw7,EVM,EVC,xe,EVP,EV,simprocAttr];simp [Out.goes]
 rw [Cy] at key;have hlen:(l.map Rec.name).length≤1000000:=by rw [Eb];exact hl
 have hw:∀x∈l.map Rec.name,x.length≤9223372036854775807:=fun x hx=>by obtain ⟨r,hr,rfl⟩:=Dd.1 hx;exact (hw r hr).name
 have k1:=aj _ hlen hw;have k2:=Ng ((l.map Rec.name).mergeSort fun x y=> !decide (Jm y x<0)) (by rw [lh];exact hlen);rw [show cpt eqs ((l.map Rec.name).mergeSort fun x y=> !decide (Jm y x<0))=setN (l.map Rec.name) from rfl] at k2;generalize setN (l.map Rec.name)=se at*;generalize (l.map Rec.name).mergeSort (fun x y=> !decide (Jm y x<0))=so at*;generalize l.map Rec.name=un at*;simp (disch:=omega) only [Bw7,key,k1,k2,D4,K7,EVM,EVC,xe,EVP,EV,simprocAttr]
theorem Ek7 (c owner:List UInt8) (hc:c.length≤9223372036854775807) (ho:owner.length≤9223372036854775807):S Wy 1 [.s c, .s owner]=some [.b (decide (c≠owner) && under owner c)]:=by
 refine Id1 (N:=1) rfl ?_;have k1:=D5 owner c ho hc;by_cases h:c=owner
 ·simp (disch:=omega) only [Fx3,h,EVM,EVC,xe,EVP,EV,simprocAttr];simp
 ·simp (disch:=omega) only [Fx3,h,k1,EVM,EVC,xe,EVP,EV,simprocAttr];simp
theorem Bq8 (z:Zone) (acc:List (List UInt8)) (n:List UInt8) (p1 p2 p3 p4 p5 p6:PV) (N:Nat) (hu:under n z.origin=true) (ha:acc.length≤1000000) (hN:1000<N) (hp2:Gt 1 p2 p4=some (.s n)):
  Cq7.ev S N [z.pv,p1,p2,Bh acc,p4,p5,p6]=some (.yld 2 [Bh (acc++upN z.origin n)]):=by
 obtain ⟨v1,v2,_⟩:=B0.1 hu;have hlb:=Ll n;have h0:jn ((lbl n).drop 0)=n:=og v1;have e0:upN z.origin n=(upN z.origin n).take ((lbl n).length - (lbl z.origin).length+1):=by rw [Ds];simp [upN]
 have:=F7 (fn:=S) (N:=N) (η:=[z.pv,p1,p2,Bh acc,p4,p5,p6]) (id:=3) (init:=[(.v 3),(.proj 0 (.idx 1 (.v 2) (.v 4)))]) (body:=Ds7) ((lbl n).length - (lbl z.origin).length) (fun k=>[Bh (acc++(upN z.origin n).take k), .s (jn ((lbl n).drop k))])
  (fun _=> .yld 2 [Bh (acc++upN z.origin n)]) ?_ (by omega) (fun k hk=> ?_) ?_
 ·exact this
 ·rw [h0];simp (disch:=omega) only [hp2,EVM,EVC,xe,EVP,EV,simprocAttr];simp
 ·left;obtain ⟨q1,q2⟩:=Bx4 hu hk;have q3:¬jn ((lbl n).drop k)=z.origin:=fun h=>by have:=(Vl hu (Nat.le_of_lt hk)).1 h;omega
  have q4:=Aj3 v1 k;have k1:=Qy (jn ((lbl n).drop k)) (by omega);rw [q1,q2] at k1;have q5:(upN z.origin n).take (k+1)=(upN z.origin n).take k++[jn ((lbl n).drop k)]:=by rw [Cz,Pm (Nat.le_of_lt hk)];rfl
  rw [q5,←As];have q6:(acc++(upN z.origin n).take k).length≤1000300:=by rw [Az,Ap];omega
  generalize acc++(upN z.origin n).take k=a at*;refine ⟨?_,rfl⟩;generalize jn ((lbl n).drop (k+1))=nx at*;generalize jn ((lbl n).drop k)=cu at*;simp (disch:=omega) only [l5,q3,k1,EVM,EVC,xe,EVP,EV,simprocAttr]
 ·have q3:=(Vl hu (Af _)).2 rfl;have q5:(upN z.origin n)=(upN z.origin n).take ((lbl n).length - (lbl z.origin).length)++[jn ((lbl n).drop ((lbl n).length - (lbl z.origin).length))]:=by have:=Cz (l:=upN z.origin n) (i:=(lbl n).length - (lbl z.origin).length);rw [Pm (Af _)] at this;rw [←e0] at this;exact this
  rw [q3] at q5 ⊢;have q6:(acc++(upN z.origin n).take ((lbl n).length - (lbl z.origin).length)).length≤1000300:=by rw [Az,Ap];omega
  refine ⟨?_,rfl⟩
  conv=>rhs;rw [q5,←As]
  generalize acc++(upN z.origin n).take ((lbl n).length - (lbl z.origin).length)=a at*;simp (disch:=omega) only [l5,EVM,EVC,xe,EVP,EV,simprocAttr]
theorem Fq2 (z:Zone) (owner:List UInt8):((cutsN z).any fun c=>decide (c≠owner) && under owner c)=Pz z owner:=by
 rw [Cn];unfold Pz;simp only [B6,Aw,decide_eq_true_eq,jh];constructor
 ·rintro ⟨x,⟨r,hr,h1,rfl⟩,h2,h3⟩;exact ⟨r,hr,⟨h1,h2⟩,h3⟩
 ·rintro ⟨r,hr,⟨h1,h2⟩,h3⟩;exact ⟨r.name,⟨r,hr,h1,rfl⟩,h2,h3⟩
def H5 (z:Zone) (n:List UInt8):Bool:=under n z.origin && !Pz z n
theorem bk (z:Zone) (hz:z.wf) (hl:z.recs.length≤1000):S Am3 1 [z.pv]=some [Bh (namesN z)]:=by
 refine Jl9 (N:=z.recs.length+1001) rfl ?_;have g1:=hz.origin;unfold Jl at g1;have k1:=Ev9 z hz (by omega);have k2:=Bd0 z.recs (by omega) (fun r hr=>hz.recs.2 r hr);have hol:(setN (z.recs.map Rec.name)).length≤z.recs.length:=by have:=X3 (z.recs.map Rec.name);rwa [Eb] at this
 have how:∀x∈setN (z.recs.map Rec.name),x.length≤9223372036854775807:=Eh4 fun x hx=>by obtain ⟨r,hr,rfl⟩:=Dd.1 hx;exact (hz.recs.2 r hr).name
 have hcl:(cutsN z).length≤1000000:=by have:=X3 ((z.recs.filter (Dq z)).map Rec.name);rw [Eb] at this;have h2:=Cb (Dq z) z.recs;show (setN ((z.recs.filter (Dq z)).map Rec.name)).length≤1000000;omega
 have hcw:∀x∈cutsN z,x.length≤9223372036854775807:=fun x hx=>by obtain ⟨r,hr,_,rfl⟩:=(jh z x).1 hx;exact (hz.recs.2 r hr).name
 have hmem:∀x,x∈((setN (z.recs.map Rec.name)).filter (H5 z)).flatMap (upN z.origin)↔Ff3 z x:=by
  intro x;unfold Ff3 H5;simp only [List.mem_flatMap,Bf,My,Dd,Aw,A9];constructor
  ·rintro ⟨o,⟨⟨r,hr,rfl⟩,h1,h2⟩,h3⟩;obtain ⟨h4,h5⟩:=(Nq h1).1 h3;exact ⟨r,hr,h1,h2,h4,h5⟩
  ·rintro ⟨r,hr,h1,h2,h4,h5⟩;exact ⟨r.name,⟨⟨r,hr,rfl⟩,h1,h2⟩,(Nq h1).2 ⟨h4,h5⟩⟩
 generalize hO:setN (z.recs.map Rec.name)=O at*;have key:Fb7.ev S (z.recs.length+1001) [z.pv,Bh (cutsN z),Bh O]=some (.yld 0 [Bh ([]++(O.filter (H5 z)).flatMap (upN z.origin))]):=by
  refine Ex O (fun i (b:List (List UInt8))=>[Bh b, .i .i64 (i:Int)]) (fun i b r=> .yld 0 [Bh (b++(r.filter (H5 z)).flatMap (upN z.origin))]) (fun i b=>b.length≤256*i) [] rfl (Cc _) (by omega) (fun i b c r hd hi hc hI=> ?_) (fun b hI=> ?_)
  ·left;have g2:=how c (A6 hc);have k3:=D5 c z.origin g2 g1;have hid:=Fq2 z c;rcases Aq (under c z.origin) with h1|h1
   ·have k4:=Rl (cutsN z) Wy [.s c] _ hcl (fun x hx=>Ek7 x c (hcw x hx) g2);rw [hid] at k4;rw [h1] at k3;rcases Aq (Pz z c) with h2|h2
    ·refine ⟨b,?_,by omega,by simp [H5,h1,h2]⟩;rw [h2] at k4;generalize cutsN z=cz at*;simp (disch:=omega) only [l5,hc,k3,k4,EVM,EVC,xe,EVP,EV,simprocAttr]
    ·have hu:=l9 z.origin c;refine ⟨b++upN z.origin c,?_,by rw [Az];omega,by simp [H5,h1,h2]⟩;rw [h2] at k4;have k5:∀p5 p6,Cq7.ev S (z.recs.length+1001) [z.pv,Bh (cutsN z),Bh O,Bh b, .i .i64 (i:Int),p5,p6]=some (.yld 2 [Bh (b++upN z.origin c)]):=fun p5 p6=>Bq8 z b c _ _ (Bh b) _ p5 p6 _ h1 (by omega) (by omega) (by rw [Ml _ _ _ (by omega)];simp [hc]);generalize b++upN z.origin c=b' at*;generalize cutsN z=cz at*;simp (disch:=omega) only [l5,hc,k3,k4,k5,EVM,EVC,xe,EVP,EV,simprocAttr]
   ·refine ⟨b,?_,by omega,by simp [H5,h1]⟩;rw [h1] at k3;generalize cutsN z=cz at*;simp (disch:=omega) only [l5,hc,k3,EVM,EVC,xe,EVP,EV,simprocAttr]
  ·generalize cutsN z=cz at*;simp (disch:=omega) only [l5,EVM,EVC,xe,EVP,EV,simprocAttr];simp [Out.goes]
 rw [Cy] at key;have hxl:((O.filter (H5 z)).flatMap (upN z.origin)).length≤256*O.length:=by
  have:∀l:List (List UInt8),(l.flatMap (upN z.origin)).length≤256*l.length:=by
   intro l
   induction l with
   |nil=>simp
   |cons x r ih=>
    have:=l9 z.origin x;rw [G2,Az,A0];omega
  refine Cd (this _) ?_;have:=Cb (H5 z) O;omega
 have hxw:∀x∈(O.filter (H5 z)).flatMap (upN z.origin),x.length≤9223372036854775807:=fun x hx=>by obtain ⟨r,hr,_,_,h4,_⟩:=(hmem x).1 hx;have:=Jb (B0.1 h4).2.1;omega
 have he:setN ((O.filter (H5 z)).flatMap (upN z.origin))=namesN z:=Ep5 z _ hmem;generalize (O.filter (H5 z)).flatMap (upN z.origin)=un at*;have k6:=aj un (by omega) hxw;have k7:=Ng (un.mergeSort fun x y=> !decide (Jm y x<0)) (by rw [lh];omega);rw [show cpt eqs (un.mergeSort fun x y=> !decide (Jm y x<0))=setN un from rfl,he] at k7;generalize un.mergeSort (fun x y=> !decide (Jm y x<0))=so at*;generalize namesN z=nz at*;generalize cutsN z=cz at*;simp (disch:=omega) only [l5,k1,k2,key,k6,k7,D4,K7,EVM,EVC,xe,EVP,EV,simprocAttr]
end Go.X.G
/- Zones in the program: what is asked of the records of one name. -/
namespace Go.X.G
open Go Go.X
abbrev ltC:List UInt8×Int→List UInt8×Int→Prop:=fun p q=>ltB p.1 q.1∨(p.1=q.1∧p.2<q.2)
theorem to_C:TO ltC:=Eq8.prod Iw6
def ltQ (a b:Ques):Prop:=ltC (a.name,a.typ) (b.name,b.typ)
theorem to_Q:TO ltQ where
 irr:=fun a=>to_C.irr _
 tr:=fun a b c=>to_C.tr _ _ _
 tri:=fun a b=>by
  rcases to_C.tri (a.name,a.typ) (b.name,b.typ) with h|h|h
  ·exact .inl h
  ·injection h with h1 h2;refine .inr (.inl ?_);cases a;cases b;simp only at h1 h2;rw [h1,h2]
  ·exact .inr (.inr h)
def pn (a b:Ques):Int:=if (Op.bytesLess a.name b.name||(decide (a.name=b.name) && decide (a.typ<b.typ)))=true then -1 else if a=b then 0 else 1
theorem Gp (a b:Ques):pn a b<0↔ltQ a b:=by
 unfold pn ltQ ltC;simp only;have e:(Op.bytesLess a.name b.name||(decide (a.name=b.name) && decide (a.typ<b.typ)))=true↔(ltB a.name b.name∨a.name=b.name∧a.typ<b.typ):=by simp only [Am,Aw,decide_eq_true_eq,Uf]
 by_cases h:ltB a.name b.name∨a.name=b.name∧a.typ<b.typ
 ·rw [if_pos (e.2 h)];simp [h]
 ·rw [if_neg (fun q=>h (e.1 q))];simp only [h,iff_false];split<;>omega
theorem pf (a b:Ques):S U8 2 [a.pv,b.pv]=some [.i .i64 (pn a b)]:=by
 refine Jn3 (N:=1) rfl ?_;unfold pn;rcases Aq (Op.bytesLess a.name b.name) with h1|h1
 ·simp (disch:=omega) only [Bv3,h1,EVM,EVC,xe,EVP,EV,simprocAttr];simp
 ·by_cases h2:a.name=b.name
  ·by_cases h3:a.typ<b.typ
   ·rw [h2] at h1;simp (disch:=omega) only [Bv3,h1,h2,h3,EVM,EVC,xe,EVP,EV,simprocAttr];simp
   ·rw [h2] at h1;by_cases h4:a=b
    ·simp (disch:=omega) only [Bv3,h1,h2,h3,EVM,EVC,xe,EVP,EV,simprocAttr];simp [h4]
    ·simp (disch:=omega) only [Bv3,h1,h2,h3,h4,EVM,EVC,xe,EVP,EV,simprocAttr];simp [h4]
  ·have h4:¬a=b:=fun e=>h2 (by rw [e]);simp (disch:=omega) only [Bv3,h1,h2,h4,EVM,EVC,xe,EVP,EV,simprocAttr];simp [h4]
def Ij (l:List Ques):PV:= .l 2 (l.map Ques.pv)
theorem Iq (l:List Ques):F4 (Ij l)=some (.i .i64 (l.length:Int)):=by simp [Ij,F4]
theorem Kl (l:List Ques) (k:IntKind) (z:Int) (h:0≤z):Gt 2 (Ij l) (.i k z)=(l[z.toNat]?).map Ques.pv:=by simp [Ij,Y0 _ _ _ _ h]
theorem Er3 (x:Ques):Jt 2 [x.pv]=some (Ij [x]):=rfl
theorem Ek1 (l:List Ques) (x:Ques) (h:l.length+1≤1073741824):H7 2 (Ij l) (Ij [x])=some (Ij (l++[x])):=by have:=Ul 2 (l.map Ques.pv) [x.pv] (by simpa using h);simpa [Ij] using this
def y9:PV→PV→Int
 | .a [.s a, .i _ t], .a [.s b, .i _ u]=>pn ⟨a,t⟩ ⟨b,u⟩
 |_,_=>0
theorem Fw3 (l:List Ques) (hl:l.length≤1000000):S nr 1048578 [Ij l, .f U8 []]=some [Ij (l.mergeSort fun x y=> !decide (pn y x<0))]:=by
 have hm:∀x∈l.map Ques.pv,∃a∈l,x=a.pv:=fun x hx=>by obtain ⟨a,h1,h2⟩:=Dd.1 hx;exact ⟨a,h1,h2.symm⟩
 have hc:∀a b:Ques,y9 a.pv b.pv=pn a b:=fun a b=>rfl;have h:=yg (tab:=tab) (xs:=Hc4) (ss:=U2) (f:=nr) (s:=Fz1) Ix3 Ix9 (g:=U8) (caps:=[]) (l:=l.map Ques.pv) (by decide) (by simp;omega)
  (fun x hx=>by obtain ⟨a,_,rfl⟩:=hm x hx;rfl) y9
  (fun x hx y hy=>by obtain ⟨a,ha,rfl⟩:=hm x hx;obtain ⟨b,hb,rfl⟩:=hm y hy;exact pf a b)
  (fun x hx=>by obtain ⟨a,_,rfl⟩:=hm x hx;rw [hc,Gp];exact to_Q.irr a)
  (fun x hx y hy z hz h1 h2=>by obtain ⟨a,_,rfl⟩:=hm x hx;obtain ⟨b,_,rfl⟩:=hm y hy;obtain ⟨c,_,rfl⟩:=hm z hz;rw [hc] at*;exact (Gp a c).2 (to_Q.tr _ _ _ ((Gp a b).1 h1) ((Gp b c).1 h2)))
  (fun x hx y hy z hz h1 h2=>by obtain ⟨a,_,rfl⟩:=hm x hx;obtain ⟨b,_,rfl⟩:=hm y hy;obtain ⟨c,_,rfl⟩:=hm z hz;rw [hc] at*;exact fun h3=>to_Q.ntr (fun q=>h1 ((Gp a b).2 q)) (fun q=>h2 ((Gp b c).2 q)) ((Gp a c).1 h3))
  (fun x hx y hy h1 h2=>by
   obtain ⟨a,_,rfl⟩:=hm x hx;obtain ⟨b,_,rfl⟩:=hm y hy;rw [hc] at*;rcases to_Q.tri a b with q|q|q
   ·exact absurd ((Gp a b).2 q) h1
   ·rw [q]
   ·exact absurd ((Gp b a).2 q) h2)
 have e:(l.map Ques.pv).mergeSort (fun x y=> !decide (y9 y x<0))=(l.mergeSort fun x y=> !decide (pn y x<0)).map Ques.pv:=(Jc5 (r:=fun x y=> !decide (pn y x<0)) (s:=fun x y=> !decide (y9 y x<0)) (f:=Ques.pv) fun a _ b _=>rfl).symm;rw [e] at h;exact h
def X6 (p:Option Ques) (n:Nat):List Ques→Bool
 |[]=>false
 |k::r=>if 64<(if p=some k then n+1 else 1) then true else X6 (some k) (if p=some k then n+1 else 1) r
theorem X5:∀(l:List Ques) (p:Ques) (n:Nat),(p::l).Pairwise (fun a b=>¬ltQ b a)→n≤64→(X6 (some p) n l=true↔(∃k,k≠p∧64<l.count k)∨64<n+l.count p)
 |[],p,n,_,hn=>by simp [X6];omega
 |k::r,p,n,hs,hn=>by
  obtain ⟨h1,h2⟩:=A5.1 hs;by_cases e:p=k
  ·subst e;by_cases hg:64<n+1
   ·simp only [X6,if_true,hg];refine ⟨fun _=> .inr ?_,fun _=>trivial⟩;rw [Gd];omega
   ·simp only [X6,if_true,hg,if_false];rw [X5 r p (n+1) h2 (by omega),Gd];constructor
    ·rintro (⟨q,q1,q2⟩|q)
     ·exact .inl ⟨q,q1,by rw [F0 (fun e=>q1 e.symm)];exact q2⟩
     ·exact .inr (by omega)
    ·rintro (⟨q,q1,q2⟩|q)
     ·exact .inl ⟨q,q1,by rw [F0 (fun e=>q1 e.symm)] at q2;exact q2⟩
     ·exact .inr (by omega)
  ·have e':¬(some p=some k):=fun q=>e (by injection q);simp only [X6,if_neg e',show¬64<1 by omega,if_false];rw [X5 r k 1 h2 (by omega)];have hlt:ltQ p k:=by
    rcases to_Q.tri p k with q|q|q
    ·exact q
    ·exact absurd q e
    ·exact absurd q (h1 k (.head _))
   have hno:∀y∈k::r,y≠p:=fun y hy q=>by
    subst q;rcases An.1 hy with q|hy
    ·exact e q
    ·exact (A5.1 h2).1 y hy hlt
   have h0:(k::r).count p=0:=Jc7.2 fun hm=>hno p hm rfl;have h0r:r.count p=0:=Jc7.2 fun hm=>hno p (.tail _ hm) rfl;rw [h0];constructor
   ·rintro (⟨q,q1,q2⟩|q)
    ·refine .inl ⟨q,fun w=>by rw [w,h0r] at q2;omega,?_⟩;rw [F0 (fun w=>q1 w.symm)];exact q2
    ·refine .inl ⟨k,fun w=>e w.symm,?_⟩;rw [Gd];omega
   ·rintro (⟨q,q1,q2⟩|q)
    ·by_cases w:q=k
     ·subst w;rw [Gd] at q2;exact .inr (by omega)
     ·rw [F0 (fun v=>w v.symm)] at q2;exact .inl ⟨q,w,q2⟩
    ·omega
theorem Eh8 (l:List Ques) (hs:l.Pairwise (fun a b=>¬ltQ b a)):X6 none 0 l=true↔∃k,64<l.count k:=by
 cases l with
 |nil=>simp [X6]
 |cons k r=>
  have e:¬((none:Option Ques)=some k):=by simp
  simp only [X6,if_neg e,show¬64<1 by omega,if_false];rw [X5 r k 1 hs (by omega)];constructor
  ·rintro (⟨q,q1,q2⟩|q)
   ·exact ⟨q,by rw [F0 (fun w=>q1 w.symm)];exact q2⟩
   ·exact ⟨k,by rw [Gd];omega⟩
  ·rintro ⟨q,q2⟩;by_cases w:q=k
   ·subst w;rw [Gd] at q2;exact .inr (by omega)
   ·rw [F0 (fun v=>w v.symm)] at q2;exact .inl ⟨q,w,q2⟩
def kyQ (r:Rec):Ques:=⟨r.name,r.typ⟩
def Q4 (l:List Rec):Bool:=X6 none 0 ((l.map kyQ).mergeSort fun x y=> !decide (pn y x<0))
theorem Zg (n:List UInt8) (t:Int):∀l:List Rec,(l.map kyQ).count ⟨n,t⟩=(findR l n t).length
 |[]=>rfl
 |r::l=>by
  have ih:=Zg n t l;unfold findR at ih ⊢;rw [F2,K5];by_cases h:isK n t r=true
  ·rw [if_pos h];unfold isK at h;simp only [Aw,decide_eq_true_eq] at h;have:kyQ r=⟨n,t⟩:=by unfold kyQ;rw [h.1,h.2]
   rw [this,Gd,ih,A0]
  ·rw [if_neg h];have:kyQ r≠⟨n,t⟩:=fun e=>h (by unfold kyQ at e;injection e with e1 e2;unfold isK;simp [e1,e2])
   rw [F0 this,ih]
theorem Hx9 (l:List Ques):(l.mergeSort fun x y=> !decide (pn y x<0)).Pairwise (fun a b=>¬ltQ b a):=by
 have:=List.pairwise_mergeSort (le:=fun x y:Ques=> !decide (pn y x<0)) (fun a b c h1 h2=>by
  simp only [A9,decide_eq_false_iff_not,Gp] at h1 h2 ⊢;exact to_Q.ntr h2 h1) (fun a b=>by
  simp only [Am,A9,decide_eq_false_iff_not,Gp];rcases to_Q.tri a b with h|h|h
  ·exact .inl (to_Q.asym h)
  ·subst h;exact .inl (to_Q.irr a)
  ·exact .inr (to_Q.asym h)) l
 refine this.imp fun {a b} h=> ?_;simpa only [A9,decide_eq_false_iff_not,Gp] using h
theorem At0 (l:List Rec):Q4 l= !(l.all fun r=>decide ((findR l r.name r.typ).length≤64)):=by
 rw [Cn];unfold Q4;rw [Eh8 _ (Hx9 _)];have hc:∀k,((l.map kyQ).mergeSort fun x y=> !decide (pn y x<0)).count k=(l.map kyQ).count k:=fun k=>(List.mergeSort_perm _ _).count_eq k;simp only [hc,A9,List.all_eq_false,decide_eq_true_eq];constructor
 ·rintro ⟨⟨n,t⟩,h⟩;rw [Zg] at h;have hp:0<(findR l n t).length:=by omega
  obtain ⟨x,hx⟩:=List.length_pos_iff_exists_mem.1 hp;obtain ⟨h3,h4⟩:=Bf.1 hx;unfold isK at h4;simp only [Aw,decide_eq_true_eq] at h4;exact ⟨x,h3,by rw [h4.1,h4.2];omega⟩
 ·rintro ⟨r,h1,h2⟩;exact ⟨kyQ r,by show 64<(l.map kyQ).count ⟨r.name,r.typ⟩;rw [Zg];omega⟩
theorem As9 (l:List Rec) (hl:l.length≤1000000):S Bt6 1 [Ag l]=some [.b (Q4 l)]:=by
 obtain ⟨N,hN⟩:∃N,N=l.length+1:=⟨_,rfl⟩;refine Js3 (N:=N) rfl ?_;have k0:Fd5.ev S N [Ag l]=some (.yld 0 [Ij (l.map kyQ)]):=by
  refine Fc l (fun i=>[Ij ((l.take i).map kyQ), .i .i64 (i:Int)]) (fun i r=> .yld 0 [Ij (l.map kyQ)]) rfl (by omega) (fun i c r hd hi hc=> ?_) ?_
  ·left;refine ⟨?_,rfl⟩;have e:(l.take (i+1)).map kyQ=(l.take i).map kyQ++[kyQ c]:=by rw [Cz,hc];simp
   have hsub:Jd 0 2 c.pv=some (kyQ c).pv:=rfl;have hlen:((l.take i).map kyQ).length≤1000000:=by rw [Eb,Ap];omega
   rw [e];generalize (l.take i).map kyQ=a at*;simp (disch:=omega) only [Xg,hc,hsub,Er3,Ek1,Iq,Kl,EVM,EVC,xe,EVP,EV,simprocAttr]
  ·refine ⟨?_,rfl⟩;have e:l.take l.length=l:=C8;simp (disch:=omega) only [Xg,e,Iq,Kl,EVM,EVC,xe,EVP,EV,simprocAttr]
 have hs:=Fw3 (l.map kyQ) (by simpa using hl);have hlen:((l.map kyQ).mergeSort fun x y=> !decide (pn y x<0)).length=l.length:=by simp
 unfold Q4;generalize ((l.map kyQ).mergeSort fun x y=> !decide (pn y x<0))=ks at*;have k1:Fb5.ev S N [Ag l,Ij (l.map kyQ),Ij ks]=some (if X6 none 0 ks=true then .ret [.b true] else .yld 0 []):=by
  refine Ex ks (fun i (g:Nat)=>[.i .i64 (g:Int), .i .i64 (i:Int)]) (fun i g r=>if X6 (if i=0 then none else ks[i - 1]?) g r=true then .ret [.b true] else .yld 0 []) (fun i g=>g≤64) 0 ?_ (by omega) (by omega) (fun i g c r hd hi hc hg=> ?_) (fun g hg=> ?_)
  ·simp (disch:=omega) only [EVC,xe,EVP,EV,simprocAttr]
  ·have hp:(if i=0 then none else ks[i - 1]?)=some c↔(0<i∧ks[i - 1]? =some c):=by
    by_cases h:i=0
    ·simp [h]
    ·simp [h];omega
   have hci:(if i+1=0 then none else ks[i+1 - 1]?)=some c:=by rw [if_neg (by omega),Lw,hc]
   have hsub:Jd 0 2 c.pv=some c.pv:=rfl;have eqq:∀x:Ques,Lj false true [.s,(.i .i64)] x.pv c.pv=some (.b (decide (x=c))):=fun x=>Kf9 false x c;by_cases hsame:0<i∧ks[i - 1]? =some c
   ·have hp':=hp.2 hsame;have hi0:(0:Int)<(i:Int):=by omega
    have ei:((i:Int) - 1).toNat=i - 1:=by omega
    have ei2:(i:Int).toNat=i:=by omega
    by_cases hgt:64<g+1
    ·right;have hgt':(64:Int)<(g:Int)+1:=by omega
     have er:X6 (if i=0 then none else ks[i - 1]?) g (c::r)=true:=by rw [hp'];simp [X6,hgt]
     rw [er];refine ⟨?_,rfl⟩;simp (disch:=omega) only [Xg,hc,hsame.2,hi0,ei,ei2,hgt',Iq,Kl,EVM,EVC,xe,EVP,EV,simprocAttr]
    ·left;have hgt':¬(64:Int)<(g:Int)+1:=by omega
     refine ⟨g+1,?_,by omega,?_⟩
     ·simp (disch:=omega) only [Xg,hc,hsame.2,hi0,ei,ei2,hgt',Iq,Kl,EVM,EVC,xe,EVP,EV,simprocAttr]
     ·rw [hp',hci];simp [X6,hgt]
   ·left;have hp':¬(if i=0 then none else ks[i - 1]?)=some c:=fun q=>hsame (hp.1 q);have ei:((i:Int) - 1).toNat=i - 1:=by omega
    have ei2:(i:Int).toNat=i:=by omega
    refine ⟨1,?_,by omega,?_⟩
    ·by_cases hi0:0<i
     ·have hi0':(0:Int)<(i:Int):=by omega
      obtain ⟨y,hy⟩:∃y,ks[i - 1]? =some y:=⟨_,Ab (by omega)⟩;have hyc:¬y=c:=fun q=>hsame ⟨hi0,by rw [hy,q]⟩;simp (disch:=omega) only [Xg,hc,hy,hyc,hi0',ei,ei2,Iq,Kl,EVM,EVC,xe,EVP,EV,simprocAttr]
     ·have hi0':¬(0:Int)<(i:Int):=by omega
      simp (disch:=omega) only [Xg,hc,hi0',ei2,Iq,Kl,EVM,EVC,xe,EVP,EV,simprocAttr]
    ·rw [hci];simp [X6,hp']
  ·refine ⟨?_,by simp [X6,Out.goes]⟩;have hlt:¬(ks.length:Int)<(ks.length:Int):=by omega
   simp (disch:=omega) only [Xg,hlt,Iq,Kl,EVM,EVC,xe,EVP,EV,simprocAttr];simp [X6]
 have hrep:∃p,K8 2 (.i .i64 (l.length:Int)) (Ques.pv ⟨[],0⟩)=some p:=by
  have h1:(l.length:Int)≤(LIM:Int):=by simp only [LIM];omega
  have h2:(Ques.pv ⟨[],0⟩).cells.length=2:=rfl;simp [K8,h1,h2]
 obtain ⟨p,hrep⟩:=hrep;rcases Aq (X6 none 0 ks) with h|h
 ·rw [h,if_pos rfl] at k1;rw [h];simp (disch:=omega) only [Xg,hrep,k0,hs,k1,Iq,D4,K7,EVM,EVC,xe,EVP,EV,simprocAttr]
 ·rw [h,if_neg (by simp)] at k1;rw [h];simp (disch:=omega) only [Xg,hrep,k0,hs,k1,Iq,D4,K7,EVM,EVC,xe,EVP,EV,simprocAttr]
end Go.X.G
/- Zones in the program: Check, the Nj. -/
namespace Go.X.G
open Go Go.X
theorem Bj6 (t:Int):S gz 1 [.i .i64 t]=some [.b (decide (t=6)||decide (t=5)||decide (t=39))]:=by
 refine Id8 (N:=1) rfl ?_;by_cases h1:t=6
 ·simp (disch:=omega) only [Bw8,h1,EVC,xe,EVP,EV,simprocAttr];simp
 ·by_cases h2:t=5
  ·simp (disch:=omega) only [Bw8,h2,EVC,xe,EVP,EV,simprocAttr];simp
  ·simp (disch:=omega) only [Bw8,h1,h2,EVC,xe,EVP,EV,simprocAttr];simp
theorem Ev5 (r:Rec) (t:Int):S Am4 1 [r.pv, .i .i64 t]=some [.b (decide (r.typ=t))]:=by refine Jm2 (N:=1) rfl ?_;simp (disch:=omega) only [Jc8,EVC,xe,EVP,EV,simprocAttr]
theorem Kk (g:List Rec) (t:Int) (hl:g.length≤1000000):S Oz 2 [Ag g, .i .i64 t]=some [.b (F5 g t)]:=by refine Jr5 (N:=1) rfl ?_;have h:=Gr g Am4 [.i .i64 t] (fun r=>decide (r.typ=t)) hl (fun r _=>Ev5 r t);simp (disch:=omega) only [Jd9,h,EVC,xe,EVP,EV,simprocAttr];rfl
def Jq (l:List Int):PV:= .l 1 (l.map (PV.i .i64))
theorem Of (l:List Int):F4 (Jq l)=some (.i .i64 (l.length:Int)):=by simp [Jq,F4]
theorem Y1 (l:List Int) (k:IntKind) (z:Int) (h:0≤z):Gt 1 (Jq l) (.i k z)=(l[z.toNat]?).map (PV.i .i64):=by simp [Jq,Y0 _ _ _ _ h]
theorem dp (l:List Int):Bt 0 (Jq l)=some (Jq l):=rfl
theorem Bb2 (l:List Int):H9 (Jq l)=some (Jq l):=rfl
theorem Ek9 (l:List Int) (x:Int) (hl:l.length≤1000000):∃k:Int,(0≤k↔x∈l)∧S f4 2 [Jq l, .i .i64 x]=some [.i .i64 k]:=by
 have go:∀(i:Nat) (l:List Int),∃k:Int,k=(match l.findIdx? (·=x) with|some j=>((i+j:Nat):Int)|none=> -1)∧(0≤k↔x∈l):=by
  intro i l;refine ⟨_,rfl,?_⟩;cases h:l.findIdx? (·=x) with
  |none=>
   rw [List.findIdx?_eq_none_iff] at h;simp only;constructor
   ·intro h2;omega
   ·intro h2;have:=h x h2;simp at this
  |some j=>
   simp only;constructor
   ·intro _;rw [List.findIdx?_eq_some_iff_getElem] at h;obtain ⟨h1,h2,_⟩:=h;simp at h2;rw [←h2];exact Dy _
   ·intro _;omega
 obtain ⟨k,hk,hk2⟩:=go 0 l;refine ⟨k,hk2,?_⟩;refine Ib7 (N:=l.length+1) rfl ?_;have key:Cw0.ev S (l.length+1) [Jq l, .i .i64 x]=some (match l.findIdx? (·=x) with|some j=> .ret [.i .i64 ((0+j:Nat):Int)]|none=> .yld 0 []):=by
  refine Fc l (fun i=>[.i .i64 (i:Int)]) (fun i r=>match r.findIdx? (·=x) with|some j=> .ret [.i .i64 ((i+j:Nat):Int)]|none=> .yld 0 []) rfl (by omega) (fun i c r hd hi hc=> ?_) ?_
  ·by_cases h:x=c
   ·right;subst h;simp (disch:=omega) only [bd,hc,Of,Y1,EVM,EVC,xe,EVP,EV,simprocAttr];simp [Jc6,Out.goes]
   ·left;have h':¬c=x:=fun e=>h e.symm;simp (disch:=omega) only [bd,hc,h,h',Of,Y1,EVM,EVC,xe,EVP,EV,simprocAttr];refine ⟨trivial,?_⟩;simp only [Jc6,h',decide_false,Ad,if_false];cases r.findIdx? (·=x) with
    |none=>rfl
    |some j=>simp;omega
  ·simp (disch:=omega) only [bd,Of,Y1,EVM,EVC,xe,EVP,EV,simprocAttr];simp [Out.goes]
 rw [hk];cases h:l.findIdx? (·=x) with
 |none=>
  rw [h] at key;simp (disch:=omega) only [bd,key,Of,EVM,EVC,xe,EVP,EV,simprocAttr]
 |some j=>
  rw [h] at key;simp (disch:=omega) only [bd,key,Of,EVM,EVC,xe,EVP,EV,simprocAttr]
theorem kf (l:List Int) (x:Int) (hl:l.length≤1000000):S gy 2 [Jq l, .i .i64 x]=some [.b (decide (x∈l))]:=by refine Id6 (N:=1) rfl ?_;obtain ⟨k,h1,h2⟩:=Ek9 l x hl;simp (disch:=omega) only [Iq3,h2,EVM,EVC,xe,EVP,EV,simprocAttr];simp [h1]
theorem Bq7 (r:Rec) (ts:List Int) (hl:ts.length≤1000000):S Wz 1 [r.pv,Jq ts]=some [.b (!decide (r.typ∈ts))]:=by refine Id7 (N:=1) rfl ?_;have h:=kf ts r.typ hl;simp (disch:=omega) only [Iq4,dp,h,EVC,xe,EVP,EV,simprocAttr]
theorem Xy (g:List Rec) (ts:List Int) (hl:g.length≤1000000) (ht:ts.length≤1000000):S U7 2 [Ag g,Jq ts]=some [.b (I4 g ts)]:=by
 refine Jm3 (N:=1) rfl ?_;have h:=Gr g Wz [Jq ts] (fun r=> !decide (r.typ∈ts)) hl (fun r _=>Bq7 r ts ht);have e:(!(g.any fun r=> !decide (r.typ∈ts)))=I4 g ts:=by unfold I4;rw [List.not_any_eq_all_not];simp
 rw [←e];generalize (g.any fun r=> !decide (r.typ∈ts))=b at*;simp (disch:=omega) only [Jc9,dp,Bb2,h,EVC,xe,EVP,EV,simprocAttr]
theorem lp (g:List Rec) (hl:g.length≤1000000):S Br9 1 [Ag g]=some [.b (Eq7 g)]:=by
 obtain ⟨N,hN⟩:∃N,N=g.length+2:=⟨_,rfl⟩;refine Jm4 (N:=N) rfl ?_;have key:Fb8.ev S N [Ag g]=some (if Eq7 g=true then .yld 0 [] else .ret [.b false]):=by
  cases g with
  |nil=>
   refine F7 0 (fun _=>[.i .i64 1]) (fun _=> .yld 0 []) ?_ (by omega) (fun i hi=>absurd hi (by omega)) ⟨?_,rfl⟩
   ·simp (disch:=omega) only [EVC,xe,EVP,EV,simprocAttr]
   ·have hlt:¬(1:Int)<(([]:List Rec).length:Int):=by simp
    simp (disch:=omega) only [Xb,hlt,EVC,xe,EVP,EV,simprocAttr]
  |cons p r=>
   have hlr:(p::r).length=r.length+1:=rfl;have:=Fc (fn:=S) (N:=N) (η:=[Ag (p::r)]) (id:=1) (init:=[.c (.i .i64 1)]) (body:=Dt0) r (fun i=>[.i .i64 ((i:Int)+1)]) (fun i l=>if (match (p::r)[i]? with|some q=>Vm q l|none=>true)=true then .yld 0 [] else .ret [.b false]) ?_ (by omega) (fun i c l hd hi hc=> ?_) ?_
   ·exact this
   ·simp (disch:=omega) only [EVC,xe,EVP,EV,simprocAttr]
    try rfl
   ·obtain ⟨q,hq⟩:∃q,(p::r)[i]? =some q:=⟨_,Ab (by rw [hlr];omega)⟩;have hc':(p::r)[i+1]? =some c:=by simpa using hc
    have e1:((i:Int)+1 - 1).toNat=i:=by omega
    have e2:((i:Int)+1).toNat=i+1:=by omega
    have hlt:(i:Int)+1<((p::r).length:Int):=by rw [hlr];omega
    have hsg:=Bj6 c.typ;rw [hq,hc'];generalize (p::r)=g' at*;have step:Vm q (c::l)=((!decide (c.typ=q.typ)||(!(decide (c.typ=6)||decide (c.typ=5)||decide (c.typ=39)) && (decide (c.typ=46)||decide (c.ttl=q.ttl)))) && Vm c l):=rfl;by_cases h1:c.typ=q.typ
    ·rcases Aq (decide (c.typ=6)||decide (c.typ=5)||decide (c.typ=39)) with h2|h2
     ·right;have er:Vm q (c::l)=false:=by rw [step,h2];simp [h1]
      rw [h2] at hsg;simp only [er,Ad,if_false];refine ⟨?_,rfl⟩;rw [h1] at hsg;simp (disch:=omega) only [Xb,hlt,e1,e2,hq,hc',h1,hsg,EVC,xe,EVP,EV,simprocAttr]
     ·rw [h2] at hsg;rw [h2] at step;rw [h1] at hsg;by_cases h3:c.typ=46
      ·left;have er:Vm q (c::l)=Vm c l:=by rw [step];simp [h3]
       have h3':q.typ=46:=by rw [←h1];exact h3
       rw [h3'] at hsg;refine ⟨?_,by simp only [er]⟩;simp (disch:=omega) only [Xb,hlt,e1,e2,hq,hc',h1,h3',hsg,EVC,xe,EVP,EV,simprocAttr]
       try simp
      ·have h3':¬q.typ=46:=by rw [←h1];exact h3
       by_cases h4:c.ttl=q.ttl
       ·left;have er:Vm q (c::l)=Vm c l:=by rw [step];simp [h4]
        refine ⟨?_,by simp only [er]⟩;simp (disch:=omega) only [Xb,hlt,e1,e2,hq,hc',h1,h3',h4,hsg,EVC,xe,EVP,EV,simprocAttr]
        try simp
       ·right;have er:Vm q (c::l)=false:=by rw [step];simp [h1,h3',h4]
        simp only [er,Ad,if_false];refine ⟨?_,rfl⟩;simp (disch:=omega) only [Xb,hlt,e1,e2,hq,hc',h1,h3',h4,hsg,EVC,xe,EVP,EV,simprocAttr]
    ·left;have er:Vm q (c::l)=Vm c l:=by rw [step];simp [h1]
     refine ⟨?_,by simp only [er]⟩;simp (disch:=omega) only [Xb,hlt,e1,e2,hq,hc',h1,EVC,xe,EVP,EV,simprocAttr]
     try simp
   ·have hlt:¬(r.length:Int)+1<((p::r).length:Int):=by rw [hlr];omega
    obtain ⟨q,hq⟩:∃q,(p::r)[r.length]? =some q:=⟨_,Ab (by rw [hlr];omega)⟩;rw [hq];refine ⟨?_,by simp [Vm,Out.goes]⟩;generalize (p::r)=g' at*;simp (disch:=omega) only [Xb,hlt,EVC,xe,EVP,EV,simprocAttr];simp [Vm]
 rcases Aq (Eq7 g) with h|h
 ·rw [h,if_pos rfl] at key;rw [h];simp (disch:=omega) only [Xb,key,EVC,xe,EVP,EV,simprocAttr]
 ·rw [h,if_neg (by simp)] at key;rw [h];simp (disch:=omega) only [Xb,key,EVC,xe,EVP,EV,simprocAttr]
theorem Eq0 (a b:List Rec) (ha:a.length≤1000000) (hb:b.length≤1000000):S Bt3 2 [Ag a,Ag b]=some [.b (decide (a=b))]:=by
 obtain ⟨N,hN⟩:∃N,N=a.length+1:=⟨_,rfl⟩;refine Jr9 (N:=N) rfl ?_;by_cases hl:a.length=b.length
 ·have key:Fd4.ev S N [Ag a,Ag b]=some (if a.drop 0=b.drop 0 then .yld 0 [] else .ret [.b false]):=by
   refine F7 a.length (fun i=>[.i .i64 (i:Int)]) (fun i=>if a.drop i=b.drop i then .yld 0 [] else .ret [.b false]) rfl (by omega) (fun i hi=> ?_) ?_
   ·have h1:a[i]? =some a[i]:=Ab hi;have h2:b[i]? =some b[i]:=Ab (by omega);have d1:a.drop i=a[i]::a.drop (i+1):=Cp hi;have d2:b.drop i=b[i]::b.drop (i+1):=Cp (by omega);rw [d1,d2];generalize a[i]=x at*;generalize b[i]'(by omega)=y at*;have hlt:(i:Int)<(a.length:Int):=by omega
    by_cases h:x=y
    ·left;subst h;refine ⟨?_,by simp⟩;simp (disch:=omega) only [Ac4,hlt,h1,h2,EVC,xe,EVP,EV,simprocAttr]
     try simp
    ·right;rw [if_neg (by simp [h])];refine ⟨?_,rfl⟩;simp (disch:=omega) only [Ac4,hlt,h1,h2,h,EVC,xe,EVP,EV,simprocAttr]
   ·have hlt:¬(a.length:Int)<(a.length:Int):=by omega
    have e:a.drop a.length=b.drop a.length:=by rw [List.drop_length,hl,List.drop_length]
    rw [if_pos e];refine ⟨?_,rfl⟩;simp (disch:=omega) only [Ac4,hlt,EVC,xe,EVP,EV,simprocAttr]
  have hl':(a.length:Int)=(b.length:Int):=by omega
  rw [Ec,Ec] at key;by_cases h:a=b
  ·rw [if_pos h] at key;have e:decide (a=b)=true:=by simp [h]
   rw [e];simp (disch:=omega) only [Ac4,hl',key,EVC,xe,EVP,EV,simprocAttr]
  ·rw [if_neg h] at key;have e:decide (a=b)=false:=by simp [h]
   rw [e];simp (disch:=omega) only [Ac4,hl',key,EVC,xe,EVP,EV,simprocAttr]
 ·have hl':¬(a.length:Int)=(b.length:Int):=by omega
  have e:decide (a=b)=false:=decide_eq_false fun q=>hl (by rw [q]);rw [e];simp (disch:=omega) only [Ac4,hl',EVC,xe,EVP,EV,simprocAttr]
end Go.X.G
/- Zones in the program: proper. -/
namespace Go.X.G
open Go Go.X
section
variable (o cut red:List UInt8) (g:List Rec) (x:Rec) (N:Nat)
def Ad0 (n:List UInt8):Bool:=decide (n[0]? =some 42)
theorem Kj1 (hx:g[0]? =some x) (hl:g.length≤1000000) (hn:x.name≠[]) (p4 p5 p6 p7 p8 p9 p10 p11 p12 p13:PV):
  Dv4.ev S N [.s o,Ag g, .s cut, .s red,p4,p5,p6,p7,p8,p9,p10,p11,p12,p13]=some (.ret [.b (!Ad0 x.name||(!F5 g 2 && !F5 g 39))]):=by
 have k2:=Kk g 2 hl;have k39:=Kk g 39 hl;obtain ⟨c,hc⟩:∃c,x.name[0]? =some c:=⟨_,Ab (Bw.2 hn)⟩;unfold Ad0;rw [hc];by_cases h1:c=42
 ·have h1':(c.toNat:Int)=42:=by rw [h1];rfl
  rcases Aq (F5 g 2) with h2|h2
  ·rw [h2] at k2;simp (disch:=omega) only [Gt6,hx,hc,h1',k2,EVC,xe,EVP,EV,simprocAttr];simp [h1,h2]
  ·rw [h2] at k2;simp (disch:=omega) only [Gt6,hx,hc,h1',k2,k39,EVC,xe,EVP,EV,simprocAttr];simp [h1,h2]
 ·have h1':¬(c.toNat:Int)=42:=fun q=>h1 (UInt8.toNat_inj.1 (show c.toNat=42 by omega));simp (disch:=omega) only [Gt6,hx,hc,h1',EVC,xe,EVP,EV,simprocAttr];simp [h1]
theorem Kj0 (hx:g[0]? =some x) (hl:g.length≤1000000) (hn:x.name≠[]) (p4 p5 p6 p7 p8 p9 p10:PV):
  Aq8.ev S N [.s o,Ag g, .s cut, .s red,p4,p5,p6,p7,p8,p9,p10]=some (.ret [.b ((if (!decide (x.name=o) && F5 g 2)=true then I4 g [2,43,47,46,1,28] else !F5 g 43) && (!Ad0 x.name||(!F5 g 2 && !F5 g 39)))]):=by
 have k2:=Kk g 2 hl;have k43:=Kk g 43 hl;have kd:S U7 2 [Ag g, .l 1 [.i .i64 2, .i .i64 43, .i .i64 47, .i .i64 46, .i .i64 1, .i .i64 28]]=some [.b (I4 g [2,43,47,46,1,28])]:=Xy g [2,43,47,46,1,28] hl (by decide);have hlit:Jt 1 [.i .i64 2, .i .i64 43, .i .i64 47, .i .i64 46, .i .i64 1, .i .i64 28]=some (.l 1 [.i .i64 2, .i .i64 43, .i .i64 47, .i .i64 46, .i .i64 1, .i .i64 28]):=rfl;have t:=fun p11 p12 p13=>Kj1 o cut red g x N hx hl hn p4 p5 p6 p7 p8 p9 p10 p11 p12 p13;have x7:=Bj Aq8.eq_1;have x6:=Bj Cg5.eq_1;have x5:=Bj Cl3.eq_1;have x4:=Bj Cp2.eq_1;have x3:=Bj Ct4.eq_1;by_cases h0:x.name=o
 ·rcases Aq (F5 g 43) with h1|h1<;>rw [h1] at k43<;>simp (disch:=omega) only [x7,x6,x5,x4,x3,t,hx,h0,k43,hlit,EVC,xe,EVP,EV,simprocAttr]<;>simp [h1]
 ·rcases Aq (F5 g 2) with h2|h2
  ·rw [h2] at k2;rcases Aq (I4 g [2,43,47,46,1,28]) with h3|h3<;>rw [h3] at kd<;>simp (disch:=omega) only [x7,x6,x5,x4,x3,t,hx,h0,k2,kd,hlit,EVC,xe,EVP,EV,simprocAttr]<;>simp [h0,h2,h3]
  ·rw [h2] at k2;rcases Aq (F5 g 43) with h1|h1<;>rw [h1] at k43<;>simp (disch:=omega) only [x7,x6,x5,x4,x3,t,hx,h0,k2,k43,hlit,EVC,xe,EVP,EV,simprocAttr]<;>simp [h0,h1,h2]
theorem Ih9 (hx:g[0]? =some x) (hl:g.length≤1000000) (hn:x.name≠[]) (p4 p5 p6 p7:PV):
  Zt.ev S N [.s o,Ag g, .s cut, .s red,p4,p5,p6,p7]=some (.ret [.b ((!F5 g 5||I4 g [5,46,47]) && decide (red=[]) && (decide (cut=[])||I4 g [1,28]) && ((if (!decide (x.name=o) && F5 g 2)=true then I4 g [2,43,47,46,1,28] else !F5 g 43) && (!Ad0 x.name||(!F5 g 2 && !F5 g 39))))]):=by
 have k5:=Kk g 5 hl;have kc:S U7 2 [Ag g, .l 1 [.i .i64 5, .i .i64 46, .i .i64 47]]=some [.b (I4 g [5,46,47])]:=Xy g [5,46,47] hl (by decide);have ka:S U7 2 [Ag g, .l 1 [.i .i64 1, .i .i64 28]]=some [.b (I4 g [1,28])]:=Xy g [1,28] hl (by decide);have hlit1:Jt 1 [.i .i64 5, .i .i64 46, .i .i64 47]=some (.l 1 [.i .i64 5, .i .i64 46, .i .i64 47]):=rfl;have hlit2:Jt 1 [.i .i64 1, .i .i64 28]=some (.l 1 [.i .i64 1, .i .i64 28]):=rfl;have t:=fun p8 p9 p10=>Kj0 o cut red g x N hx hl hn p4 p5 p6 p7 p8 p9 p10;generalize ((if (!decide (x.name=o) && F5 g 2)=true then I4 g [2,43,47,46,1,28] else !F5 g 43) && (!Ad0 x.name||(!F5 g 2 && !F5 g 39)))=B at*;have x13:=Bj Zt.eq_1;have x12:=Bj rh.eq_1;have x11:=Bj rl.eq_1;have x10:=Bj rm.eq_1;have x9:=Bj Cd4.eq_1;have x8:=Bj Cf0.eq_1;rcases Aq (F5 g 5) with h1|h1<;>rw [h1] at k5
 ·rcases Aq (I4 g [5,46,47]) with h2|h2<;>rw [h2] at kc
  ·by_cases h3:red=[]
   ·replace h3:=eq_true h3;by_cases h4:cut=[]
    ·replace h4:=eq_true h4;simp (disch:=omega) only [x13,x12,x11,x10,x9,x8,t,k5,kc,h3,h4,hlit1,hlit2,EVC,xe,EVP,EV,simprocAttr]
     (clear x13 x12 x11 x10 x9 x8 t;simp [*])
    ·rcases Aq (I4 g [1,28]) with h5|h5<;>rw [h5] at ka<;>simp (disch:=omega) only [x13,x12,x11,x10,x9,x8,t,k5,kc,ka,h3,h4,hlit1,hlit2,EVC,xe,EVP,EV,simprocAttr]<;>(clear x13 x12 x11 x10 x9 x8 t;simp [*])
   ·simp (disch:=omega) only [x13,x12,x11,x10,x9,x8,t,k5,kc,h3,hlit1,hlit2,EVC,xe,EVP,EV,simprocAttr]
    (clear x13 x12 x11 x10 x9 x8 t;simp [*])
  ·simp (disch:=omega) only [x13,x12,x11,k5,kc,hlit1,hlit2,EVC,xe,EVP,EV,simprocAttr]
   (clear x13 x12 x11 x10 x9 x8 t;simp [*])
 ·by_cases h3:red=[]
  ·replace h3:=eq_true h3;by_cases h4:cut=[]
   ·replace h4:=eq_true h4;simp (disch:=omega) only [x13,x12,x11,x10,x9,x8,t,k5,h3,h4,hlit1,hlit2,EVC,xe,EVP,EV,simprocAttr]
    (clear x13 x12 x11 x10 x9 x8 t;simp [*])
   ·rcases Aq (I4 g [1,28]) with h5|h5<;>rw [h5] at ka<;>simp (disch:=omega) only [x13,x12,x11,x10,x9,x8,t,k5,ka,h3,h4,hlit1,hlit2,EVC,xe,EVP,EV,simprocAttr]<;>(clear x13 x12 x11 x10 x9 x8 t;simp [*])
  ·simp (disch:=omega) only [x13,x12,x11,x10,x9,x8,t,k5,h3,hlit1,hlit2,EVC,xe,EVP,EV,simprocAttr]
   (clear x13 x12 x11 x10 x9 x8 t;simp [*])
end
theorem Ac1 (o cut red:List UInt8) (g:List Rec) (hg:g≠[]) (hl:g.length≤1000000) (ho:o.length≤9223372036854775807) (hn:(nmG g).length≤9223372036854775807):
  S Bt0 4 [.s o,Ag g, .s cut, .s red]=some [.b (propG o g (decide (cut≠[])) (decide (red≠[])))]:=by
 obtain ⟨x,r,rfl⟩:∃x r,g=x::r:=by
  cases g with
  |nil=>exact absurd rfl hg
  |cons x r=>exact ⟨x,r,rfl⟩
 have hx:(x::r)[0]? =some x:=rfl;have hnm:nmG (x::r)=x.name:=rfl;rw [hnm] at hn;unfold propG;rw [hnm];generalize (x::r)=g at*;obtain ⟨N,hN⟩:∃N,N=1:=⟨_,rfl⟩;refine Jr6 (N:=N) rfl ?_;have hu:=D5 x.name o hn ho;have k6:=Kk g 6 hl;have k2:=Kk g 2 hl;have ku:=lp g hl;have xt:=Bj By0.eq_1;have x18:=Bj rj.eq_1;have x17:=Bj rq.eq_1;have x16:=Bj rv.eq_1;have x15:=Bj ry.eq_1;have x14:=Bj rz.eq_1;have e1:decide (cut≠[])= !decide (cut=[]):=by simp
 have e2:decide (red≠[])= !decide (red=[]):=by simp
 rw [e1,e2,Bool.not_not,Bool.not_not];rcases Aq (under x.name o) with h0|h0<;>rw [h0] at hu
 ·have hne:x.name≠[]:=ln (B0.1 h0).1;have t:=fun p4 p5 p6 p7=>Ih9 o cut red g x N hx hl hne p4 p5 p6 p7;have eS:Ad0 x.name=decide (x.name[0]? =some 42):=rfl;rw [eS] at t;generalize hA:(!F5 g 5||I4 g [5,46,47])=A at*;generalize hB:(if (!decide (x.name=o) && F5 g 2)=true then I4 g [2,43,47,46,1,28] else !F5 g 43)=B at*;generalize hC:(!decide (x.name[0]? =some 42)||(!F5 g 2 && !F5 g 39))=C at*;generalize decide (red=[])=D at*;generalize (decide (cut=[])||I4 g [1,28])=E' at*;clear hB hC hA;rcases Aq (F5 g 6) with h6|h6<;>rw [h6] at k6
  ·by_cases hno:x.name=o
   ·replace hno:=eq_true hno;rcases Aq (Eq7 g) with h1|h1<;>rw [h1] at ku
    ·rcases Aq (F5 g 2) with h2|h2<;>rw [h2] at k2
     ·simp (disch:=omega) only [xt,x18,x17,x16,x15,x14,t,hx,hu,k6,hno,ku,k2,EVC,xe,EVP,EV,simprocAttr]
      (clear xt x18 x17 x16 x15 x14 t;simp [*,Bool.and_assoc])
     ·simp (disch:=omega) only [xt,x18,x17,x16,x15,x14,t,hx,hu,k6,hno,ku,k2,EVC,xe,EVP,EV,simprocAttr]
      (clear xt x18 x17 x16 x15 x14 t;simp [*])
    ·simp (disch:=omega) only [xt,x18,x17,x16,x15,x14,t,hx,hu,k6,hno,ku,EVC,xe,EVP,EV,simprocAttr]
     (clear xt x18 x17 x16 x15 x14 t;simp [*])
   ·simp (disch:=omega) only [xt,x18,x17,x16,x15,x14,t,hx,hu,k6,hno,EVC,xe,EVP,EV,simprocAttr]
    (clear xt x18 x17 x16 x15 x14 t;simp [*])
  ·by_cases hno:x.name=o
   ·replace hno:=eq_true hno;simp (disch:=omega) only [xt,x18,x17,x16,x15,x14,t,hx,hu,k6,hno,EVC,xe,EVP,EV,simprocAttr]
    (clear xt x18 x17 x16 x15 x14 t;simp [*])
   ·rcases Aq (Eq7 g) with h1|h1<;>rw [h1] at ku
    ·simp (disch:=omega) only [xt,x18,x17,x16,x15,x14,t,hx,hu,k6,hno,ku,EVC,xe,EVP,EV,simprocAttr]
     (clear xt x18 x17 x16 x15 x14 t;simp [*,Bool.and_assoc])
    ·simp (disch:=omega) only [xt,x18,x17,x16,x15,x14,t,hx,hu,k6,hno,ku,EVC,xe,EVP,EV,simprocAttr]
     (clear xt x18 x17 x16 x15 x14 t;simp [*])
 ·simp (disch:=omega) only [xt,x18,x17,x16,x15,x14,hx,hu,EVC,xe,EVP,EV,simprocAttr]
  (clear xt x18 x17 x16 x15 x14;simp [*])
end Go.X.G
/- Zones in the program: Check and New. -/
namespace Go.X.G
open Go Go.X
def Gq (gs:List (List Rec)):PV:= .l 1 (gs.map Ag)
theorem Og (l:List (List Rec)):F4 (Gq l)=some (.i .i64 (l.length:Int)):=by simp [Gq,F4]
theorem Et (l:List (List Rec)) (k:IntKind) (z:Int) (h:0≤z):Gt 1 (Gq l) (.i k z)=(l[z.toNat]?).map Ag:=by simp [Gq,Y0 _ _ _ _ h]
theorem Ck7 (x:List Rec):Jt 1 [Ag x]=some (Gq [x]):=rfl
theorem j8 (l:List (List Rec)) (x:List Rec) (h:l.length+1≤1073741824):H7 1 (Gq l) (Gq [x])=some (Gq (l++[x])):=by have:=Ul 1 (l.map Ag) [Ag x] (by simpa using h);simpa [Gq] using this
theorem Hq8 {α:Type} (l:List α) (s i:Nat) (c:α) (h:l[i]? =some c) (hs:s≤i):sl l s (i+1)=sl l s i++[c]:=by unfold sl;have hi:=(Av.1 h).1;rw [Cz,h,List.drop_append_of_le_length (by rw [Ap];omega)];rfl
theorem Cy8 (l:List Rec) (hl:l.length≤1000000):S Bt1 1 [Ag l]=some [Gq (grp l)]:=by
 obtain ⟨N,hN⟩:∃N,N=l.length+1:=⟨_,rfl⟩;refine Jr7 (N:=N) rfl ?_;have key:Fd3.ev S N [Ag l]=some (.yld 0 [Gq ([]++Vk (sl l 0 0) l)]):=by
  refine Ex l (fun i (g:List (List Rec)×Nat)=>[Gq g.1, .i .i64 (g.2:Int), .i .i64 (i:Int)]) (fun i g r=> .yld 0 [Gq (g.1++Vk (sl l g.2 i) r)]) (fun i g=>g.2≤i∧g.1.length≤i) ([],0) ?_ (by simp) (by omega) (fun i g c r hd hi hc hI=> ?_) (fun g hI=> ?_)
  ·rfl
  ·left;obtain ⟨out,st⟩:=g;obtain ⟨hI1,hI2⟩:=hI;simp only at hI1 hI2 ⊢;have hlt:(i:Int)<(l.length:Int):=by omega
   have e1:((i:Int)+1).toNat=i+1:=by omega
   have e2:(i:Int).toNat=i:=by omega
   have e3:(st:Int).toNat=st:=by omega
   have hsl:=Hq8 l st i c hc hI1;have hsl2:List.drop st (List.take (i+1) l)=sl l st i++[c]:=hsl;have hsl3:sl l st st=[]:=by unfold sl;rw [List.drop_eq_nil_iff,Ap];omega
   have hsl4:sl l (i+1) (i+1)=[]:=by unfold sl;rw [List.drop_eq_nil_iff,Ap];omega
   have hr:r=l.drop (i+1):=by have:=congrArg List.tail hd;simpa using this.symm
   by_cases hc2:(match r with|[]=>true|y::_=> !decide (y.name=c.name))=true
   ·refine ⟨(out++[sl l st i++[c]],i+1),?_,⟨by simp,by simp;omega⟩,?_⟩
    ·cases r with
     |nil=>
      have hend:(i:Int)+1=(l.length:Int):=by have:=congrArg List.length hr;simp at this;omega
      simp only;simp (disch:=omega) only [Bv7,hlt,hend.symm,e1,e2,e3,hc,hsl2,Ck7,j8,EVC,xe,EVP,EV,simprocAttr]
      try (congr 3;omega)
     |cons y r'=>
      have hy:l[i+1]? =some y:=by have:=congrArg (fun q=>q[0]?) hr;simpa [A8] using this.symm
      have hyl:=(Av.1 hy).1;have hend:¬(i:Int)+1=(l.length:Int):=by omega
      have hyc:¬y.name=c.name:=by simpa using hc2
      simp only;simp (disch:=omega) only [Bv7,hlt,hend,e1,e2,e3,hc,hy,hyc,hsl2,Ck7,j8,EVC,xe,EVP,EV,simprocAttr]
      try congr 3
    ·have eg:Vk (sl l st i) (c::r)=(sl l st i++[c])::Vk [] r:=by
      cases r with
      |nil=>rfl
      |cons y r'=>rw [Vk,if_pos hc2]
     simp only [eg,hsl4];simp
   ·refine ⟨(out,st),?_,⟨by simp;omega,by simp;omega⟩,?_⟩
    ·cases r with
     |nil=>simp at hc2
     |cons y r'=>
      have hy:l[i+1]? =some y:=by have:=congrArg (fun q=>q[0]?) hr;simpa [A8] using this.symm
      have hyl:=(Av.1 hy).1;have hend:¬(i:Int)+1=(l.length:Int):=by omega
      have hyc:y.name=c.name:=by simpa using hc2
      simp only;simp (disch:=omega) only [Bv7,hlt,hend,e1,e2,e3,hc,hy,hyc,EVC,xe,EVP,EV,simprocAttr]
      try rfl
    ·have eg:Vk (sl l st i) (c::r)=Vk (sl l st i++[c]) r:=by
      cases r with
      |nil=>simp at hc2
      |cons y r'=>rw [Vk,if_neg hc2]
     simp only [eg,hsl]
  ·have hlt:¬(l.length:Int)<(l.length:Int):=by omega
   refine ⟨?_,rfl⟩;simp (disch:=omega) only [Bv7,hlt,EVC,xe,EVP,EV,simprocAttr];simp [Vk]
 have e:[]++Vk (sl l 0 0) l=grp l:=by simp [sl,grp]
 rw [e] at key;generalize grp l=gs at*;simp (disch:=omega) only [Bv7,key,EVC,xe,EVP,EV,simprocAttr]
def At6 (o:List UInt8):List (List Rec)→List UInt8→List UInt8→Bool→Option Bool
 |[],_,_,soa=>some soa
 |g::gs,cut,red,soa=>
  if propG o g (decide (Dn (nmG g) cut≠[])) (decide (Dn (nmG g) red≠[]))=true then
   At6 o gs (if Dn (nmG g) cut=[]∧nmG g≠o∧F5 g 2=true then nmG g else Dn (nmG g) cut) (if F5 g 39=true then nmG g else Dn (nmG g) red) (soa||decide (nmG g=o))
  else none
theorem Cc8 (o:List UInt8):∀(gs:List (List Rec)) (cut red:List UInt8) (soa:Bool),qk o gs cut red soa=decide (At6 o gs cut red soa=some true)
 |[],_,_,soa=>by simp [qk,At6]
 |g::gs,cut,red,soa=>by
  simp only [qk,At6];split
  ·exact Cc8 o gs _ _ _
  ·simp
def Jb4:Option Bool→Out
 |some b=> .yld 0 [.b b]
 |none=> .ret [.i .i64 13]
section
variable (z:Zone) (g:List Rec) (gs:List (List Rec)) (x:Rec) (N:Nat) (i:Nat) (cut red:List UInt8) (soa:Bool)
theorem Kh3 (hi:gs[i]? =some g) (hx:g[0]? =some x) (hxl:x.name.length≤9223372036854775807) (hcl:cut.length≤9223372036854775807) (p1 p2 p3 p4 p5:PV):
  ∃p11,Uc.ev S N [z.pv,p1,p2,p3,p4,p5,Gq gs, .s cut, .s red, .b soa, .i .i64 (i:Int)]=Ud.ev S N [z.pv,p1,p2,p3,p4,p5,Gq gs, .s cut, .s red, .b soa, .i .i64 (i:Int),p11, .s (Dn x.name cut)]:=by
 have x17:=Bj Uc.eq_1;have x16:=Bj rx.eq_1;have x0:=Bj Dm9.eq_1;have hu:=D5 x.name cut hxl hcl;have ei:(i:Int).toNat=i:=by omega
 by_cases h1:cut=[]
 ·refine ⟨.u,?_⟩;have e:Dn x.name cut=cut:=by unfold Dn;simp [h1]
  rw [e];replace h1:=eq_true h1;simp (disch:=omega) only [x17,x16,x0,h1,hi,hx,ei,Et,EVC,xe,EVP,EV,simprocAttr]
 ·rcases Aq (under x.name cut) with h2|h2<;>rw [h2] at hu
  ·refine ⟨.b true,?_⟩;have e:Dn x.name cut=cut:=by unfold Dn;simp [h2]
   rw [e];simp (disch:=omega) only [x17,x16,x0,h1,hu,hi,hx,ei,Et,EVC,xe,EVP,EV,simprocAttr]
  ·refine ⟨.b false,?_⟩;have e:Dn x.name cut=[]:=by unfold Dn;simp [h1,h2]
   rw [e];simp (disch:=omega) only [x17,x16,x0,h1,hu,hi,hx,ei,Et,EVC,xe,EVP,EV,simprocAttr]
theorem Kh2 (hi:gs[i]? =some g) (hx:g[0]? =some x) (hxl:x.name.length≤9223372036854775807) (hrl:red.length≤9223372036854775807) (p1 p2 p3 p4 p5 p11 p12:PV):
  ∃p13,Ud.ev S N [z.pv,p1,p2,p3,p4,p5,Gq gs, .s cut, .s red, .b soa, .i .i64 (i:Int),p11,p12]=Z0.ev S N [z.pv,p1,p2,p3,p4,p5,Gq gs, .s cut, .s red, .b soa, .i .i64 (i:Int),p11,p12,p13, .s (Dn x.name red)]:=by
 have x15:=Bj Ud.eq_1;have x14:=Bj rf.eq_1;have x1:=Bj Db3.eq_1;have hu:=D5 x.name red hxl hrl;have ei:(i:Int).toNat=i:=by omega
 by_cases h1:red=[]
 ·refine ⟨.u,?_⟩;have e:Dn x.name red=red:=by unfold Dn;simp [h1]
  rw [e];replace h1:=eq_true h1;simp (disch:=omega) only [x15,x14,x1,h1,hi,hx,ei,Et,EVC,xe,EVP,EV,simprocAttr]
 ·rcases Aq (under x.name red) with h2|h2<;>rw [h2] at hu
  ·refine ⟨.b true,?_⟩;have e:Dn x.name red=red:=by unfold Dn;simp [h2]
   rw [e];simp (disch:=omega) only [x15,x14,x1,h1,hu,hi,hx,ei,Et,EVC,xe,EVP,EV,simprocAttr]
  ·refine ⟨.b false,?_⟩;have e:Dn x.name red=[]:=by unfold Dn;simp [h1,h2]
   rw [e];simp (disch:=omega) only [x15,x14,x1,h1,hu,hi,hx,ei,Et,EVC,xe,EVP,EV,simprocAttr]
theorem Kh1 (hi:gs[i]? =some g) (hx:g[0]? =some x) (hnm:nmG g=x.name) (hg:g≠[]) (hl:g.length≤1000000) (hil:i≤1000000) (hxl:x.name.length≤9223372036854775807) (hzl:z.origin.length≤9223372036854775807) (cu re:List UInt8) (p1 p2 p3 p4 p5 p7 p8 p11 p13:PV):
  Z0.ev S N [z.pv,p1,p2,p3,p4,p5,Gq gs,p7,p8, .b soa, .i .i64 (i:Int),p11, .s cu,p13, .s re]=
   some (if propG z.origin g (decide (cu≠[])) (decide (re≠[]))=true then .yld 1 [.s (if cu=[]∧x.name≠z.origin∧F5 g 2=true then x.name else cu), .s (if F5 g 39=true then x.name else re), .b (soa||decide (x.name=z.origin)), .i .i64 ((i:Int)+1)] else .ret [.i .i64 13]):=by
 have hp:=Ac1 z.origin cu re g hg hl hzl (by rw [hnm];exact hxl);have k2:=Kk g 2 hl;have k39:=Kk g 39 hl;have ei:(i:Int).toNat=i:=by omega
 generalize propG z.origin g (decide (cu≠[])) (decide (re≠[]))=P at*;cases P
 ·simp (disch:=omega) only [Sb,hp,hi,hx,ei,Et,EVC,xe,EVP,EV,simprocAttr]
  try simp
 ·by_cases h1:cu=[]
  ·by_cases h2:x.name=z.origin
   ·rcases Aq (F5 g 39) with h3|h3<;>rw [h3] at k39
    ·cases soa<;>(have h1':=eq_true h1;have h2':=eq_true h2;simp (disch:=omega) only [Sb,hp,hi,hx,ei,h1',h2',k39,Et,EVC,xe,EVP,EV,simprocAttr];simp [h2,h3])
    ·cases soa<;>(have h1':=eq_true h1;have h2':=eq_true h2;simp (disch:=omega) only [Sb,hp,hi,hx,ei,h1',h2',k39,Et,EVC,xe,EVP,EV,simprocAttr];simp [h2,h3])
   ·rcases Aq (F5 g 2) with h4|h4<;>rw [h4] at k2
    ·rcases Aq (F5 g 39) with h3|h3<;>rw [h3] at k39
     ·cases soa<;>(have h1':=eq_true h1;simp (disch:=omega) only [Sb,hp,hi,hx,ei,h1',h2,k2,k39,Et,EVC,xe,EVP,EV,simprocAttr];simp [h1,h2,h3,h4])
     ·cases soa<;>(have h1':=eq_true h1;simp (disch:=omega) only [Sb,hp,hi,hx,ei,h1',h2,k2,k39,Et,EVC,xe,EVP,EV,simprocAttr];simp [h1,h2,h3,h4])
    ·rcases Aq (F5 g 39) with h3|h3<;>rw [h3] at k39
     ·cases soa<;>(have h1':=eq_true h1;simp (disch:=omega) only [Sb,hp,hi,hx,ei,h1',h2,k2,k39,Et,EVC,xe,EVP,EV,simprocAttr];simp [h2,h3,h4])
     ·cases soa<;>(have h1':=eq_true h1;simp (disch:=omega) only [Sb,hp,hi,hx,ei,h1',h2,k2,k39,Et,EVC,xe,EVP,EV,simprocAttr];simp [h2,h3,h4])
  ·by_cases h2:x.name=z.origin
   ·rcases Aq (F5 g 39) with h3|h3<;>rw [h3] at k39
    ·cases soa<;>(have h2':=eq_true h2;simp (disch:=omega) only [Sb,hp,hi,hx,ei,h1,h2',k39,Et,EVC,xe,EVP,EV,simprocAttr];simp [h1,h2,h3])
    ·cases soa<;>(have h2':=eq_true h2;simp (disch:=omega) only [Sb,hp,hi,hx,ei,h1,h2',k39,Et,EVC,xe,EVP,EV,simprocAttr];simp [h1,h2,h3])
   ·rcases Aq (F5 g 39) with h3|h3<;>rw [h3] at k39
    ·cases soa<;>(simp (disch:=omega) only [Sb,hp,hi,hx,ei,h1,h2,k39,Et,EVC,xe,EVP,EV,simprocAttr];simp [h1,h2,h3])
    ·cases soa<;>(simp (disch:=omega) only [Sb,hp,hi,hx,ei,h1,h2,k39,Et,EVC,xe,EVP,EV,simprocAttr];simp [h1,h2,h3])
end
theorem Aj8:∀(n:Nat) (l:List Rec),l.length≤n→(∀g∈grp l,g≠[]∧∀x∈g,x∈l)∧(grp l).length≤l.length
 |_,[],_=>by simp [grp,Vk]
 |0,x::r,hn=>by simp at hn
 |n+1,x::r,hn=>by
  obtain ⟨g,l',h1,h2,h3,h4,h5⟩:=R7 x r;have hlen:=congrArg List.length h1;have hg0:0<g.length:=Bw.2 h2;simp only [Az,A0] at hlen hn;obtain ⟨i1,i2⟩:=Aj8 n l' (by omega);rw [h5];refine ⟨fun g' hg'=> ?_,by simp;omega⟩;rcases An.1 hg' with rfl|hg'
  ·exact ⟨h2,fun w hw=>by rw [h1];exact Cf _ hw⟩
  ·obtain ⟨j1,j2⟩:=i1 g' hg';exact ⟨j1,fun w hw=>by rw [h1];exact Bs _ (j2 w hw)⟩
theorem Cx6 (p:Prop) [Decidable p] (a b:List UInt8) (ha:a.length≤9223372036854775807) (hb:b.length≤9223372036854775807):(if p then a else b).length≤9223372036854775807:=by split<;>assumption
theorem Kd8 (z:Zone) (hz:z.wf) (hl:z.recs.length≤1000000) (N:Nat) (hN:z.recs.length+1<N) (p1 p2 p3 p4 p5:PV):
  Ff1.ev S N [z.pv,p1,p2,p3,p4,p5,Gq (grp z.recs)]=some (Jb4 (At6 z.origin (grp z.recs) [] [] false)):=by
 obtain ⟨gf1,gf2⟩:=Aj8 z.recs.length z.recs (Af _);have hgl:∀g∈grp z.recs,g.length≤1000000:=fun g hg=>by
  have:∀(n:Nat) (l:List Rec),l.length≤n→∀g∈grp l,g.length≤l.length:=by
   intro n
   induction n with
   |zero=>intro l hl g hg;cases l with
    |nil=>simp [grp,Vk] at hg
    |cons x r=>simp at hl
   |succ n ih=>
    intro l hl g hg;cases l with
    |nil=>simp [grp,Vk] at hg
    |cons x r=>
     obtain ⟨g0,l',h1,h2,h3,h4,h5⟩:=R7 x r;have hlen:=congrArg List.length h1;have hg0:0<g0.length:=Bw.2 h2;simp only [Az,A0] at hlen hl;rw [h5] at hg;rcases An.1 hg with rfl|hg
     ·simp only [A0];omega
     ·have:=ih l' (by omega) g hg;simp only [A0];omega
  exact Cd (this _ _ (Af _) g hg) hl
 generalize grp z.recs=gs at*;have:=Ex (fn:=S) (N:=N) (η:=[z.pv,p1,p2,p3,p4,p5,Gq gs]) (id:=1) (init:=[.c (.s []), .c (.s []), .c (.b false), .c (.i .i64 0)]) (body:=W9) gs (fun i (a:List UInt8×List UInt8×Bool)=>[.s a.1, .s a.2.1, .b a.2.2, .i .i64 (i:Int)]) (fun i a r=>Jb4 (At6 z.origin r a.1 a.2.1 a.2.2)) (fun i a=>a.1.length≤9223372036854775807∧a.2.1.length≤9223372036854775807) ([],[],false) ?_ (by simp) (by omega) (fun i a g r hd hi hc hI=> ?_) (fun a hI=> ?_)
 ·exact this
 ·simp (disch:=omega) only [EVC,xe,EVP,EV,simprocAttr]
  try rfl
 ·obtain ⟨cut,red,soa⟩:=a;obtain ⟨hI1,hI2⟩:=hI;simp only at hI1 hI2 ⊢;have hgm:=A6 hc;obtain ⟨hg,hgz⟩:=gf1 g hgm;obtain ⟨x,hx,hxm⟩:∃x,g[0]? =some x∧x∈g:=by
   cases g with
   |nil=>exact absurd rfl hg
   |cons x r=>exact ⟨x,rfl, .head _⟩
  have hnm:nmG g=x.name:=by
   cases g with
   |nil=>exact absurd rfl hg
   |cons y r=>simp at hx;rw [←hx];rfl
  have hxl:x.name.length≤9223372036854775807:=(hz.recs.2 x (hgz x hxm)).name;have hzl:z.origin.length≤9223372036854775807:=hz.origin;obtain ⟨p11,kA⟩:=Kh3 z g gs x N i cut red soa hc hx hxl hI1 p1 p2 p3 p4 p5;have hku:(Dn x.name cut).length≤9223372036854775807:=by unfold Dn;split<;>simp [hI1]
  have hkr:(Dn x.name red).length≤9223372036854775807:=by unfold Dn;split<;>simp [hI2]
  obtain ⟨p13,kB⟩:=Kh2 z g gs x N i cut red soa hc hx hxl hI2 p1 p2 p3 p4 p5 p11 (.s (Dn x.name cut));have kC:=Kh1 z g gs x N i soa hc hx hnm hg (hgl g hgm) (by omega) hxl hzl (Dn x.name cut) (Dn x.name red) p1 p2 p3 p4 p5 (.s cut) (.s red) p11 p13;have kall:=kA.trans (kB.trans kC);have hlt:(i:Int)<(gs.length:Int):=by omega
  have hb:W9.ev S N [z.pv,p1,p2,p3,p4,p5,Gq gs, .s cut, .s red, .b soa, .i .i64 (i:Int)]=Uc.ev S N [z.pv,p1,p2,p3,p4,p5,Gq gs, .s cut, .s red, .b soa, .i .i64 (i:Int)]:=by have xb:=Bj W9.eq_1;simp (disch:=omega) only [xb,hlt,Og,EVC,xe,EVP,EV,simprocAttr]
  have hb2:=hb.trans kall;have estep:At6 z.origin (g::r) cut red soa=if propG z.origin g (decide (Dn x.name cut≠[])) (decide (Dn x.name red≠[]))=true then At6 z.origin r (if Dn x.name cut=[]∧x.name≠z.origin∧F5 g 2=true then x.name else Dn x.name cut) (if F5 g 39=true then x.name else Dn x.name red) (soa||decide (x.name=z.origin)) else none:=by simp only [At6,hnm]
  by_cases hP:propG z.origin g (decide (Dn x.name cut≠[])) (decide (Dn x.name red≠[]))=true
  ·left;rw [if_pos hP] at hb2 estep;refine ⟨(if Dn x.name cut=[]∧x.name≠z.origin∧F5 g 2=true then x.name else Dn x.name cut,if F5 g 39=true then x.name else Dn x.name red,soa||decide (x.name=z.origin)),hb2,⟨?_,?_⟩,?_⟩
   ·exact Cx6 _ _ _ hxl hku
   ·exact Cx6 _ _ _ hxl hkr
   ·rw [estep]
  ·right;rw [if_neg hP] at hb2 estep;rw [estep];exact ⟨hb2,rfl⟩
 ·have hlt:¬(gs.length:Int)<(gs.length:Int):=by omega
  have xb:=Bj W9.eq_1;refine ⟨?_,rfl⟩;simp (disch:=omega) only [xb,hlt,Og,EVC,xe,EVP,EV,simprocAttr];rfl
theorem t8 (z:Zone) (hz:z.wf):W5 z=if vld z.origin=false then 2 else if 2048<z.recs.length∨Q4 z.recs=true then 9 else if z.recs.all Pl=false then 5 else if z.recs≠sortR z.recs then 7 else if At6 z.origin (grp z.recs) [] [] false=some true then 0 else 13:=by
 unfold W5;rcases Aq (vld z.origin) with h1|h1
 ·have n1:¬vld z.origin=false:=by simp [h1]
  rw [if_neg n1,if_neg n1];by_cases h2:2048<z.recs.length
  ·rw [if_pos h2,if_pos (.inl h2)]
  ·rw [if_neg h2];have hcr:=At0 z.recs;rcases Aq (z.recs.all fun r=>decide ((findR z.recs r.name r.typ).length≤64)) with h3|h3
   ·rw [h3] at hcr;have hn2:¬(2048<z.recs.length∨Q4 z.recs=true):=by
     rintro (q|q)
     ·exact h2 q
     ·rw [hcr] at q;cases q
    have n3:¬(z.recs.all fun r=>decide ((findR z.recs r.name r.typ).length≤64))=false:=by simp only [h3];simp
    rw [if_neg n3,if_neg hn2];rcases Aq (z.recs.all Pl) with h4|h4
    ·have n4:¬z.recs.all Pl=false:=by simp only [h4];simp
     rw [if_neg n4,if_neg n4];by_cases h5:z.recs=sortR z.recs
     ·have n5:¬z.recs≠sortR z.recs:=by simpa using h5
      rw [if_neg n5,if_neg n5];have hv:∀r∈z.recs,Pl r=true:=Bc.1 h4;have hr:z.recs.Pairwise ltR:=by rw [h5];exact (Qg z.recs hv).1
      have hk:=Aq6 z (fun r h=>br (hv r h)) (Bb8 hr) z.recs.length [] z.recs [] [] false (Af _) rfl (by simp) ⟨by simp,by simp,by simp,by simp⟩;rw [Cc8,decide_eq_true_eq] at hk;have hk2:=Bd4 z hv hr;have hk3:At6 z.origin (grp z.recs) [] [] false=some true↔(findR z.recs z.origin 6).length=1∧i6 z.recs z.origin 2=true∧∀r∈z.recs,Tv z r=true:=by rw [hk,←hk2];simp
      by_cases h6:At6 z.origin (grp z.recs) [] [] false=some true
      ·obtain ⟨a,b,c⟩:=hk3.1 h6;have c':z.recs.all (Tv z)=true:=Bc.2 c;have n7:¬((findR z.recs z.origin 6).length≠1∨i6 z.recs z.origin 2=false):=by simp [a,b]
       have n8:¬z.recs.all (Tv z)=false:=by simp only [c'];simp
       rw [if_pos h6,if_neg n7,if_neg n8]
      ·rw [if_neg h6];by_cases h7:(findR z.recs z.origin 6).length≠1∨i6 z.recs z.origin 2=false
       ·rw [if_pos h7]
       ·rw [if_neg h7];by_cases h8:z.recs.all (Tv z)=false
        ·rw [if_pos h8]
        ·exfalso;simp only [not_or,ne_eq,I8,Fh] at h7 h8;exact h6 (hk3.2 ⟨h7.1,h7.2,Bc.1 h8⟩)
     ·rw [if_pos h5,if_pos h5]
    ·rw [if_pos h4,if_pos h4]
   ·rw [h3] at hcr;rw [if_pos h3,if_pos (.inr hcr)]
 ·rw [if_pos h1,if_pos h1]
theorem Eq3 (z:Zone) (hz:z.wf) (hl:z.recs.length≤1000000):S Cj7 1 [z.pv]=some [.i .i64 (W5 z)]:=by
 obtain ⟨N,hN⟩:∃N,N=z.recs.length+2:=⟨_,rfl⟩;refine Jt5 (N:=N) rfl ?_;rw [t8 z hz];have hzl:z.origin.length≤9223372036854775807:=hz.origin;have k1:=B5 z.origin hzl;have k2:=As9 z.recs hl;have k3:=Gr z.recs Bt5 [] (fun r=> !Pl r) hl (fun r hr=>by refine Js1 (N:=1) rfl ?_;have:=Ek5 r (hz.recs.2 r hr);simp (disch:=omega) only [Jf2,this,EVC,xe,EVP,EV,simprocAttr])
 have e3:(z.recs.any fun r=> !Pl r)= !z.recs.all Pl:=by rw [List.not_all_eq_any_not]
 rw [e3] at k3;have k4:=Fw4 z.recs hz.recs.2 hl;have hsl:(sortR z.recs).length≤1000000:=by obtain ⟨r,h1,h2,_⟩:=Pq Jy0 (by rw [Es1];exact Jb0) z.recs hz.recs.2 hl;rw [Es1] at h1;have:=Zd eqF r;rw [yf h1] at this;omega
 have k5:=Eq0 z.recs (sortR z.recs) hl hsl;have k6:=Cy8 z.recs hl;have k7:=fun p1 p2 p3 p4 p5=>Kd8 z hz hl N (by omega) p1 p2 p3 p4 p5;have xt:=Bj By2.eq_1;have x28:=Bj qd.eq_1;have x27:=Bj qf.eq_1;have x26:=Bj qg.eq_1;have x25:=Bj qh.eq_1;have x24:=Bj ql.eq_1;have x23:=Bj qm.eq_1;have x22:=Bj qn.eq_1;have x21:=Bj qp.eq_1;have x20:=Bj qt.eq_1;have x19:=Bj q9.eq_1;have x18:=Bj rk.eq_1;rcases Aq (vld z.origin) with h1|h1
 ·have n1:¬vld z.origin=false:=by simp [h1]
  rw [if_neg n1];rw [h1] at k1;by_cases h2:2048<z.recs.length
  ·rw [if_pos (.inl h2)];have h2':(2048:Int)<(z.recs.length:Int):=by omega
   simp (disch:=omega) only [xt,x28,x27,x26,k1,h2',EVC,xe,EVP,EV,simprocAttr]
  ·have h2':¬(2048:Int)<(z.recs.length:Int):=by omega
   rcases Aq (Q4 z.recs) with h3|h3<;>rw [h3] at k2
   ·rw [if_pos (.inr h3)];simp (disch:=omega) only [xt,x28,x27,x26,k1,k2,h2',EVC,xe,EVP,EV,simprocAttr]
   ·have n2:¬(2048<z.recs.length∨Q4 z.recs=true):=by simp only [h2,h3];simp
    rw [if_neg n2];rcases Aq (z.recs.all Pl) with h4|h4<;>rw [h4] at k3
    ·have n4:¬z.recs.all Pl=false:=by simp only [h4];simp
     rw [if_neg n4];by_cases h5:z.recs=sortR z.recs
     ·have n5:¬z.recs≠sortR z.recs:=by simpa using h5
      rw [if_neg n5];have e5:decide (z.recs=sortR z.recs)=true:=decide_eq_true h5;rw [e5] at k5;clear h5 e5;generalize sortR z.recs=sr at*;cases h6:At6 z.origin (grp z.recs) [] [] false with
      |none=>
       rw [h6] at k7;simp only [Jb4] at k7;generalize grp z.recs=gs at*;rw [if_neg (by simp)];simp (disch:=omega) only [xt,x28,x27,x26,x25,x24,x23,x22,x21,x20,x19,x18,k1,k2,h2',k3,k4,k5,k6,k7,Og,EVC,xe,EVP,EV,simprocAttr]
      |some b=>
       rw [h6] at k7;simp only [Jb4] at k7;generalize grp z.recs=gs at*;cases b
       ·rw [if_neg (by simp)];simp (disch:=omega) only [xt,x28,x27,x26,x25,x24,x23,x22,x21,x20,x19,x18,k1,k2,h2',k3,k4,k5,k6,k7,Og,EVC,xe,EVP,EV,simprocAttr]
       ·rw [if_pos rfl];simp (disch:=omega) only [xt,x28,x27,x26,x25,x24,x23,x22,x21,x20,x19,x18,k1,k2,h2',k3,k4,k5,k6,k7,Og,EVC,xe,EVP,EV,simprocAttr]
     ·rw [if_pos h5];have e5:decide (z.recs=sortR z.recs)=false:=decide_eq_false h5;rw [e5] at k5;clear h5 e5;generalize sortR z.recs=sr at*;simp (disch:=omega) only [xt,x28,x27,x26,x25,x24,x23,x22,x21,k1,k2,h2',k3,k4,k5,EVC,xe,EVP,EV,simprocAttr]
    ·rw [if_pos h4];simp (disch:=omega) only [xt,x28,x27,x26,x25,x24,k1,k2,h2',k3,EVC,xe,EVP,EV,simprocAttr]
     try simp
 ·rw [if_pos h1];rw [h1] at k1;simp (disch:=omega) only [xt,x28,k1,EVC,xe,EVP,EV,simprocAttr]
end Go.X.G
/- Delegations and names of a zone, as the reference finds them; what exists. -/
namespace Go.X.G
open Go Go.X
end Go.X.G
/- What exists in a zone, and what encloses a name; names with another end. -/
namespace Go.X.G
open Go Go.X
def exB (z:Zone) (x:List UInt8):Bool:=z.recs.any fun r=>under r.name z.origin && !Pz z r.name && under r.name x && under x z.origin
theorem Q2 (z:Zone) (x:List UInt8):exB z x=true↔Ff3 z x:=by unfold exB Ff3;simp only [B6,Aw,A9,and_assoc]
theorem Y9 (z:Zone) (x:List UInt8):decide (x∈namesN z)=exB z x:=by rw [Cn,Q2,←Am1];simp
theorem V7 (z:Zone) (hl:z.recs.length≤1000):(namesN z).length≤1000000:=by
 have h1:=X3 (Ij0 z);have h2:∀l:List Rec,(l.flatMap fun r=>upN z.origin r.name).length≤256*l.length:=by
  intro l
  induction l with
  |nil=>simp
  |cons x r ih=>
   have:=l9 z.origin x.name;rw [G2,Az,A0];omega
 have h3:=h2 (z.recs.filter fun r=>under r.name z.origin && !Pz z r.name);have h4:=Cb (fun r=>under r.name z.origin && !Pz z r.name) z.recs;show (setN (Ij0 z)).length≤1000000;unfold Ij0 at h1 ⊢;omega
theorem Ac2 (z:Zone) (n:List UInt8) (hz:z.wf) (hl:z.recs.length≤1000):S Bs8 2 [z.pv, .s n]=some [.b (exB z n)]:=by refine Jr2 (N:=1) rfl ?_;have k1:=bk z hz hl;have k2:=G1 (namesN z) n (V7 z hl);rw [Y9] at k2;generalize namesN z=nz at*;simp (disch:=omega) only [Jd8,k1,k2,EVM,EVC,xe,EVP,EV,simprocAttr]
def Bk5 (z:Zone) (n:List UInt8):Option (List UInt8):=(upN z.origin n).find? (exB z)
def encN (z:Zone) (n:List UInt8):List UInt8:=if under n z.origin=true then (Bk5 z n).getD [] else []
theorem bn {n:List UInt8} (h:vld n=true):n≠[]:=fun e=>by subst e;simp [vld,nm] at h
theorem Lt {z:Zone} {n e:List UInt8} (hu:under n z.origin=true) (h:Bk5 z n=some e):under n e=true∧exB z e=true:=by unfold Bk5 at h;have h1:=List.mem_of_find?_eq_some h;have h2:=List.find?_some h;exact ⟨((Nq hu).1 h1).1,h2⟩
theorem bq (z:Zone) (n:List UInt8) (hz:z.wf) (hl:z.recs.length≤1000) (hn:n.length≤9223372036854775807):S g8 2 [z.pv, .s n]=some [.s (encN z n), .b (decide (encN z n≠[]))]:=by
 refine Ig4 (N:=1000) rfl ?_;have g1:=hz.origin;unfold Jl at g1;have k0:=D5 n z.origin hn g1;unfold encN;rcases Aq (under n z.origin) with hu|hu
 ·rw [if_pos hu];rw [hu] at k0;have k1:=bk z hz hl;have hnl:=V7 z hl;have k2:∀x,S U9 2 [Bh (namesN z), .s x]=some [.b (exB z x)]:=fun x=>by rw [←Y9];exact G1 (namesN z) x hnl
  generalize namesN z=nz at*;obtain ⟨v1,v2,_⟩:=B0.1 hu;have hlb:=Ll n;have h0:jn ((lbl n).drop 0)=n:=og v1;let res:Option (List UInt8)→Out:=fun o=>match o with|some e=> .yld 0 [.s e]|none=> .ret [.s [], .b false]
  have key:Cx0.ev S 1000 [z.pv, .s n, .b true,Bh nz]=some (res (Bk5 z n)):=by
   have:=F7 (fn:=S) (N:=1000) (η:=[z.pv, .s n, .b true,Bh nz]) (id:=1) (init:=[(.v 1)]) (body:=tq) ((lbl n).length - (lbl z.origin).length)
    (fun k=>[.s (jn ((lbl n).drop k))]) (fun k=>res (((upN z.origin n).drop k).find? (exB z))) ?_ (by omega) (fun k hk=> ?_) ?_
   ·exact this
   ·rw [h0];simp (disch:=omega) only [EVM,EVC,xe,EVP,EV,simprocAttr]
   ·have hup:(upN z.origin n)[k]? =some (jn ((lbl n).drop k)):=Pm (Nat.le_of_lt hk);have hd:(upN z.origin n).drop k=jn ((lbl n).drop k)::(upN z.origin n).drop (k+1):=by obtain ⟨h1,h2⟩:=Av.1 hup;rw [Cp h1,h2]
    obtain ⟨q1,q2⟩:=Bx4 hu hk;have q3:¬jn ((lbl n).drop k)=z.origin:=fun h=>by have:=(Vl hu (Nat.le_of_lt hk)).1 h;omega
    have q4:=Aj3 v1 k;have k1:=Qy (jn ((lbl n).drop k)) (by omega);rw [q1,q2] at k1;have k3:=k2 (jn ((lbl n).drop k));rw [hd];generalize jn ((lbl n).drop (k+1))=nx at*;generalize jn ((lbl n).drop k)=cu at*;rcases Aq (exB z cu) with h5|h5
    ·right;rw [h5] at k3;rw [J9 h5];refine ⟨?_,rfl⟩;simp (disch:=omega) only [Sf,k3,EVM,EVC,xe,EVP,EV,simprocAttr];rfl
    ·left;rw [h5] at k3;rw [List.find?_cons_of_neg (by simp [h5])];refine ⟨?_,rfl⟩;simp (disch:=omega) only [Sf,k1,k3,q3,EVM,EVC,xe,EVP,EV,simprocAttr]
   ·have hup:(upN z.origin n)[(lbl n).length - (lbl z.origin).length]? =some (jn ((lbl n).drop ((lbl n).length - (lbl z.origin).length))):=Pm (Af _);have hd:(upN z.origin n).drop ((lbl n).length - (lbl z.origin).length)=[jn ((lbl n).drop ((lbl n).length - (lbl z.origin).length))]:=by obtain ⟨h1,h2⟩:=Av.1 hup;have h9:(upN z.origin n).drop ((lbl n).length - (lbl z.origin).length+1)=[]:=Kj (by simp [upN]);rw [Cp h1,h2,h9]
    have q3:=(Vl hu (Af _)).2 rfl;rw [hd,q3];have k3:=k2 z.origin;rcases Aq (exB z z.origin) with h5|h5
    ·rw [h5] at k3;rw [J9 h5];refine ⟨?_,rfl⟩;simp (disch:=omega) only [Sf,k3,EVM,EVC,xe,EVP,EV,simprocAttr];rfl
    ·rw [h5] at k3;rw [List.find?_cons_of_neg (by simp [h5]),List.find?_nil];refine ⟨?_,rfl⟩;simp (disch:=omega) only [Sf,k3,EVM,EVC,xe,EVP,EV,simprocAttr];rfl
  cases he:Bk5 z n with
  |none=>
   rw [he] at key;simp only [res] at key;simp (disch:=omega) only [Sf,k0,k1,key,EVM,EVC,xe,EVP,EV,simprocAttr];simp
  |some e=>
   rw [he] at key;simp only [res] at key;have h6:=bn (B0.1 (Lt hu he).1).2.1;simp (disch:=omega) only [Sf,k0,k1,key,EVM,EVC,xe,EVP,EV,simprocAttr];simp [h6]
 ·rw [if_neg (by simp [hu])];rw [hu] at k0;simp (disch:=omega) only [Sf,k0,EVM,EVC,xe,EVP,EV,simprocAttr]
  try simp
def bestF (n:List UInt8):List UInt8→List (List UInt8)→List UInt8
 |b,[]=>b
 |b,x::r=>bestF n (if under n x && (decide (b=[])||decide ((lbl b).length<(lbl x).length)) then x else b) r
theorem Sq (n:List UInt8):∀(l:List (List UInt8)) (b:List UInt8),(b=[]∨under n b=true)→
  (bestF n b l=[]→b=[]∧∀x∈l,under n x=false)∧
  (bestF n b l≠[]→under n (bestF n b l)=true∧(bestF n b l=b∨bestF n b l∈l)∧(b≠[]→(lbl b).length≤(lbl (bestF n b l)).length)∧∀x∈l,under n x=true→(lbl x).length≤(lbl (bestF n b l)).length)
 |[],b,hb=>by simp only [bestF];refine ⟨fun h=>⟨h,fun r hr=>by simp at hr⟩,fun h=>⟨hb.resolve_left h, .inl trivial,fun _=>Af _,fun r hr=>by simp at hr⟩⟩
 |x::rs,b,hb=>by
  simp only [bestF];have hne:under n x=true→x≠[]:=fun h=>bn (B0.1 h).2.1;by_cases hc:(under n x && (decide (b=[])||decide ((lbl b).length<(lbl x).length)))=true
  ·rw [if_pos hc];simp only [Aw,Am,decide_eq_true_eq] at hc;obtain ⟨c2,c3⟩:=hc;obtain ⟨h1,h2⟩:=Sq n rs x (.inr c2);refine ⟨fun h=>absurd (h1 h).1 (hne c2),fun h=> ?_⟩;obtain ⟨g1,g2,g3,g4⟩:=h2 h;refine ⟨g1, .inr ?_,fun hb0=> ?_,fun y hy hy2=> ?_⟩
   ·rcases g2 with g2|g2
    ·rw [g2];exact .head _
    ·exact .tail _ g2
   ·have:=g3 (hne c2);rcases c3 with c3|c3
    ·exact absurd c3 hb0
    ·omega
   ·rcases An.1 hy with rfl|hy
    ·exact g3 (hne c2)
    ·exact g4 y hy hy2
  ·rw [if_neg hc];obtain ⟨h1,h2⟩:=Sq n rs b hb;have hr:under n x=true→b≠[]∧(lbl x).length≤(lbl b).length:=by intro c2;simp only [c2,Pf,Am,decide_eq_true_eq,not_or,Nat.not_lt] at hc;exact hc
   refine ⟨fun h=> ?_,fun h=> ?_⟩
   ·obtain ⟨g1,g2⟩:=h1 h;refine ⟨g1,fun y hy=> ?_⟩;rcases An.1 hy with rfl|hy
    ·rcases Aq (under n y) with h3|h3
     ·exact absurd g1 (hr h3).1
     ·exact h3
    ·exact g2 y hy
   ·obtain ⟨g1,g2,g3,g4⟩:=h2 h;refine ⟨g1,?_,g3,fun y hy hy2=> ?_⟩
    ·rcases g2 with g2|g2
     ·exact .inl g2
     ·exact .inr (.tail _ g2)
    ·rcases An.1 hy with rfl|hy
     ·obtain ⟨q1,q2⟩:=hr hy2;have:=g3 q1;omega
     ·exact g4 y hy hy2
theorem N2 {a b c:List UInt8} (h1:under a b=true) (h2:under b c=true):under a c=true:=by obtain ⟨v1,_,s1⟩:=B0.1 h1;obtain ⟨_,v3,s2⟩:=B0.1 h2;exact B0.2 ⟨v1,v3,s2.trans s1⟩
theorem Ds6 (z:Zone) (n:List UInt8):bestF n [] (namesN z)=encN z n:=by
 obtain ⟨h1,h2⟩:=Sq n (namesN z) [] (.inl rfl);have hin:∀x,x∈namesN z↔exB z x=true:=fun x=>by rw [←Y9];simp
 have hor:∀x,exB z x=true→under x z.origin=true:=fun x hx=>by obtain ⟨_,_,_,_,_,h⟩:=(Q2 z x).1 hx;exact h
 unfold encN;by_cases hb:bestF n [] (namesN z)=[]
 ·have:=(h1 hb).2;rw [hb];rcases Aq (under n z.origin) with hu|hu
  ·rw [if_pos hu];cases he:Bk5 z n with
   |none=>rfl
   |some e=>
    obtain ⟨g1,g2⟩:=Lt hu he;have:=this e ((hin e).2 g2);rw [g1] at this;cases this
  ·rw [if_neg (by simp [hu])]
 ·obtain ⟨g1,g2,_,g4⟩:=h2 hb;have g3:exB z (bestF n [] (namesN z))=true:=(hin _).1 (g2.resolve_left hb);have hu:under n z.origin=true:=N2 g1 (hor _ g3);rw [if_pos hu];generalize bestF n [] (namesN z)=b at*;have hm:b∈upN z.origin n:=(Nq hu).2 ⟨g1,hor _ g3⟩;cases he:Bk5 z n with
  |none=>
   unfold Bk5 at he;rw [List.find?_eq_none] at he;exact absurd g3 (he b hm)
  |some e=>
   obtain ⟨q1,q2⟩:=Lt hu he;have q3:=g4 e ((hin e).2 q2) q1;have q4:(lbl b).length≤(lbl e).length:=by
    unfold Bk5 at he;obtain ⟨_,pa,pb,he2,he3⟩:=List.find?_eq_some_iff_append.1 he;obtain ⟨v1,v2,vs⟩:=B0.1 hu;have hbm:=hm;rw [he2] at hbm;rcases Bg.1 hbm with hbm|hbm
    ·have:=he3 b hbm;rw [g3] at this;cases this
    ·rcases An.1 hbm with rfl|hbm
     ·exact Af _
     ·obtain ⟨j,hj⟩:=C7 hbm;have e1:(upN z.origin n)[pa.length]? =some e:=by rw [he2,A3 (Af _)];simp
      have e2:(upN z.origin n)[pa.length+1+j]? =some b:=by rw [he2,A3 (by omega),show pa.length+1+j - pa.length=j+1 by omega];simpa using hj
      have l2:=(Av.1 e2).1;rw [show (upN z.origin n).length=(lbl n).length - (lbl z.origin).length+1 by simp [upN]] at l2;rw [Pm (by omega)] at e1 e2;injection e1 with e1;injection e2 with e2;rw [←e1,←e2,(Mq v1 _).2,(Mq v1 _).2,B4,B4];omega
   obtain ⟨_,vb,sb⟩:=B0.1 g1;obtain ⟨_,ve,se⟩:=B0.1 q1;rw [E3] at sb se;show b=e;refine Lm vb ve ?_;rw [sb,se,Nat.le_antisymm q4 q3]
end Go.X.G
/- Names with another end; redirections; what records of a name say. -/
namespace Go.X
structure Res where
 kind:Int
 owner:List UInt8
 wild:Bool
 target:List UInt8
 recs:List Rec
 deriving DecidableEq
def Res.cells (x:Res):List PV:=[.i .i64 x.kind, .s x.owner, .b x.wild, .s x.target,Ag x.recs]
def Res.pv (x:Res):PV:= .a x.cells
theorem Bh5 (x:Res):Bt 0 x.pv=some (.i .i64 x.kind):=rfl
theorem Bh4 (x:Res):Bt 1 x.pv=some (.s x.owner):=rfl
theorem Bh3 (x:Res):Bt 2 x.pv=some (.b x.wild):=rfl
theorem Bh2 (x:Res):Bt 3 x.pv=some (.s x.target):=rfl
theorem Bh1 (x:Res):Bt 4 x.pv=some (Ag x.recs):=rfl
theorem Hk5 (x:Res):Jd 0 5 x.pv=some x.pv:=rfl
theorem Hb7 (x:Res):Ry 5 x.pv=some x.pv:=rfl
theorem Fj0 (k:Int) (o:List UInt8) (w:Bool) (t:List UInt8) (l:List Rec):PV.a [.i .i64 k, .s o, .b w, .s t,Ag l]=Res.pv ⟨k,o,w,t,l⟩:=rfl
theorem Bz7 (l:List Rec) (k:IntKind) (z:Int) (n:List UInt8) (x:Rec) (h0:0≤z) (h3:l[z.toNat]? =some x):
  Rk 16 0 [.s n] (Ag l) (.i k z)=some (Ag (l.set z.toNat {x with name:=n})):=by
 have h4:(l.map Rec.pv)[z.toNat]? =some x.pv:=by rw [Bn,h3];rfl
 simp only [Rk,Ag,h0,h4,and_self,if_true,Ay];have h5:P3 x.pv 0 [.s n]=some (Rec.pv {x with name:=n}):=rfl;rw [h5];simp [List.map_set]
set_option linter.defProp false in
def EVR:=(And.intro @Bh5 (And.intro @Bh4 (And.intro @Bh3 (And.intro @Bh2 (And.intro @Bh1 (And.intro @Hk5 (And.intro @Hb7 @Fj0)))))))
end Go.X
namespace Go.X.G
open Go Go.X
def df (n top to:List UInt8):List (List UInt8):=(lbl n).take ((lbl n).length - (lbl top).length)++lbl to
def replN (n top to:List UInt8):List UInt8×Int:=
 if vld n=true∧vld top=true∧vld to=true∧(lbl to)[0]? ≠some [42] then
  if under n top=true∧n≠top then
   if (flat (df n top to)).length≤254 then (flat (df n top to),0) else ([],9)
  else ([],1)
 else ([],2)
theorem i8 {l:List (List UInt8)} (h:Fp true l=true) (h2:l[0]? ≠some [42]):Fp false l=true:=by
 cases l with
 |nil=>rfl
 |cons p r=>
  simp only [Fp,Aw] at h ⊢;refine ⟨⟨h.1.1,?_⟩,h.2⟩;have:p≠[42]:=fun e=>h2 (by rw [e];rfl);simp [this]
theorem Ad6 {n top to:List UInt8} (hu:under n top=true) (hne:n≠top) (ht:vld to=true) (hs:(lbl to)[0]? ≠some [42]):Fp true (df n top to)=true∧df n top to≠[]∧(lbl n).take ((lbl n).length - (lbl top).length)≠[]:=by
 obtain ⟨vn,vt,sf⟩:=B0.1 hu;have hlt:(lbl top).length<(lbl n).length:=by
  have:=sf.length_le;rcases Nat.lt_or_ge (lbl top).length (lbl n).length with h|h
  ·exact h
  ·exact absurd (Jp hu h) hne
 have h1:(lbl n).take ((lbl n).length - (lbl top).length)≠[]:=by intro e;have:=congrArg List.length e;rw [Ap,By] at this;omega
 have h2:Fp true ((lbl n).take ((lbl n).length - (lbl top).length))=true:=by have:=Rr vn;rw [←Br ((lbl n).length - (lbl top).length) (lbl n),On,Aw] at this;exact this.1
 refine ⟨?_,by unfold df;simp [h1],h1⟩;unfold df;rw [On,h2,List.isEmpty_eq_false_iff.2 h1];simp [i8 (Rr ht) hs]
theorem Z7 (s t:List UInt8) (hs:s.length≤9223372036854775807) (h:t.isSuffixOf s=true):S gw 2 [.s s, .s t]=some [.s (s.take (s.length - t.length))]:=by
 have hle:t.length≤s.length:=(E8.1 h).length_le;have k1:=Px s t hs;rw [h] at k1;have k2:S fp 2 [.s s, .s t]=some [.s (s.take (s.length - t.length))]:=by
  refine Ib5 (N:=1) rfl ?_;have h6:Ad1 (.s s) (.i .i64 0) (.i .i64 ((s.length:Int) - (t.length:Int)))=some (.s (s.take (s.length - t.length))):=by
   rw [Ix4 _ _ _ _ _ (by omega) (by omega) (by omega)];have:((s.length:Int) - (t.length:Int)).toNat=s.length - t.length:=by omega
   rw [this];simp
  simp (disch:=omega) only [Ik2,k1,h6,EVM,EVC,xe,EVP,EV,simprocAttr]
 refine Id4 (N:=1) rfl ?_;simp (disch:=omega) only [Iq1,k2,EVM,EVC,xe,EVP,EV,simprocAttr]
theorem lr (n top to:List UInt8) (hn:n.length≤9223372036854775807) (ht:top.length≤9223372036854775807) (hto:to.length≤9223372036854775807):S Br8 3 [.s n, .s top, .s to]=some [.s (replN n top to).1, .i .i64 (replN n top to).2]:=by
 refine Jm0 (N:=1) rfl ?_;have k1:=B5 n hn;have k2:=B5 top ht;have k3:=B5 to hto;unfold replN;rcases Aq (vld n) with v1|v1
 ·rcases Aq (vld top) with v2|v2
  ·rcases Aq (vld to) with v3|v3
   ·rw [v1] at k1;rw [v2] at k2;rw [v3] at k3;have hp:=N0 v3;have hsf:=P2 v3;obtain ⟨c,hc⟩:∃c,to[0]? =some c:=⟨_,Ab hp⟩;rw [hc] at hsf;by_cases hs:c=42
    ·rw [if_neg (by rw [hs] at hsf;simp [hsf.1 rfl])];subst hs;simp (disch:=omega) only [Sz,k1,k2,k3,hc,EVM,EVC,xe,EVP,EV,simprocAttr]
     try simp
    ·have hs':(lbl to)[0]? ≠some [42]:=fun e=>hs (by have:=hsf.2 e;simpa using this);have hcc:¬(c.toNat:Int)=42:=fun e=>hs (by apply UInt8.toNat.inj;have:(42:UInt8).toNat=42:=rfl;omega)
     rw [if_pos ⟨v1,v2,v3,hs'⟩];have tl:=Jb v2;have k4:=Cz9 n top hn (by omega);rw [Vn v1 v2] at k4;by_cases he:n=top
     ·rw [if_neg (by simp [he])];simp (disch:=omega) only [Sz,k1,k2,k3,hc,hcc,he,EVM,EVC,xe,EVP,EV,simprocAttr]
     ·rcases Aq (under n top) with hu|hu
      ·rw [hu] at k4;rw [if_pos ⟨hu,he⟩];obtain ⟨q1,q2,q3⟩:=Ad6 hu he v3 hs';have nl:=Jb v1;have tol:=Jb v3;have hnr:n≠[46]:=by rintro rfl;have:=(B0.1 hu).2.2.length_le;rw [Iv] at this;exact he (Lm v1 v2 (by rw [Iv];exact (List.length_eq_zero_iff.1 (by simpa using this)).symm))
       have hnf:n=flat (lbl n):=by have:=M3 v1;unfold jn at this;rwa [if_neg (fun h=>hnr ((Yn v1).1 h))] at this
       have hsp:lbl n=(lbl n).take ((lbl n).length - (lbl top).length)++lbl top:=by
        have:=(B0.1 hu).2.2;rw [E3] at this
        conv=>lhs;rw [←Br ((lbl n).length - (lbl top).length) (lbl n)]
        rw [←this]
       have hhead:∃hd,hd=flat ((lbl n).take ((lbl n).length - (lbl top).length))∧hd.length≤254∧∀p3 p4 p5 p6,Ct3.ev S 1 [.s n, .s top, .s to,p3,p4,p5,p6]=some (.yld 0 [.s hd]):=by
        refine ⟨_,rfl,?_,fun p3 p4 p5 p6=> ?_⟩
        ·have:(flat (lbl n)).length≤254:=by rw [←hnf];exact nl
         rw [hsp,Mn,Az] at this;omega
        ·by_cases hr:top=[46]
         ·subst hr;rw [Iv,Dr] at hsp;rw [Iv,←hsp,←hnf];simp (disch:=omega) only [Sz,EVM,EVC,xe,EVP,EV,simprocAttr]
         ·have htf:top=flat (lbl top):=by have:=M3 v2;unfold jn at this;rwa [if_neg (fun h=>hr ((Yn v2).1 h))] at this
          have hna:n=flat ((lbl n).take ((lbl n).length - (lbl top).length))++top:=by
           conv=>lhs;rw [hnf,hsp,Mn]
           rw [←htf]
          have hsuf:top.isSuffixOf n=true:=E8.2 ⟨_,hna.symm⟩;have k5:=Z7 n top hn hsuf;have htk:n.take (n.length - top.length)=flat ((lbl n).take ((lbl n).length - (lbl top).length)):=by
           conv=>lhs;rw [hna]
           rw [Az,Lw,Bq3]
          rw [htk] at k5;generalize flat ((lbl n).take ((lbl n).length - (lbl top).length))=hd at*;simp (disch:=omega) only [Sz,k5,hr,EVM,EVC,xe,EVP,EV,simprocAttr]
       obtain ⟨hd,hd1,hd2,hd3⟩:=hhead;have hfin:flat (df n top to)=if to=[46] then hd else hd++to:=by
        unfold df;rw [Mn,←hd1];by_cases hr:to=[46]
        ·rw [if_pos hr,hr,Iv];simp [flat]
        ·rw [if_neg hr];have:=M3 v3;unfold jn at this;rw [if_neg (fun h=>hr ((Yn v3).1 h))] at this;rw [←this]
       rw [hfin];by_cases hr:to=[46]
       ·rw [if_pos hr];subst hr;have h1:¬(255:Int)≤(hd.length:Int):=by omega
        rw [if_pos hd2];simp (disch:=omega) only [Sz,k1,k2,k3,k4,hc,hcc,he,hd3,h1,EVM,EVC,xe,EVP,EV,simprocAttr]
       ·rw [if_neg hr];by_cases hlen:(hd++to).length≤254
        ·rw [if_pos hlen];have h1:¬(255:Int)≤((hd++to).length:Int):=by omega
         simp (disch:=first|omega|(rw [Az] at*;omega)) only [Sz,k1,k2,k3,k4,hc,hcc,he,hd3,hr,h1,EVM,EVC,xe,EVP,EV,simprocAttr]
        ·rw [if_neg hlen];have h1:(255:Int)≤((hd++to).length:Int):=by omega
         simp (disch:=first|omega|(rw [Az] at*;omega)) only [Sz,k1,k2,k3,k4,hc,hcc,he,hd3,hr,h1,EVM,EVC,xe,EVP,EV,simprocAttr]
      ·rw [hu] at k4;rw [if_neg (by simp [hu])];simp (disch:=omega) only [Sz,k1,k2,k3,k4,hc,hcc,he,EVM,EVC,xe,EVP,EV,simprocAttr]
   ·rw [if_neg (by simp [v3])];rw [v1] at k1;rw [v2] at k2;rw [v3] at k3;simp (disch:=omega) only [Sz,k1,k2,k3,EVM,EVC,xe,EVP,EV,simprocAttr]
  ·rw [if_neg (by simp [v2])];rw [v1] at k1;rw [v2] at k2;simp (disch:=omega) only [Sz,k1,k2,EVM,EVC,xe,EVP,EV,simprocAttr]
 ·rw [if_neg (by simp [v1])];rw [v1] at k1;simp (disch:=omega) only [Sz,k1,EVM,EVC,xe,EVP,EV,simprocAttr]
end Go.X.G
/- What a zone says about a question: the program and the reference. -/
namespace Go.X.G
open Go Go.X
theorem Mk (z:Zone) (n:List UInt8) (t:Int) (hl:z.recs.length≤1000000):S Rv 3 [z.pv, .s n, .i .i64 t]=some [Ag (findR z.recs n t)]:=by refine Iy8 (N:=1) rfl ?_;have k1:=M1 z.recs n t hl;simp (disch:=omega) only [Ik0,k1,EVM,EVC,xe,EVP,EV,simprocAttr]
abbrev Ij3:Res:=⟨0,[],false,[],[]⟩
def Xt (s:List UInt8):List UInt8:=if s[0]? =some 42 then [] else s
def dnB (z:Zone) (u:List UInt8):Bool:=decide (0<(findR z.recs u 39).length)
def Hv8 (z:Zone) (n:List UInt8):Option (List UInt8):=((upN z.origin n).drop 1).find? (dnB z)
def Ql (z:Zone) (n u:List UInt8):Res:=
 match findR z.recs u 39 with
 |r::_=>⟨3,u,false,Xt (replN n u r.data.host).1,[r]⟩
 |[]=>Ij3
def y8 (z:Zone) (n:List UInt8):Option Res:=(Hv8 z n).map (Ql z n)
def K0:Option Res→List PV
 |some x=>[x.pv, .b true]
 |none=>[Ij3.pv, .b false]
theorem O3 {z:Zone} (hz:z.wf) {n:List UInt8} {t:Int} {r:Rec} (h:r∈findR z.recs n t):r.wf:=hz.recs.2 r (Bf.1 h).1
theorem G0 (z:Zone) (n:List UInt8) (t:Int):(findR z.recs n t).length≤z.recs.length:=Cb _ _
theorem c42 (c:UInt8):(c.toNat:Int)=42↔c=42:=by
 constructor
 ·intro h;apply UInt8.toNat.inj;have:(42:UInt8).toNat=42:=rfl;omega
 ·rintro rfl;rfl
theorem Gt1 (z:Zone) (n:List UInt8) (hz:z.wf) (hl:z.recs.length≤1000000) (hu:under n z.origin=true) (N:Nat) (hN:1000<N):
  Fd1.ev S N [z.pv, .s n]=some (match y8 z n with|some x=> .ret [x.pv, .b true]|none=> .yld 0 [.i .i64 0, .s [], .b false, .s [],Ag []]):=by
 obtain ⟨v1,v2,_⟩:=B0.1 hu;have hlb:=Ll n;have nl:=Jb v1;have h0:jn ((lbl n).drop 0)=n:=og v1;let res:Option (List UInt8)→Out:=fun o=>match o.map (Ql z n) with|some x=> .ret [x.pv, .b true]|none=> .yld 0 [.i .i64 0, .s [], .b false, .s [],Ag []]
 have:=F7 (fn:=S) (N:=N) (η:=[z.pv, .s n]) (id:=1) (init:=[(.v 1),(.c (.i .i64 (0))),(.c (.s [])),(.c (.b false)),(.c (.s [])),(.c (.l 16 []))]) (body:=Dt3) ((lbl n).length - (lbl z.origin).length)
  (fun k=>[.s (jn ((lbl n).drop k)), .i .i64 0, .s [], .b false, .s [],Ag []]) (fun k=>res (((upN z.origin n).drop (k+1)).find? (dnB z))) ?_ (by omega) (fun k hk=> ?_) ?_
 ·exact this
 ·rw [h0];simp (disch:=omega) only [EVM,EVC,xe,EVP,EV,simprocAttr]
 ·have hup:(upN z.origin n)[k+1]? =some (jn ((lbl n).drop (k+1))):=Pm hk;have hd:(upN z.origin n).drop (k+1)=jn ((lbl n).drop (k+1))::(upN z.origin n).drop (k+1+1):=by obtain ⟨h1,h2⟩:=Av.1 hup;rw [Cp h1,h2]
  obtain ⟨q1,q2⟩:=Bx4 hu hk;have q3:¬jn ((lbl n).drop k)=z.origin:=fun h=>by have:=(Vl hu (Nat.le_of_lt hk)).1 h;omega
  have q4:=Aj3 v1 k;have q5:=Aj3 v1 (k+1);have k1:=Qy (jn ((lbl n).drop k)) (by omega);rw [q1,q2] at k1;have k2:=Mk z (jn ((lbl n).drop (k+1))) 39 hl;rw [hd];generalize jn ((lbl n).drop (k+1))=nx at*;generalize jn ((lbl n).drop k)=cu at*;cases hf:findR z.recs nx 39 with
  |nil=>
   left;have h5:dnB z nx=false:=by unfold dnB;rw [hf];rfl
   rw [hf] at k2;rw [List.find?_cons_of_neg (by simp [h5])];refine ⟨?_,rfl⟩;simp (disch:=omega) only [l6,k1,k2,q3,EVM,EVC,EVR,xe,EVP,EV,simprocAttr]
   try rfl
  |cons r rest=>
   right;have h5:dnB z nx=true:=by unfold dnB;rw [hf];simp
   have hrw:=O3 hz (n:=nx) (t:=39) (r:=r) (by rw [hf];exact .head _);have hll:=G0 z nx 39;have hh:=hrw.data.host;unfold Jl at hh;have k3:=lr n nx r.data.host (by omega) (by omega) hh;rw [hf] at k2 hll;rw [J9 h5];have e:res (some nx)= .ret [(Res.mk 3 nx false (Xt (replN n nx r.data.host).1) [r]).pv, .b true]:=by simp only [res,A4,Ql,hf]
   rw [e];refine ⟨?_,rfl⟩;have hpos:(0:Int)<((r::rest).length:Int):=by simp only [A0];omega
   have hls:G9 16 (Ag (r::rest)) (.i .i64 0) (.i .i64 1)=some (Ag [r]):=by rw [G8 _ _ _ _ _ (by omega) (by omega) (by omega)];rfl
   have hix:Gt 16 (Ag (r::rest)) (.i .i64 0)=some r.pv:=by rw [Jv _ _ _ (by omega)];rfl
   unfold Xt;generalize replN n nx r.data.host=rp at*;obtain ⟨to,er⟩:=rp;generalize (r::rest)=ll at*;cases to with
   |nil=>
    simp (disch:=omega) only [l6,k1,k2,k3,q3,hpos,hls,hix,EVM,EVC,EVR,xe,EVP,EV,simprocAttr]
    try simp
   |cons c tr=>
    by_cases hc:c=42
    ·subst hc;simp (disch:=omega) only [l6,k1,k2,k3,q3,hpos,hls,hix,EVM,EVC,EVR,xe,EVP,EV,simprocAttr]
     try simp
    ·have hc2:¬(c.toNat:Int)=42:=fun h=>hc ((c42 c).1 h);simp (disch:=omega) only [l6,k1,k2,k3,q3,hpos,hls,hix,hc2,EVM,EVC,EVR,xe,EVP,EV,simprocAttr]
     try simp [hc]
 ·have q3:=(Vl hu (Af _)).2 rfl;have h9:(upN z.origin n).drop ((lbl n).length - (lbl z.origin).length+1)=[]:=Kj (by simp [upN]);rw [h9,q3,List.find?_nil];refine ⟨?_,rfl⟩;simp (disch:=omega) only [l6,EVM,EVC,EVR,xe,EVP,EV,simprocAttr]
  try rfl
theorem bj (z:Zone) (n:List UInt8) (hz:z.wf) (hl:z.recs.length≤1000000) (hu:under n z.origin=true):S Bs9 2 [z.pv, .s n]=some (K0 (y8 z n)):=by
 refine Jr3 (N:=1001) rfl ?_;have key:=Gt1 z n hz hl hu 1001 (by omega);cases h:y8 z n with
 |none=>
  rw [h] at key;simp (disch:=omega) only [l6,key,K0,EVM,EVC,EVR,xe,EVP,EV,simprocAttr]
 |some x=>
  rw [h] at key;simp (disch:=omega) only [l6,key,K0,EVM,EVC,EVR,xe,EVP,EV,simprocAttr]
def allR (z:Zone) (n:List UInt8):List Rec:=z.recs.filter fun r=>decide (r.name=n)
def Jx6 (t:Int):Bool:=decide (t=5)||decide (t=47)||decide (t=46)||decide (t=255)
def typedR (l:List Rec) (t:Int):List Rec:=if t=255 then l else l.filter fun r=>decide (r.typ=t)
def Ij1 (l:List Rec) (t:Int):Option Rec:=if Jx6 t=true then none else l.find? fun r=>decide (r.typ=5)
def saysM (l:List Rec) (t:Int):Res:=
 match Ij1 l t with
 |some c=>⟨2,[],false,c.data.host,[c]⟩
 |none=>if typedR l t=[] then ⟨5,[],false,[],[]⟩ else ⟨1,[],false,[],typedR l t⟩
theorem zx (z:Zone) (n:List UInt8) (hl:z.recs.length≤1000000):S An7 2 [z.pv, .s n]=some [Ag (allR z n)]:=by
 refine Jr0 (N:=z.recs.length+1) rfl ?_;have key:Fd0.ev S (z.recs.length+1) [z.pv, .s n]=some (.yld 0 [Ag ([]++allR z n)]):=by
  refine Ex z.recs (fun i (b:List Rec)=>[Ag b, .i .i64 (i:Int)]) (fun i b r=> .yld 0 [Ag (b++r.filter fun r=>decide (r.name=n))]) (fun i b=>b.length≤i) [] rfl (Cc _) (by omega) (fun i b c r hd hi hc hI=> ?_) (fun b hI=> ?_)
  ·left;by_cases h:c.name=n
   ·refine ⟨b++[c],?_,by simp;omega,by simp [h]⟩;simp (disch:=omega) only [Ew5,hc,h,EVM,EVC,EVR,xe,EVP,EV,simprocAttr]
    try simp [←h]
   ·refine ⟨b,?_,by omega,by simp [h]⟩;simp (disch:=omega) only [Ew5,hc,h,EVM,EVC,EVR,xe,EVP,EV,simprocAttr]
  ·simp (disch:=omega) only [Ew5,EVM,EVC,EVR,xe,EVP,EV,simprocAttr]
   try simp [Out.goes]
 rw [Cy] at key;generalize allR z n=ar at*;simp (disch:=omega) only [Ew5,key,EVM,EVC,EVR,xe,EVP,EV,simprocAttr]
theorem Bx6 (r:Rec) (t:Int):S Wx 1 [r.pv, .i .i64 t]=some [.b (decide (r.typ≠t))]:=by
 refine Ic7 (N:=1) rfl ?_;simp (disch:=omega) only [Ik9,EVM,EVC,EVR,xe,EVP,EV,simprocAttr]
 try simp
theorem u5 (l:List Rec) (t:Int) (hl:l.length≤1000000):S Am2 2 [Ag l, .i .i64 t]=some [Ag (typedR l t)]:=by
 refine Jl8 (N:=1) rfl ?_;unfold typedR;by_cases h:t=255
 ·rw [if_pos h];simp (disch:=omega) only [Ij5,h,EVM,EVC,EVR,xe,EVP,EV,simprocAttr]
 ·rw [if_neg h];have k1:=kg l hl;have k2:=Bj9 l Wx [.i .i64 t] _ hl (fun r _=>Bx6 r t);have e:(l.filter fun x=> !decide (x.typ≠t))=l.filter fun r=>decide (r.typ=t):=by congr 1;funext x;simp
  rw [e] at k2;generalize (l.filter fun r=>decide (r.typ=t))=fl at*;simp (disch:=omega) only [Ij5,h,k1,k2,D4,K7,EVT,EVM,EVC,EVR,xe,EVP,EV,simprocAttr]
theorem Cc1 (t:Int):S Br7 1 [.i .i64 t]=some [.b (Jx6 t)]:=by
 refine Jl7 (N:=1) rfl ?_;unfold Jx6;by_cases h1:t=5
 ·subst h1;simp (disch:=omega) only [Bv1,EVM,EVC,EVR,xe,EVP,EV,simprocAttr];try simp
 ·by_cases h2:t=47
  ·subst h2;simp (disch:=omega) only [Bv1,EVM,EVC,EVR,xe,EVP,EV,simprocAttr];try simp
  ·by_cases h3:t=46
   ·subst h3;simp (disch:=omega) only [Bv1,EVM,EVC,EVR,xe,EVP,EV,simprocAttr];try simp
   ·by_cases h4:t=255
    ·subst h4;simp (disch:=omega) only [Bv1,EVM,EVC,EVR,xe,EVP,EV,simprocAttr];try simp
    ·simp (disch:=omega) only [Bv1,h1,h2,h3,h4,EVM,EVC,EVR,xe,EVP,EV,simprocAttr];try simp [h1,h2,h3,h4]
theorem Pp (l:List Rec) (t:Int):(typedR l t).length≤l.length:=by
 unfold typedR;split
 ·exact Af _
 ·exact Cb _ _
theorem Bb4 (l:List Rec) (t:Int) (hl:l.length≤1000000):S An8 2 [Ag l, .i .i64 t]=some [(saysM l t).pv]:=by
 refine Jr1 (N:=1) rfl ?_;have k1:=u5 l 5 hl;have k2:=u5 l t hl;have k3:=Cc1 t;have hh:(typedR l 5).head? =l.find? fun r=>decide (r.typ=5):=by unfold typedR;rw [if_neg (by omega),List.head?_filter]
 have hl2:=Pp l 5;have hl3:=Pp l t;have tail:∀a b,T.ev S 1 Cp1 [Ag l, .i .i64 t,a,b]=some (.ret [(if typedR l t=[] then (⟨5,[],false,[],[]⟩:Res) else ⟨1,[],false,[],typedR l t⟩).pv]):=by
  intro a b;by_cases h:typedR l t=[]
  ·rw [if_pos h];rw [h] at k2;simp (disch:=omega) only [Bv6,k2,EVM,EVC,EVR,xe,EVP,EV,simprocAttr]
   try rfl
  ·rw [if_neg h];have hp:(0:Int)<((typedR l t).length:Int):=by have:=Bw.2 h;omega
   generalize typedR l t=tl at*;simp (disch:=omega) only [Bv6,k2,hp,EVM,EVC,EVR,xe,EVP,EV,simprocAttr]
 unfold saysM Ij1;cases hf:typedR l 5 with
 |nil=>
  rw [hf] at k1 hh;have e:(if Jx6 t=true then none else l.find? fun r=>decide (r.typ=5))=none:=by rw [←hh];simp
  rw [e];simp (disch:=omega) only [↓tail,Bv6,k1,EVM,EVC,EVR,xe,EVP,EV,simprocAttr]
 |cons c r=>
  rw [hf] at k1 hh hl2;rw [List.head?_cons] at hh;rw [←hh];have hp:(0:Int)<((c::r).length:Int):=by simp only [A0];omega
  rcases Aq (Jx6 t) with hd|hd
  ·rw [hd] at k3;simp only [hd,if_true];simp (disch:=omega) only [↓tail,Bv6,k1,k3,hp,EVM,EVC,EVR,xe,EVP,EV,simprocAttr]
  ·rw [hd] at k3;simp only [hd,Ad,if_false];have hls:G9 16 (Ag (c::r)) (.i .i64 0) (.i .i64 1)=some (Ag [c]):=by rw [G8 _ _ _ _ _ (by omega) (by omega) (by omega)];rfl
   have hix:Gt 16 (Ag (c::r)) (.i .i64 0)=some c.pv:=by rw [Jv _ _ _ (by omega)];rfl
   generalize (c::r)=ll at*;simp (disch:=omega) only [Bv6,k1,k3,hp,hls,hix,EVM,EVC,EVR,xe,EVP,EV,simprocAttr]
end Go.X.G
/- Wildcards; what a zone says about a question. -/
namespace Go.X.G
open Go Go.X
def R4 (n:List UInt8) (r:Rec):Rec:={r with name:=n}
theorem El1 (l:List Rec) (n:List UInt8) (i:Nat) (c:Rec) (r g:List Rec) (hd:l.drop i=c::r) (hi:i<l.length) (hc:l[i]? =some c) (hg:g=(l.take i).map (R4 n)++l.drop i):
  g[i]? =some c∧g.length=l.length∧g.set i {c with name:=n}=(l.take (i+1)).map (R4 n)++l.drop (i+1):=by
 have hA:((l.take i).map (R4 n)).length=i:=by rw [Eb,Ap];omega
 have hd1:l.drop (i+1)=r:=by rw [←Cr (i:=1) (j:=i),hd];rfl
 have ht:(l.take (i+1)).map (R4 n)=(l.take i).map (R4 n)++[R4 n c]:=by rw [Cz,hc,List.map_append];rfl
 rw [ht,hd1];rw [hd] at hg;have hlen:l.length=i+(r.length+1):=by have:=congrArg List.length hd;rw [B4,A0] at this;omega
 generalize (l.take i).map (R4 n)=A at*;subst hg;refine ⟨?_,?_,?_⟩
 ·rw [A3 (by omega),hA];simp
 ·rw [Az,A0,hA];omega
 ·rw [L9 _ _ (by omega),hA];simp [R4]
theorem Hj1 (z:Zone) (q:Ques) (l:List Rec) (p2 p3 p4 p5:PV) (N:Nat) (hN:l.length<N) (hl:l.length≤1000000):
  Fc9.ev S N [z.pv,q.pv,p2,p3,p4,p5,Ag l]=some (.yld 0 [Ag (l.map (R4 q.name))]):=by
 refine Ex l (fun i (g:List Rec)=>[Ag g, .i .i64 (i:Int)]) (fun i g r=> .yld 0 [Ag (l.map (R4 q.name))]) (fun i g=>g=(l.take i).map (R4 q.name)++l.drop i) l (by simp (disch:=omega) only [EVM,EVC,xe,EVP,EV,simprocAttr]) (by simp) hN (fun i g c r hd hi hc hI=> ?_) (fun g hI=> ?_)
 ·left;obtain ⟨h1,h2,h3⟩:=El1 l q.name i c r g hd hi hc hI;refine ⟨g.set i {c with name:=q.name},?_,h3,rfl⟩;have hs:Rk 16 0 [.s q.name] (Ag g) (.i .i64 (i:Int))=some (Ag (g.set i {c with name:=q.name})):=by have:=Bz7 g .i64 (i:Int) q.name c (by omega) (by rw [G4];exact h1);rwa [G4] at this
  generalize g.set i {c with name:=q.name}=g' at*;simp (disch:=omega) only [Ac3,h1,hs,EVM,EVC,EVR,xe,EVP,EV,simprocAttr]
 ·have e:g=l.map (R4 q.name):=by rw [hI];simp
  rw [←e];simp (disch:=omega) only [Ac3,EVM,EVC,EVR,xe,EVP,EV,simprocAttr]
  try simp [Out.goes]
def Xn (z:Zone) (q:Ques):Option Res:=
 if N6 (encN z q.name)=true∧allR z (starN (encN z q.name))≠[] then
  some {saysM ((allR z (starN (encN z q.name))).map (R4 q.name)) q.typ with owner:=starN (encN z q.name),wild:=true}
 else none
theorem Sv (z:Zone) (n:List UInt8):(allR z n).length≤z.recs.length:=Cb _ _
theorem Fk4 (z:Zone) (n:List UInt8):(encN z n).length≤254:=by
 unfold encN;rcases Aq (under n z.origin) with hu|hu
 ·rw [if_pos hu];cases h:Bk5 z n with
  |none=>simp
  |some e=>exact Jb (B0.1 (Lt hu h).1).2.1
 ·rw [if_neg (by simp [hu])];simp
theorem Ac9:N6 []=false:=by decide
theorem Hj0 (z:Zone) (q:Ques) (hz:z.wf) (hl:z.recs.length≤1000) (hq:q.name.length≤9223372036854775807):S Bs7 2 [z.pv,q.pv]=some (K0 (Xn z q)):=by
 refine Jp9 (N:=2000) rfl ?_;have k1:=bq z q.name hz hl hq;have el:=Fk4 z q.name;have k2:=Fw2 (encN z q.name) (by omega);have k3:=zx z (starN (encN z q.name)) (by omega);have al:=Sv z (starN (encN z q.name));unfold Xn;by_cases h1:encN z q.name=[]
 ·rw [h1] at k1 ⊢;rw [Ac9,if_neg (by simp)];simp (disch:=omega) only [Ac3,k1,K0,EVM,EVC,EVR,xe,EVP,EV,simprocAttr]
  try simp
 ·have h2:decide (encN z q.name≠[])=true:=by simp [h1]
  rw [h2] at k1;rcases Aq (N6 (encN z q.name)) with h3|h3
  ·rw [h3] at k2;by_cases h4:allR z (starN (encN z q.name))=[]
   ·rw [if_neg (by simp [h4])];rw [h4] at k3;simp (disch:=omega) only [Ac3,k1,k2,k3,K0,EVM,EVC,EVR,xe,EVP,EV,simprocAttr]
    try simp
   ·rw [if_pos ⟨h3,h4⟩];have h5:¬((allR z (starN (encN z q.name))).length:Int)=0:=by have:=Bw.2 h4;omega
    have k4:=fun p2 p3 p4 p5=>Hj1 z q (allR z (starN (encN z q.name))) p2 p3 p4 p5 2000 (by omega) (by omega);have k5:=Bb4 ((allR z (starN (encN z q.name))).map (R4 q.name)) q.typ (by rw [Eb];omega);generalize (allR z (starN (encN z q.name))).map (R4 q.name)=ml at*;generalize allR z (starN (encN z q.name))=al at*;simp (disch:=omega) only [Ac3,k1,k2,k3,k4,k5,h5,K0,EVM,EVC,EVR,xe,EVP,EV,simprocAttr]
  ·rw [h3] at k2;rw [if_neg (by simp [h3])];generalize allR z (starN (encN z q.name))=al at*;simp (disch:=omega) only [Ac3,k1,k2,k3,K0,EVM,EVC,EVR,xe,EVP,EV,simprocAttr]
   try simp
def Y2 (z:Zone) (q:Ques):Res:=
 match y8 z q.name with
 |some x=>x
 |none=>if exB z q.name=true then {saysM (allR z q.name) q.typ with owner:=q.name} else (Xn z q).getD ⟨6,q.name,false,[],[]⟩
def findM (z:Zone) (q:Ques):Res:=
 if under q.name z.origin=true then
  if cutN z q.name≠[]∧(cutN z q.name≠q.name∨q.typ≠43) then ⟨4,cutN z q.name,false,[],findR z.recs (cutN z q.name) 2⟩ else Y2 z q
 else Ij3
theorem Cz1 (z:Zone) (q:Ques) (hz:z.wf) (hl:z.recs.length≤1000) (hq:q.name.length≤9223372036854775807):S Ap5 2 [z.pv,q.pv]=some [(findM z q).pv]:=by
 refine Jt4 (N:=1) rfl ?_;have g1:=hz.origin;unfold Jl at g1;have k0:=D5 q.name z.origin hq g1;have k1:=Bq9 z q.name hz (by omega) hq;have k2:=Mk z (cutN z q.name) 2 (by omega);have k4:=Ac2 z q.name hz hl;have k5:=zx z q.name (by omega);have al:=Sv z q.name;have k6:=Bb4 (allR z q.name) q.typ (by omega);have k7:=Hj0 z q hz hl hq;unfold findM;rcases Aq (under q.name z.origin) with hu|hu
 ·rw [if_pos hu];rw [hu] at k0;have k3:=bj z q.name hz (by omega) hu;have tail:∀p3 p4,T.ev S 1 rc [z.pv,q.pv, .b true,p3,p4]=some (.ret [(Y2 z q).pv]):=by
   intro p3 p4;unfold Y2;cases hr:y8 z q.name with
   |some x=>
    rw [hr] at k3;simp only [K0] at k3;simp (disch:=omega) only [Xm,k3,EVM,EVC,EVR,xe,EVP,EV,simprocAttr]
   |none=>
    rw [hr] at k3;simp only [K0] at k3;rcases Aq (exB z q.name) with he|he
    ·rw [he] at k4;simp only [he,if_true];generalize saysM (allR z q.name) q.typ=sm at*;generalize allR z q.name=ar at*;simp (disch:=omega) only [Xm,k3,k4,k5,k6,EVM,EVC,EVR,xe,EVP,EV,simprocAttr]
    ·rw [he] at k4;simp only [he,Ad,if_false];cases hw:Xn z q with
     |some x=>
      rw [hw] at k7;simp only [K0] at k7;simp (disch:=omega) only [Xm,k3,k4,k7,EVM,EVC,EVR,xe,EVP,EV,simprocAttr]
      try rfl
     |none=>
      rw [hw] at k7;simp only [K0] at k7;simp (disch:=omega) only [Xm,k3,k4,k7,EVM,EVC,EVR,xe,EVP,EV,simprocAttr]
      try rfl
  by_cases h1:cutN z q.name=[]
  ·rw [h1] at k1;rw [if_neg (by simp [h1])];simp (disch:=omega) only [↓tail,Xm,k0,k1,ne_eq,not_true,decide_false,EVM,EVC,EVR,xe,EVP,EV,simprocAttr]
  ·have h2:decide (cutN z q.name≠[])=true:=by simp [h1]
   rw [h2] at k1;by_cases h3:cutN z q.name=q.name
   ·by_cases h4:q.typ=43
    ·rw [if_neg (by simp [h3,h4])];rw [h3] at k1;simp (disch:=omega) only [↓tail,Xm,k0,k1,h4,EVM,EVC,EVR,xe,EVP,EV,simprocAttr]
    ·rw [if_pos ⟨h1, .inr h4⟩];rw [h3] at k1 k2 ⊢;generalize findR z.recs q.name 2=fr at*;simp (disch:=omega) only [Xm,k0,k1,k2,h4,EVM,EVC,EVR,xe,EVP,EV,simprocAttr]
   ·rw [if_pos ⟨h1, .inl h3⟩];generalize findR z.recs (cutN z q.name) 2=fr at*;simp (disch:=omega) only [Xm,k0,k1,k2,h3,EVM,EVC,EVR,xe,EVP,EV,simprocAttr]
 ·rw [if_neg (by simp [hu])];rw [hu] at k0;simp (disch:=omega) only [Xm,k0,EVM,EVC,EVR,xe,EVP,EV,simprocAttr]
theorem Hv7 {z:Zone} {n u:List UInt8} (h:Hv8 z n=some u):∃r rest,findR z.recs u 39=r::rest:=by
 unfold Hv8 at h;have:=List.find?_some h;unfold dnB at this;cases hf:findR z.recs u 39 with
 |nil=>rw [hf] at this;simp at this
 |cons r rest=>exact ⟨r,rest,rfl⟩
end Go.X.G
